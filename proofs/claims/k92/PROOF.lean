import PyProof.Rows.All
import HandS.ForMost
import HandS.TupAny
import HandS.TupMul
import HandS.Deep
import HandS.Style
import HandS.Star
import HandS.Wide
import HandS.IsInst
import HandS.Flow
import HandS.Zip
import HandS.Conv
import HandS.Rev
import KE.SortData
import KE.DataMinMax
import KE.DataFind
import PyProof.ReprRoads
import KE.GoesEnum
import KE.KRevSl
import PyProof.NeKinds
import HandS.TupLen
import KE.KDictKeyed
import KE.KDictPairs
import KE.KDictSum
import HandS.DictComp
import HandS.Walk
import KE.KTupSum
import KE.GoesZip
import KE.GoesMore
import KE.KDictZip
import PyProof.CollectWalk
import PyProof.ListNew
import HandS.RevTup
import HandS.ExcValue
import PySem.Challenge.RW_lotsoflots_k92_whole_points_in_half
set_option Elab.async false
set_option linter.all false
set_option maxRecDepth 100000
set_option maxHeartbeats 4000000
/-! Pz: pure values over the hand layer: what an expression evaluates to, as a Lean function. -/
namespace Pz
open PySem PySem.Spec PyProof.Rows L2

/-! ### the monad -/
structure Src where
  cells : List Int
  left : Int
  mixed : Int
  turn : Int
abbrev M (α : Type) := Src → Option (α × Src)
def pureM {α : Type} (a : α) : M α := fun s => some (a, s)
def bindM {α β : Type} (m : M α) (f : α → M β) : M β := fun s => match m s with
  | some (a, s') => f a s'
  | none => none
def failM {α : Type} : M α := fun _ => none
def optM {α : Type} (o : Option α) : M α := fun s => match o with
  | some a => some (a, s)
  | none => none
@[simp] theorem bind_pure {α β : Type} (a : α) (f : α → M β) : bindM (pureM a) f = f a := rfl
@[simp] theorem bind_ret {α : Type} (m : M α) : bindM m (fun a => pureM a) = m := by
  funext s; unfold bindM; cases h : m s with
  | none => rfl
  | some p => rfl
@[simp] theorem bind_ret' {α : Type} (m : M α) : bindM m pureM = m := bind_ret m
@[simp] theorem bind_assoc {α β γ : Type} (m : M α) (f : α → M β) (g : β → M γ) : bindM (bindM m f) g = bindM m fun a => bindM (f a) g := by
  funext s; unfold bindM; cases h : m s with
  | none => rfl
  | some p => rfl
@[simp] theorem optM_some {α : Type} (a : α) : optM (some a) = pureM a := rfl
@[simp] theorem optM_none {α : Type} : optM (none : Option α) = failM := rfl
@[simp] theorem bind_fail {α β : Type} (f : α → M β) : bindM failM f = failM := rfl
theorem bind_some {α β : Type} {m : M α} {f : α → M β} {s t : Src} {b : β} (h : bindM m f s = some (b, t)) : ∃ a u, m s = some (a, u) ∧ f a u = some (b, t) := by
  unfold bindM at h
  cases e : m s with
  | none => rw [e] at h; cases h
  | some p => rw [e] at h; exact ⟨p.1, p.2, rfl, h⟩
theorem pure_some {α : Type} {a b : α} {s t : Src} (h : pureM a s = some (b, t)) : a = b ∧ s = t := by cases h; exact ⟨rfl, rfl⟩
theorem optM_inv {α : Type} {o : Option α} {b : α} {s t : Src} (h : optM o s = some (b, t)) : o = some b ∧ s = t := by
  cases o with
  | none => cases h
  | some a => cases h; exact ⟨rfl, rfl⟩
def mapM' {α β : Type} (f : α → M β) : List α → M (List β)
  | [] => pureM []
  | x :: xs => bindM (f x) fun y => bindM (mapM' f xs) fun ys => pureM (y :: ys)
def filterMapM' {α β : Type} (f : α → M (Option β)) : List α → M (List β)
  | [] => pureM []
  | x :: xs => bindM (f x) fun y => bindM (filterMapM' f xs) fun ys => pureM (match y with | some z => z :: ys | none => ys)
def forM' {β ι : Type} (f : β → ι → M β) : List ι → β → M β
  | [], b => pureM b
  | x :: xs, b => bindM (f b x) fun b' => forM' f xs b'
/-- the end of a block: it goes on, or it returns -/
inductive Out (ρ β : Type) where
  | nx (b : β) | rt (r : ρ)
def forO {ρ β ι : Type} (f : β → ι → M (Out ρ β)) : List ι → β → M (Out ρ β)
  | [], b => pureM (.nx b)
  | x :: xs, b => bindM (f b x) fun o => match o with
    | .nx b' => forO f xs b'
    | .rt r => pureM (.rt r)
def whileM {β : Type} (c : β → M Bool) (f : β → M β) : Nat → β → M β
  | 0, _ => failM
  | n + 1, b => bindM (c b) fun k => if k then bindM (f b) fun b' => whileM c f n b' else pureM b

/-! ### values of data in the abstract heap, apart from what is owned -/
abbrev Av := Addr → Prop
/-- there is an object, and no tuple -/
def NT (o : Option HO) : Prop := o ≠ none ∧ ∀ xs, o ≠ some (.tup xs)
theorem NT.of {o : HO} (h : ∀ xs, o ≠ .tup xs) : NT (some o) := ⟨by simp, fun xs z => h xs (Option.some.inj z)⟩
theorem NT.same {H H' : Addr → Option HO} {a : Addr} (h : NT (H a)) (k : ∀ o, H a = some o → H' a = some o) : NT (H' a) := by
  cases e : H a with
  | none => exact absurd e h.1
  | some o => rw [k o e, ← e]; exact h
def keyD : L2.Key → PyData
  | .inl i => .int i
  | .inr s => .str s
/-- values that a dict may hold here -/
def valB : V → Option PyData
  | .bl b => some (.bool b)
  | .int i => some (.int i)
  | .non => some .none
  | .str s => some (.str s)
  | _ => none
/-- a dict: keys ints and texts, or tuples of them -/
def DicO : HO → List (PyData × PyData) → Prop
  | .dK ks, kvs => ks.map (fun p => (keyD p.1, valB p.2)) = kvs.map fun q => (q.1, some q.2)
  | .dT ks, kvs => ks.map (fun p => (PyData.tuple (p.1.map keyD), valB p.2)) = kvs.map fun q => (q.1, some q.2)
  | _, _ => False
mutual
inductive Rp (A : Av) (H : Hp) : V → PyData → Prop
  | non : Rp A H .non .none
  | bl (b : Bool) : Rp A H (.bl b) (.bool b)
  | int (i : Int) : Rp A H (.int i) (.int i)
  | str (x : Str) : Rp A H (.str x) (.str x)
  | lst {a : Addr} {xs : List V} {ds : List PyData} : ¬ A a → H a = some (.lst xs) → RpAll A H xs ds → Rp A H (.ref a) (.list ds)
  | tup {a : Addr} {xs : List V} {ds : List PyData} : ¬ A a → H a = some (.tup xs) → RpAll A H xs ds → Rp A H (.ref a) (.tuple ds)
  | dic {a : Addr} {o : HO} {kvs : List (PyData × PyData)} : ¬ A a → H a = some o → DicO o kvs → Rp A H (.ref a) (.dict kvs)
inductive RpAll (A : Av) (H : Hp) : List V → List PyData → Prop
  | nil : RpAll A H [] []
  | cons {v : V} {vs : List V} {d : PyData} {ds : List PyData} : Rp A H v d → RpAll A H vs ds → RpAll A H (v :: vs) (d :: ds)
end
section
variable {A A' : Av} {H H' : Hp}
mutual
theorem Rp.move (h : ∀ a o, ¬ A a → H a = some o → ¬ A' a ∧ H' a = some o) : ∀ (d : PyData) (v : V), Rp A H v d → Rp A' H' v d
  | .none, _, r => by cases r; exact .non
  | .bool b, _, r => by cases r; exact .bl b
  | .int i, _, r => by cases r; exact .int i
  | .str x, _, r => by cases r; exact .str x
  | .list ds, _, r => by
    cases r with
    | lst h1 h2 h3 => obtain ⟨a1, a2⟩ := h _ _ h1 h2; exact .lst a1 a2 (RpAll.move h ds _ h3)
  | .tuple ds, _, r => by
    cases r with
    | tup h1 h2 h3 => obtain ⟨a1, a2⟩ := h _ _ h1 h2; exact .tup a1 a2 (RpAll.move h ds _ h3)
  | .dict _, _, r => by
    cases r with
    | dic h1 h2 h3 => obtain ⟨a1, a2⟩ := h _ _ h1 h2; exact .dic a1 a2 h3
theorem RpAll.move (h : ∀ a o, ¬ A a → H a = some o → ¬ A' a ∧ H' a = some o) : ∀ (ds : List PyData) (vs : List V), RpAll A H vs ds → RpAll A' H' vs ds
  | [], _, r => by cases r; exact .nil
  | d :: ds, _, r => by
    cases r with
    | cons h1 h2 => exact .cons (Rp.move h d _ h1) (RpAll.move h ds _ h2)
end
theorem RpAll.length : ∀ {vs : List V} {ds : List PyData}, RpAll A H vs ds → vs.length = ds.length
  | _, [], r => by cases r; rfl
  | _, _ :: ds, r => by cases r with | cons _ h => simp [RpAll.length h]
theorem RpAll.append : ∀ {vs ws : List V} {ds es : List PyData}, RpAll A H vs ds → RpAll A H ws es → RpAll A H (vs ++ ws) (ds ++ es)
  | _, _, [], _, r, q => by cases r; exact q
  | _, _, _ :: _, _, r, q => by cases r with | cons h1 h2 => exact .cons h1 (h2.append q)
theorem RpAll.get : ∀ {vs : List V} {ds : List PyData} {i : Nat} {d : PyData}, RpAll A H vs ds → ds[i]? = some d → ∃ v, vs[i]? = some v ∧ Rp A H v d
  | _, [], _, _, _, e => by simp at e
  | _, _ :: _, 0, _, r, e => by cases r with | cons h1 _ => simp at e; subst e; exact ⟨_, rfl, h1⟩
  | _, _ :: _, i + 1, _, r, e => by cases r with | cons _ h2 => simpa using RpAll.get h2 (by simpa using e)
theorem RpAll.getV : ∀ {vs : List V} {ds : List PyData} {i : Nat} {v : V}, RpAll A H vs ds → vs[i]? = some v → ∃ d, ds[i]? = some d ∧ Rp A H v d
  | _, [], _, _, r, e => by cases r; simp at e
  | _, _ :: _, 0, _, r, e => by cases r with | cons h1 _ => simp at e; subst e; exact ⟨_, rfl, h1⟩
  | _, _ :: _, i + 1, _, r, e => by cases r with | cons _ h2 => simpa using RpAll.getV h2 (by simpa using e)
theorem RpAll.take : ∀ {vs : List V} {ds : List PyData} (n : Nat), RpAll A H vs ds → RpAll A H (vs.take n) (ds.take n)
  | _, _, 0, _ => .nil
  | _, [], _ + 1, r => by cases r; exact .nil
  | _, _ :: _, n + 1, r => by cases r with | cons h1 h2 => exact .cons h1 (h2.take n)
theorem RpAll.drop : ∀ {vs : List V} {ds : List PyData} (n : Nat), RpAll A H vs ds → RpAll A H (vs.drop n) (ds.drop n)
  | _, _, 0, r => r
  | _, [], _ + 1, r => by cases r; exact .nil
  | _, _ :: _, n + 1, r => by cases r with | cons h1 h2 => exact h2.drop n
theorem RpAll.reverse : ∀ {vs : List V} {ds : List PyData}, RpAll A H vs ds → RpAll A H vs.reverse ds.reverse
  | _, [], r => by cases r; exact .nil
  | _, _ :: _, r => by cases r with | cons h1 h2 => rw [List.reverse_cons, List.reverse_cons]; exact h2.reverse.append (.cons h1 .nil)
theorem RpAll.set : ∀ {vs : List V} {ds : List PyData} {v : V} {d : PyData} (i : Nat), RpAll A H vs ds → Rp A H v d → RpAll A H (vs.set i v) (ds.set i d)
  | _, [], _, _, _, r, _ => by cases r; exact .nil
  | _, _ :: _, _, _, 0, r, q => by cases r with | cons _ h2 => exact .cons q h2
  | _, _ :: _, _, _, i + 1, r, q => by cases r with | cons h1 h2 => exact .cons h1 (h2.set i q)
end

/-- all but Z is as it was -/
def Keep (A : Av) (H H' : Hp) : Prop := ∀ a o, ¬ A a → H a = some o → H' a = some o
theorem Keep.refl {A : Av} (H : Hp) : Keep A H H := fun _ _ _ h => h
theorem Keep.trans {A : Av} {H H1 H2 : Hp} (a : Keep A H H1) (b : Keep A H1 H2) : Keep A H H2 := fun c o n h => b c o n (a c o n h)
theorem Keep.mono {A B : Av} {H H1 : Hp} (a : Keep A H H1) (h : ∀ x, A x → B x) : Keep B H H1 := fun c o n e => a c o (fun q => n (h c q)) e
theorem Keep.of_same {A : Av} {H H1 : Hp} (a : Same H H1) : Keep A H H1 := fun c o _ e => a c o e
theorem Rp.keep {A : Av} {H H' : Hp} {v : V} {d : PyData} (r : Rp A H v d) (k : Keep A H H') : Rp A H' v d := Rp.move (fun a o n e => ⟨n, k a o n e⟩) d v r
theorem RpAll.keep {A : Av} {H H' : Hp} {vs : List V} {ds : List PyData} (r : RpAll A H vs ds) (k : Keep A H H') : RpAll A H' vs ds := RpAll.move (fun a o n e => ⟨n, k a o n e⟩) ds vs r
theorem Rp.less {A B : Av} {H : Hp} {v : V} {d : PyData} (r : Rp A H v d) (h : ∀ x, B x → A x) : Rp B H v d := Rp.move (fun a o n e => ⟨fun q => n (h a q), e⟩) d v r
theorem RpAll.less {A B : Av} {H : Hp} {vs : List V} {ds : List PyData} (r : RpAll A H vs ds) (h : ∀ x, B x → A x) : RpAll B H vs ds := RpAll.move (fun a o n e => ⟨fun q => n (h a q), e⟩) ds vs r

theorem Rp.at {A : Av} {H H' : Hp} {p : Addr} {v : V} {d : PyData} (r : Rp A H v d) (n : H p = none) (k : Keep A H H') : Rp (fun a => A a ∨ a = p) H' v d :=
  Rp.move (fun a o na e => ⟨fun z => z.elim na (fun z => by rw [z, n] at e; cases e), k a o na e⟩) d v r
theorem RpAll.at {A : Av} {H H' : Hp} {p : Addr} {vs : List V} {ds : List PyData} (r : RpAll A H vs ds) (n : H p = none) (k : Keep A H H') : RpAll (fun a => A a ∨ a = p) H' vs ds :=
  RpAll.move (fun a o na e => ⟨fun z => z.elim na (fun z => by rw [z, n] at e; cases e), k a o na e⟩) ds vs r

/-! ### the resource: where the draws stand -/
abbrev Res := Option (Addr × Addr)
def Zr : Res → Av
  | none => fun _ => False
  | some (a, c) => fun x => x = a ∨ x = c
structure SrcAt (a c : Addr) (st : Src) (H : Hp) : Prop where
  dic : H a = some (.dK [(.inr "cells", .ref c), (.inr "left", .int st.left), (.inr "mixed", .int st.mixed), (.inr "turn", .int st.turn)])
  cel : H c = some (.lst (st.cells.map V.int))
  ne : a ≠ c
def okR (R : Res) (st : Src) (H : Hp) : Prop := match R with
  | none => True
  | some (a, c) => SrcAt a c st H
theorem okR.dom {R : Res} {st : Src} {H : Hp} (k : okR R st H) {a : Addr} (z : Zr R a) : NT (H a) := by
  cases R with
  | none => exact z.elim
  | some p =>
    obtain ⟨b, c⟩ := p
    rcases z with e | e
    · rw [e, (show SrcAt b c st H from k).dic]; exact NT.of fun _ => by simp
    · rw [e, (show SrcAt b c st H from k).cel]; exact NT.of fun _ => by simp
theorem okR.keep {R : Res} {st : Src} {H H' : Hp} (k : okR R st H) (h : ∀ a o, Zr R a → H a = some o → H' a = some o) : okR R st H' := by
  cases R with
  | none => trivial
  | some p =>
    obtain ⟨b, c⟩ := p
    have k : SrcAt b c st H := k
    exact (⟨h _ _ (.inl rfl) k.dic, h _ _ (.inr rfl) k.cel, k.ne⟩ : SrcAt b c st H')
theorem okR.same {R : Res} {st : Src} {H H' : Hp} (k : okR R st H) (h : Same H H') : okR R st H' := k.keep fun a o _ e => h a o e

/-! ### slots -/
inductive Slot where
  | un | fz (d : PyData) | ow (d : PyData) | src
def avo (O : Av) (Γ : List Slot) (ow : Nat → Addr) : Av := fun a => O a ∨ ∃ (i : Nat) (d : PyData), Γ[i]? = some (.ow d) ∧ ow i = a
def OwnAt (A : Av) (H : Hp) (p : Addr) : PyData → Prop
  | .list ds => ∃ vs, H p = some (.lst vs) ∧ RpAll A H vs ds
  | .dict kvs => ∃ o, H p = some o ∧ DicO o kvs
  | _ => False
structure Rel (R : Res) (O : Av) (H0 : Hp) (ow : Nat → Addr) (Γ : List Slot) (σ : L2.St) (H : Hp) : Prop where
  len : Γ.length = σ.length
  hfz : ∀ (i : Nat) (d : PyData), Γ[i]? = some (.fz d) → ∃ v, σ[i]? = some (some v) ∧ Rp (avo O Γ ow) H v d
  how : ∀ (i : Nat) (d : PyData), Γ[i]? = some (.ow d) → σ[i]? = some (some (.ref (ow i))) ∧ OwnAt (avo O Γ ow) H (ow i) d ∧ ¬ O (ow i) ∧ H0 (ow i) = none
  hsrc : ∀ (i : Nat), Γ[i]? = some .src → ∃ a c, R = some (a, c) ∧ σ[i]? = some (some (.ref a))
  hinj : ∀ (i j : Nat) (d d' : PyData), Γ[i]? = some (.ow d) → Γ[j]? = some (.ow d') → ow i = ow j → i = j
  same : Keep (Zr R) H0 H
  zsub : ∀ a, Zr R a → O a
  odom : ∀ a, O a → NT (H a)
theorem OwnAt.keep {A : Av} {H H' : Hp} {p : Addr} {d : PyData} (h : OwnAt A H p d) (k : Keep A H H') (e : ∀ o, H p = some o → H' p = some o) : OwnAt A H' p d := by
  cases d with
  | list ds => obtain ⟨vs, a, b⟩ := h; exact ⟨vs, e _ a, b.keep k⟩
  | dict kvs => obtain ⟨o, a, b⟩ := h; exact ⟨o, e _ a, b⟩
  | _ => exact h.elim
theorem OwnAt.dom {A : Av} {H : Hp} {p : Addr} {d : PyData} (h : OwnAt A H p d) : NT (H p) := by
  cases d with
  | list ds => obtain ⟨vs, a, b⟩ := h; rw [a]; exact NT.of fun _ => by simp
  | dict kvs => obtain ⟨o, a, b⟩ := h; rw [a]; exact NT.of fun xs z => by subst z; exact b
  | _ => exact h.elim
section
variable {R : Res} {O : Av} {H0 H H' : Hp} {ow : Nat → Addr} {Γ : List Slot} {σ : L2.St}
theorem Rel.adom (r : Rel R O H0 ow Γ σ H) {a : Addr} (h : avo O Γ ow a) : NT (H a) := by
  rcases h with h | ⟨i, d, e, rfl⟩
  · exact r.odom a h
  · exact (r.how i d e).2.1.dom
theorem Rel.zavo (r : Rel R O H0 ow Γ σ H) {a : Addr} (h : Zr R a) : avo O Γ ow a := .inl (r.zsub a h)
theorem Rel.keepA (r : Rel R O H0 ow Γ σ H) (k : Keep (Zr R) H H') : Keep (avo O Γ ow) H H' := k.mono fun _ z => r.zavo z
/-- the heap has grown (and the draws have gone on) -/
theorem Rel.grow (r : Rel R O H0 ow Γ σ H) (k : Keep (Zr R) H H') (z : ∀ a, Zr R a → NT (H' a)) : Rel R O H0 ow Γ σ H' where
  len := r.len
  hfz := fun i d e => let ⟨v, e1, h⟩ := r.hfz i d e; ⟨v, e1, h.keep (r.keepA k)⟩
  how := fun i d e => let ⟨e1, h, n, f⟩ := r.how i d e; ⟨e1, h.keep (r.keepA k) fun o q => k _ o (fun z => n (r.zsub _ z)) q, n, f⟩
  hsrc := r.hsrc
  hinj := r.hinj
  same := r.same.trans k
  zsub := r.zsub
  odom := fun a h => by
    by_cases z1 : Zr R a
    · exact z a z1
    · exact (r.odom a h).same fun o e => k a o z1 e
end

/-! ### encodings -/
def eInt (i : Int) : PyData := .int i
def eBool (b : Bool) : PyData := .bool b
def eStr (x : Str) : PyData := .str x
def eNon (_ : Unit) : PyData := .none
def eL {α : Type} (e : α → PyData) (xs : List α) : PyData := .list (xs.map e)
def eT {α : Type} (e : α → PyData) (xs : List α) : PyData := .tuple (xs.map e)
def eO {α : Type} (e : α → PyData) : Option α → PyData
  | none => .none
  | some a => e a
def eD (d : PyData) : PyData := d
/-- tuples of a written length -/
def eU (_ : Unit) : List PyData := []
def eC {α β : Type} (e : α → PyData) (f : β → List PyData) (p : α × β) : List PyData := e p.1 :: f p.2
def eP {α : Type} (f : α → List PyData) (p : α) : PyData := .tuple (f p)

/-! ### the judgements -/
section
variable {α β : Type}
def tE (R : Res) (Γ : List Slot) (enc : α → PyData) (m : M α) : TE := fun σ H Q => ∃ O H0 ow st r st', Rel R O H0 ow Γ σ H ∧ okR R st H ∧ m st = some (r, st') ∧
  ∀ v H', Keep (Zr R) H H' → okR R st' H' → Rp (avo O Γ ow) H' v (enc r) → Q v H'
/-- and one place more -/
def avp (A : Av) (p : Addr) : Av := fun a => A a ∨ a = p
/-- a new list -/
def tF (R : Res) (Γ : List Slot) (enc : α → PyData) (m : M (List α)) : TE := fun σ H Q => ∃ O H0 ow st r st', Rel R O H0 ow Γ σ H ∧ okR R st H ∧ m st = some (r, st') ∧
  ∀ p vs H', H p = none → Keep (Zr R) H H' → okR R st' H' → H' p = some (.lst vs) → RpAll (avp (avo O Γ ow) p) H' vs (r.map enc) → Q (.ref p) H'
def tT (R : Res) (Γ : List Slot) (m : M Bool) : TT := fun σ H Q => ∃ O H0 ow st r st', Rel R O H0 ow Γ σ H ∧ okR R st H ∧ m st = some (r, st') ∧
  ∀ H', Keep (Zr R) H H' → okR R st' H' → Q r H'
/-- an argument: data, or the draws -/
def RpS (R : Res) (A : Av) (H : Hp) (v : V) : Slot → Prop
  | .fz d => Rp A H v d
  | .src => ∃ a c, R = some (a, c) ∧ v = .ref a
  | _ => False
inductive RpSs (R : Res) (A : Av) (H : Hp) : List V → List Slot → Prop
  | nil : RpSs R A H [] []
  | cons {v : V} {vs : List V} {d : Slot} {ds : List Slot} : RpS R A H v d → RpSs R A H vs ds → RpSs R A H (v :: vs) (d :: ds)
def tA (R : Res) (Γ : List Slot) (enc : α → List Slot) (m : M α) : TA := fun σ H Q => ∃ O H0 ow st r st', Rel R O H0 ow Γ σ H ∧ okR R st H ∧ m st = some (r, st') ∧
  ∀ vs H', Keep (Zr R) H H' → okR R st' H' → RpSs R (avo O Γ ow) H' vs (enc r) → Q vs H'
end
/-- the end of a block -/
inductive OutD where
  | nx (Γ : List Slot) | rt (d : PyData)
/-- what a block may change: what it owns -/
structure Step (O : Av) (Γ : List Slot) (ow : Nat → Addr) (H : Hp) (Γ' : List Slot) (ow' : Nat → Addr) (H' : Hp) : Prop where
  keep : Keep (avo O Γ ow) H H'
  sub : ∀ (i : Nat) (d : PyData), Γ'[i]? = some (.ow d) → avo O Γ ow (ow' i) ∨ H (ow' i) = none
def tS {κ : Type} (R : Res) (Γ : List Slot) (out : κ → OutD) (m : M κ) : TS := fun D σ H => ∃ O H0 ow st r st', Rel R O H0 ow Γ σ H ∧ okR R st H ∧ m st = some (r, st') ∧
  match out r with
  | .nx Γ' => ∀ ow' σ' H', Rel R O H0 ow' Γ' σ' H' → okR R st' H' → Step O Γ ow H Γ' ow' H' → D.nx σ' H'
  | .rt d => ∀ v H', Keep (Zr R) H0 H' → okR R st' H' → Rp O H' v d → D.rt v H'

section
variable {X : Cx} {e : Expr} {t t' : TE}
theorem PE.weak (h : PE X e t) (w : ∀ σ H Q, t' σ H Q → t σ H Q) : PE X e t' := ⟨fun pins s σ H Q I q => h.run pins s σ H Q I (w σ H Q q)⟩
theorem PE.ex {ι : Type} {t : ι → TE} (h : ∀ x, PE X e (t x)) : PE X e (fun σ H Q => ∃ x, t x σ H Q) := ⟨fun pins s σ H Q I ⟨x, q⟩ => (h x).run pins s σ H Q I q⟩
theorem PT.weak {t t' : TT} (h : PT X e t) (w : ∀ σ H Q, t' σ H Q → t σ H Q) : PT X e t' := ⟨fun pins s σ H Q I q => h.run pins s σ H Q I (w σ H Q q)⟩
theorem PT.ex {ι : Type} {t : ι → TT} (h : ∀ x, PT X e (t x)) : PT X e (fun σ H Q => ∃ x, t x σ H Q) := ⟨fun pins s σ H Q I ⟨x, q⟩ => (h x).run pins s σ H Q I q⟩
theorem PW.weak {t t' : TT} (h : PW X e t) (w : ∀ σ H Q, t' σ H Q → t σ H Q) : PW X e t' := ⟨fun wh pins s σ H Q I q => h.run wh pins s σ H Q I (w σ H Q q)⟩
theorem PA.weak {es : List Expr} {t t' : TA} (h : PA X es t) (w : ∀ σ H Q, t' σ H Q → t σ H Q) : PA X es t' := ⟨fun pos pins s σ H Q I q => h.run pos pins s σ H Q I (w σ H Q q)⟩
theorem PS.weak {st : Stmt} {t t' : TS} (h : PS X st t) (w : ∀ D σ H, t' D σ H → t D σ H) : PS X st t' := ⟨fun pins s σ H D I q => h.run pins s σ H D I (w D σ H q)⟩
theorem PSs.weak {st : List Stmt} {t t' : TS} (h : PSs X st t) (w : ∀ D σ H, t' D σ H → t D σ H) : PSs X st t' := ⟨fun pins s σ H D I q => h.run pins s σ H D I (w D σ H q)⟩
theorem PSs.ex {ι : Type} {st : List Stmt} {t : ι → TS} (h : ∀ x, PSs X st (t x)) : PSs X st (fun D σ H => ∃ x, t x D σ H) := ⟨fun pins s σ H D I ⟨x, q⟩ => (h x).run pins s σ H D I q⟩
theorem PG.weak {t t' : TG} (h : PG X e t) (w : ∀ v σ H Q, t' v σ H Q → t v σ H Q) : PG X e t' := ⟨fun pins s σ H v u Q I r q => h.run pins s σ H v u Q I r (w v σ H Q q)⟩
end
abbrev EJ {α : Type} (X : Cx) (R : Res) (Γ : List Slot) (e : Expr) (enc : α → PyData) (m : M α) : Prop := PE X e (tE R Γ enc m)
abbrev EF {α : Type} (X : Cx) (R : Res) (Γ : List Slot) (e : Expr) (enc : α → PyData) (m : M (List α)) : Prop := PE X e (tF R Γ enc m)
abbrev TJ (X : Cx) (R : Res) (Γ : List Slot) (e : Expr) (m : M Bool) : Prop := PT X e (tT R Γ m)
abbrev AJ {α : Type} (X : Cx) (R : Res) (Γ : List Slot) (es : List Expr) (enc : α → List Slot) (m : M α) : Prop := PA X es (tA R Γ enc m)
abbrev SJ {κ : Type} (X : Cx) (R : Res) (Γ : List Slot) (st : List Stmt) (out : κ → OutD) (m : M κ) : Prop := PSs X st (tS R Γ out m)
end Pz

namespace Pz
open PySem PySem.Spec PyProof.Rows L2

/-! ### what a step hands back -/
def Post {γ : Type} (A : Av) (H : Hp) (ec : γ → PyData) (z : γ) (Q : VK) : Prop := ∀ v H', Same H H' → Rp A H' v (ec z) → Q v H'
def PostF {γ : Type} (A : Av) (H : Hp) (ec : γ → PyData) (z : List γ) (Q : VK) : Prop := ∀ p vs H', H p = none → Same H H' → H' p = some (.lst vs) → RpAll (avp A p) H' vs (z.map ec) → Q (.ref p) H'
def Adom (A : Av) (H : Hp) : Prop := ∀ a, A a → NT (H a)
section
variable {α β γ δ : Type} {ea : α → PyData} {eb : β → PyData} {ec : γ → PyData} {ed : δ → PyData} {A : Av} {H H' : Hp}
theorem Adom.same (h : Adom A H) (s : Same H H') : Adom A H' := fun a z => (h a z).same fun o e => s a o e
theorem Adom.fresh (h : Adom A H) {p : Addr} (n : H p = none) : ¬ A p := fun z => (h p z).1 n
theorem PostF.toE {z : List γ} {Q : VK} (h : Post A H (eL ec) z Q) (ad : Adom A H) : PostF A H ec z Q := fun p vs H' n s e r => h _ _ s (.lst (ad.fresh n) e (r.less fun _ z => .inl z))
theorem same_new {H : Hp} {p : Addr} {o : HO} (h : H p = none) : Same H (upd H p o) := fun b x e => by rw [upd_ne (ne_of_none e h)]; exact e
/-- a two-place step by values -/
def VOp (r : R2) (ea : α → PyData) (eb : β → PyData) (ec : γ → PyData) (f : α → β → Option γ) : Prop :=
  ∀ (A : Av) (H : Hp) x y vx vy Q z, Adom A H → Rp A H vx (ea x) → Rp A H vy (eb y) → f x y = some z → Post A H ec z Q → r vx vy H Q
def VOpF (r : R2) (ea : α → PyData) (eb : β → PyData) (ec : γ → PyData) (f : α → β → Option (List γ)) : Prop :=
  ∀ (A : Av) (H : Hp) x y vx vy Q z, Adom A H → Rp A H vx (ea x) → Rp A H vy (eb y) → f x y = some z → PostF A H ec z Q → r vx vy H Q
def V1 (r : V → Hp → VK → Prop) (ea : α → PyData) (ec : γ → PyData) (f : α → Option γ) : Prop :=
  ∀ (A : Av) (H : Hp) x vx Q z, Adom A H → Rp A H vx (ea x) → f x = some z → Post A H ec z Q → r vx H Q
def V1F (r : V → Hp → VK → Prop) (ea : α → PyData) (ec : γ → PyData) (f : α → Option (List γ)) : Prop :=
  ∀ (A : Av) (H : Hp) x vx Q z, Adom A H → Rp A H vx (ea x) → f x = some z → PostF A H ec z Q → r vx H Q
end

section
variable {α β γ δ : Type} {ea : α → PyData} {eb : β → PyData} {ec : γ → PyData} {ed : δ → PyData} {X : Cx} {R : Res} {Γ : List Slot} {e a b c : Expr} {pos : Pos}
theorem Rel.ad {O : Av} {H0 H : Hp} {ow : Nat → Addr} {σ : L2.St} (r : Rel R O H0 ow Γ σ H) : Adom (avo O Γ ow) H := fun _ z => r.adom z
theorem okZ {st : Src} {H : Hp} (k : okR R st H) : ∀ a, Zr R a → NT (H a) := fun _ z => k.dom z

/-! ### names and constants -/
theorem e_var (i : Nat) {α : Type} (enc : α → PyData) (r : α) {x : Str} (hΓ : Γ[i]? = some (.fz (enc r)) := by rfl) (hN : X.N[i]? = some x := by rfl)
    (hv : Vis X.env.scope x := by first | exact Or.inl rfl | exact Or.inr (Or.inl rfl) | exact Or.inr (Or.inr rfl)) (hd : (x == ("__debug__" : Str)) = false := by decide)
    (hcd : (x == ("__classdict__" : Str)) = false := by decide) : EJ X R Γ (.Name x pos) enc (pureM r) := by
  refine PE.weak (pe_var hN hv hd hcd) fun σ H Q ⟨O, H0, ow, st, r', st', rel, ok, e, q⟩ => ?_
  obtain ⟨rfl, rfl⟩ := pure_some e
  obtain ⟨v, e1, rp⟩ := rel.hfz i _ hΓ
  exact ⟨v, e1, q v H (Keep.refl H) ok rp⟩
/-- an own list, read as it stands, handed on as data without lists in it: see e_borrow -/
theorem e_const {α : Type} {enc : α → PyData} {r : α} {v : V} (h : PE X e (tC v)) (hr : ∀ A H, Rp A H v (enc r)) : EJ X R Γ e enc (pureM r) := by
  refine PE.weak h fun σ H Q ⟨O, H0, ow, st, r', st', rel, ok, e, q⟩ => ?_
  obtain ⟨rfl, rfl⟩ := pure_some e
  exact q v H (Keep.refl H) ok (hr _ _)
theorem e_int {i j} : EJ X R Γ (.Constant (.int i) j pos) eInt (pureM i) := e_const pe_int fun _ _ => .int i
theorem e_bool {b j} : EJ X R Γ (.Constant (.bool b) j pos) eBool (pureM b) := e_const pe_bl fun _ _ => .bl b
theorem e_str {x j} : EJ X R Γ (.Constant (.str x) j pos) eStr (pureM x) := e_const pe_str fun _ _ => .str x
theorem e_non {j} : EJ X R Γ (.Constant .none j pos) eNon (pureM ()) := e_const pe_non fun _ _ => .non

/-! ### another encoding of the same -/
theorem e_enc {α β : Type} {ea : α → PyData} {eb : β → PyData} {m : M α} (f : α → β) (h : EJ X R Γ e ea m) (hf : ∀ x, ea x = eb (f x)) : EJ X R Γ e eb (bindM m fun x => pureM (f x)) := by
  refine PE.weak h fun σ H Q ⟨O, H0, ow, st, r', st', rel, ok, e, q⟩ => ?_
  obtain ⟨x, u, e1, e2⟩ := bind_some e
  obtain ⟨rfl, rfl⟩ := pure_some e2
  exact ⟨O, H0, ow, st, x, u, rel, ok, e1, fun v H' k o r => q v H' k o (by rw [← hf]; exact r)⟩
theorem e_as {α β : Type} {ea : α → PyData} {eb : β → PyData} (f : α → β) {m : M α} {m' : M β} (h : EJ X R Γ e ea m) (hf : ∀ x, ea x = eb (f x)) (hm : m' = bindM m fun x => pureM (f x)) : EJ X R Γ e eb m' := hm ▸ e_enc f h hf
theorem f_e {m : M (List γ)} (h : EF X R Γ e ec m) : EJ X R Γ e (eL ec) m := by
  refine PE.weak h fun σ H Q ⟨O, H0, ow, st, r', st', rel, ok, e, q⟩ => ⟨O, H0, ow, st, r', st', rel, ok, e, fun p vs H' n k o e1 r => ?_⟩
  exact q _ _ k o (.lst (rel.ad.fresh n) e1 (r.less fun _ z => .inl z))
theorem f_enc {α β : Type} {ea : α → PyData} {eb : β → PyData} {m : M (List α)} (f : α → β) (h : EF X R Γ e ea m) (hf : ∀ x, ea x = eb (f x)) : EF X R Γ e eb (bindM m fun x => pureM (x.map f)) := by
  refine PE.weak h fun σ H Q ⟨O, H0, ow, st, r', st', rel, ok, e, q⟩ => ?_
  obtain ⟨x, u, e1, e2⟩ := bind_some e
  obtain ⟨rfl, rfl⟩ := pure_some e2
  refine ⟨O, H0, ow, st, x, u, rel, ok, e1, fun p vs H' n k o e r => q p vs H' n k o e ?_⟩
  rw [List.map_map, show eb ∘ f = ea from funext fun x => (hf x).symm]
  exact r
/-- the same computation, otherwise written -/
theorem e_eq {α : Type} {enc : α → PyData} {m m' : M α} (h : EJ X R Γ e enc m) (hm : m' = m) : EJ X R Γ e enc m' := hm ▸ h
theorem f_eq {α : Type} {enc : α → PyData} {m m' : M (List α)} (h : EF X R Γ e enc m) (hm : m' = m) : EF X R Γ e enc m' := hm ▸ h

/-! ### steps by values -/
theorem keepS {H H1 H2 : Hp} {A : Av} (k : Keep A H H1) (s : Same H1 H2) : Keep A H H2 := k.trans (Keep.of_same s)
theorem noneK {H H1 : Hp} {p : Addr} {st : Src} (k : Keep (Zr R) H H1) (o : okR R st H1) (n : H1 p = none) : H p = none := by
  cases e : H p with
  | none => rfl
  | some u =>
    by_cases z : Zr R p
    · exact absurd n (o.dom z).1
    · rw [k p u z e] at n; cases n
/-- two operands, then a step -/
theorem e_two {r : R2} {ma : M α} {mb : M β} {f : α → β → Option γ} (h : PE X e (tOp r (tE R Γ ea ma) (tE R Γ eb mb))) (hv : VOp r ea eb ec f) : EJ X R Γ e ec (bindM ma fun x => bindM mb fun y => optM (f x y)) := by
  refine PE.weak h fun σ H Q ⟨O, H0, ow, st, z, st', rel, ok, e, q⟩ => ?_
  obtain ⟨x, s1, e1, e'⟩ := bind_some e
  obtain ⟨y, s2, e2, e3⟩ := bind_some e'
  obtain ⟨e4, rfl⟩ := optM_inv e3
  refine ⟨O, H0, ow, st, x, s1, rel, ok, e1, fun vx H1 k1 o1 r1 => ?_⟩
  refine ⟨O, H0, ow, s1, y, s2, rel.grow k1 (okZ o1), o1, e2, fun vy H2 k2 o2 r2 => ?_⟩
  have rel2 := (rel.grow k1 (okZ o1)).grow k2 (okZ o2)
  exact hv (avo O Γ ow) H2 x y vx vy Q z rel2.ad (r1.keep ((rel.grow k1 (okZ o1)).keepA k2)) r2 e4 fun v H3 s3 r3 => q v H3 ((k1.trans k2).trans (Keep.of_same s3)) (o2.same s3) r3
theorem f_two {r : R2} {ma : M α} {mb : M β} {f : α → β → Option (List γ)} (h : PE X e (tOp r (tE R Γ ea ma) (tE R Γ eb mb))) (hv : VOpF r ea eb ec f) : EF X R Γ e ec (bindM ma fun x => bindM mb fun y => optM (f x y)) := by
  refine PE.weak h fun σ H Q ⟨O, H0, ow, st, z, st', rel, ok, e, q⟩ => ?_
  obtain ⟨x, s1, e1, e'⟩ := bind_some e
  obtain ⟨y, s2, e2, e3⟩ := bind_some e'
  obtain ⟨e4, rfl⟩ := optM_inv e3
  refine ⟨O, H0, ow, st, x, s1, rel, ok, e1, fun vx H1 k1 o1 r1 => ?_⟩
  refine ⟨O, H0, ow, s1, y, s2, rel.grow k1 (okZ o1), o1, e2, fun vy H2 k2 o2 r2 => ?_⟩
  have rel2 := (rel.grow k1 (okZ o1)).grow k2 (okZ o2)
  exact hv (avo O Γ ow) H2 x y vx vy Q z rel2.ad (r1.keep ((rel.grow k1 (okZ o1)).keepA k2)) r2 e4 fun p vs H3 n s3 e r3 => q p vs H3 (noneK (k1.trans k2) o2 n) ((k1.trans k2).trans (Keep.of_same s3)) (o2.same s3) e r3
theorem t_two {r : R2} {ma : M α} {mb : M β} {f : α → β → Option Bool} (h : PT X e (tTest (tOp r (tE R Γ ea ma) (tE R Γ eb mb)))) (hv : VOp r ea eb eBool f) : TJ X R Γ e (bindM ma fun x => bindM mb fun y => optM (f x y)) := by
  refine PT.weak h fun σ H Q ⟨O, H0, ow, st, z, st', rel, ok, e, q⟩ => ?_
  obtain ⟨x, s1, e1, e'⟩ := bind_some e
  obtain ⟨y, s2, e2, e3⟩ := bind_some e'
  obtain ⟨e4, rfl⟩ := optM_inv e3
  refine ⟨O, H0, ow, st, x, s1, rel, ok, e1, fun vx H1 k1 o1 r1 => ?_⟩
  refine ⟨O, H0, ow, s1, y, s2, rel.grow k1 (okZ o1), o1, e2, fun vy H2 k2 o2 r2 => ?_⟩
  have rel2 := (rel.grow k1 (okZ o1)).grow k2 (okZ o2)
  exact hv (avo O Γ ow) H2 x y vx vy _ z rel2.ad (r1.keep ((rel.grow k1 (okZ o1)).keepA k2)) r2 e4 fun v H3 s3 r3 => by
    cases r3
    exact ⟨z, rfl, q H3 ((k1.trans k2).trans (Keep.of_same s3)) (o2.same s3)⟩
theorem e_bin {op : Operator} {r : R2} {ma : M α} {mb : M β} {f : α → β → Option γ} (ho : OpR X (binaryOp op) r) (hv : VOp r ea eb ec f) (ha : EJ X R Γ a ea ma) (hb : EJ X R Γ b eb mb) : EJ X R Γ (.BinOp a op b pos) ec (bindM ma fun x => bindM mb fun y => optM (f x y)) := e_two (pe_op ho ha hb) hv
theorem f_bin {op : Operator} {r : R2} {ma : M α} {mb : M β} {f : α → β → Option (List γ)} (ho : OpR X (binaryOp op) r) (hv : VOpF r ea eb ec f) (ha : EJ X R Γ a ea ma) (hb : EJ X R Γ b eb mb) : EF X R Γ (.BinOp a op b pos) ec (bindM ma fun x => bindM mb fun y => optM (f x y)) := f_two (pe_op ho ha hb) hv
theorem e_cmp {op : CmpOp} {r : R2} {ma : M α} {mb : M β} {f : α → β → Option Bool} (ho : OpR X (compareOp op) r) (hv : VOp r ea eb eBool f) (ha : EJ X R Γ a ea ma) (hb : EJ X R Γ b eb mb) (hm : behindInMarks op b = false := by first | exact nomark _ | rfl) :
    EJ X R Γ (.Compare a [op] [b] pos) eBool (bindM ma fun x => bindM mb fun y => optM (f x y)) := e_two (pe_cmpR ho ha hb hm) hv
theorem t_cmp {op : CmpOp} {r : R2} {ma : M α} {mb : M β} {f : α → β → Option Bool} (ho : OpR X (compareOp op) r) (hv : VOp r ea eb eBool f) (ha : EJ X R Γ a ea ma) (hb : EJ X R Γ b eb mb) (hm : behindInMarks op b = false := by first | exact nomark _ | rfl) :
    TJ X R Γ (.Compare a [op] [b] pos) (bindM ma fun x => bindM mb fun y => optM (f x y)) := t_two (pt_cmpR ho ha hb hm) hv
theorem e_ix {r : R2} {ma : M α} {mb : M β} {f : α → β → Option γ} (ho : IxR X r) (hv : VOp r ea eb ec f) (ha : EJ X R Γ a ea ma) (hb : EJ X R Γ b eb mb) (hs : PlainIx b := by intro _ _; rfl) :
    EJ X R Γ (.Subscript a b pos) ec (bindM ma fun x => bindM mb fun y => optM (f x y)) := e_two (pe_ix ho ha hb hs) hv
theorem e_one {r : V → Hp → VK → Prop} {ma : M α} {f : α → Option γ} (h : PE X e (tUn r (tE R Γ ea ma))) (hv : V1 r ea ec f) : EJ X R Γ e ec (bindM ma fun x => optM (f x)) := by
  refine PE.weak h fun σ H Q ⟨O, H0, ow, st, z, st', rel, ok, e, q⟩ => ?_
  obtain ⟨x, s1, e1, e3⟩ := bind_some e
  obtain ⟨e4, rfl⟩ := optM_inv e3
  refine ⟨O, H0, ow, st, x, s1, rel, ok, e1, fun vx H1 k1 o1 r1 => ?_⟩
  exact hv (avo O Γ ow) H1 x vx Q z (rel.grow k1 (okZ o1)).ad r1 e4 fun v H3 s3 r3 => q v H3 (k1.trans (Keep.of_same s3)) (o1.same s3) r3
theorem f_one {r : V → Hp → VK → Prop} {ma : M α} {f : α → Option (List γ)} (h : PE X e (tUn r (tE R Γ ea ma))) (hv : V1F r ea ec f) : EF X R Γ e ec (bindM ma fun x => optM (f x)) := by
  refine PE.weak h fun σ H Q ⟨O, H0, ow, st, z, st', rel, ok, e, q⟩ => ?_
  obtain ⟨x, s1, e1, e3⟩ := bind_some e
  obtain ⟨e4, rfl⟩ := optM_inv e3
  refine ⟨O, H0, ow, st, x, s1, rel, ok, e1, fun vx H1 k1 o1 r1 => ?_⟩
  exact hv (avo O Γ ow) H1 x vx Q z (rel.grow k1 (okZ o1)).ad r1 e4 fun p vs H3 n s3 e r3 => q p vs H3 (noneK k1 o1 n) (k1.trans (Keep.of_same s3)) (o1.same s3) e r3
theorem e_un {op : UnaryOp} {r : V → Hp → VK → Prop} {ma : M α} {f : α → Option γ} (ho : UnR X (unaryOp op) r) (hv : V1 r ea ec f) (ha : EJ X R Γ a ea ma) : EJ X R Γ (.UnaryOp op a pos) ec (bindM ma fun x => optM (f x)) := e_one (pe_un ho ha) hv

/-! ### argument lists -/
theorem a_nil : AJ X R Γ [] (fun _ : Unit => []) (pureM ()) := by
  refine PA.weak pa_nil fun σ H Q ⟨O, H0, ow, st, z, st', rel, ok, e, q⟩ => ?_
  obtain ⟨rfl, rfl⟩ := pure_some e
  exact q [] H (Keep.refl H) ok .nil
theorem RpS.keep {A : Av} {H H' : Hp} {v : V} {s : Slot} (r : RpS R A H v s) (k : Keep A H H') : RpS R A H' v s := by
  cases s with
  | fz d => exact Rp.keep (show Rp A H v d from r) k
  | src => exact r
  | _ => exact r.elim
theorem a_cons {es : List Expr} {en : β → List Slot} {ma : M α} {mb : M β} (ha : EJ X R Γ a ea ma) (hb : AJ X R Γ es en mb) (hs : starEach (a :: es) X.env = (false, eval a X.env) :: starEach es X.env := by rfl) :
    AJ X R Γ (a :: es) (fun p : α × β => .fz (ea p.1) :: en p.2) (bindM ma fun x => bindM mb fun y => pureM (x, y)) := by
  refine PA.weak (pa_cons ha hb hs) fun σ H Q ⟨O, H0, ow, st, z, st', rel, ok, e, q⟩ => ?_
  obtain ⟨x, s1, e1, e'⟩ := bind_some e
  obtain ⟨y, s2, e2, e3⟩ := bind_some e'
  obtain ⟨rfl, rfl⟩ := pure_some e3
  refine ⟨O, H0, ow, st, x, s1, rel, ok, e1, fun vx H1 k1 o1 r1 => ?_⟩
  refine ⟨O, H0, ow, s1, y, s2, rel.grow k1 (okZ o1), o1, e2, fun vs H2 k2 o2 r2 => ?_⟩
  exact q _ H2 (k1.trans k2) o2 (.cons (r1.keep ((rel.grow k1 (okZ o1)).keepA k2)) r2)
/-- the draws handed on: the name in slot i -/
theorem a_src (i : Nat) {x : Str} {es : List Expr} {en : β → List Slot} {mb : M β} (hb : AJ X R Γ es en mb) (hΓ : Γ[i]? = some .src := by rfl) (hN : X.N[i]? = some x := by rfl)
    (hv : Vis X.env.scope x := by first | exact Or.inl rfl | exact Or.inr (Or.inl rfl) | exact Or.inr (Or.inr rfl)) (hd : (x == ("__debug__" : Str)) = false := by decide)
    (hcd : (x == ("__classdict__" : Str)) = false := by decide) (hs : starEach (.Name x pos :: es) X.env = (false, eval (.Name x pos) X.env) :: starEach es X.env := by rfl) :
    AJ X R Γ (.Name x pos :: es) (fun p : β => .src :: en p) mb := by
  refine PA.weak (pa_cons (pe_var hN hv hd hcd) hb hs) fun σ H Q ⟨O, H0, ow, st, z, st', rel, ok, e, q⟩ => ?_
  obtain ⟨a, c, e1, e2⟩ := rel.hsrc i hΓ
  exact ⟨_, e2, O, H0, ow, st, z, st', rel, ok, e, fun vs H2 k2 o2 r2 => q _ H2 k2 o2 (.cons ⟨a, c, e1, rfl⟩ r2)⟩

/-! ### displays -/
/-- the data of an argument list -/
def Dat (l : List PyData) : List Slot := l.map .fz
theorem RpSs.dat {A : Av} {H : Hp} : ∀ {vs : List V} {l : List PyData}, RpSs R A H vs (l.map .fz) → RpAll A H vs l
  | _, [], h => by cases h; exact .nil
  | _, _ :: _, h => by
    cases h with
    | cons h1 h2 => exact .cons h1 (RpSs.dat h2)
theorem e_tup {es : List Expr} {k : Nat} {en : α → List Slot} {m : M α} (f : α → List PyData) (h : AJ X R Γ es en m) (hf : ∀ x, en x = (f x).map .fz := by intro _; rfl) (hl : ∀ x, (f x).length ≤ sizeLine := by intro _; exact (by decide : (_ : Nat) ≤ sizeLine)) :
    EJ X R Γ (.Tuple es k pos) (eP f) m := by
  refine PE.weak (pe_tup h) fun σ H Q ⟨O, H0, ow, st, z, st', rel, ok, e, q⟩ => ⟨O, H0, ow, st, z, st', rel, ok, e, fun vs H1 k1 o1 r1 => ?_⟩
  have r2 : RpAll _ _ _ _ := RpSs.dat (R := R) (by rw [hf] at r1; exact r1)
  refine ⟨by rw [r2.length]; exact hl z, fun p n => q _ _ (keepS k1 (same_new n)) (o1.same (same_new n)) ?_⟩
  exact .tup ((rel.grow k1 (okZ o1)).ad.fresh n) upd_same (r2.keep (Keep.of_same (same_new n)))
theorem f_lst {es : List Expr} {k : Nat} {en : α → List Slot} {m : M α} (f : α → List γ) (h : AJ X R Γ es en m) (hf : ∀ x, en x = ((f x).map ec).map .fz := by intro _; rfl) (hl : ∀ x, (f x).length ≤ sizeLine := by intro _; exact (by decide : (_ : Nat) ≤ sizeLine)) :
    EF X R Γ (.List es pos) ec (bindM m fun x => pureM (f x)) := by
  refine PE.weak (pe_lst h) fun σ H Q ⟨O, H0, ow, st, z, st', rel, ok, e, q⟩ => ?_
  obtain ⟨x, s1, e1, e2⟩ := bind_some e
  obtain ⟨rfl, rfl⟩ := pure_some e2
  refine ⟨O, H0, ow, st, x, s1, rel, ok, e1, fun vs H1 k1 o1 r1 => ?_⟩
  have r2 : RpAll _ _ _ _ := RpSs.dat (R := R) (by rw [hf] at r1; exact r1)
  refine ⟨by rw [r2.length, List.length_map]; exact hl x, fun p n => q p vs _ (noneK k1 o1 n) (keepS k1 (same_new n)) (o1.same (same_new n)) upd_same (r2.at n (Keep.of_same (same_new n)))⟩

/-! ### calls of built-ins -/
/-- a step on an argument list, by values -/
def VN (r : List V → Hp → VK → Prop) (en : α → List PyData) (ec : γ → PyData) (f : α → Option γ) : Prop :=
  ∀ (A : Av) (H : Hp) x vs Q z, Adom A H → RpAll A H vs (en x) → f x = some z → Post A H ec z Q → r vs H Q
def VNF (r : List V → Hp → VK → Prop) (en : α → List PyData) (ec : γ → PyData) (f : α → Option (List γ)) : Prop :=
  ∀ (A : Av) (H : Hp) x vs Q z, Adom A H → RpAll A H vs (en x) → f x = some z → PostF A H ec z Q → r vs H Q
theorem e_many {es : List Expr} {r : List V → Hp → VK → Prop} {en : α → List Slot} {m : M α} {f : α → Option γ} (dn : α → List PyData) (h : PE X e (tCB r (tA R Γ en m))) (hv : VN r dn ec f) (hf : ∀ x, en x = (dn x).map .fz := by intro _; rfl) :
    EJ X R Γ e ec (bindM m fun x => optM (f x)) := by
  refine PE.weak h fun σ H Q ⟨O, H0, ow, st, z, st', rel, ok, e, q⟩ => ?_
  obtain ⟨x, s1, e1, e3⟩ := bind_some e
  obtain ⟨e4, rfl⟩ := optM_inv e3
  refine ⟨O, H0, ow, st, x, s1, rel, ok, e1, fun vx H1 k1 o1 r1 => ?_⟩
  exact hv (avo O Γ ow) H1 x vx Q z (rel.grow k1 (okZ o1)).ad (RpSs.dat (by rw [hf] at r1; exact r1)) e4 fun v H3 s3 r3 => q v H3 (k1.trans (Keep.of_same s3)) (o1.same s3) r3
theorem f_many {es : List Expr} {r : List V → Hp → VK → Prop} {en : α → List Slot} {m : M α} {f : α → Option (List γ)} (dn : α → List PyData) (h : PE X e (tCB r (tA R Γ en m))) (hv : VNF r dn ec f) (hf : ∀ x, en x = (dn x).map .fz := by intro _; rfl) :
    EF X R Γ e ec (bindM m fun x => optM (f x)) := by
  refine PE.weak h fun σ H Q ⟨O, H0, ow, st, z, st', rel, ok, e, q⟩ => ?_
  obtain ⟨x, s1, e1, e3⟩ := bind_some e
  obtain ⟨e4, rfl⟩ := optM_inv e3
  refine ⟨O, H0, ow, st, x, s1, rel, ok, e1, fun vx H1 k1 o1 r1 => ?_⟩
  exact hv (avo O Γ ow) H1 x vx Q z (rel.grow k1 (okZ o1)).ad (RpSs.dat (by rw [hf] at r1; exact r1)) e4 fun p vs H3 n s3 e r3 => q p vs H3 (noneK k1 o1 n) (k1.trans (Keep.of_same s3)) (o1.same s3) e r3

/-! ### tests -/
theorem t_val {m : M Bool} (h : EJ X R Γ e eBool m) (he : ∀ whole, isTrue e X.env whole = (do let v ← whole; standAt e.pos; holding [v] (truthy v)) := by intro _; rfl) : TJ X R Γ e m := by
  refine PT.weak (pt_val h he) fun σ H Q ⟨O, H0, ow, st, z, st', rel, ok, e, q⟩ => ⟨O, H0, ow, st, z, st', rel, ok, e, fun v H1 k1 o1 r1 => ?_⟩
  cases r1
  exact ⟨z, rfl, q H1 k1 o1⟩
theorem t_not {m : M Bool} (h : TJ X R Γ a m) : TJ X R Γ (.UnaryOp .Not a pos) (bindM m fun b => pureM (!b)) := by
  refine PT.weak (pt_not h) fun σ H Q ⟨O, H0, ow, st, z, st', rel, ok, e, q⟩ => ?_
  obtain ⟨x, s1, e1, e2⟩ := bind_some e
  obtain ⟨rfl, rfl⟩ := pure_some e2
  exact ⟨O, H0, ow, st, x, s1, rel, ok, e1, q⟩
abbrev WJ (X : Cx) (R : Res) (Γ : List Slot) (e : Expr) (m : M Bool) : Prop := PW X e (tT R Γ m)
theorem w_t {m : M Bool} (h : WJ X R Γ e m) : TJ X R Γ e m := h.pt
theorem w_and1 {m : M Bool} (h : TJ X R Γ a m) : WJ X R Γ (.BoolOp .And [a] pos) m := pw_and1 h
theorem w_or1 {m : M Bool} (h : TJ X R Γ a m) : WJ X R Γ (.BoolOp .Or [a] pos) m := pw_or1 h
theorem w_and {rest : List Expr} {ma mb : M Bool} (ha : TJ X R Γ a ma) (hb : WJ X R Γ (.BoolOp .And (b :: rest) pos) mb) : WJ X R Γ (.BoolOp .And (a :: b :: rest) pos) (bindM ma fun x => if x then mb else pureM false) := by
  refine PW.weak (pw_and ha hb) fun σ H Q ⟨O, H0, ow, st, z, st', rel, ok, e, q⟩ => ?_
  obtain ⟨x, s1, e1, e2⟩ := bind_some e
  refine ⟨O, H0, ow, st, x, s1, rel, ok, e1, fun H1 k1 o1 => ?_⟩
  cases x with
  | true => exact ⟨O, H0, ow, s1, z, st', rel.grow k1 (okZ o1), o1, e2, fun H2 k2 o2 => q H2 (k1.trans k2) o2⟩
  | false =>
    obtain ⟨rfl, rfl⟩ := pure_some (show pureM false s1 = some (z, st') from e2)
    exact q H1 k1 o1
theorem w_or {rest : List Expr} {ma mb : M Bool} (ha : TJ X R Γ a ma) (hb : WJ X R Γ (.BoolOp .Or (b :: rest) pos) mb) : WJ X R Γ (.BoolOp .Or (a :: b :: rest) pos) (bindM ma fun x => if x then pureM true else mb) := by
  refine PW.weak (pw_or ha hb) fun σ H Q ⟨O, H0, ow, st, z, st', rel, ok, e, q⟩ => ?_
  obtain ⟨x, s1, e1, e2⟩ := bind_some e
  refine ⟨O, H0, ow, st, x, s1, rel, ok, e1, fun H1 k1 o1 => ?_⟩
  cases x with
  | false => exact ⟨O, H0, ow, s1, z, st', rel.grow k1 (okZ o1), o1, e2, fun H2 k2 o2 => q H2 (k1.trans k2) o2⟩
  | true =>
    obtain ⟨rfl, rfl⟩ := pure_some (show pureM true s1 = some (z, st') from e2)
    exact q H1 k1 o1
/-- .. as values -/
theorem e_one1 {op} {m : M Bool} (h : EJ X R Γ a eBool m) : EJ X R Γ (.BoolOp op [a] pos) eBool m := pe_one h
theorem e_and {rest : List Expr} {ma mb : M Bool} (ha : EJ X R Γ a eBool ma) (hb : EJ X R Γ (.BoolOp .And (b :: rest) pos) eBool mb) : EJ X R Γ (.BoolOp .And (a :: b :: rest) pos) eBool (bindM ma fun x => if x then mb else pureM false) := by
  refine PE.weak (pe_and ha hb) fun σ H Q ⟨O, H0, ow, st, z, st', rel, ok, e, q⟩ => ?_
  obtain ⟨x, s1, e1, e2⟩ := bind_some e
  refine ⟨O, H0, ow, st, x, s1, rel, ok, e1, fun v H1 k1 o1 r1 => ?_⟩
  cases r1
  refine ⟨x, rfl, ?_⟩
  cases x with
  | true => exact ⟨O, H0, ow, s1, z, st', rel.grow k1 (okZ o1), o1, e2, fun v H2 k2 o2 r => q v H2 (k1.trans k2) o2 r⟩
  | false =>
    obtain ⟨rfl, rfl⟩ := pure_some (show pureM false s1 = some (z, st') from e2)
    exact q _ H1 k1 o1 (.bl false)
theorem e_or {rest : List Expr} {ma mb : M Bool} (ha : EJ X R Γ a eBool ma) (hb : EJ X R Γ (.BoolOp .Or (b :: rest) pos) eBool mb) : EJ X R Γ (.BoolOp .Or (a :: b :: rest) pos) eBool (bindM ma fun x => if x then pureM true else mb) := by
  refine PE.weak (pe_or ha hb) fun σ H Q ⟨O, H0, ow, st, z, st', rel, ok, e, q⟩ => ?_
  obtain ⟨x, s1, e1, e2⟩ := bind_some e
  refine ⟨O, H0, ow, st, x, s1, rel, ok, e1, fun v H1 k1 o1 r1 => ?_⟩
  cases r1
  refine ⟨x, rfl, ?_⟩
  cases x with
  | false => exact ⟨O, H0, ow, s1, z, st', rel.grow k1 (okZ o1), o1, e2, fun v H2 k2 o2 r => q v H2 (k1.trans k2) o2 r⟩
  | true =>
    obtain ⟨rfl, rfl⟩ := pure_some (show pureM true s1 = some (z, st') from e2)
    exact q _ H1 k1 o1 (.bl true)
theorem e_not {m : M Bool} (h : EJ X R Γ a eBool m) : EJ X R Γ (.UnaryOp .Not a pos) eBool (bindM m fun b => pureM (!b)) := by
  refine PE.weak (pe_not h) fun σ H Q ⟨O, H0, ow, st, z, st', rel, ok, e, q⟩ => ?_
  obtain ⟨x, s1, e1, e2⟩ := bind_some e
  obtain ⟨rfl, rfl⟩ := pure_some e2
  exact ⟨O, H0, ow, st, x, s1, rel, ok, e1, fun v H1 k1 o1 r1 => by cases r1; exact ⟨x, rfl, q _ H1 k1 o1 (.bl _)⟩⟩
theorem e_if {mc : M Bool} {ma mb : M α} (hc : TJ X R Γ c mc) (ha : EJ X R Γ a ea ma) (hb : EJ X R Γ b ea mb) : EJ X R Γ (.IfExp c a b pos) ea (bindM mc fun x => if x then ma else mb) := by
  refine PE.weak (pe_ifExp hc ha hb) fun σ H Q ⟨O, H0, ow, st, z, st', rel, ok, e, q⟩ => ?_
  obtain ⟨x, s1, e1, e2⟩ := bind_some e
  refine ⟨O, H0, ow, st, x, s1, rel, ok, e1, fun H1 k1 o1 => ?_⟩
  cases x with
  | true => exact ⟨O, H0, ow, s1, z, st', rel.grow k1 (okZ o1), o1, e2, fun v H2 k2 o2 r => q v H2 (k1.trans k2) o2 r⟩
  | false => exact ⟨O, H0, ow, s1, z, st', rel.grow k1 (okZ o1), o1, e2, fun v H2 k2 o2 r => q v H2 (k1.trans k2) o2 r⟩
theorem f_if {mc : M Bool} {ma mb : M (List α)} (hc : TJ X R Γ c mc) (ha : EF X R Γ a ea ma) (hb : EF X R Γ b ea mb) : EF X R Γ (.IfExp c a b pos) ea (bindM mc fun x => if x then ma else mb) := by
  refine PE.weak (pe_ifExp hc ha hb) fun σ H Q ⟨O, H0, ow, st, z, st', rel, ok, e, q⟩ => ?_
  obtain ⟨x, s1, e1, e2⟩ := bind_some e
  refine ⟨O, H0, ow, st, x, s1, rel, ok, e1, fun H1 k1 o1 => ?_⟩
  cases x with
  | true => exact ⟨O, H0, ow, s1, z, st', rel.grow k1 (okZ o1), o1, e2, fun p vs H2 n k2 o2 e r => q p vs H2 (noneK k1 o1 n) (k1.trans k2) o2 e r⟩
  | false => exact ⟨O, H0, ow, s1, z, st', rel.grow k1 (okZ o1), o1, e2, fun p vs H2 n k2 o2 e r => q p vs H2 (noneK k1 o1 n) (k1.trans k2) o2 e r⟩
end
end Pz

namespace Pz
open PySem PySem.Spec PyProof.Rows L2

/-! ### what is forgotten, what is frozen -/
inductive Low : List Slot → List Slot → Prop
  | nil : Low [] []
  | un {s : Slot} {l r : List Slot} : Low l r → Low (s :: l) (.un :: r)
  | eq {s : Slot} {l r : List Slot} : Low l r → Low (s :: l) (s :: r)
  | fr {d : PyData} {l r : List Slot} : Low l r → Low (.ow d :: l) (.fz d :: r)
theorem Low.refl : ∀ Γ, Low Γ Γ
  | [] => .nil
  | _ :: r => .eq (Low.refl r)
theorem Low.at {Γ Γ' : List Slot} (h : Low Γ Γ') : ∀ i : Nat, (Γ[i]? = none ∧ Γ'[i]? = none) ∨ ∃ s, Γ[i]? = some s ∧ (Γ'[i]? = some .un ∨ Γ'[i]? = some s ∨ ∃ d, s = .ow d ∧ Γ'[i]? = some (.fz d)) := by
  induction h with
  | nil => intro i; exact .inl ⟨rfl, rfl⟩
  | un _ ih => intro i; cases i with
    | zero => exact .inr ⟨_, rfl, .inl rfl⟩
    | succ i => exact ih i
  | eq _ ih => intro i; cases i with
    | zero => exact .inr ⟨_, rfl, .inr (.inl rfl)⟩
    | succ i => exact ih i
  | fr _ ih => intro i; cases i with
    | zero => exact .inr ⟨_, rfl, .inr (.inr ⟨_, rfl, rfl⟩)⟩
    | succ i => exact ih i
theorem Low.length {Γ Γ' : List Slot} (h : Low Γ Γ') : Γ.length = Γ'.length := by induction h <;> simp_all
theorem Low.ow {Γ Γ' : List Slot} (h : Low Γ Γ') {i : Nat} {d : PyData} (e : Γ'[i]? = some (.ow d)) : Γ[i]? = some (.ow d) := by
  rcases h.at i with ⟨_, e2⟩ | ⟨s, e1, e2 | e2 | ⟨d', _, e2⟩⟩
  · rw [e] at e2; cases e2
  · rw [e] at e2; cases e2
  · rw [e] at e2; cases e2; exact e1
  · rw [e] at e2; cases e2
theorem Low.avo {O : Av} {ow : Nat → Addr} {Γ Γ' : List Slot} (h : Low Γ Γ') : ∀ a, avo O Γ' ow a → avo O Γ ow a := fun a z => by
  rcases z with z | ⟨i, d, e, q⟩
  · exact .inl z
  · exact .inr ⟨i, d, h.ow e, q⟩
theorem Rel.low {R : Res} {O : Av} {H0 H : Hp} {ow : Nat → Addr} {Γ Γ' : List Slot} {σ : L2.St} (r : Rel R O H0 ow Γ σ H) (h : Low Γ Γ') : Rel R O H0 ow Γ' σ H where
  len := h.length ▸ r.len
  hfz := fun i d e => by
    rcases h.at i with ⟨_, e2⟩ | ⟨s, e1, e2 | e2 | ⟨d', rfl, e2⟩⟩
    · rw [e] at e2; cases e2
    · rw [e] at e2; cases e2
    · rw [e] at e2; cases e2
      obtain ⟨v, a, b⟩ := r.hfz i d e1
      exact ⟨v, a, b.less h.avo⟩
    · rw [e] at e2; cases e2
      obtain ⟨a, b, c, f⟩ := r.how i d e1
      refine ⟨_, a, ?_⟩
      cases d with
      | list ds =>
        obtain ⟨vs, q1, q2⟩ := b
        refine .lst (fun z => ?_) q1 (q2.less h.avo)
        rcases z with z | ⟨j, d', e3, q⟩
        · exact c z
        · have := r.hinj j i _ _ (h.ow e3) e1 q
          subst this
          rw [e] at e3; cases e3
      | dict kvs =>
        obtain ⟨o, q1, q2⟩ := b
        refine .dic (fun z => ?_) q1 q2
        rcases z with z | ⟨j, d', e3, q⟩
        · exact c z
        · have := r.hinj j i _ _ (h.ow e3) e1 q
          subst this
          rw [e] at e3; cases e3
      | _ => exact b.elim
  how := fun i d e => let ⟨a, b, c, f⟩ := r.how i d (h.ow e); ⟨a, by
    cases d with
    | list ds => obtain ⟨vs, q1, q2⟩ := b; exact ⟨vs, q1, q2.less h.avo⟩
    | dict kvs => exact b
    | _ => exact b.elim, c, f⟩
  hsrc := fun i e => by
    rcases h.at i with ⟨_, e2⟩ | ⟨s, e1, e2 | e2 | ⟨d', rfl, e2⟩⟩
    · rw [e] at e2; cases e2
    · rw [e] at e2; cases e2
    · rw [e] at e2; cases e2; exact r.hsrc i e1
    · rw [e] at e2; cases e2
  hinj := fun i j d d' e1 e2 => r.hinj i j d d' (h.ow e1) (h.ow e2)
  same := r.same
  zsub := r.zsub
  odom := r.odom

/-! ### steps one behind the other -/
section
variable {R : Res} {O : Av} {H0 H H1 H2 : Hp} {ow ow1 ow2 : Nat → Addr} {Γ Γ1 Γ2 : List Slot} {σ : L2.St}
theorem Step.refl : Step O Γ ow H Γ ow H := ⟨Keep.refl H, fun i d e => .inl (.inr ⟨i, d, e, rfl⟩)⟩
theorem Step.trans (a : Step O Γ ow H Γ1 ow1 H1) (b : Step O Γ1 ow1 H1 Γ2 ow2 H2) : Step O Γ ow H Γ2 ow2 H2 where
  keep := fun x o n e => b.keep x o (fun z => by
    rcases z with z | ⟨i, d, e1, q⟩
    · exact n (.inl z)
    · subst q
      rcases a.sub i d e1 with z | z
      · exact n z
      · rw [e] at z; cases z) (a.keep x o n e)
  sub := fun i d e => by
    rcases b.sub i d e with z | z
    · rcases z with z | ⟨j, d', e1, q⟩
      · exact .inl (.inl z)
      · rw [← q]; exact a.sub j d' e1
    · by_cases n : avo O Γ ow (ow2 i)
      · exact .inl n
      · cases e1 : H (ow2 i) with
        | none => exact .inr rfl
        | some o => rw [a.keep _ o n e1] at z; cases z
/-- ahead of the step the heap grew -/
theorem Step.pre (k : Keep (avo O Γ ow) H H1) (b : Step O Γ ow H1 Γ2 ow2 H2) : Step O Γ ow H Γ2 ow2 H2 where
  keep := k.trans b.keep
  sub := fun i d e => by
    rcases b.sub i d e with z | z
    · exact .inl z
    · by_cases n : avo O Γ ow (ow2 i)
      · exact .inl n
      · cases e1 : H (ow2 i) with
        | none => exact .inr rfl
        | some o => rw [k _ o n e1] at z; cases z
theorem Step.low (h : Low Γ Γ1) (b : Step O Γ1 ow H Γ2 ow2 H2) : Step O Γ ow H Γ2 ow2 H2 where
  keep := b.keep.mono h.avo
  sub := fun i d e => by
    rcases b.sub i d e with z | z
    · exact .inl (h.avo _ z)
    · exact .inr z
theorem Step.lowR (h : Low Γ1 Γ2) (b : Step O Γ ow H Γ1 ow1 H1) : Step O Γ ow H Γ2 ow1 H1 where
  keep := b.keep
  sub := fun i d e => b.sub i d (h.ow e)
end

abbrev QJ {κ : Type} (X : Cx) (R : Res) (Γ : List Slot) (st : Stmt) (out : κ → OutD) (m : M κ) : Prop := PS X st (tS R Γ out m)
section
variable {α β γ κ ρ : Type} {ea : α → PyData} {ec : γ → PyData} {er : ρ → PyData} {X : Cx} {R : Res} {Γ Γ' : List Slot} {e c : Expr} {st : Stmt} {rest A B : List Stmt} {pos : Pos} {out : κ → OutD}

/-! ### blocks -/
theorem s_nil {k : κ} (hk : out k = .nx Γ') (h : Low Γ Γ') : SJ X R Γ [] out (pureM k) := by
  refine PSs.weak pss_nil fun D σ H ⟨O, H0, ow, st, z, st', rel, ok, e, q⟩ => ?_
  obtain ⟨rfl, rfl⟩ := pure_some e
  rw [hk] at q
  exact q ow σ H (rel.low h) ok (Step.refl.lowR h)
theorem s_low {m : M κ} (h : Low Γ Γ') (hs : SJ X R Γ' rest out m) : SJ X R Γ rest out m := by
  refine PSs.weak hs fun D σ H ⟨O, H0, ow, st, z, st', rel, ok, e, q⟩ => ⟨O, H0, ow, st, z, st', rel.low h, ok, e, ?_⟩
  revert q
  cases out z with
  | nx Γ2 => exact fun q ow' σ' H' a b c => q ow' σ' H' a b (c.low h)
  | rt d => exact fun q => q
theorem s_eq {m m' : M κ} (h : SJ X R Γ rest out m) (hm : m' = m) : SJ X R Γ rest out m' := hm ▸ h
theorem s_step {Γ1 : β → List Slot} {m1 : M β} {k : β → M κ} (h1 : QJ X R Γ st (fun b => .nx (Γ1 b)) m1) (h2 : ∀ b, SJ X R (Γ1 b) rest out (k b)) : SJ X R Γ (st :: rest) out (bindM m1 k) := by
  refine PSs.weak (pss_cons h1 (PSs.ex h2)) fun D σ H ⟨O, H0, ow, st, z, st', rel, ok, e, q⟩ => ?_
  obtain ⟨b, s1, e1, e2⟩ := bind_some e
  refine ⟨O, H0, ow, st, b, s1, rel, ok, e1, fun ow1 σ1 H1 r1 o1 p1 => ?_⟩
  refine ⟨b, O, H0, ow1, s1, z, st', r1, o1, e2, ?_⟩
  revert q
  cases out z with
  | nx Γ2 => exact fun q ow' σ' H' a b c => q ow' σ' H' a b (p1.trans c)
  | rt d => exact fun q => q
/-- a step that may return -/
def outO {ρ β : Type} (er : ρ → PyData) (Γ1 : β → List Slot) : Out ρ β → OutD
  | .nx b => .nx (Γ1 b)
  | .rt r => .rt (er r)
theorem s_stepO {Γ1 : β → List Slot} {m1 : M (Out ρ β)} {k : β → M κ} (f : ρ → κ) (h1 : QJ X R Γ st (outO er Γ1) m1) (h2 : ∀ b, SJ X R (Γ1 b) rest out (k b)) (hf : ∀ r, out (f r) = .rt (er r) := by intro _; rfl) :
    SJ X R Γ (st :: rest) out (bindM m1 fun o => match o with | .nx b => k b | .rt r => pureM (f r)) := by
  refine PSs.weak (pss_cons h1 (PSs.ex h2)) fun D σ H ⟨O, H0, ow, st, z, st', rel, ok, e, q⟩ => ?_
  obtain ⟨b, s1, e1, e2⟩ := bind_some e
  refine ⟨O, H0, ow, st, b, s1, rel, ok, e1, ?_⟩
  cases b with
  | nx b =>
    refine fun ow1 σ1 H1 r1 o1 p1 => ⟨b, O, H0, ow1, s1, z, st', r1, o1, e2, ?_⟩
    revert q
    cases out z with
    | nx Γ2 => exact fun q ow' σ' H' a b c => q ow' σ' H' a b (p1.trans c)
    | rt d => exact fun q => q
  | rt r =>
    obtain ⟨rfl, rfl⟩ := pure_some (show pureM (f r) s1 = some (z, st') from e2)
    rw [hf] at q
    exact q
theorem s_ret {enc : α → PyData} {m : M α} (f : α → κ) (he : EJ X R Γ e enc m) (hf : ∀ r, out (f r) = .rt (enc r) := by intro _; rfl) : SJ X R Γ (.Return (some e) pos :: rest) out (bindM m fun r => pureM (f r)) := by
  have h : PS X (.Return (some e) pos) _ := ps_ret he
  have h2 : PSs X (.Return (some e) pos :: rest) (tRet (tE R Γ enc m)) := by
    refine ⟨fun pins s σ H D I h' => ?_⟩
    refine wpAny_execs_cons (thn (h.run pins s σ H { D with nx := fun _ _ => False, bk := fun _ _ => False, ct := fun _ _ => False } I h') fun f s1 q => ?_)
    cases f with
    | next => exact q.elim fun _ ⟨_, _, z⟩ => z.elim
    | ret v => exact q
    | brk => exact q.elim fun _ ⟨_, _, z⟩ => z.elim
    | cont => exact q.elim fun _ ⟨_, _, z⟩ => z.elim
  refine PSs.weak h2 fun D σ H ⟨O, H0, ow, st, z, st', rel, ok, e, q⟩ => ?_
  obtain ⟨r, s1, e1, e2⟩ := bind_some e
  obtain ⟨rfl, rfl⟩ := pure_some e2
  rw [hf] at q
  exact ⟨O, H0, ow, st, r, s1, rel, ok, e1, fun v H' k o rp => q v H' (rel.same.trans k) o (rp.less fun a z => .inl z)⟩
/-- if c: .. that always returns -/
theorem s_ifret {outA : ρ → OutD} {mc : M Bool} {mA : M ρ} {mR : M κ} (f : ρ → κ) (hc : TJ X R Γ c mc) (hA : SJ X R Γ A outA mA) (hr : ∀ r, ∃ d, outA r = .rt d) (hf : ∀ r, out (f r) = outA r) (hR : SJ X R Γ rest out mR) :
    SJ X R Γ (.If c A [] pos :: rest) out (bindM mc fun k => if k then bindM mA (fun r => pureM (f r)) else mR) := by
  refine PSs.weak (pss_cons (ps_if hc hA pss_nil) hR) fun D σ H ⟨O, H0, ow, st, z, st', rel, ok, e, q⟩ => ?_
  obtain ⟨b, s1, e1, e2⟩ := bind_some e
  refine ⟨O, H0, ow, st, b, s1, rel, ok, e1, fun H1 k1 o1 => ?_⟩
  cases b with
  | true =>
    obtain ⟨r, s2, e3, e4⟩ := bind_some (show bindM mA (fun r => pureM (f r)) s1 = some (z, st') from e2)
    obtain ⟨rfl, rfl⟩ := pure_some e4
    refine ⟨O, H0, ow, s1, r, s2, rel.grow k1 (okZ o1), o1, e3, ?_⟩
    obtain ⟨d, hd⟩ := hr r
    rw [hf r] at q
    rw [hd] at q ⊢
    exact q
  | false =>
    refine ⟨O, H0, ow, s1, z, st', rel.grow k1 (okZ o1), o1, e2, ?_⟩
    revert q
    cases out z with
    | nx Γ2 => exact fun q ow' σ' H' a b c => q ow' σ' H' a b (c.pre (rel.keepA k1))
    | rt d => exact fun q => q
theorem s_ifret1 {mc : M Bool} {mA mR : M ρ} (hc : TJ X R Γ c mc) (hA : SJ X R Γ A (fun r => .rt (er r)) mA) (hR : SJ X R Γ rest (fun r => .rt (er r)) mR) :
    SJ X R Γ (.If c A [] pos :: rest) (fun r => .rt (er r)) (bindM mc fun k => if k then mA else mR) := by
  have := s_ifret (pos := pos) (out := fun r => .rt (er r)) (f := id) hc hA (fun r => ⟨_, rfl⟩) (fun _ => rfl) hR
  simpa using this
/-- an if that ends a block -/
theorem s_ifend {mc : M Bool} {mA mB : M κ} (hc : TJ X R Γ c mc) (hA : SJ X R Γ A out mA) (hB : SJ X R Γ B out mB) : SJ X R Γ [.If c A B pos] out (bindM mc fun k => if k then mA else mB) := by
  refine PSs.weak (pss_one (ps_if hc hA hB)) fun D σ H ⟨O, H0, ow, st, z, st', rel, ok, e, q⟩ => ?_
  obtain ⟨b, s1, e1, e2⟩ := bind_some e
  refine ⟨O, H0, ow, st, b, s1, rel, ok, e1, fun H1 k1 o1 => ?_⟩
  have q' : ∀ x, x = out z → (match x with
    | .nx Γ' => ∀ ow' σ' H', Rel R O H0 ow' Γ' σ' H' → okR R st' H' → Step O Γ ow H1 Γ' ow' H' → D.nx σ' H'
    | .rt d => ∀ v H', Keep (Zr R) H0 H' → okR R st' H' → Rp O H' v d → D.rt v H') := by
    rintro x rfl
    revert q
    cases out z with
    | nx Γ2 => exact fun q ow' σ' H' a b c => q ow' σ' H' a b (c.pre (rel.keepA k1))
    | rt d => exact fun q => q
  cases b with
  | true => exact ⟨O, H0, ow, s1, z, st', rel.grow k1 (okZ o1), o1, e2, q' _ rfl⟩
  | false => exact ⟨O, H0, ow, s1, z, st', rel.grow k1 (okZ o1), o1, e2, q' _ rfl⟩
theorem q_if {mc : M Bool} {mA mB : M κ} (hc : TJ X R Γ c mc) (hA : SJ X R Γ A out mA) (hB : SJ X R Γ B out mB) : QJ X R Γ (.If c A B pos) out (bindM mc fun k => if k then mA else mB) := by
  refine PS.weak (ps_if hc hA hB) fun D σ H ⟨O, H0, ow, st, z, st', rel, ok, e, q⟩ => ?_
  obtain ⟨b, s1, e1, e2⟩ := bind_some e
  refine ⟨O, H0, ow, st, b, s1, rel, ok, e1, fun H1 k1 o1 => ?_⟩
  have q' : ∀ x, x = out z → (match x with
    | .nx Γ' => ∀ ow' σ' H', Rel R O H0 ow' Γ' σ' H' → okR R st' H' → Step O Γ ow H1 Γ' ow' H' → D.nx σ' H'
    | .rt d => ∀ v H', Keep (Zr R) H0 H' → okR R st' H' → Rp O H' v d → D.rt v H') := by
    rintro x rfl
    revert q
    cases out z with
    | nx Γ2 => exact fun q ow' σ' H' a b c => q ow' σ' H' a b (c.pre (rel.keepA k1))
    | rt d => exact fun q => q
  cases b with
  | true => exact ⟨O, H0, ow, s1, z, st', rel.grow k1 (okZ o1), o1, e2, q' _ rfl⟩
  | false => exact ⟨O, H0, ow, s1, z, st', rel.grow k1 (okZ o1), o1, e2, q' _ rfl⟩

/-! ### slots set -/
theorem Rel.setFz {O : Av} {H0 H : Hp} {ow : Nat → Addr} {σ : L2.St} (r : Rel R O H0 ow Γ σ H) (i : Nat) {v : V} {d : PyData} (rp : Rp (Pz.avo O Γ ow) H v d) : Rel R O H0 ow (Γ.set i (.fz d)) (σ.set i (some v)) H := by
  have sub : ∀ (j : Nat) (d' : PyData), (Γ.set i (.fz d))[j]? = some (.ow d') → j ≠ i ∧ Γ[j]? = some (.ow d') := fun j d' e => by
    by_cases h : i = j
    · subst h
      rw [List.getElem?_set_self'] at e
      cases h : Γ[i]? <;> rw [h] at e <;> cases e
    · rw [List.getElem?_set_ne h] at e; exact ⟨fun z => h z.symm, e⟩
  have less : ∀ a, Pz.avo O (Γ.set i (.fz d)) ow a → Pz.avo O Γ ow a := fun a z => by
    rcases z with z | ⟨j, d', e, q⟩
    · exact .inl z
    · exact .inr ⟨j, d', (sub j d' e).2, q⟩
  refine ⟨by rw [List.length_set, List.length_set]; exact r.len, fun j d' e => ?_, fun j d' e => ?_, fun j e => ?_, fun j k d1 d2 e1 e2 => r.hinj j k d1 d2 (sub _ _ e1).2 (sub _ _ e2).2, r.same, r.zsub, r.odom⟩
  · by_cases h : i = j
    · subst h
      rw [List.getElem?_set_self'] at e
      cases h : Γ[i]? with
      | none => rw [h] at e; cases e
      | some s =>
        rw [h] at e
        have e' : d = d' := by cases e; rfl
        subst e'
        have hl : i < σ.length := by rw [← r.len]; exact (List.getElem?_eq_some_iff.mp h).1
        exact ⟨v, List.getElem?_set_self hl, rp.less less⟩
    · rw [List.getElem?_set_ne h] at e
      obtain ⟨w, a, b⟩ := r.hfz j d' e
      exact ⟨w, by rw [List.getElem?_set_ne h]; exact a, b.less less⟩
  · obtain ⟨n, e⟩ := sub j d' e
    obtain ⟨a, b, c, f⟩ := r.how j d' e
    refine ⟨by rw [List.getElem?_set_ne fun z => n z.symm]; exact a, ?_, c, f⟩
    cases d' with
    | list ds => obtain ⟨vs, q1, q2⟩ := b; exact ⟨vs, q1, q2.less less⟩
    | dict kvs => exact b
    | _ => exact b.elim
  · by_cases h : i = j
    · subst h
      rw [List.getElem?_set_self'] at e
      cases h : Γ[i]? <;> rw [h] at e <;> cases e
    · rw [List.getElem?_set_ne h] at e
      obtain ⟨a, c, e1, e2⟩ := r.hsrc j e
      exact ⟨a, c, e1, by rw [List.getElem?_set_ne h]; exact e2⟩
theorem Step.setFz {O : Av} {H H' : Hp} {ow : Nat → Addr} (i : Nat) (d : PyData) (k : Keep (Pz.avo O Γ ow) H H') : Step O Γ ow H (Γ.set i (.fz d)) ow H' := ⟨k, fun j d' e => by
  by_cases h : i = j
  · subst h
    rw [List.getElem?_set_self'] at e
    cases h : Γ[i]? <;> rw [h] at e <;> cases e
  · rw [List.getElem?_set_ne h] at e; exact .inl (.inr ⟨j, d', e, rfl⟩)⟩
theorem q_set (i : Nat) {x : Str} {pos' : Pos} {enc : α → PyData} {m : M α} (he : EJ X R Γ e enc m) (hN : X.N.Nodup) (hi : X.N[i]? = some x := by rfl) (hx : Loc X.env.scope x := by first | exact Or.inl rfl | exact Or.inr rfl)
    (hs : swapsWith e (some (.Name x pos')) pos.line X.env = pure false := by rfl) (hf : X.fn x = true ∨ X.env.scope.names.lookup x = some .local := by first | exact .inl rfl | exact .inr rfl) :
    QJ X R Γ (.Assign [.Name x pos'] e pos) (fun r => .nx (Γ.set i (.fz (enc r)))) m := by
  refine PS.weak (ps_set hN hi hx he hs hf) fun D σ H ⟨O, H0, ow, st, z, st', rel, ok, e, q⟩ => ⟨O, H0, ow, st, z, st', rel, ok, e, fun v H' k o rp => ?_⟩
  exact q ow _ H' ((rel.grow k (okZ o)).setFz i rp) o (Step.setFz i _ (rel.keepA k))

/-- a new list at a slot -/
theorem Rel.setOw {O : Av} {H0 H H' : Hp} {ow : Nat → Addr} {σ : L2.St} (r : Rel R O H0 ow Γ σ H) (i : Nat) {p : Addr} {ds : List PyData} {vs : List V} (n : H p = none) (k : Keep (Zr R) H H') (z : ∀ a, Zr R a → NT (H' a)) (hp : H' p = some (.lst vs)) (rp : RpAll (avp (Pz.avo O Γ ow) p) H' vs ds) :
    Rel R O H0 (fun j => if j = i then p else ow j) (Γ.set i (.ow (.list ds))) (σ.set i (some (.ref p))) H' ∧ Step O Γ ow H (Γ.set i (.ow (.list ds))) (fun j => if j = i then p else ow j) H' := by
  have r' := r.grow k z
  have n1 : ¬ Pz.avo O Γ ow p := r.ad.fresh n
  have n0 : H0 p = none := by
    cases h : H0 p with
    | none => rfl
    | some u =>
      by_cases z1 : Zr R p
      · exact absurd (r.zavo z1) n1
      · rw [r.same p u z1 h] at n; cases n
  have sub : ∀ (j : Nat) (d' : PyData), (Γ.set i (.ow (.list ds)))[j]? = some (.ow d') → (j = i ∧ d' = .list ds ∧ i < Γ.length) ∨ (j ≠ i ∧ Γ[j]? = some (.ow d')) := fun j d' e => by
    by_cases h : i = j
    · subst h
      rw [List.getElem?_set_self'] at e
      cases h : Γ[i]? with
      | none => rw [h] at e; cases e
      | some s => rw [h] at e; refine .inl ⟨rfl, by cases e; rfl, (List.getElem?_eq_some_iff.mp h).1⟩
    · rw [List.getElem?_set_ne h] at e; exact .inr ⟨fun z => h z.symm, e⟩
  have less : ∀ a, Pz.avo O (Γ.set i (.ow (.list ds))) (fun j => if j = i then p else ow j) a → avp (Pz.avo O Γ ow) p a := fun a z => by
    rcases z with z | ⟨j, d', e, q⟩
    · exact .inl (.inl z)
    · rcases sub j d' e with ⟨rfl, _, _⟩ | ⟨n, e⟩
      · simp at q; exact .inr q.symm
      · simp [n] at q; exact .inl (.inr ⟨j, d', e, q⟩)
  have own' : ∀ (j : Nat) (d : PyData), Γ[j]? = some (.ow d) → ow j ≠ p := fun j d e z => n1 (.inr ⟨j, d, e, z⟩)
  have kA := r.keepA k
  refine ⟨⟨by rw [List.length_set, List.length_set]; exact r.len, fun j d' e => ?_, fun j d' e => ?_, fun j e => ?_, fun j k d1 d2 e1 e2 q => ?_, r'.same, r.zsub, r'.odom⟩, ⟨kA, fun j d' e => ?_⟩⟩
  · by_cases h : i = j
    · subst h
      rw [List.getElem?_set_self'] at e
      cases h : Γ[i]? <;> rw [h] at e <;> cases e
    · rw [List.getElem?_set_ne h] at e
      obtain ⟨w, a, b⟩ := r.hfz j d' e
      exact ⟨w, by rw [List.getElem?_set_ne h]; exact a, (b.at (p := p) n kA).less less⟩
  · rcases sub j d' e with ⟨rfl, rfl, hl⟩ | ⟨nj, e⟩
    · have hl' : j < σ.length := by rw [← r.len]; exact hl
      refine ⟨by simp [hl'], ⟨vs, by simp [hp], rp.less less⟩, by simp; exact fun z => n1 (.inl z), by simp [n0]⟩
    · obtain ⟨a, b, c, f⟩ := r.how j d' e
      simp only [nj, if_false]
      refine ⟨by rw [List.getElem?_set_ne fun z => nj z.symm]; exact a, ?_, c, f⟩
      cases d' with
      | list ds =>
        obtain ⟨vs, q1, q2⟩ := b
        exact ⟨vs, k _ _ (fun z => c (r.zsub _ z)) q1, (q2.at (p := p) n kA).less less⟩
      | dict kvs =>
        obtain ⟨o, q1, q2⟩ := b
        exact ⟨o, k _ _ (fun z => c (r.zsub _ z)) q1, q2⟩
      | _ => exact b.elim
  · by_cases h : i = j
    · subst h
      rw [List.getElem?_set_self'] at e
      cases h : Γ[i]? <;> rw [h] at e <;> cases e
    · rw [List.getElem?_set_ne h] at e
      obtain ⟨a, c, e1, e2⟩ := r.hsrc j e
      exact ⟨a, c, e1, by rw [List.getElem?_set_ne h]; exact e2⟩
  · rcases sub j d1 e1 with ⟨rfl, _, _⟩ | ⟨nj, f1⟩ <;> rcases sub k d2 e2 with ⟨rfl, _, _⟩ | ⟨nk, f2⟩
    · rfl
    · simp [nk] at q; exact absurd q.symm (own' k _ f2)
    · simp [nj] at q; exact absurd q (own' j _ f1)
    · simp [nj, nk] at q; exact r.hinj j k _ _ f1 f2 q
  · rcases sub j d' e with ⟨rfl, _, _⟩ | ⟨nj, e⟩
    · simp [n]
    · simp only [nj, if_false]; exact .inl (.inr ⟨j, d', e, rfl⟩)
theorem q_setF (i : Nat) {x : Str} {pos' : Pos} {m : M (List γ)} (he : EF X R Γ e ec m) (hN : X.N.Nodup) (hi : X.N[i]? = some x := by rfl) (hx : Loc X.env.scope x := by first | exact Or.inl rfl | exact Or.inr rfl)
    (hs : swapsWith e (some (.Name x pos')) pos.line X.env = pure false := by rfl) (hf : X.fn x = true ∨ X.env.scope.names.lookup x = some .local := by first | exact .inl rfl | exact .inr rfl) :
    QJ X R Γ (.Assign [.Name x pos'] e pos) (fun r => .nx (Γ.set i (.ow (eL ec r)))) m := by
  refine PS.weak (ps_set hN hi hx he hs hf) fun D σ H ⟨O, H0, ow, st, z, st', rel, ok, e, q⟩ => ⟨O, H0, ow, st, z, st', rel, ok, e, fun p vs H' n k o ep rp => ?_⟩
  obtain ⟨r1, s1⟩ := rel.setOw i n k (okZ o) ep rp
  exact q _ _ H' r1 o s1
end
end Pz

namespace Pz
open PySem PySem.Spec PyProof.Rows L2

section
variable {α β γ κ ρ ι : Type} {ea : α → PyData} {ec : γ → PyData} {er : ρ → PyData} {ei : ι → PyData} {X : Cx} {R : Res} {Γ Γ' : List Slot} {e c : Expr} {st : Stmt} {rest A B : List Stmt} {pos : Pos} {out : κ → OutD}
/-! ### own lists changed -/
theorem set_ow {Γ : List Slot} {i : Nat} {d d0 : PyData} (h : Γ[i]? = some (.ow d0)) {j : Nat} {d' : PyData} (e : (Γ.set i (.ow d))[j]? = some (.ow d')) : (j = i ∧ d' = d) ∨ (j ≠ i ∧ Γ[j]? = some (.ow d')) := by
  by_cases hj : i = j
  · subst hj
    rw [List.getElem?_set_self', h] at e
    cases e
    exact .inl ⟨rfl, rfl⟩
  · rw [List.getElem?_set_ne hj] at e; exact .inr ⟨fun z => hj z.symm, e⟩
theorem Rel.updOw {O : Av} {H0 H : Hp} {ow : Nat → Addr} {σ : L2.St} (r : Rel R O H0 ow Γ σ H) {i : Nat} {d0 : PyData} {ds : List PyData} {vs : List V} (h : Γ[i]? = some (.ow d0)) (rp : RpAll (Pz.avo O Γ ow) H vs ds) :
    Rel R O H0 ow (Γ.set i (.ow (.list ds))) σ (upd H (ow i) (.lst vs)) ∧ Step O Γ ow H (Γ.set i (.ow (.list ds))) ow (upd H (ow i) (.lst vs)) := by
  have av : ∀ a, Pz.avo O (Γ.set i (.ow (.list ds))) ow a → Pz.avo O Γ ow a := fun a z => by
    rcases z with z | ⟨j, d', e, q⟩
    · exact .inl z
    · rcases set_ow h e with ⟨rfl, _⟩ | ⟨_, e⟩
      · exact .inr ⟨j, d0, h, q⟩
      · exact .inr ⟨j, d', e, q⟩
  have k : Keep (Pz.avo O Γ ow) H (upd H (ow i) (.lst vs)) := fun a o n e => by
    rw [upd_ne (fun z => n (.inr ⟨i, d0, h, z.symm⟩))]; exact e
  obtain ⟨hs, _, nO, n0⟩ := r.how i d0 h
  refine ⟨⟨by rw [List.length_set]; exact r.len, fun j d' e => ?_, fun j d' e => ?_, fun j e => ?_, fun j k d1 d2 e1 e2 q => ?_, fun a o z e => ?_, r.zsub, fun a z => ?_⟩, ⟨k, fun j d' e => .inl ?_⟩⟩
  · by_cases hj : i = j
    · subst hj
      rw [List.getElem?_set_self', h] at e; cases e
    · rw [List.getElem?_set_ne hj] at e
      obtain ⟨w, a, b⟩ := r.hfz j d' e
      exact ⟨w, a, (b.keep k).less av⟩
  · rcases set_ow h e with ⟨rfl, rfl⟩ | ⟨nj, e⟩
    · exact ⟨hs, ⟨vs, upd_same, (rp.keep k).less av⟩, nO, n0⟩
    · obtain ⟨a, b, c, f⟩ := r.how j d' e
      refine ⟨a, ?_, c, f⟩
      cases d' with
      | list ds2 =>
        obtain ⟨vs2, q1, q2⟩ := b
        exact ⟨vs2, by rw [upd_ne (fun z => nj (r.hinj j i _ _ e h z))]; exact q1, (q2.keep k).less av⟩
      | dict kvs =>
        obtain ⟨o, q1, q2⟩ := b
        exact ⟨o, by rw [upd_ne (fun z => nj (r.hinj j i _ _ e h z))]; exact q1, q2⟩
      | _ => exact b.elim
  · by_cases hj : i = j
    · subst hj
      rw [List.getElem?_set_self', h] at e; cases e
    · rw [List.getElem?_set_ne hj] at e
      exact r.hsrc j e
  · rcases set_ow h e1 with ⟨rfl, _⟩ | ⟨_, f1⟩ <;> rcases set_ow h e2 with ⟨rfl, _⟩ | ⟨_, f2⟩
    · rfl
    · exact r.hinj _ _ _ _ h f2 q
    · exact r.hinj _ _ _ _ f1 h q
    · exact r.hinj _ _ _ _ f1 f2 q
  · have e1 := r.same a o z e
    rw [upd_ne (fun q => by rw [q, n0] at e; cases e)]; exact e1
  · by_cases q : a = ow i
    · rw [q, upd_same]; exact NT.of fun _ => by simp
    · rw [upd_ne q]; exact r.odom a z
  · rcases set_ow h e with ⟨rfl, _⟩ | ⟨_, e⟩
    · exact .inr ⟨j, d0, h, rfl⟩
    · exact .inr ⟨j, d', e, rfl⟩
/-- the draws don't stand in what is owned -/
theorem Rel.okUpd {O : Av} {H0 H : Hp} {ow : Nat → Addr} {σ : L2.St} {u : Src} (r : Rel R O H0 ow Γ σ H) (ok : okR R u H) {i : Nat} {d0 : PyData} {o : HO} (h : Γ[i]? = some (.ow d0)) : okR R u (upd H (ow i) o) :=
  ok.keep fun a o' z e => by
    rw [upd_ne (fun q => (r.how i d0 h).2.2.1 (by rw [← q]; exact r.zsub a z))]; exact e
def appM {α : Type} (xs : List α) (x : α) : M (List α) := if xs.length < sizeLine then pureM (xs ++ [x]) else failM
def extM {α : Type} (xs ys : List α) : M (List α) := if xs.length + ys.length ≤ sizeLine then pureM (xs ++ ys) else failM
theorem if_some {α : Type} {c : Prop} [Decidable c] {a b : α} {s t : Src} (h : (if c then pureM a else failM) s = some (b, t)) : c ∧ a = b ∧ s = t := by
  by_cases hc : c
  · rw [if_pos hc] at h; exact ⟨hc, pure_some h⟩
  · rw [if_neg hc] at h; cases h
theorem tyL {K : PySem.W.Frag} {H : Hp} {p : Addr} {vs : List V} (h : H p = some (.lst vs)) : tyV K "list" (.ref p) H := Or.inl ⟨rfl, _, Or.inl (Or.inl h)⟩
theorem q_app (i : Nat) {x : Str} {p1 p2 p3 : Pos} (xs : List γ) {m : M γ} (he : EJ X R Γ e ec m) (hΓ : Γ[i]? = some (.ow (eL ec xs)) := by rfl) (hN : X.N[i]? = some x := by rfl)
    (hv : Vis X.env.scope x := by first | exact Or.inl rfl | exact Or.inr (Or.inl rfl) | exact Or.inr (Or.inr rfl))
    (hd : (x == ("__debug__" : Str)) = false := by decide) (hcd : (x == ("__classdict__" : Str)) = false := by decide)
    (hbase : attributeBase (.Name x p1) "append" X.env (eval (.Name x p1) X.env) = eval (.Name x p1) X.env := by rfl)
    (hfew : ((backTo p3 (starEach [e] X.env)).all (fun x => !x.1) && (backToKw p3 (keywordEach [] X.env)).all (fun x => x.1.isSome)
      && decide (([e] : List Expr).length + ([] : List Keyword).length + (if ([] : List Keyword).isEmpty then 0 else 1) < 30)) = true := by rfl)
    (hline : (p2.endLine == p3.line) = true := by rfl) (hs : starEach [e] X.env = (false, eval e X.env) :: starEach [] X.env := by rfl)
    (hsw : swapsWith (.Call (.Attribute (.Name x p1) "append" p2) [e] [] p3) none pos.line X.env = pure false := by rfl) :
    QJ X R Γ (.Expr (.Call (.Attribute (.Name x p1) "append" p2) [e] [] p3) pos) (fun b => .nx (Γ.set i (.ow (eL ec b)))) (bindM m fun y => appM xs y) := by
  refine PS.weak (ps_expr (pe_bm PySem.F.plainAttrs_list PySem.F.slot_list_append PySem.F.type_list_append mt_append (pe_var hN hv hd hcd) (pa_cons he pa_nil hs) hbase hfew hline hs rfl) hsw) fun D σ H ⟨O, H0, ow, st, z, st', rel, ok, e, q⟩ => ?_
  obtain ⟨y, s1, e1, e2⟩ := bind_some e
  obtain ⟨hl, rfl, rfl⟩ := if_some e2
  obtain ⟨hσ, ⟨vs, hp, rv⟩, nO, n0⟩ := rel.how i _ hΓ
  refine ⟨_, hσ, tyL hp, O, H0, ow, st, y, s1, rel, ok, e1, fun v H1 k o rp => ?_⟩
  have rel1 := rel.grow k (okZ o)
  have hp1 : H1 (ow i) = some (.lst vs) := k _ _ (fun z => nO (rel.zsub _ z)) hp
  refine ⟨ow i, vs, v, rfl, rfl, hp1, by rw [rv.length, List.length_map]; exact hl, ?_⟩
  have rv1 : RpAll (avo O Γ ow) H1 (vs ++ [v]) ((xs ++ [y]).map ec) := by
    rw [List.map_append]; exact (rv.keep (rel.keepA k)).append (.cons rp .nil)
  obtain ⟨r2, s2⟩ := rel1.updOw hΓ rv1
  exact q ow σ _ r2 (rel1.okUpd o hΓ) (s2.pre (rel.keepA k))
theorem q_ext (i : Nat) {x : Str} {p1 p2 p3 : Pos} (xs : List γ) {m : M (List γ)} (he : EJ X R Γ e (eL ec) m) (hΓ : Γ[i]? = some (.ow (eL ec xs)) := by rfl) (hN : X.N[i]? = some x := by rfl)
    (hv : Vis X.env.scope x := by first | exact Or.inl rfl | exact Or.inr (Or.inl rfl) | exact Or.inr (Or.inr rfl))
    (hd : (x == ("__debug__" : Str)) = false := by decide) (hcd : (x == ("__classdict__" : Str)) = false := by decide)
    (hbase : attributeBase (.Name x p1) "extend" X.env (eval (.Name x p1) X.env) = eval (.Name x p1) X.env := by rfl)
    (hfew : ((backTo p3 (starEach [e] X.env)).all (fun x => !x.1) && (backToKw p3 (keywordEach [] X.env)).all (fun x => x.1.isSome)
      && decide (([e] : List Expr).length + ([] : List Keyword).length + (if ([] : List Keyword).isEmpty then 0 else 1) < 30)) = true := by rfl)
    (hline : (p2.endLine == p3.line) = true := by rfl) (hs : starEach [e] X.env = (false, eval e X.env) :: starEach [] X.env := by rfl)
    (hsw : swapsWith (.Call (.Attribute (.Name x p1) "extend" p2) [e] [] p3) none pos.line X.env = pure false := by rfl) :
    QJ X R Γ (.Expr (.Call (.Attribute (.Name x p1) "extend" p2) [e] [] p3) pos) (fun b => .nx (Γ.set i (.ow (eL ec b)))) (bindM m fun y => extM xs y) := by
  refine PS.weak (ps_expr (pe_bm PySem.F.plainAttrs_list PySem.F.slot_list_extend PySem.F.type_list_extend mt_extend (pe_var hN hv hd hcd) (pa_cons he pa_nil hs) hbase hfew hline hs rfl) hsw) fun D σ H ⟨O, H0, ow, st, z, st', rel, ok, e, q⟩ => ?_
  obtain ⟨y, s1, e1, e2⟩ := bind_some e
  obtain ⟨hl, rfl, rfl⟩ := if_some e2
  obtain ⟨hσ, ⟨vs, hp, rv⟩, nO, n0⟩ := rel.how i _ hΓ
  refine ⟨_, hσ, tyL hp, O, H0, ow, st, y, s1, rel, ok, e1, fun v H1 k o rp => ?_⟩
  have rel1 := rel.grow k (okZ o)
  have hp1 : H1 (ow i) = some (.lst vs) := k _ _ (fun z => nO (rel.zsub _ z)) hp
  cases rp with
  | @lst b zs _ nb hb rb =>
    refine ⟨ow i, b, vs, zs, rfl, rfl, hp1, hb, by rw [rv.length, rb.length, List.length_map, List.length_map]; exact hl, ?_⟩
    have rv1 : RpAll (avo O Γ ow) H1 (vs ++ zs) ((xs ++ y).map ec) := by
      rw [List.map_append]; exact (rv.keep (rel.keepA k)).append rb
    obtain ⟨r2, s2⟩ := rel1.updOw hΓ rv1
    exact q ow σ _ r2 (rel1.okUpd o hΓ) (s2.pre (rel.keepA k))

/-! ### an own list is read: nothing of it goes on -/
mutual
def noL : PyData → Bool
  | .list _ => false
  | .dict _ => false
  | .tuple ds => noLs ds
  | _ => true
def noLs : List PyData → Bool
  | [] => true
  | d :: ds => noL d && noLs ds
end
mutual
theorem noL_rp {A A' : Av} {H : Hp} (ht : ∀ a xs, ¬ A a → H a = some (.tup xs) → ¬ A' a) : ∀ (d : PyData) (v : V), noL d = true → Rp A H v d → Rp A' H v d
  | .none, _, _, r => by cases r; exact .non
  | .bool b, _, _, r => by cases r; exact .bl b
  | .int i, _, _, r => by cases r; exact .int i
  | .str x, _, _, r => by cases r; exact .str x
  | .list _, _, h, _ => by simp [noL] at h
  | .tuple ds, _, h, r => by
    cases r with
    | tup h1 h2 h3 => exact .tup (ht _ _ h1 h2) h2 (noLs_rp ht ds _ (by simpa [noL] using h) h3)
  | .dict _, _, h, _ => by simp [noL] at h
theorem noLs_rp {A A' : Av} {H : Hp} (ht : ∀ a xs, ¬ A a → H a = some (.tup xs) → ¬ A' a) : ∀ (ds : List PyData) (vs : List V), noLs ds = true → RpAll A H vs ds → RpAll A' H vs ds
  | [], _, _, r => by cases r; exact .nil
  | d :: ds, _, h, r => by
    simp only [noLs, Bool.and_eq_true] at h
    cases r with
    | cons h1 h2 => exact .cons (noL_rp ht d _ h.1 h1) (noLs_rp ht ds _ h.2 h2)
end
def NL {α : Type} (e : α → PyData) : Prop := ∀ x, noL (e x) = true
theorem NL.int : NL eInt := fun _ => rfl
theorem NL.bool : NL eBool := fun _ => rfl
theorem NL.str : NL eStr := fun _ => rfl
theorem NL.non : NL eNon := fun _ => rfl
theorem NL.all {e : α → PyData} (h : NL e) : ∀ xs : List α, noLs (xs.map e) = true
  | [] => rfl
  | x :: xs => by simp [noLs, h x, NL.all h xs]
theorem NL.tup {e : α → PyData} (h : NL e) : NL (eT e) := fun xs => by simp [eT, noL, NL.all h xs]
theorem NL.opt {e : α → PyData} (h : NL e) : NL (eO e) := fun x => by cases x with
  | none => rfl
  | some x => exact h x
def NLs {α : Type} (f : α → List PyData) : Prop := ∀ x, noLs (f x) = true
theorem NLs.nil : NLs eU := fun _ => rfl
theorem NLs.cons {e : α → PyData} {f : β → List PyData} (h : NL e) (k : NLs f) : NLs (eC e f) := fun p => by simp [eC, noLs, h p.1, k p.2]
theorem NL.pr {f : α → List PyData} (h : NLs f) : NL (eP f) := fun p => by simp [eP, noL, h p]
theorem set_fz {Γ : List Slot} {i : Nat} {d d0 : PyData} (h : Γ[i]? = some (.ow d0)) {a : Addr} {O : Av} {ow : Nat → Addr} (z : avo O Γ ow a) : avo O (Γ.set i (.fz d)) ow a ∨ a = ow i := by
  rcases z with z | ⟨j, d', e, q⟩
  · exact .inl (.inl z)
  · by_cases hj : i = j
    · subst hj; exact .inr q.symm
    · exact .inl (.inr ⟨j, d', by rw [List.getElem?_set_ne hj]; exact e, q⟩)
theorem low_fr {Γ : List Slot} : ∀ {i : Nat} {d : PyData}, Γ[i]? = some (.ow d) → Low Γ (Γ.set i (.fz d)) := by
  induction Γ with
  | nil => intro i d h; simp at h
  | cons s r ih =>
    intro i d h
    cases i with
    | zero => simp at h; subst h; exact .fr (Low.refl r)
    | succ i => exact .eq (ih (by simpa using h))
/-- slot i, an own list, read in e; what comes out has no list in it -/
theorem e_borrow (i : Nat) {d : PyData} {enc : α → PyData} {m : M α} (h : EJ X R (Γ.set i (.fz d)) e enc m) (hn : NL enc) (hΓ : Γ[i]? = some (.ow d) := by rfl) : EJ X R Γ e enc m := by
  refine PE.weak h fun σ H Q ⟨O, H0, ow, st, z, st', rel, ok, e, q⟩ => ⟨O, H0, ow, st, z, st', rel.low (low_fr hΓ), ok, e, fun v H' k o rp => q v H' k o ?_⟩
  obtain ⟨_, hown, nO, _⟩ := rel.how i _ hΓ
  refine noL_rp (fun a xs na ha za => ?_) _ _ (hn z) rp
  rcases set_fz (d := d) hΓ za with z1 | z1
  · exact na z1
  · cases d with
    | list ds =>
      obtain ⟨vs, hp, _⟩ := hown
      have := k _ _ (fun z => nO (rel.zsub _ z)) hp
      rw [← z1, ha] at this; cases this
    | dict kvs =>
      obtain ⟨o, hp, hd⟩ := hown
      have := k _ _ (fun z => nO (rel.zsub _ z)) hp
      rw [← z1, ha] at this
      cases this
      exact hd.elim
    | _ => exact hown.elim
theorem f_borrow (i : Nat) {d : PyData} {m : M (List α)} (h : EF X R (Γ.set i (.fz d)) e ea m) (hn : NL ea) (hΓ : Γ[i]? = some (.ow d) := by rfl) : EF X R Γ e ea m := by
  refine PE.weak h fun σ H Q ⟨O, H0, ow, st, z, st', rel, ok, e, q⟩ => ⟨O, H0, ow, st, z, st', rel.low (low_fr hΓ), ok, e, fun p vs H' n k o ep rp => q p vs H' n k o ep ?_⟩
  obtain ⟨_, hown, nO, _⟩ := rel.how i _ hΓ
  refine noLs_rp (fun a xs na ha za => ?_) _ _ (NL.all hn z) rp
  rcases za with za | za
  · rcases set_fz (d := d) hΓ za with z1 | z1
    · exact na (.inl z1)
    · cases d with
      | list ds =>
        obtain ⟨vs, hp, _⟩ := hown
        have := k _ _ (fun z => nO (rel.zsub _ z)) hp
        rw [← z1, ha] at this; cases this
      | dict kvs =>
        obtain ⟨o, hp, hd⟩ := hown
        have := k _ _ (fun z => nO (rel.zsub _ z)) hp
        rw [← z1, ha] at this
        cases this
        exact hd.elim
      | _ => exact hown.elim
  · exact na (.inr za)
theorem t_borrow (i : Nat) {d : PyData} {m : M Bool} (h : TJ X R (Γ.set i (.fz d)) e m) (hΓ : Γ[i]? = some (.ow d) := by rfl) : TJ X R Γ e m :=
  PT.weak h fun σ H Q ⟨O, H0, ow, st, z, st', rel, ok, e, q⟩ => ⟨O, H0, ow, st, z, st', rel.low (low_fr hΓ), ok, e, q⟩

/-! ### what is walked -/
def ItOk (J : It) (A : Av) (H1 : Hp) (ds : List PyData) : Prop := ∀ H i, Keep A H1 H → (ds.length ≤ i → J.stop i H) ∧ ∀ d, ds[i]? = some d → J.go i H ∧ ∀ v H', J.yld i H v H' → Same H H' ∧
  ∀ A', (∀ a o, ¬ A a → H1 a = some o → ¬ A' a) → Adom A' H → Rp A' H' v d
def tI (R : Res) (Γ : List Slot) (enc : ι → PyData) (m : M (List ι)) : TI := fun σ H Rr => ∃ O H0 ow st r st', Rel R O H0 ow Γ σ H ∧ okR R st H ∧ m st = some (r, st') ∧
  ∀ J H1, Keep (Zr R) H H1 → okR R st' H1 → r.length ≤ sizeLine → ItOk J (avo O Γ ow) H1 (r.map enc) → Rr J H1
abbrev IJ (X : Cx) (R : Res) (Γ : List Slot) (iter tg : Expr) (enc : ι → PyData) (m : M (List ι)) : Prop := PI X tg iter (tI R Γ enc m)
theorem PI.weak {tg iter : Expr} {t t' : TI} (h : PI X tg iter t) (w : ∀ σ H Rr, t' σ H Rr → t σ H Rr) : PI X tg iter t' := ⟨fun pins s σ H Rr I q => h.run pins s σ H Rr I (w σ H Rr q)⟩
def Fits (H : Hp) : Prop := ∀ a xs, (H a = some (.lst xs) ∨ H a = some (.tup xs)) → xs.length ≤ sizeLine
theorem Inv.fits {pins : List (Addr × Obj)} {σ : L2.St} {H : Hp} {s : Shared} (I : Inv X pins σ H s) : Fits H := fun a xs h => by
  rcases h with h | h
  · obtain ⟨z, _⟩ := I.hok a _ h; exact z
  · obtain ⟨z, _⟩ := I.hok a _ h; exact z
theorem PI.fits {tg iter : Expr} {t : TI} (h : PI X tg iter t) : PI X tg iter (fun σ H Rr => t σ H fun J H1 => Fits H1 → Rr J H1) := ⟨fun pins s σ H Rr I q =>
  thn (h.run pins s σ H _ I q) fun v s1 w => thn w fun itv s2 ⟨it, fp, tn, J, H', a, b, c, d, f, g⟩ => ⟨it, fp, tn, J, H', a, b, c, d, f, g (Inv.fits b)⟩⟩
theorem PE.fits {t : TE} (h : PE X e t) : PE X e (fun σ H Q => t σ H fun v H1 => Fits H1 → Q v H1) := ⟨fun pins s σ H Q I q =>
  thn (h.run pins s σ H _ I q) fun v s1 ⟨x, H', a, b, c⟩ => ⟨x, H', a, b, c (Inv.fits a)⟩⟩
/-- what the items of a list or a tuple say -/
theorem items_ok {A A' : Av} {H1 H : Hp} {vs : List V} {ds : List PyData} (r : RpAll A H1 vs ds) (k : Keep A H1 H) {i : Nat} {v : V} {d : PyData} (hv : vs[i]? = some v) (hd : ds[i]? = some d) (h : ∀ a o, ¬ A a → H1 a = some o → ¬ A' a) : Rp A' H v d := by
  obtain ⟨w, hw, rw'⟩ := r.get hd
  rw [hv] at hw; cases hw
  exact Rp.move (fun a o na e => ⟨h a o na e, k a o na e⟩) d v rw'
theorem itok_list {K : PySem.W.Frag} {A : Av} {H1 : Hp} {a : Addr} {vs : List V} {ds : List PyData} (na : ¬ A a) (ha : H1 a = some (.lst vs)) (r : RpAll A H1 vs ds) : ItOk (Itl K a) A H1 ds := fun H i k => by
  have hH := k _ _ na ha
  refine ⟨fun hl => ⟨vs, SqL.of hH, by rw [r.length]; exact hl⟩, fun d hd => ?_⟩
  obtain ⟨v0, hv0, _⟩ := r.get hd
  refine ⟨⟨vs, v0, SqL.of hH, hv0⟩, fun v H' y => ?_⟩
  obtain ⟨rfl, hy⟩ := y
  refine ⟨Same.refl _, fun A' h _ => ?_⟩
  have : v0 = v := Option.some.inj (hv0.symm.trans (hy vs (SqL.of hH)))
  subst this
  exact items_ok r k hv0 hd h
theorem itok_tup {K : PySem.W.Frag} {A : Av} {H1 : Hp} {a : Addr} {vs : List V} {ds : List PyData} (na : ¬ A a) (ha : H1 a = some (.tup vs)) (r : RpAll A H1 vs ds) : ItOk (Itt K a) A H1 ds := fun H i k => by
  have hH := k _ _ na ha
  refine ⟨fun hl => ⟨vs, SqT.of hH, by rw [r.length]; exact hl⟩, fun d hd => ?_⟩
  obtain ⟨v0, hv0, _⟩ := r.get hd
  refine ⟨⟨vs, v0, SqT.of hH, hv0⟩, fun v H' y => ?_⟩
  obtain ⟨rfl, hy⟩ := y
  refine ⟨Same.refl _, fun A' h _ => ?_⟩
  have : v0 = v := Option.some.inj (hv0.symm.trans (hy vs (SqT.of hH)))
  subst this
  exact items_ok r k hv0 hd h
theorem i_list {tg : Expr} {enc : ι → PyData} {m : M (List ι)} (h : EJ X R Γ e (eL enc) m) : IJ X R Γ e tg enc m := by
  refine PI.weak (PI.fits (pi_list h)) fun σ H Rr ⟨O, H0, ow, st, z, st', rel, ok, e, q⟩ => ⟨O, H0, ow, st, z, st', rel, ok, e, fun v H1 k o rp => ?_⟩
  cases rp with
  | @lst a vs _ na ha ra =>
    exact ⟨a, rfl, ⟨vs, SqL.of ha⟩, fun fit => q _ H1 k o (by have := fit a vs (.inl ha); rw [ra.length, List.length_map] at this; exact this) (itok_list na ha ra)⟩
end
end Pz

namespace Pz
open PySem PySem.Spec PyProof.Rows L2

section
variable {α β γ κ ρ ι : Type} {ea : α → PyData} {ec : γ → PyData} {er : ρ → PyData} {ei : ι → PyData} {X : Cx} {R : Res} {Γ Γ' : List Slot} {e c : Expr} {st : Stmt} {rest A B : List Stmt} {pos : Pos} {out : κ → OutD}
theorem i_tup {tg : Expr} {enc : ι → PyData} {m : M (List ι)} (h : EJ X R Γ e (eT enc) m) : IJ X R Γ e tg enc m := by
  refine PI.weak (PI.fits (pi_tup h)) fun σ H Rr ⟨O, H0, ow, st, z, st', rel, ok, e, q⟩ => ⟨O, H0, ow, st, z, st', rel, ok, e, fun v H1 k o rp => ?_⟩
  cases rp with
  | @tup a vs _ na ha ra =>
    exact ⟨a, rfl, ⟨vs, SqT.of ha⟩, fun fit => q _ H1 k o (by have := fit a vs (.inr ha); rw [ra.length, List.length_map] at this; exact this) (itok_tup na ha ra)⟩
/-- lo, lo + 1, .. below hi -/
def irange (lo hi : Int) : List Int := (List.range (hi - lo).toNat).map fun i => lo + (i : Nat)
def rangeM (lo hi : Int) : M (List Int) := if -(2 ^ 61) ≤ lo ∧ lo ≤ 2 ^ 61 ∧ -(2 ^ 61) ≤ hi ∧ hi ≤ 2 ^ 61 ∧ (hi - lo).toNat ≤ sizeLine then pureM (irange lo hi) else failM
theorem itok_range {A : Av} {H1 : Hp} (lo : Int) (n : Nat) : ItOk (Itr lo n) A H1 (((List.range n).map fun i => lo + (i : Nat)).map eInt) := fun H i k => by
  refine ⟨fun hl => (by simpa using hl : n ≤ i), fun d hd => ?_⟩
  rw [List.getElem?_map, List.getElem?_map] at hd
  cases hr : (List.range n)[i]? with
  | none => rw [hr] at hd; cases hd
  | some j =>
    rw [hr] at hd
    have hi : i < n := by have := (List.getElem?_eq_some_iff.mp hr).1; simpa using this
    have hj : j = i := by rw [List.getElem?_range hi] at hr; cases hr; rfl
    subst hj
    have hd' : eInt (lo + (j : Nat)) = d := Option.some.inj hd
    subst hd'
    refine ⟨hi, fun v H' y => ?_⟩
    obtain ⟨rfl, rfl⟩ := y
    exact ⟨Same.refl _, fun A' _ _ => .int _⟩
theorem i_range1 {tg a : Expr} {p : Pos} {m : M Int} (hm : X.mg "range" = none) (ha : EJ X R Γ a eInt m) (hg : Gl X "range" := by rfl) (hs : starEach [a] X.env = [(false, eval a X.env)] := by rfl) : IJ X R Γ (.Call (.Name "range" p) [a] [] pos) tg eInt (bindM m fun n => rangeM 0 n) := by
  refine PI.weak (pi_range1 hg hm (pa_cons ha pa_nil hs) hs) fun σ H Rr ⟨O, H0, ow, st, z, st', rel, ok, e, q⟩ => ?_
  obtain ⟨n, s1, e1, e2⟩ := bind_some e
  unfold rangeM at e2
  obtain ⟨⟨h1, h2, h3, h4, h5⟩, rfl, rfl⟩ := if_some e2
  refine ⟨O, H0, ow, st, n, s1, rel, ok, e1, fun v H1 k o rp => ?_⟩
  cases rp
  refine ⟨n, rfl, by omega, by omega, q _ H1 k o (by simp [irange]; omega) ?_⟩
  have := itok_range (A := avo O Γ ow) (H1 := H1) 0 n.toNat
  simpa [irange] using this
theorem i_range2 {tg a b : Expr} {p : Pos} {ma mb : M Int} (hm : X.mg "range" = none) (ha : EJ X R Γ a eInt ma) (hb : EJ X R Γ b eInt mb) (hg : Gl X "range" := by rfl) (hs : starEach [a, b] X.env = [(false, eval a X.env), (false, eval b X.env)] := by rfl) (hs2 : starEach [b] X.env = [(false, eval b X.env)] := by rfl) :
    IJ X R Γ (.Call (.Name "range" p) [a, b] [] pos) tg eInt (bindM ma fun lo => bindM mb fun hi => rangeM lo hi) := by
  refine PI.weak (pi_range2 hg hm (pa_cons ha (pa_cons hb pa_nil hs2) (by rw [hs, hs2])) hs hs2) fun σ H Rr ⟨O, H0, ow, st, z, st', rel, ok, e, q⟩ => ?_
  obtain ⟨lo, s1, e1, e'⟩ := bind_some e
  obtain ⟨hi, s2, e2, e3⟩ := bind_some e'
  unfold rangeM at e3
  obtain ⟨⟨h1, h2, h3, h4, h5⟩, rfl, rfl⟩ := if_some e3
  refine ⟨O, H0, ow, st, lo, s1, rel, ok, e1, fun v H1 k o rp => ?_⟩
  cases rp
  refine ⟨O, H0, ow, s1, hi, s2, rel.grow k (okZ o), o, e2, fun v H2 k2 o2 rp => ?_⟩
  cases rp
  refine ⟨lo, hi, rfl, ⟨by omega, by omega, by omega, by omega⟩, q _ H2 (k.trans k2) o2 (by simp [irange]; omega) ?_⟩
  exact itok_range (A := avo O Γ ow) (H1 := H2) lo (hi - lo).toNat
theorem i_low {tg : Expr} {enc : ι → PyData} {m : M (List ι)} (hl : Low Γ Γ') (h : IJ X R Γ' e tg enc m) (hn : ∀ (i : Nat) (d : PyData), Γ[i]? = some (.ow d) → Γ'[i]? = some (.ow d)) : IJ X R Γ e tg enc m :=
  PI.weak h fun σ H Rr ⟨O, H0, ow, st, z, st', rel, ok, e, q⟩ => ⟨O, H0, ow, st, z, st', rel.low hl, ok, e, fun J H1 k o l it => q J H1 k o l (by
    have : avo O Γ' ow = avo O Γ ow := funext fun a => propext ⟨hl.avo a, fun z => by
      rcases z with z | ⟨i, d, e1, e2⟩
      · exact .inl z
      · exact .inr ⟨i, d, hn i d e1, e2⟩⟩
    rw [← this]; exact it)⟩

/-! ### targets -/
/-- what a target does with x: the slots; is: the places it sets -/
def tG (set : List Slot → ι → List Slot) (is : List Nat) (enc : ι → PyData) : TG := fun v σ H Q => ∃ R O H0 ow Γ x, Rel R O H0 ow Γ σ H ∧ Rp (avo O Γ ow) H v (enc x) ∧
  ∀ σ', Rel R O H0 ow (set Γ x) σ' H → (∀ vs : List Nat, (∀ i ∈ is, i ∈ vs) → wipe σ' vs = wipe σ vs) → Q σ' H
abbrev GJ (X : Cx) (tg : Expr) (set : List Slot → ι → List Slot) (is : List Nat) (enc : ι → PyData) : Prop := PG X tg (tG set is enc)
theorem wipe_at {σ : L2.St} : ∀ {vs : List Nat} {i : Nat} {y : Option V}, i ∈ vs → wipe (σ.set i y) vs = wipe σ vs
  | [], _, _, h => by simp at h
  | v :: vs, i, y, h => by
    unfold wipe
    by_cases hm : i ∈ vs
    · rw [wipe_at hm]
    · have hv : i = v := by rcases List.mem_cons.mp h with e | e; exact e; exact absurd e hm
      subst hv
      have aux : ∀ ws : List Nat, (wipe (σ.set i y) ws).set i none = (wipe σ ws).set i none := by
        intro ws
        induction ws with
        | nil => unfold wipe; rw [List.set_set]
        | cons w ws ih =>
          unfold wipe
          by_cases hw : w = i
          · subst hw; rw [List.set_set, List.set_set]; exact ih
          · rw [List.set_comm _ _ hw, ih, List.set_comm _ _ (fun z => hw z.symm)]
      exact aux vs
theorem g_name (i : Nat) {x : Str} (enc : ι → PyData) (hN : X.N.Nodup) (hi : X.N[i]? = some x := by rfl) (hx : Loc X.env.scope x := by first | exact Or.inl rfl | exact Or.inr rfl)
    (hf : X.fn x = true ∨ X.env.scope.names.lookup x = some .local := by first | exact .inl rfl | exact .inr rfl) : GJ X (.Name x pos) (fun Γ y => Γ.set i (.fz (enc y))) [i] enc := by
  refine PG.weak (pg_name hN hi hx hf) fun v σ H Q ⟨R, O, H0, ow, Γ, x, rel, rp, q⟩ => ?_
  exact q _ (rel.setFz i rp) fun vs hv => wipe_at (hv i (List.mem_singleton.mpr rfl))
/-- targets one after the other -/
def tGs {α : Type} (set : List Slot → α → List Slot) (is : List Nat) (enc : α → List PyData) : TGs := fun vs σ H Q => ∃ R O H0 ow Γ x, Rel R O H0 ow Γ σ H ∧ RpAll (avo O Γ ow) H vs (enc x) ∧
  ∀ σ', Rel R O H0 ow (set Γ x) σ' H → (∀ vs : List Nat, (∀ i ∈ is, i ∈ vs) → wipe σ' vs = wipe σ vs) → Q σ' H
theorem PGs.weak {es : List Expr} {t t' : TGs} (h : PGs X es t) (w : ∀ vs σ H Q, t' vs σ H Q → t vs σ H Q) : PGs X es t' := ⟨fun pins s σ H vs us Q I r q => h.run pins s σ H vs us Q I r (w vs σ H Q q)⟩
theorem gs_nil : PGs X [] (tGs (fun Γ (_ : Unit) => Γ) [] eU) := by
  refine PGs.weak pgs_nil fun vs σ H Q ⟨R, O, H0, ow, Γ, x, rel, rp, q⟩ => ?_
  cases rp
  exact ⟨rfl, q σ rel fun _ _ => rfl⟩
theorem gs_cons {tg : Expr} {es : List Expr} {s1 : List Slot → α → List Slot} {s2 : List Slot → β → List Slot} {is js : List Nat} {enc : α → PyData} {en : β → List PyData} (h1 : GJ X tg s1 is enc) (h2 : PGs X es (tGs s2 js en)) (hset : ∀ Γ x (i : Nat) d, (s1 Γ x)[i]? = some (.ow d) → Γ[i]? = some (.ow d))
    (hs : (assignEach (tg :: es) X.env).map (·.2) = assign tg X.env :: (assignEach es X.env).map (·.2) := by rfl) : PGs X (tg :: es) (tGs (fun Γ (p : α × β) => s2 (s1 Γ p.1) p.2) (is ++ js) (eC enc en)) := by
  refine PGs.weak (pgs_cons h1 h2 hs) fun vs σ H Q ⟨R, O, H0, ow, Γ, x, rel, rp, q⟩ => ?_
  cases rp with
  | @cons v vs d ds r1 r2 =>
    refine ⟨v, vs, rfl, R, O, H0, ow, Γ, x.1, rel, r1, fun σ' rel' w' => ⟨R, O, H0, ow, _, x.2, rel', ?_, fun σ2 rel2 w2 => q σ2 rel2 fun vs hv => ?_⟩⟩
    · exact r2.less fun a z => by
        rcases z with z | ⟨i, d, e1, e2⟩
        · exact .inl z
        · exact .inr ⟨i, d, hset _ _ _ _ e1, e2⟩
    · rw [w2 vs fun i hi => hv i (List.mem_append_right _ hi), w' vs fun i hi => hv i (List.mem_append_left _ hi)]
theorem set_noow {Γ : List Slot} {i : Nat} {d' : PyData} : ∀ (j : Nat) (d : PyData), (Γ.set i (.fz d'))[j]? = some (.ow d) → Γ[j]? = some (.ow d) := fun j d e => by
  by_cases h : i = j
  · subst h
    rw [List.getElem?_set_self'] at e
    cases h : Γ[i]? <;> rw [h] at e <;> cases e
  · rw [List.getElem?_set_ne h] at e; exact e
theorem g_tup {es : List Expr} {k n : Nat} {set : List Slot → α → List Slot} {is : List Nat} {en : α → List PyData} (hc : X.calm = true) (h : PGs X es (tGs set is en)) (hl : ∀ x, (en x).length = n := by intro _; rfl) (hn : (assignEach es X.env).length = n := by rfl)
    (hst : (assignEach es X.env).findIdx? (·.1) = none := by rfl) : GJ X (.Tuple es k pos) set is (eP en) := by
  refine PG.weak (pg_tup hc h hn hst) fun v σ H Q ⟨R, O, H0, ow, Γ, x, rel, rp, q⟩ => ?_
  cases rp with
  | @tup a vs _ na ha ra =>
    exact ⟨a, vs, rfl, SqT.of ha, by rw [ra.length]; exact hl x, R, O, H0, ow, Γ, x, rel, ra, q⟩

/-! ### for -/
theorem q_for {set : List Slot → ι → List Slot} {is : List Nat} {tg iter : Expr} {body : List Stmt} {mi : M (List ι)} (Γb : β → List Slot) (b0 : β) (f : β → ι → M β) (hp : PassesOwn (model X.prog X.w) X.A X.env X.xe) (hc : X.calm = true)
    (hi : IJ X R Γ iter tg ei mi) (hg : GJ X tg set is ei) (hset : ∀ Γ x (i : Nat) d, (set Γ x)[i]? = some (.ow d) → Γ[i]? = some (.ow d)) (hlow : Low Γ (Γb b0))
    (hb : ∀ b x, SJ X R (set (Γb b) x) body (fun b' => .nx (Γb b')) (f b x)) (hs : ∀ x, foldedSetIterable iter X.env x = pure x := by intro _; rfl) :
    QJ X R Γ (.For tg iter body [] pos) (fun b => .nx (Γb b)) (bindM mi fun xs => forM' f xs b0) := by
  refine PS.weak (ps_for hp hc hi hg (PSs.ex fun b => PSs.ex fun x => hb b x) hs) fun D σ H ⟨O, H0, ow, st, bf, stf, rel, ok, e, q⟩ => ?_
  obtain ⟨xs, s1, e1, e2⟩ := bind_some e
  refine ⟨O, H0, ow, st, xs, s1, rel, ok, e1, fun J H1 k1 o1 hlen it => ?_⟩
  have rel1 := rel.grow k1 (okZ o1)
  refine ⟨fun i m σ' H' => m = xs.length - i ∧ i ≤ xs.length ∧ ∃ b u ow', Rel R O H0 ow' (Γb b) σ' H' ∧ okR R u H' ∧ forM' f (xs.drop i) b u = some (bf, stf) ∧ Step O Γ ow H1 (Γb b) ow' H', ⟨_, rfl, Nat.zero_le _, b0, s1, ow, rel1.low hlow, o1, e2, Step.refl.lowR hlow⟩, ?_⟩
  rintro i m σ' H' ⟨rfl, hile, b, u, ow', rel', ok', ef, sp⟩
  obtain ⟨stop, go⟩ := it H' i sp.keep
  by_cases hlt : i < xs.length
  · have hx : xs[i]? = some xs[i] := List.getElem?_eq_getElem hlt
    obtain ⟨hgo, hy⟩ := go (ei xs[i]) (by rw [List.getElem?_map, hx]; rfl)
    rw [List.drop_eq_getElem_cons hlt] at ef
    obtain ⟨b2, u2, ef1, ef2⟩ := bind_some (show bindM (f b xs[i]) (fun b' => forM' f (xs.drop (i + 1)) b') u = some (bf, stf) from ef)
    refine .inr ⟨hgo, fun σ2 H2 => ∃ ow2, Rel R O H0 ow2 (Γb b2) σ2 H2 ∧ okR R u2 H2 ∧ Step O Γ ow H1 (Γb b2) ow2 H2, fun σ2 H2 ⟨ow2, r2, o2, p2⟩ => ⟨_, by omega, rfl, hlt, b2, u2, ow2, r2, o2, ef2, p2⟩, fun v H2 y => ?_⟩
    obtain ⟨same, rp⟩ := hy v H2 y
    have relg := rel'.grow (Keep.of_same same) (fun a z => (rel'.odom a (rel'.zsub a z)).same fun o h => same a o h)
    refine ⟨R, O, H0, ow', Γb b, xs[i], relg, rp _ (fun a o na ea z => ?_) rel'.ad, fun σ3 rel3 _ => ⟨b, xs[i], O, H0, ow', u, b2, u2, rel3, ok'.same same, ef1, fun ow4 σ4 H4 rel4 ok4 sp4 => ⟨ow4, rel4, ok4, ?_⟩⟩⟩
    · rcases z with z | ⟨j, d, e3, e4⟩
      · exact na (.inl z)
      · rcases sp.sub j d e3 with z | z
        · exact na (by rw [← e4]; exact z)
        · rw [e4, ea] at z; cases z
    · have avs : ∀ a, avo O (set (Γb b) xs[i]) ow' a → avo O (Γb b) ow' a := fun a z => by
        rcases z with z | ⟨j, d, e3, e4⟩
        · exact .inl z
        · exact .inr ⟨j, d, hset _ _ _ _ e3, e4⟩
      have sp5 : Step O (Γb b) ow' H' (Γb b2) ow4 H4 := Step.pre (Keep.of_same same) ⟨sp4.keep.mono avs, fun j d e3 => by
        rcases sp4.sub j d e3 with z | z
        · exact .inl (avs _ z)
        · exact .inr z⟩
      exact sp.trans sp5
  · have hi' : i = xs.length := by omega
    subst hi'
    refine .inl ⟨stop (by simp), ?_⟩
    rw [List.drop_length] at ef
    obtain ⟨rfl, rfl⟩ := pure_some (show pureM b u = some (bf, stf) from ef)
    exact q ow' σ' H' rel' ok' (sp.pre (rel.keepA k1))
/-- a loop that may return -/
theorem q_forO {set : List Slot → ι → List Slot} {is : List Nat} {tg iter : Expr} {body : List Stmt} {mi : M (List ι)} (Γb : β → List Slot) (b0 : β) (f : β → ι → M (Out ρ β)) (hp : PassesOwn (model X.prog X.w) X.A X.env X.xe) (hc : X.calm = true)
    (hi : IJ X R Γ iter tg ei mi) (hg : GJ X tg set is ei) (hset : ∀ Γ x (i : Nat) d, (set Γ x)[i]? = some (.ow d) → Γ[i]? = some (.ow d)) (hlow : Low Γ (Γb b0))
    (hb : ∀ b x, SJ X R (set (Γb b) x) body (outO er Γb) (f b x)) (hs : ∀ x, foldedSetIterable iter X.env x = pure x := by intro _; rfl) :
    QJ X R Γ (.For tg iter body [] pos) (outO er Γb) (bindM mi fun xs => forO f xs b0) := by
  refine PS.weak (ps_for hp hc hi hg (PSs.ex fun b => PSs.ex fun x => hb b x) hs) fun D σ H ⟨O, H0, ow, st, bf, stf, rel, ok, e, q⟩ => ?_
  obtain ⟨xs, s1, e1, e2⟩ := bind_some e
  refine ⟨O, H0, ow, st, xs, s1, rel, ok, e1, fun J H1 k1 o1 hlen it => ?_⟩
  have rel1 := rel.grow k1 (okZ o1)
  refine ⟨fun i m σ' H' => m = xs.length - i ∧ i ≤ xs.length ∧ ∃ b u ow', Rel R O H0 ow' (Γb b) σ' H' ∧ okR R u H' ∧ forO f (xs.drop i) b u = some (bf, stf) ∧ Step O Γ ow H1 (Γb b) ow' H', ⟨_, rfl, Nat.zero_le _, b0, s1, ow, rel1.low hlow, o1, e2, Step.refl.lowR hlow⟩, ?_⟩
  rintro i m σ' H' ⟨rfl, hile, b, u, ow', rel', ok', ef, sp⟩
  obtain ⟨stop, go⟩ := it H' i sp.keep
  by_cases hlt : i < xs.length
  · have hx : xs[i]? = some xs[i] := List.getElem?_eq_getElem hlt
    obtain ⟨hgo, hy⟩ := go (ei xs[i]) (by rw [List.getElem?_map, hx]; rfl)
    rw [List.drop_eq_getElem_cons hlt] at ef
    rw [forO] at ef
    obtain ⟨o2, u2, ef1, ef2⟩ := bind_some ef
    refine .inr ⟨hgo, fun σ2 H2 => ∃ b2 ow2, o2 = .nx b2 ∧ Rel R O H0 ow2 (Γb b2) σ2 H2 ∧ okR R u2 H2 ∧ Step O Γ ow H1 (Γb b2) ow2 H2, fun σ2 H2 ⟨b2, ow2, eo, r2, o2, p2⟩ => ⟨_, by omega, rfl, hlt, b2, u2, ow2, r2, o2, by subst eo; exact ef2, p2⟩, fun v H2 y => ?_⟩
    obtain ⟨same, rp⟩ := hy v H2 y
    have relg := rel'.grow (Keep.of_same same) (fun a z => (rel'.odom a (rel'.zsub a z)).same fun o h => same a o h)
    refine ⟨R, O, H0, ow', Γb b, xs[i], relg, rp _ (fun a o na ea z => ?_) rel'.ad, fun σ3 rel3 _ => ⟨b, xs[i], O, H0, ow', u, o2, u2, rel3, ok'.same same, ef1, ?_⟩⟩
    · rcases z with z | ⟨j, d, e3, e4⟩
      · exact na (.inl z)
      · rcases sp.sub j d e3 with z | z
        · exact na (by rw [← e4]; exact z)
        · rw [e4, ea] at z; cases z
    · have avs : ∀ a, avo O (set (Γb b) xs[i]) ow' a → avo O (Γb b) ow' a := fun a z => by
        rcases z with z | ⟨j, d, e3, e4⟩
        · exact .inl z
        · exact .inr ⟨j, d, hset _ _ _ _ e3, e4⟩
      cases o2 with
      | nx b2 =>
        refine fun ow4 σ4 H4 rel4 ok4 sp4 => ⟨b2, ow4, rfl, rel4, ok4, ?_⟩
        have sp5 : Step O (Γb b) ow' H' (Γb b2) ow4 H4 := Step.pre (Keep.of_same same) ⟨sp4.keep.mono avs, fun j d e3 => by
          rcases sp4.sub j d e3 with z | z
          · exact .inl (avs _ z)
          · exact .inr z⟩
        exact sp.trans sp5
      | rt r =>
        obtain ⟨rfl, rfl⟩ := pure_some (show pureM (Out.rt r) u2 = some (bf, stf) from ef2)
        exact q
  · have hi' : i = xs.length := by omega
    subst hi'
    refine .inl ⟨stop (by simp), ?_⟩
    rw [List.drop_length] at ef
    obtain ⟨rfl, rfl⟩ := pure_some (show pureM (Out.nx b) u = some (bf, stf) from ef)
    exact q ow' σ' H' rel' ok' (sp.pre (rel.keepA k1))
/-! ### while -/
theorem q_while {body : List Stmt} (Γb : β → List Slot) (b0 : β) (n : Nat) (mc : β → M Bool) (f : β → M β) (hp : PassesOwn (model X.prog X.w) X.A X.env X.xe) (hlow : Low Γ (Γb b0))
    (hc : ∀ b, TJ X R (Γb b) c (mc b)) (hb : ∀ b, SJ X R (Γb b) body (fun b' => .nx (Γb b')) (f b)) : QJ X R Γ (.While c body [] pos) (fun b => .nx (Γb b)) (whileM mc f n b0) := by
  refine PS.weak (ps_while hp (PT.ex hc) (PSs.ex hb)) fun D σ H ⟨O, H0, ow, st, bf, stf, rel, ok, e, q⟩ => ?_
  refine ⟨fun m σ' H' => ∃ b u ow', Rel R O H0 ow' (Γb b) σ' H' ∧ okR R u H' ∧ whileM mc f m b u = some (bf, stf) ∧ Step O Γ ow H (Γb b) ow' H', ⟨n, b0, st, ow, rel.low hlow, ok, e, Step.refl.lowR hlow⟩, ?_⟩
  rintro m σ' H' ⟨b, u, ow', rel', ok', ef, sp⟩
  cases m with
  | zero => cases ef
  | succ m =>
    obtain ⟨k, u2, ef1, ef2⟩ := bind_some (show bindM (mc b) (fun k => if k then bindM (f b) fun b' => whileM mc f m b' else pureM b) u = some (bf, stf) from ef)
    refine ⟨b, O, H0, ow', u, k, u2, rel', ok', ef1, fun H2 k2 o2 => ?_⟩
    have rel2 := rel'.grow k2 (okZ o2)
    cases k with
    | true =>
      obtain ⟨b3, u3, ef3, ef4⟩ := bind_some (show bindM (f b) (fun b' => whileM mc f m b') u2 = some (bf, stf) from ef2)
      refine L2.iteT ⟨fun σ3 H3 => ∃ ow3, Rel R O H0 ow3 (Γb b3) σ3 H3 ∧ okR R u3 H3 ∧ Step O Γ ow H (Γb b3) ow3 H3, fun σ3 H3 ⟨ow3, r3, o3, p3⟩ => ⟨m, Nat.lt_succ_self m, b3, u3, ow3, r3, o3, ef4, p3⟩, b, O, H0, ow', u2, b3, u3, rel2, o2, ef3, fun ow4 σ4 H4 rel4 ok4 sp4 => ⟨ow4, rel4, ok4, sp.trans (sp4.pre (rel'.keepA k2))⟩⟩
    | false =>
      obtain ⟨rfl, rfl⟩ := pure_some (show pureM b u2 = some (bf, stf) from ef2)
      refine L2.iteF ?_
      exact q ow' σ' H2 rel2 o2 (sp.trans (Step.refl.pre (rel'.keepA k2)))
end
end Pz

namespace Pz
open PySem PySem.Spec PyProof.Rows L2

section
variable {α β γ κ ρ ι : Type} {ea : α → PyData} {ec : γ → PyData} {er : ρ → PyData} {ei : ι → PyData} {X : Cx} {R : Res} {Γ Γ' : List Slot} {e c : Expr} {st : Stmt} {rest A B : List Stmt} {pos : Pos} {out : κ → OutD}
/-! ### comprehensions -/
def compM (c : ι → M Bool) (f : ι → M γ) : List ι → M (List γ)
  | [] => pureM []
  | x :: xs => bindM (c x) fun b => if b then bindM (f x) fun y => bindM (compM c f xs) fun ys => pureM (y :: ys) else compM c f xs
def wipeG (Γ : List Slot) : List Nat → List Slot
  | [] => Γ
  | v :: vs => (wipeG Γ vs).set v .un
theorem wipeG_length : ∀ vs : List Nat, (wipeG Γ vs).length = Γ.length
  | [] => rfl
  | v :: vs => by unfold wipeG; rw [List.length_set, wipeG_length vs]
theorem wipeG_at {i : Nat} : ∀ {vs : List Nat}, i ∉ vs → (wipeG Γ vs)[i]? = Γ[i]?
  | [], _ => rfl
  | v :: vs, h => by
    simp only [List.mem_cons, not_or] at h
    unfold wipeG
    rw [List.getElem?_set_ne (fun z => h.1 z.symm)]
    exact wipeG_at h.2
theorem wipeG_in {i : Nat} {s : Slot} : ∀ {vs : List Nat}, i ∈ vs → (wipeG Γ vs)[i]? = some s → s = .un
  | [], h, _ => by simp at h
  | v :: vs, h, e => by
    unfold wipeG at e
    by_cases hv : v = i
    · subst hv
      rw [List.getElem?_set_self'] at e
      cases q : (wipeG Γ vs)[v]? with
      | none => rw [q] at e; cases e
      | some u => rw [q] at e; cases e; rfl
    · rw [List.getElem?_set_ne hv] at e
      rcases List.mem_cons.mp h with z | z
      · exact absurd z.symm hv
      · exact wipeG_in z e
theorem wipe_eq {σ : L2.St} {i : Nat} : ∀ {vs : List Nat}, i ∉ vs → (wipe σ vs)[i]? = σ[i]?
  | [], _ => rfl
  | v :: vs, h => by
    simp only [List.mem_cons, not_or] at h
    unfold wipe
    rw [List.getElem?_set_ne (fun z => h.1 z.symm)]
    exact wipe_eq h.2
theorem wipe_none {σ : L2.St} : ∀ {vs : List Nat} {i : Nat}, i ∈ vs → i < σ.length → (wipe σ vs)[i]? = some none
  | [], _, h, _ => by simp at h
  | v :: vs, i, h, hl => by
    unfold wipe
    by_cases hv : v = i
    · subst hv
      exact List.getElem?_set_self (by rw [wipe_length]; exact hl)
    · rw [List.getElem?_set_ne hv]
      rcases List.mem_cons.mp h with z | z
      · exact absurd z.symm hv
      · exact wipe_none z hl
theorem wipe_idem (σ : L2.St) (vs : List Nat) : wipe (wipe σ vs) vs = wipe σ vs := by
  apply List.ext_getElem?
  intro i
  by_cases h : i ∈ vs
  · by_cases hl : i < σ.length
    · rw [wipe_none h (by rw [wipe_length]; exact hl), wipe_none h hl]
    · rw [List.getElem?_eq_none (by rw [wipe_length, wipe_length]; omega), List.getElem?_eq_none (by rw [wipe_length]; omega)]
  · rw [wipe_eq h]
theorem Rel.wipe {O : Av} {H0 H : Hp} {ow : Nat → Addr} {σ : L2.St} (r : Rel R O H0 ow Γ σ H) (vs : List Nat) (hv : ∀ i ∈ vs, ∀ d, Γ[i]? ≠ some (.ow d)) : Rel R O H0 ow (wipeG Γ vs) (L2.wipe σ vs) H ∧ Pz.avo O (wipeG Γ vs) ow = Pz.avo O Γ ow := by
  have back : ∀ (i : Nat) (s : Slot), (wipeG Γ vs)[i]? = some s → s ≠ .un → i ∉ vs ∧ Γ[i]? = some s := fun i s e n => by
    by_cases h : i ∈ vs
    · exact absurd (wipeG_in h e) n
    · rw [wipeG_at h] at e; exact ⟨h, e⟩
  have av : Pz.avo O (wipeG Γ vs) ow = Pz.avo O Γ ow := funext fun a => propext ⟨fun z => by
      rcases z with z | ⟨i, d, e, q⟩
      · exact .inl z
      · exact .inr ⟨i, d, (back i _ e (by simp)).2, q⟩, fun z => by
      rcases z with z | ⟨i, d, e, q⟩
      · exact .inl z
      · exact .inr ⟨i, d, by rw [wipeG_at (fun h => hv i h d e)]; exact e, q⟩⟩
  refine ⟨⟨by rw [wipeG_length, wipe_length]; exact r.len, fun i d e => ?_, fun i d e => ?_, fun i e => ?_, fun i j d d' e1 e2 => r.hinj i j d d' (back i _ e1 (by simp)).2 (back j _ e2 (by simp)).2, r.same, r.zsub, r.odom⟩, av⟩
  · obtain ⟨h1, h2⟩ := back i _ e (by simp)
    rw [wipe_eq h1, av]; exact r.hfz i d h2
  · obtain ⟨h1, h2⟩ := back i _ e (by simp)
    rw [wipe_eq h1, av]; exact r.how i d h2
  · obtain ⟨h1, h2⟩ := back i _ e (by simp)
    rw [wipe_eq h1]; exact r.hsrc i h2
/-- one place more that is not looked at -/
theorem Rel.addO {O : Av} {H0 H : Hp} {ow : Nat → Addr} {σ : L2.St} (r : Rel R O H0 ow Γ σ H) {D : Addr} (n : H D = none) (o : HO) (ho : ∀ xs, o ≠ .tup xs) : Rel R (avp O D) H0 ow Γ σ (upd H D o) ∧ H0 D = none := by
  have nA : ¬ Pz.avo O Γ ow D := r.ad.fresh n
  have n0 : H0 D = none := by
    cases h : H0 D with
    | none => rfl
    | some u =>
      by_cases z1 : Zr R D
      · exact absurd (r.zavo z1) nA
      · rw [r.same D u z1 h] at n; cases n
  have k : Keep (Pz.avo O Γ ow) H (upd H D o) := fun a u _ e => by rw [upd_ne (ne_of_none e n)]; exact e
  have less : ∀ a, Pz.avo (avp O D) Γ ow a → avp (Pz.avo O Γ ow) D a := fun a z => by
    rcases z with (z | z) | ⟨i, d, e, q⟩
    · exact .inl (.inl z)
    · exact .inr z
    · exact .inl (.inr ⟨i, d, e, q⟩)
  refine ⟨⟨r.len, fun i d e => ?_, fun i d e => ?_, r.hsrc, r.hinj, fun a u z e => ?_, fun a z => .inl (r.zsub a z), fun a z => ?_⟩, n0⟩
  · obtain ⟨v, a, b⟩ := r.hfz i d e
    exact ⟨v, a, (b.at n k).less less⟩
  · obtain ⟨a, b, c, f⟩ := r.how i d e
    have ne : ow i ≠ D := fun z => nA (.inr ⟨i, d, e, z⟩)
    refine ⟨a, ?_, fun z => z.elim c ne, f⟩
    cases d with
    | list ds => obtain ⟨vs, q1, q2⟩ := b; exact ⟨vs, by rw [upd_ne ne]; exact q1, (q2.at n k).less less⟩
    | dict kvs => obtain ⟨o, q1, q2⟩ := b; exact ⟨o, by rw [upd_ne ne]; exact q1, q2⟩
    | _ => exact b.elim
  · rw [upd_ne (fun q => by rw [q, n0] at e; cases e)]; exact r.same a u z e
  · by_cases q : a = D
    · rw [q, upd_same]; exact NT.of ho
    · rcases z with z | z
      · rw [upd_ne q]; exact r.odom a z
      · exact absurd z q
theorem Rel.updO {O : Av} {H0 H : Hp} {ow : Nat → Addr} {σ : L2.St} (r : Rel R O H0 ow Γ σ H) {D : Addr} (hD : O D) (n0 : H0 D = none) (o : HO) (ho : ∀ xs, o ≠ .tup xs) : Rel R O H0 ow Γ σ (upd H D o) := by
  have k : Keep (Pz.avo O Γ ow) H (upd H D o) := fun a u na e => by rw [upd_ne (fun z => na (.inl (by rw [z]; exact hD)))]; exact e
  refine ⟨r.len, fun i d e => ?_, fun i d e => ?_, r.hsrc, r.hinj, fun a u z e => ?_, r.zsub, fun a z => ?_⟩
  · obtain ⟨v, a, b⟩ := r.hfz i d e
    exact ⟨v, a, b.keep k⟩
  · obtain ⟨a, b, c, f⟩ := r.how i d e
    exact ⟨a, b.keep k fun o' q => by rw [upd_ne (fun z => c (by rw [z]; exact hD))]; exact q, c, f⟩
  · rw [upd_ne (fun q => by rw [q, n0] at e; cases e)]; exact r.same a u z e
  · by_cases q : a = D
    · rw [q, upd_same]; exact NT.of ho
    · rw [upd_ne q]; exact r.odom a z
theorem PTs.weak {ifs : List Expr} {t t' : TT} (h : PTs X ifs t) (w : ∀ σ H Q, t' σ H Q → t σ H Q) : PTs X ifs t' := ⟨fun pins s σ H Q I q => h.run pins s σ H Q I (w σ H Q q)⟩
theorem PTs.ex {ι : Type} {ifs : List Expr} {t : ι → TT} (h : ∀ x, PTs X ifs (t x)) : PTs X ifs (fun σ H Q => ∃ x, t x σ H Q) := ⟨fun pins s σ H Q I ⟨x, q⟩ => (h x).run pins s σ H Q I q⟩
abbrev CJ (X : Cx) (R : Res) (Γ : List Slot) (ifs : List Expr) (m : M Bool) : Prop := PTs X ifs (tT R Γ m)
theorem c_nil : CJ X R Γ [] (pureM true) := by
  refine PTs.weak pts_nil fun σ H Q ⟨O, H0, ow, st, z, st', rel, ok, e, q⟩ => ?_
  obtain ⟨rfl, rfl⟩ := pure_some e
  exact q H (Keep.refl H) ok
theorem c_one {m : M Bool} (h : TJ X R Γ c m) : CJ X R Γ [c] m := pts_one h
theorem lc_read {set : List Slot → ι → List Slot} {is vs : List Nat} {mi : M (List ι)} {mc : ι → M Bool} {f : ι → M γ} (hset : ∀ Γ x (i : Nat) d, (set Γ x)[i]? = some (.ow d) → Γ[i]? = some (.ow d))
    (hsm : ∀ Γ x (i : Nat), i ∉ is → (set Γ x)[i]? = Γ[i]?) (his : ∀ i ∈ is, i ∈ vs) (hvs : ∀ i ∈ vs, ∀ d, Γ[i]? ≠ some (.ow d)) {σ : L2.St} {H : Hp} {Q : VK} (h : tF R Γ ec (bindM mi fun xs => compM mc f xs) σ H Q) :
    tLc (tI R Γ ei mi) (tG set is ei) (fun σ H Q => ∃ x, tT R (set (wipeG Γ vs) x) (mc x) σ H Q) (fun σ H Q => ∃ x, tE R (set (wipeG Γ vs) x) ec (f x) σ H Q) vs σ H Q := by
  obtain ⟨O, H0, ow, st, r, st', rel, ok, e, q⟩ := h
  obtain ⟨xs, s1, e1, e2⟩ := bind_some e
  refine ⟨O, H0, ow, st, xs, s1, rel, ok, e1, fun J H1 k1 o1 hlen it => fun D nD => ?_⟩
  have rel1 := rel.grow k1 (okZ o1)
  obtain ⟨relw, av⟩ := rel1.wipe vs hvs
  obtain ⟨relD, n0⟩ := relw.addO nD (.lst []) (fun _ => by simp)
  have nZ : ¬ Zr R D := fun z => (okZ o1 D z).1 nD
  have nA : ¬ avo O Γ ow D := rel1.ad.fresh nD
  have avD : ∀ a, avo (avp O D) (wipeG Γ vs) ow a → avp (avo O Γ ow) D a := fun a z => by
    rcases z with (z | z) | z
    · exact .inl (.inl z)
    · exact .inr z
    · exact .inl (by rw [← av]; exact .inr z)
  have avL : ∀ a, avo O Γ ow a → avo (avp O D) (wipeG Γ vs) ow a := fun a z => by
    rw [← av] at z
    rcases z with z | z
    · exact .inl (.inl z)
    · exact .inr z
  refine ⟨fun i m H' => m = xs.length - i ∧ i ≤ xs.length ∧ ∃ u acc ys zs, Rel R (avp O D) H0 ow (wipeG Γ vs) (L2.wipe σ vs) H' ∧ okR R u H' ∧ H' D = some (.lst acc) ∧ RpAll (avo (avp O D) (wipeG Γ vs) ow) H' acc (ys.map ec) ∧
    compM mc f (xs.drop i) u = some (zs, st') ∧ r = ys ++ zs ∧ ys.length ≤ i ∧ Keep (Zr R) H1 H', ⟨_, rfl, Nat.zero_le _, s1, [], [], r, relD, o1.keep (fun a o z e => by rw [upd_ne (fun q => nZ (by rw [← q]; exact z))]; exact e), upd_same, .nil, e2, rfl, Nat.le_refl _, fun a o _ e => by rw [upd_ne (ne_of_none e nD)]; exact e⟩, ?_⟩
  rintro i m H' ⟨rfl, hile, u, acc, ys, zs, rel', ok', hD, racc, ef, rfl, hys, k'⟩
  have kA : Keep (avo O Γ ow) H1 H' := rel1.keepA k'
  obtain ⟨stop, go⟩ := it H' i kA
  by_cases hlt : i < xs.length
  · have hx : xs[i]? = some xs[i] := List.getElem?_eq_getElem hlt
    obtain ⟨hgo, hy⟩ := go (ei xs[i]) (by rw [List.getElem?_map, hx]; rfl)
    rw [List.drop_eq_getElem_cons hlt, compM] at ef
    obtain ⟨b, u2, ef1, ef2⟩ := bind_some ef
    refine .inr ⟨hgo, fun H2 => ∃ u acc ys' zs', Rel R (avp O D) H0 ow (wipeG Γ vs) (L2.wipe σ vs) H2 ∧ okR R u H2 ∧ H2 D = some (.lst acc) ∧ RpAll (avo (avp O D) (wipeG Γ vs) ow) H2 acc (ys'.map ec) ∧
      compM mc f (xs.drop (i + 1)) u = some (zs', st') ∧ ys ++ zs = ys' ++ zs' ∧ ys'.length ≤ i + 1 ∧ Keep (Zr R) H1 H2, fun H2 ⟨u', acc', ys', zs', a1, a2, a3, a4, a5, a6, a7, a8⟩ => ⟨_, by omega, rfl, hlt, u', acc', ys', zs', a1, a2, a3, a4, a5, a6, a7, a8⟩, fun v H2 y => ?_⟩
    obtain ⟨same, rp⟩ := hy v H2 y
    have relg := rel'.grow (Keep.of_same same) (fun a z => (rel'.odom a (rel'.zsub a z)).same fun o h => same a o h)
    refine ⟨R, avp O D, H0, ow, wipeG Γ vs, xs[i], relg, rp _ (fun a o na ea z => ?_) rel'.ad, fun σ3 rel3 w3 => ⟨(w3 vs his).trans (wipe_idem σ vs), xs[i], avp O D, H0, ow, u, b, u2, rel3, ok'.same same, ef1, fun H3 k3 o3 => ?_⟩⟩
    · rcases avD a z with z | z
      · exact na z
      · rw [z, nD] at ea; cases ea
    have hD3 : H3 D = some (.lst acc) := k3 _ _ nZ (same _ _ hD)
    have rel3' := rel3.grow k3 (okZ o3)
    have relH3 := relg.grow k3 (okZ o3)
    have kH3 : Keep (Zr R) H1 H3 := (k'.trans (Keep.of_same same)).trans k3
    have racc3 := (racc.keep (Keep.of_same same)).keep (relg.keepA k3)
    cases b with
    | false => exact L2.iteF ⟨u2, acc, ys, zs, relH3, o3, hD3, racc3, ef2, rfl, by omega, kH3⟩
    | true =>
      refine L2.iteT ⟨xs[i], avp O D, H0, ow, u2, ?_⟩
      obtain ⟨y, u3, ef3, ef4⟩ := bind_some (show bindM (f xs[i]) (fun y => bindM (compM mc f (xs.drop (i + 1))) fun ys => pureM (y :: ys)) u2 = some (zs, st') from ef2)
      obtain ⟨zs', u4, ef5, ef6⟩ := bind_some ef4
      obtain ⟨rfl, rfl⟩ := pure_some ef6
      refine ⟨y, u3, rel3', o3, ef3, fun w H4 k4 o4 rp4 => ?_⟩
      have hD4 : H4 D = some (.lst acc) := k4 _ _ nZ hD3
      have hacc : acc.length = ys.length := by have := racc.length; simpa using this
      refine ⟨acc, hD4, by omega, u3, acc ++ [w], ys ++ [y], zs', (relH3.grow k4 (okZ o4)).updO (.inr rfl) n0 _ (fun _ => by simp), o4.keep (fun a o z e => by rw [upd_ne (fun q => nZ (by rw [← q]; exact z))]; exact e), upd_same, ?_, ef5, by simp, by simp; omega, fun a o nz e => ?_⟩
      · have kD : Keep (avo (avp O D) (wipeG Γ vs) ow) H4 (upd H4 D (.lst (acc ++ [w]))) := fun a o na e => by rw [upd_ne (fun z => na (.inl (.inr z)))]; exact e
        rw [List.map_append]
        refine (((racc3.keep (relH3.keepA k4)).keep kD)).append (.cons ((rp4.less fun a z => ?_).keep kD) .nil)
        rcases z with z | ⟨j, d, e3, e4⟩
        · exact .inl z
        · refine .inr ⟨j, d, ?_, e4⟩
          rw [hsm _ _ j fun hj => absurd (wipeG_in (his j hj) e3) (by simp)]
          exact e3
      · rw [upd_ne (ne_of_none e nD)]; exact k4 _ _ nz (kH3 _ _ nz e)
  · have hi' : i = xs.length := by omega
    subst hi'
    refine .inl ⟨stop (by simp), ?_⟩
    rw [List.drop_length] at ef
    obtain ⟨rfl, rfl⟩ := pure_some (show pureM [] u = some (zs, st') from ef)
    rw [List.append_nil] at q
    refine q D acc H' ?_ (k1.trans k') ok' hD (racc.less fun a z => ?_)
    · exact noneK k1 o1 nD
    · rcases z with z | z
      · exact avL a z
      · exact .inl (.inr z)
theorem f_lc {set : List Slot → ι → List Slot} {is : List Nat} {mi : M (List ι)} {elt tg iter : Expr} {ifs : List Expr} {scope : Scope} (own : List (Str × Nat)) (mc : ι → M Bool) (f : ι → M γ) (hc : X.calm = true) (hN : X.N.Nodup)
    (hi : IJ X R Γ iter tg ei mi) (ok : BlkOk X.N X.env.scope scope own)
    (hg : ∀ (s : Shared) (H : Hp) (C : Addr) (cl : List (Str × Addr)) (fp : List Addr), GJ (X.blk s H scope (compEnvC scope cl C X.env) fp) tg set is ei)
    (ht : ∀ (s : Shared) (H : Hp) (C : Addr) (cl : List (Str × Addr)) (fp : List Addr) (x : ι), CJ (X.blk s H scope (compEnvC scope cl C X.env) fp) R (set (wipeG Γ (own.map (·.2))) x) ifs (mc x))
    (he : ∀ (s : Shared) (H : Hp) (C : Addr) (cl : List (Str × Addr)) (fp : List Addr) (x : ι), EJ (X.blk s H scope (compEnvC scope cl C X.env) fp) R (set (wipeG Γ (own.map (·.2))) x) elt ec (f x))
    (hset : ∀ Γ x (i : Nat) d, (set Γ x)[i]? = some (.ow d) → Γ[i]? = some (.ow d)) (hsm : ∀ Γ x (i : Nat), i ∉ is → (set Γ x)[i]? = Γ[i]?) (his : ∀ i ∈ is, i ∈ own.map (·.2)) (hvs : ∀ i ∈ own.map (·.2), ∀ d, Γ[i]? ≠ some (.ow d))
    (hs : ∀ x, foldedSetIterable iter X.env x = pure x := by intro _; rfl) : EF X R Γ (.ListComp elt [⟨tg, iter, ifs, 0⟩] scope pos) ec (bindM mi fun xs => compM mc f xs) :=
  PE.weak (pe_lc hc hN hi ok hg (fun s H C cl fp => PTs.ex fun x => ht s H C cl fp x) (fun s H C cl fp => PE.ex fun x => he s H C cl fp x) hs) fun σ H Q h => lc_read hset hsm his hvs h
/-- name = [..] on one line, the name a local -/
theorem q_setLc (i : Nat) {y : Str} {py spos : Pos} {set : List Slot → ι → List Slot} {is : List Nat} {mi : M (List ι)} {elt tg iter : Expr} {ifs : List Expr} {scope : Scope} (own : List (Str × Nat)) (mc : ι → M Bool) (f : ι → M γ) (hc : X.calm = true) (hN : X.N.Nodup)
    (hsw : swapsWith (.ListComp elt [⟨tg, iter, ifs, 0⟩] scope pos) (some (.Name y py)) spos.line X.env = pure true)
    (hi : IJ X R Γ iter tg ei mi) (ok : BlkOk X.N X.env.scope scope own)
    (hg : ∀ (s : Shared) (H : Hp) (C : Addr) (cl : List (Str × Addr)) (fp : List Addr), GJ (X.blk s H scope (compEnvC scope cl C X.env) fp) tg set is ei)
    (ht : ∀ (s : Shared) (H : Hp) (C : Addr) (cl : List (Str × Addr)) (fp : List Addr) (x : ι), CJ (X.blk s H scope (compEnvC scope cl C X.env) fp) R (set (wipeG Γ (own.map (·.2))) x) ifs (mc x))
    (he : ∀ (s : Shared) (H : Hp) (C : Addr) (cl : List (Str × Addr)) (fp : List Addr) (x : ι), EJ (X.blk s H scope (compEnvC scope cl C X.env) fp) R (set (wipeG Γ (own.map (·.2))) x) elt ec (f x))
    (hset : ∀ Γ x (i : Nat) d, (set Γ x)[i]? = some (.ow d) → Γ[i]? = some (.ow d)) (hsm : ∀ Γ x (i : Nat), i ∉ is → (set Γ x)[i]? = Γ[i]?) (his : ∀ i ∈ is, i ∈ own.map (·.2)) (hvs : ∀ i ∈ own.map (·.2), ∀ d, Γ[i]? ≠ some (.ow d))
    (hy : X.N[i]? = some y := by rfl) (hyl : X.env.scope.names.lookup y = some .local := by rfl) (hs : ∀ x, foldedSetIterable iter X.env x = pure x := by intro _; rfl) :
    QJ X R Γ (.Assign [.Name y py] (.ListComp elt [⟨tg, iter, ifs, 0⟩] scope pos) spos) (fun r => .nx (Γ.set i (.ow (eL ec r)))) (bindM mi fun xs => compM mc f xs) := by
  refine PS.weak (ps_setLc hc hN hy hyl hsw hi ok hg (fun s H C cl fp => PTs.ex fun x => ht s H C cl fp x) (fun s H C cl fp => PE.ex fun x => he s H C cl fp x) hs) fun D σ H h => ?_
  refine lc_read hset hsm his hvs ?_
  obtain ⟨O, H0, ow, st, z, st', rel, ok, e, q⟩ := h
  refine ⟨O, H0, ow, st, z, st', rel, ok, e, fun p vs H' n k o ep rp => ?_⟩
  obtain ⟨r1, s1⟩ := rel.setOw i n k (okZ o) ep rp
  exact q _ _ H' r1 o s1
/-- .. and it is only read from here on -/
theorem q_setLcE (i : Nat) {y : Str} {py spos : Pos} {set : List Slot → ι → List Slot} {is : List Nat} {mi : M (List ι)} {elt tg iter : Expr} {ifs : List Expr} {scope : Scope} (own : List (Str × Nat)) (mc : ι → M Bool) (f : ι → M γ) (hc : X.calm = true) (hN : X.N.Nodup)
    (hsw : swapsWith (.ListComp elt [⟨tg, iter, ifs, 0⟩] scope pos) (some (.Name y py)) spos.line X.env = pure true)
    (hi : IJ X R Γ iter tg ei mi) (ok : BlkOk X.N X.env.scope scope own)
    (hg : ∀ (s : Shared) (H : Hp) (C : Addr) (cl : List (Str × Addr)) (fp : List Addr), GJ (X.blk s H scope (compEnvC scope cl C X.env) fp) tg set is ei)
    (ht : ∀ (s : Shared) (H : Hp) (C : Addr) (cl : List (Str × Addr)) (fp : List Addr) (x : ι), CJ (X.blk s H scope (compEnvC scope cl C X.env) fp) R (set (wipeG Γ (own.map (·.2))) x) ifs (mc x))
    (he : ∀ (s : Shared) (H : Hp) (C : Addr) (cl : List (Str × Addr)) (fp : List Addr) (x : ι), EJ (X.blk s H scope (compEnvC scope cl C X.env) fp) R (set (wipeG Γ (own.map (·.2))) x) elt ec (f x))
    (hset : ∀ Γ x (i : Nat) d, (set Γ x)[i]? = some (.ow d) → Γ[i]? = some (.ow d)) (hsm : ∀ Γ x (i : Nat), i ∉ is → (set Γ x)[i]? = Γ[i]?) (his : ∀ i ∈ is, i ∈ own.map (·.2)) (hvs : ∀ i ∈ own.map (·.2), ∀ d, Γ[i]? ≠ some (.ow d))
    (hy : X.N[i]? = some y := by rfl) (hyl : X.env.scope.names.lookup y = some .local := by rfl) (hs : ∀ x, foldedSetIterable iter X.env x = pure x := by intro _; rfl) :
    QJ X R Γ (.Assign [.Name y py] (.ListComp elt [⟨tg, iter, ifs, 0⟩] scope pos) spos) (fun r => .nx (Γ.set i (.fz (eL ec r)))) (bindM mi fun xs => compM mc f xs) := by
  refine PS.weak (ps_setLc hc hN hy hyl hsw hi ok hg (fun s H C cl fp => PTs.ex fun x => ht s H C cl fp x) (fun s H C cl fp => PE.ex fun x => he s H C cl fp x) hs) fun D σ H h => ?_
  refine lc_read hset hsm his hvs ?_
  obtain ⟨O, H0, ow, st, z, st', rel, ok, e, q⟩ := h
  refine ⟨O, H0, ow, st, z, st', rel, ok, e, fun p vs H' n k o ep rp => ?_⟩
  exact q ow _ H' ((rel.grow k (okZ o)).setFz i (.lst (rel.ad.fresh n) ep (rp.less fun _ z => .inl z))) o (Step.setFz i _ (rel.keepA k))

/-! ### defs -/
/-- the promise: on the arguments en a it hands back what f a says -/
def SpM (en : α → List Slot) (er : ρ → PyData) (f : α → M ρ) : Sp := fun vs H Q _ => ∃ R O a st r st', (∀ x, Zr R x → O x) ∧ (∀ x, O x → NT (H x)) ∧ okR R st H ∧ RpSs R O H vs (en a) ∧ f a st = some (r, st') ∧
  ∀ v H', Keep (Zr R) H H' → okR R st' H' → Rp O H' v (er r) → Q v H'
theorem RpSs.length {A : Av} {H : Hp} : ∀ {vs : List V} {l : List Slot}, RpSs R A H vs l → vs.length = l.length
  | _, [], h => by cases h; rfl
  | _, _ :: _, h => by cases h with | cons _ h2 => simp [RpSs.length h2]
theorem RpSs.get {A : Av} {H : Hp} : ∀ {vs : List V} {l : List Slot} {i : Nat} {s : Slot}, RpSs R A H vs l → l[i]? = some s → ∃ v, vs[i]? = some v ∧ RpS R A H v s
  | _, [], _, _, _, e => by simp at e
  | _, _ :: _, 0, _, h, e => by cases h with | cons h1 _ => simp at e; subst e; exact ⟨_, rfl, h1⟩
  | _, _ :: _, i + 1, _, h, e => by cases h with | cons _ h2 => simpa using RpSs.get h2 (by simpa using e)
/-- the slots at a def's entry -/
def entry (l : List Slot) (k : Nat) : List Slot := l ++ List.replicate k .un
theorem Rel.entry {O : Av} {H : Hp} {vs : List V} {l : List Slot} {N : List Str} (hl : RpSs R O H vs l) (hk : l.length ≤ N.length) (hz : ∀ x, Zr R x → O x) (hd : ∀ x, O x → NT (H x)) : Rel R O H (fun _ => 0) (Pz.entry l (N.length - l.length)) (L2.start N vs) H := by
  have len := hl.length
  have noow : ∀ (i : Nat) (d : PyData), (Pz.entry l (N.length - l.length))[i]? ≠ some (.ow d) := fun i d e => by
    unfold Pz.entry at e
    by_cases h : i < l.length
    · rw [List.getElem?_append_left h] at e
      obtain ⟨v, _, r⟩ := hl.get e
      exact r
    · rw [List.getElem?_append_right (by omega)] at e
      have := List.mem_of_getElem? e
      rw [List.mem_replicate] at this
      cases this.2
  have at_ : ∀ {i : Nat} {s : Slot}, (Pz.entry l (N.length - l.length))[i]? = some s → s ≠ .un → ∃ v, (L2.start N vs)[i]? = some (some v) ∧ RpS R O H v s := fun {i s} e n => by
    unfold Pz.entry at e
    by_cases h : i < l.length
    · rw [List.getElem?_append_left h] at e
      obtain ⟨v, a, r⟩ := hl.get e
      refine ⟨v, ?_, r⟩
      unfold L2.start
      rw [List.getElem?_append_left (by rw [List.length_map]; omega), List.getElem?_map, a]
      rfl
    · rw [List.getElem?_append_right (by omega)] at e
      have := List.mem_of_getElem? e
      rw [List.mem_replicate] at this
      exact absurd this.2 n
  refine ⟨?_, fun i d e => ?_, fun i d e => absurd e (noow i d), fun i e => ?_, fun i j d d' e => absurd e (noow i d), Keep.refl H, hz, hd⟩
  · unfold Pz.entry L2.start
    simp only [List.length_append, List.length_replicate, List.length_map]
    omega
  · obtain ⟨v, a, r⟩ := at_ e (by simp)
    exact ⟨v, a, Rp.less (show Rp O H v d from r) fun x z => by
      rcases z with z | ⟨j, d', e', _⟩
      · exact z
      · exact absurd e' (noow j d')⟩
  · obtain ⟨v, a, b, c, e1, e2⟩ := at_ e (by simp)
    subst e2
    exact ⟨b, c, e1, a⟩
/-- the context of a def's body -/
abbrev BX (P : Program) (w : World) (K : PySem.W.Frag) (mg : Str → Option Value) (base : Heap) (N : List Str) (qual : Str) (st : Stmt) (f : Addr) (cdv : Value) (A : Around) (outer : List Env) (s : Shared) (H : Hp) (E : XK) : Cx :=
  (cxOf CX0 P w K mg base N qual (defScope st) f cdv A outer s H E).nox
theorem fn_ok {P : Program} {w : World} {K : PySem.W.Frag} {mg : Str → Option Value} {base : Heap} {x qual : Str} {st : Stmt} {f : Addr} {fd : FuncData} {N ps : List Str} {k : Nat} (F : Fun K x qual st f fd) (S : FnScope N ps (defScope st))
    (en : α → List Slot) (er : ρ → PyData) (g : α → M ρ) (Γ0 : α → List Slot) (hn : ∀ a, (en a).length = ps.length) (hΓ : ∀ a, Pz.entry (en a) (N.length - ps.length) = Γ0 a)
    (body : ∀ (cdv : Value) (A : Around) (outer : List Env) (s : Shared) (H : Hp) (E : XK) (R : Res) (a : α), Room k (A.deeper (envOfC qual (defScope st) s.heap.objs.size f cdv)) → SJ (BX P w K mg base N qual st f cdv A outer s H E) R (Γ0 a) (defBody st) (fun r => .rt (er r)) (g a)) :
    FnOk P w K mg base CX0 (k + 1) f fd ps (SpM en er g) := by
  have hpl : ps.length ≤ N.length := by have := congrArg List.length S.pre; rw [List.length_take] at this; omega
  refine F.ok S (fun vs H Q E ⟨R, O, a, st, r, st', _, _, _, h, _⟩ => by rw [h.length, hn]) (fun cdv A outer s H vs Q E hr h => ?_)
  obtain ⟨R, O, a, u, r, u', hz, hd, ok, hl, e, q⟩ := h
  refine ⟨_, body cdv A outer s H E R a hr, O, H, fun _ => 0, u, r, u', ?_, ok, e, q⟩
  rw [← hΓ a]
  have := Rel.entry (N := N) hl (by rw [hn]; exact hpl) hz hd
  rw [hn] at this
  exact this
/-- f(..) -/
theorem e_call {k : Nat} {f : Addr} {fd : FuncData} {ps : List Str} {x : Str} {p : Pos} {e0 : Expr} {es : List Expr} {en : α → List Slot} {g : α → M ρ} {ma : M α} (F : FnOk X.prog X.w X.K X.mg X.base CX0 k f fd ps (SpM en er g)) (hr : Room k X.A) (hm : X.mg x = some (.ref f)) (hk : PySem.W.keepIn X.K (.ref f) = true)
    (hb : Binds X.K fd ps []) (ha : AJ X R Γ (e0 :: es) en ma) (hg : Gl X x := by rfl) (hdb : (x == ("__debug__" : Str)) = false := by decide) (he : starEach (e0 :: es) X.env = (false, eval e0 X.env) :: starEach es X.env := by rfl) (hpl : (backTo pos (starEach es X.env)).any (·.1) = false := by rfl) :
    EJ X R Γ (.Call (.Name x p) (e0 :: es) [] pos) er (bindM ma g) := by
  refine PE.weak (pe_call F hr hg hm hk hb .nil pass0 ha hdb he hpl) fun σ H Q ⟨O, H0, ow, st, z, st', rel, ok, e, q⟩ => ?_
  obtain ⟨a, s1, e1, e2⟩ := bind_some e
  refine ⟨O, H0, ow, st, a, s1, rel, ok, e1, fun vs H1 k1 o1 r1 => ?_⟩
  have rel1 := rel.grow k1 (okZ o1)
  refine ⟨R, avo O Γ ow, a, s1, z, st', fun x h => rel1.zavo h, fun x h => rel1.adom h, o1, by rw [List.append_nil]; exact r1, e2, fun v H' k2 o2 r2 => q v H' (k1.trans k2) o2 r2⟩

/-! ### several names at once -/
theorem q_par2 (i j : Nat) {x y : Str} {a b : Expr} {px py pt : Pos} {kt k2 pt2} {eb : β → PyData} {ma : M α} {mb : M β} (ha : EJ X R Γ a ea ma) (hb : EJ X R Γ b eb mb) (hc : X.calm = true) (hN : X.N.Nodup) (hi : X.N[i]? = some x := by rfl) (hj : X.N[j]? = some y := by rfl) (hij : i ≠ j := by decide)
    (hx : X.env.scope.names.lookup x = some .local := by rfl) (hy : X.env.scope.names.lookup y = some .local := by rfl)
    (hw : swappedStores [.Tuple [.Name x px, .Name y py] kt pt] (.Tuple [a, b] k2 pt2) X.env = pure (some [x, y]) := by rfl)
    (hs : swapsWithSole [.Tuple [.Name x px, .Name y py] kt pt] (.Tuple [a, b] k2 pt2) pos.line X.env = pure false := by rfl)
    (hs1 : starEach [a, b] X.env = (false, eval a X.env) :: starEach [b] X.env := by rfl) (hs2 : starEach [b] X.env = (false, eval b X.env) :: starEach [] X.env := by rfl) :
    QJ X R Γ (.Assign [.Tuple [.Name x px, .Name y py] kt pt] (.Tuple [a, b] k2 pt2) pos) (fun p : α × β => .nx ((Γ.set i (.fz (ea p.1))).set j (.fz (eb p.2)))) (bindM ma fun u => bindM mb fun v => pureM (u, v)) := by
  refine PS.weak (ps_par hc hN hi hj hij hx hy (pa_cons ha (pa_cons hb pa_nil hs2) hs1) hw hs) fun D σ H ⟨O, H0, ow, st, z, st', rel, ok, e, q⟩ => ?_
  obtain ⟨u, s1, e1, e2⟩ := bind_some e
  obtain ⟨v, s2, e3, e4⟩ := bind_some e2
  obtain ⟨rfl, rfl⟩ := pure_some e4
  refine ⟨O, H0, ow, st, u, s1, rel, ok, e1, fun vx H1 k1 o1 r1 => ?_⟩
  have rel1 := rel.grow k1 (okZ o1)
  refine ⟨O, H0, ow, s1, v, s2, rel1, o1, e3, fun vy H2 k2 o2 r2 => ?_⟩
  have rel2 := rel1.grow k2 (okZ o2)
  have less : ∀ a, avo O (Γ.set i (.fz (ea u))) ow a → avo O Γ ow a := fun a z => by
    rcases z with z | ⟨l, d, e5, e6⟩
    · exact .inl z
    · exact .inr ⟨l, d, set_noow _ _ e5, e6⟩
  refine ⟨vx, vy, rfl, q ow _ H2 ((rel2.setFz i (r1.keep (rel1.keepA k2))).setFz j (r2.less less)) o2 ⟨rel.keepA (k1.trans k2), fun l d e5 => .inl (.inr ⟨l, d, set_noow _ _ (set_noow _ _ e5), rfl⟩)⟩⟩
/-- a, b, .. = the items of a tuple -/
theorem q_asg {tg : Expr} {set : List Slot → α → List Slot} {is : List Nat} {enc : α → PyData} {m : M α} (he : EJ X R Γ e enc m) (hg : GJ X tg set is enc) (hset : ∀ Γ x (i : Nat) d, (set Γ x)[i]? = some (.ow d) → Γ[i]? = some (.ow d))
    (hs : swapsWithSole [tg] e pos.line X.env = pure false := by rfl) (hw : swappedStores [tg] e X.env = pure none := by rfl) (h1 : (assignEach [tg] X.env).map (·.2) = [assign tg X.env] := by rfl) :
    QJ X R Γ (.Assign [tg] e pos) (fun r => .nx (set Γ r)) m := by
  refine PS.weak (ps_asg he hg hs hw h1) fun D σ H ⟨O, H0, ow, st, z, st', rel, ok, e, q⟩ => ⟨O, H0, ow, st, z, st', rel, ok, e, fun v H' k o rp => ?_⟩
  refine ⟨R, O, H0, ow, Γ, z, rel.grow k (okZ o), rp, fun σ' rel' _ => q ow σ' H' rel' o ⟨rel.keepA k, fun l d e5 => .inl (.inr ⟨l, d, hset _ _ _ _ e5, rfl⟩)⟩⟩
end
end Pz

namespace Pz
open PySem PySem.Spec PyProof.Rows L2

/-! ### defs that are called where no repr is under way -/
structure FnG (P : Program) (w : World) (K : PySem.W.Frag) (mg : Str → Option Value) (base : Heap) (k : Nat) (f : Addr) (fd : FuncData) (ps : List Str) (sp : Sp) : Prop where
  many : ∀ vs H Q E, sp vs H Q E → vs.length = ps.length
  go : ∀ (A : Around) (above : List Env) (s : Shared) (H : Hp) (args : Args) (us : List Value) (vs : List V) (Q : VK) (E : XK), A.guards = some [] → Room k A → Env0 P w K mg base A above s H → BindsTo s fd args (ps.zip us) → Vals vs us →
    sp vs H Q E → codeAny (model P w) A (.call (.ref f) args) (CR CX0 above P w H s Q E) s
theorem FnG.mono {P : Program} {w : World} {K : PySem.W.Frag} {mg : Str → Option Value} {base : Heap} {j k : Nat} {f : Addr} {fd : FuncData} {ps : List Str} {sp : Sp} (F : FnG P w K mg base j f fd ps sp) (h : j ≤ k) : FnG P w K mg base k f fd ps sp :=
  ⟨F.many, fun A above s H args us vs Q E g r => F.go A above s H args us vs Q E g (r.mono h)⟩
theorem FnOk.toG {P : Program} {w : World} {K : PySem.W.Frag} {mg : Str → Option Value} {base : Heap} {k : Nat} {f : Addr} {fd : FuncData} {ps : List Str} {sp : Sp} (F : FnOk P w K mg base CX0 k f fd ps sp) : FnG P w K mg base k f fd ps sp :=
  ⟨F.len, fun A above s H args us vs Q E _ r e b v h => F.run A above s H args us vs Q E r e b v h⟩
section
variable {α β γ κ ρ ι : Type} {ea : α → PyData} {ec : γ → PyData} {er : ρ → PyData} {ei : ι → PyData} {X : Cx} {R : Res} {Γ Γ' : List Slot} {e c : Expr} {pos : Pos}
theorem guards_in {A : Around} {env : Env} : (A.deeper env).guards = A.guards := rfl
theorem g_def {P : Program} {w : World} {K : PySem.W.Frag} {mg : Str → Option Value} {base : Heap} {x qual : Str} {st : Stmt} {f : Addr} {fd : FuncData} {N ps : List Str} {k : Nat} (F : Fun K x qual st f fd) (S : FnScope N ps (defScope st)) {sp : Sp}
    (many : ∀ vs H Q E, sp vs H Q E → vs.length = ps.length)
    (body : ∀ (cdv : Value) (A : Around) (above : List Env) (s : Shared) (H : Hp) (vs : List V) (Q : VK) (E : XK), A.guards = some [] → Room k (A.deeper (envOfC qual (defScope st) s.heap.objs.size f cdv)) → sp vs H Q E →
      ∃ t, PSs (BX P w K mg base N qual st f cdv A above s H E) (defBody st) t ∧ t { nx := fun _ H' => Q .non H', rt := Q } (L2.start N vs) H) : FnG P w K mg base (k + 1) f fd ps sp := by
  obtain ⟨oc, od, kV, doc, pm, an, cdv, ct, osl, rfl, lk, hcd⟩ := F.ex
  refine ⟨many, fun A above s H args us vs Q E hG room env0 binds vals want => ?_⟩
  have cnt := many vs H Q E want
  have inK : K.In s.heap := env0.mod.kin.keeps (fun b o e => (env0.bs b o e).1)
  have noLim : s.heap.NoLimit := env0.mod.nolimit.keeps (fun b o e => (env0.bs b o e).1)
  have kinds : ∀ y ∈ ps.zip us, (defScope st).names.lookup y.1 = some .local ∨ ((defScope st).names.lookup y.1 = some .cell ∧ ((cellsFrom (s.heap.objs.size + 1) (defScope st).names []).lookup y.1).isSome = true) := by
    rintro ⟨n, v⟩ hy
    exact (S.par n (List.of_mem_zip hy).1).elim .inl fun q => .inr ⟨q, PySem.W.cellsFrom_some _ _ _ (.inl q)⟩
  refine codeAny_call_function room.depth (inK _ _ lk) rfl S.co S.gen rfl (PySem.W.codeRec_of inK hcd) (binds _ _ _ _ (wpAny_newFunctionEnv_cells S.kind kinds fun env he s1 begun => ?_))
  subst he
  refine ⟨noLim.keeps begun.toInCall.keep, codeAny_func ?_⟩
  obtain ⟨t, ht, reading⟩ := body cdv A above s H vs Q E hG (room.deeper _) want
  have inv0 : Inv (cxOf CX0 P w K mg base N qual (defScope st) f cdv A above s H E) [] (L2.start N vs) H s1 := inv_start S room.hd env0 cnt vals begun
  refine wpAny_mono (ht.nox.run [] s1 (L2.start N vs) H _ inv0 reading) (fun fl s' hs => ?_) (fun _ _ z => z)
  cases fl with
  | ret u => obtain ⟨v, σ', H', J, rv, q⟩ := hs; exact ⟨v, H', J.os, J.bare, J.base, J.hok, rv, q⟩
  | next => obtain ⟨σ', H', J, q⟩ := hs; exact ⟨V.non, H', J.os, J.bare, J.base, J.hok, rfl, q⟩
  | brk => obtain ⟨_, _, _, q⟩ := hs; exact q.elim
  | cont => obtain ⟨_, _, _, q⟩ := hs; exact q.elim
theorem g_ok {P : Program} {w : World} {K : PySem.W.Frag} {mg : Str → Option Value} {base : Heap} {x qual : Str} {st : Stmt} {f : Addr} {fd : FuncData} {N ps : List Str} {k : Nat} (F : Fun K x qual st f fd) (S : FnScope N ps (defScope st))
    (en : α → List Slot) (er : ρ → PyData) (g : α → M ρ) (Γ0 : α → List Slot) (hn : ∀ a, (en a).length = ps.length) (hΓ : ∀ a, Pz.entry (en a) (N.length - ps.length) = Γ0 a)
    (body : ∀ (cdv : Value) (A : Around) (above : List Env) (s : Shared) (H : Hp) (E : XK) (R : Res) (a : α), A.guards = some [] → Room k (A.deeper (envOfC qual (defScope st) s.heap.objs.size f cdv)) → SJ (BX P w K mg base N qual st f cdv A above s H E) R (Γ0 a) (defBody st) (fun r => .rt (er r)) (g a)) :
    FnG P w K mg base (k + 1) f fd ps (SpM en er g) := by
  have hpl : ps.length ≤ N.length := by have := congrArg List.length S.pre; rw [List.length_take] at this; omega
  refine g_def F S (fun vs H Q E ⟨R, O, a, st, r, st', _, _, _, h, _⟩ => by rw [h.length, hn]) (fun cdv A above s H vs Q E hG hr h => ?_)
  obtain ⟨R, O, a, u, r, u', hz, hd, ok, hl, e, q⟩ := h
  refine ⟨_, body cdv A above s H E R a hG hr, O, H, fun _ => 0, u, r, u', ?_, ok, e, q⟩
  rw [← hΓ a]
  have := Rel.entry (N := N) hl (by rw [hn]; exact hpl) hz hd
  rw [hn] at this
  exact this
/-- x(..), x a def -/
theorem pe_callG {k : Nat} {f : Addr} {fd : FuncData} {ps : List Str} {sp : Sp} {x : Str} {p : Pos} {e0 : Expr} {es : List Expr} {t : TA} (F : FnG X.prog X.w X.K X.mg X.base k f fd ps sp) (hG : X.A.guards = some []) (hr : Room k X.A) (hg : Gl X x) (hm : X.mg x = some (.ref f)) (hk : PySem.W.keepIn X.K (.ref f) = true)
    (hb : Binds X.K fd ps []) (ha : PA X (e0 :: es) t) (hdb : (x == ("__debug__" : Str)) = false) (he : starEach (e0 :: es) X.env = (false, eval e0 X.env) :: starEach es X.env) (hpl : (backTo pos (starEach es X.env)).any (·.1) = false) :
    PE X (.Call (.Name x p) (e0 :: es) [] pos) (fun σ H Q => t σ H fun vs H1 => sp vs H1 Q E0) := by
  constructor
  intro pins s σ H Q inv want
  refine wpAny_Call_Name_kw (ld_glob inv hg hm ?_ hdb)
  refine PySem.W.callWith_K (h₀ := X.base) inv.ok.mod.kin hk (wpAny_mono (ha.run pos pins s σ H _ inv want) (fun us s1 w1 => ?_) fun _ _ z => z) he hpl
  obtain ⟨vs, H1, inv1, vals, q⟩ := w1
  refine ⟨inv1.kIn, ?_⟩
  have cnt : (us ++ []).length = ps.length := by rw [List.append_nil, ← vals.length]; exact F.many _ _ _ _ q
  have bt := hb s1 us inv1.kIn cnt
  rw [List.append_nil] at bt
  refine wpAny_call (codeAny_mono (F.go X.A X.stack s1 H1 ⟨us, []⟩ us vs Q E0 hG hr inv1.env0 bt vals q) fun r s2 back => ?_)
  cases r with
  | error e => exact False.elim back
  | ok fl =>
    cases fl with
    | ret u => exact inv1.after back
    | next => exact False.elim back
    | brk => exact False.elim back
    | cont => exact False.elim back
theorem e_callG {k : Nat} {f : Addr} {fd : FuncData} {ps : List Str} {x : Str} {p : Pos} {e0 : Expr} {es : List Expr} {en : α → List Slot} {g : α → M ρ} {ma : M α} (F : FnG X.prog X.w X.K X.mg X.base k f fd ps (SpM en er g)) (hG : X.A.guards = some []) (hr : Room k X.A) (hm : X.mg x = some (.ref f)) (hk : PySem.W.keepIn X.K (.ref f) = true)
    (hb : Binds X.K fd ps []) (ha : AJ X R Γ (e0 :: es) en ma) (hg : Gl X x := by rfl) (hdb : (x == ("__debug__" : Str)) = false := by decide) (he : starEach (e0 :: es) X.env = (false, eval e0 X.env) :: starEach es X.env := by rfl) (hpl : (backTo pos (starEach es X.env)).any (·.1) = false := by rfl) :
    EJ X R Γ (.Call (.Name x p) (e0 :: es) [] pos) er (bindM ma g) := by
  refine PE.weak (pe_callG F hG hr hg hm hk hb ha hdb he hpl) fun σ H Q ⟨O, H0, ow, st, z, st', rel, ok, e, q⟩ => ?_
  obtain ⟨a, s1, e1, e2⟩ := bind_some e
  refine ⟨O, H0, ow, st, a, s1, rel, ok, e1, fun vs H1 k1 o1 r1 => ?_⟩
  have rel1 := rel.grow k1 (okZ o1)
  exact ⟨R, avo O Γ ow, a, s1, z, st', fun x h => rel1.zavo h, fun x h => rel1.adom h, o1, r1, e2, fun v H' k2 o2 r2 => q v H' (k1.trans k2) o2 r2⟩
end

/-! ### the law's own call -/
/-- what the law's def promises: True, whatever the script -/
def SpLaw (K : PySem.W.Frag) : Sp := fun vs H Q _ => ∃ (a : Addr) (ns : List Int), vs = [.ref a] ∧ SqL K H a (ns.map V.int) ∧ ns.length ≤ 63 ∧ Only H ∧ ∀ H', Q (.bl true) H'
theorem law_goes {P : Program} {w : World} {K : PySem.W.Frag} {mg mb : Str → Option Value} {k : Nat} {fa a : Addr} {fd : FuncData} {x : Str} {s1 : Shared} {vs : List Value} {ns : List Int} (KX : K.In s1.heap) (gl : s1.heap.Ns mainGlobals mg) (bl : s1.heap.Ns builtinsNs mb)
    (boot : ∀ x : Str, x ≠ "__name__" → mb x = bootBuiltins x) (noLim : s1.heap.NoLimit) (gens : s1.gens = #[]) (ha : s1.heap.get? a = some { cls := .type "list", data := .seq vs.toArray }) (areInts : IntsAre vs ns) (few : ns.length ≤ 63) (hr : Room k callerA)
    (F : ∀ base : Heap, K.In base → base.Ns mainGlobals mg → FnG P w K mg base k fa fd [x] (SpLaw K)) (bind : ∀ (s : Shared) (u : Value), BindsTo s fd ⟨[u], []⟩ [(x, u)]) :
    codeAny (model P w) callerA (.call (.ref fa) ⟨[.ref a], []⟩) (fun r s' => r = .ok (.ret (.bool true)) ∧ OldK s1.heap s'.heap ∧ s'.os = s1.os ∧ AllBare s'.gens) s1 := by
  have vi := vals_ints areInts
  have small : ns.length ≤ sizeLine := Nat.le_trans few (by decide)
  have main : ∀ H : Hp, Only H → SqL K H a (ns.map V.int) → HOk P w H s1.heap → (∀ b, H b ≠ none → b = a) → (H a ≠ none → K.lookup a = none) →
      codeAny (model P w) callerA (.call (.ref fa) ⟨[.ref a], []⟩) (fun r s' => r = .ok (.ret (.bool true)) ∧ OldK s1.heap s'.heap ∧ s'.os = s1.os ∧ AllBare s'.gens) s1 := by
    intro H only sq hok just inKey
    have untouched : ∀ {b : Addr} {o : Obj} {es : Array DictEntry} {ep : Nat}, s1.heap.get? b = some o → o.data = .dict es ep → H b = none := by
      intro b o es ep e d
      by_cases q : H b = none
      · exact q
      · have := just b q
        subst this
        rw [ha] at e
        cases e
        cases (show Data.seq vs.toArray _ = Data.dict es ep from d)
    have nsB : ∀ {b : Addr} {m : Str → Option Value}, s1.heap.Ns b m → (hidT s1.heap H).Ns b m := by
      rintro b m ⟨o, es, ep, e, d, r⟩
      exact ⟨o, es, ep, hidT_get e (untouched e d), d, r⟩
    have inB : K.In (hidT s1.heap H) := by
      intro b o e
      refine hidT_get (KX b o e) ?_
      by_cases q : H b = none
      · exact q
      · have := just b q
        subst this
        rw [inKey q] at e
        cases e
    have md : Mod K mg (hidT s1.heap H) := ⟨inB, nsB gl, ⟨mb, nsB bl, boot⟩, noLim.elim fun mc h => ⟨mc, nsB h.1, h.2⟩⟩
    have start0 : Env0 P w K mg (hidT s1.heap H) callerA [] s1 H := ⟨rfl, md, fun b o e => of_hidT e, Nat.le_of_eq (hidT_size _ _), trivial, fun b hb => (nomatch (show b ∈ ([] : List Addr) from hb)), hok, .of_eq gens⟩
    refine codeAny_mono ((F _ inB (nsB gl)).go callerA [] s1 H ⟨[.ref a], []⟩ [.ref a] [.ref a] (fun v _ => v = .bl true) E0 rfl hr start0 (bind s1 (.ref a)) (.cons rfl .nil) ⟨a, _, rfl, sq, few, only, fun _ => rfl⟩) fun r s' back => ?_
    cases r with
    | error e => exact False.elim back
    | ok fl =>
      cases fl with
      | next => exact False.elim back
      | brk => exact False.elim back
      | cont => exact False.elim back
      | ret u =>
        obtain ⟨v, H', os, bare, un, hok', rv, (rfl : v = .bl true)⟩ := back
        obtain rfl : u = Value.bool true := rv
        refine ⟨rfl, OldK.of_keep fun b o e => ?_, os, bare⟩
        by_cases q : H b = none
        · exact un.keep b o e q (fun z => nomatch (show b ∈ ([] : List Addr) from z)) (by simp)
        · rcases only b with z | ⟨_, _, z⟩
          · exact absurd z q
          · have first := (hok b _ z).1
            rw [e] at first
            cases first
            exact (hok' b _ (un.frzs b _ _ z)).1
  by_cases hk : K.lookup a = none
  · refine main (fun b => if b = a then some (.frz { cls := .type "list", data := .seq vs.toArray } (.lst (ns.map V.int))) else none) (fun b => ?_) (.inl (.inr ⟨{ cls := .type "list", data := .seq vs.toArray }, if_pos rfl⟩)) (fun b u z => ?_) (fun b z => ?_) (fun _ => hk)
    · by_cases hb : b = a
      · exact .inr ⟨_, _, if_pos hb⟩
      · exact .inl (if_neg hb)
    · by_cases hb : b = a
      · cases (if_pos hb).symm.trans z
        rw [hb]
        exact ⟨ha, by rw [List.length_map]; exact small, vs, _, vi, ha⟩
      · cases (if_neg hb).symm.trans z
    · exact Decidable.by_contra fun hb => z (if_neg hb)
  · obtain ⟨o, ho⟩ := Option.ne_none_iff_exists'.mp hk
    have e := KX a o ho
    rw [ha] at e
    cases e
    have lenV := areInts.length
    exact main (fun _ => none) (fun _ => .inl rfl) (.inr ⟨_, vs.toArray, _, ho, rfl, rfl, rfl, by rw [List.size_toArray, lenV]; exact small, by simpa using vi⟩) (fun b u z => nomatch (show (none : Option HO) = some u from z)) (fun b z => absurd rfl z) fun z => absurd rfl z
/-- the goal that k_head leaves, from the law's promise -/
theorem law_walk {l : PySem.W.OpenLaw} {k : Nat} {q : Program} {loose : List Str} {XP : (Str → Option Value) → Heap → Prop} {YP : World → Heap → Prop} {d : DefRec} {K : Params → PySem.W.Frag} {x : Str} (hn : l.most = some 63) (hdf : d.params.defaults = []) (hr : Room k callerA)
    (hY : ∀ (w : World) (h : Heap), YP w h → (K w.params).In h)
    (F : ∀ (w : World) (mg : Str → Option Value) (fa : Addr) (h : Heap), (K w.params).In h → h.Ns mainGlobals mg → mg d.name = some (.ref fa) →
      ∃ fd : FuncData, (∀ (s : Shared) (u : Value), BindsTo s fd ⟨[u], []⟩ [(x, u)]) ∧ ∀ base : Heap, (K w.params).In base → base.Ns mainGlobals mg → FnG l.prog w (K w.params) mg base k fa fd [x] (SpLaw (K w.params))) :
    PySem.W.WalkO q loose XP YP l.row.toRowW d [] (fun f vs => PySem.call f vs) :=
  Att.attach_call hn hdf fun w s0 s1 mg mb fa o pm cd doc a vs ns G Y _ _ _ hmg hobj hints hlen hg => by
    obtain ⟨fd, hb, hF⟩ := F w mg fa _ (hY w _ Y) G.T.g hmg
    exact law_goes (hY w _ Y) G.T.g G.T.b G.T.builtins G.T.nolimit hg hobj hints hlen hr hF hb
end Pz

namespace Pz
open PySem PySem.Spec PyProof.Rows L2

section
variable {α β γ δ ρ : Type} {ea : α → PyData} {eb : β → PyData} {ec : γ → PyData} {X : Cx} {R : Res} {Γ : List Slot} {e a b c : Expr} {pos : Pos}
/-! ### ints -/
theorem v_int2 {g : Int → Int → Int} : VOp (rI0 fun i j => .int (g i j)) eInt eInt eInt (fun x y => some (g x y)) := fun A H x y vx vy Q z ad r1 r2 e q => by
  cases r1; cases r2; cases e
  exact ⟨_, _, rfl, rfl, q _ H (Same.refl H) (.int _)⟩
theorem v_cmp2 {g : Int → Int → Bool} : VOp (rI0 fun i j => .bl (g i j)) eInt eInt eBool (fun x y => some (g x y)) := fun A H x y vx vy Q z ad r1 r2 e q => by
  cases r1; cases r2; cases e
  exact ⟨_, _, rfl, rfl, q _ H (Same.refl H) (.bl _)⟩
def mulO (x y : Int) : Option Int := if x.natAbs < 2 ^ 64 ∨ y.natAbs < 2 ^ 64 then some (x * y) else none
def divO (x y : Int) : Option Int := if y ≠ 0 ∧ y.natAbs < 1073741824 then some (x.fdiv y) else none
def modO (x y : Int) : Option Int := if y ≠ 0 then some (x.fmod y) else none
def powO (x y : Int) : Option Int := if 0 ≤ y ∧ y ≤ 1000000 ∧ x.natAbs < 2 ^ 64 then some (x ^ y.toNat) else none
def shlO (x y : Int) : Option Int := if 0 ≤ y ∧ y ≤ 1000000 ∧ x.natAbs < 2 ^ 64 then some (x * 2 ^ y.toNat) else none
theorem oif {α : Type} {p : Prop} [Decidable p] {a b : α} (h : (if p then some a else none) = some b) : p ∧ a = b := by
  by_cases hp : p
  · rw [if_pos hp] at h; exact ⟨hp, Option.some.inj h⟩
  · rw [if_neg hp] at h; cases h
theorem v_mul : VOp (rI CMul fun i j => .int (i * j)) eInt eInt eInt mulO := fun A H x y vx vy Q z ad r1 r2 e q => by
  cases r1; cases r2
  obtain ⟨h, rfl⟩ := oif e
  refine ⟨_, _, rfl, rfl, ?_, q _ H (Same.refl H) (.int _)⟩
  rcases h with h | h
  · left; omega
  · right; omega
theorem v_div : VOp (rI CDivN fun i j => .int (i.fdiv j)) eInt eInt eInt divO := fun A H x y vx vy Q z ad r1 r2 e q => by
  cases r1; cases r2
  obtain ⟨h, rfl⟩ := oif e
  exact ⟨_, _, rfl, rfl, h, q _ H (Same.refl H) (.int _)⟩
theorem v_mod : VOp (rI (fun _ j => j ≠ 0) fun i j => .int (i.fmod j)) eInt eInt eInt modO := fun A H x y vx vy Q z ad r1 r2 e q => by
  cases r1; cases r2
  obtain ⟨h, rfl⟩ := oif e
  exact ⟨_, _, rfl, rfl, h, q _ H (Same.refl H) (.int _)⟩
theorem v_pow : VOp (rI CPow fun i j => .int (i ^ j.toNat)) eInt eInt eInt powO := fun A H x y vx vy Q z ad r1 r2 e q => by
  cases r1; cases r2
  obtain ⟨h, rfl⟩ := oif e
  exact ⟨_, _, rfl, rfl, h, q _ H (Same.refl H) (.int _)⟩
theorem v_shl : VOp (rI CPow fun i j => .int (i * 2 ^ j.toNat)) eInt eInt eInt shlO := fun A H x y vx vy Q z ad r1 r2 e q => by
  cases r1; cases r2
  obtain ⟨h, rfl⟩ := oif e
  exact ⟨_, _, rfl, rfl, h, q _ H (Same.refl H) (.int _)⟩
theorem v_neg : V1 (rU fun i => .int (-i)) eInt eInt (fun x => some (-x)) := fun A H x vx Q z ad r1 e q => by
  cases r1; cases e
  exact ⟨_, rfl, q _ H (Same.refl H) (.int _)⟩
/-- the same of numbers, texts, truth values -/
theorem v_eqS [DecidableEq α] (f : α → V) (hf : ∀ (A : Av) (H : Hp) x v, Rp A H v (ea x) → v = f x) (hs : ∀ x y, scal (f x) (f y) = true) (hi : ∀ x y, f x = f y → x = y) : VOp rEq ea ea eBool (fun x y => some (decide (x = y))) := fun A H x y vx vy Q z ad r1 r2 e q => by
  cases e
  have e1 := hf _ _ _ _ r1
  have e2 := hf _ _ _ _ r2
  subst e1 e2
  refine ⟨hs _ _, ?_⟩
  rw [show decide (f x = f y) = decide (x = y) from decide_eq_decide.mpr ⟨hi x y, fun z => by rw [z]⟩]
  exact q _ H (Same.refl H) (.bl _)
theorem v_neS [DecidableEq α] (f : α → V) (hf : ∀ (A : Av) (H : Hp) x v, Rp A H v (ea x) → v = f x) (hs : ∀ x y, scal (f x) (f y) = true) (hi : ∀ x y, f x = f y → x = y) : VOp rNe ea ea eBool (fun x y => some (!decide (x = y))) := fun A H x y vx vy Q z ad r1 r2 e q => by
  cases e
  have e1 := hf _ _ _ _ r1
  have e2 := hf _ _ _ _ r2
  subst e1 e2
  refine ⟨hs _ _, ?_⟩
  rw [show decide (f x = f y) = decide (x = y) from decide_eq_decide.mpr ⟨hi x y, fun z => by rw [z]⟩]
  exact q _ H (Same.refl H) (.bl _)
theorem v_eqI : VOp rEq eInt eInt eBool (fun x y => some (decide (x = y))) := v_eqS V.int (fun A H x v r => by cases r; rfl) (fun _ _ => rfl) fun x y h => by cases h; rfl
theorem v_neI : VOp rNe eInt eInt eBool (fun x y => some (!decide (x = y))) := v_neS V.int (fun A H x v r => by cases r; rfl) (fun _ _ => rfl) fun x y h => by cases h; rfl
theorem v_eqB : VOp rEq eBool eBool eBool (fun x y => some (decide (x = y))) := v_eqS V.bl (fun A H x v r => by cases r; rfl) (fun _ _ => rfl) fun x y h => by cases h; rfl
theorem v_neB : VOp rNe eBool eBool eBool (fun x y => some (!decide (x = y))) := v_neS V.bl (fun A H x v r => by cases r; rfl) (fun _ _ => rfl) fun x y h => by cases h; rfl
theorem v_eqT : VOp rEq eStr eStr eBool (fun x y => some (decide (x = y))) := v_eqS V.str (fun A H x v r => by cases r; rfl) (fun _ _ => rfl) fun x y h => by cases h; rfl
theorem v_neT : VOp rNe eStr eStr eBool (fun x y => some (!decide (x = y))) := v_neS V.str (fun A H x v r => by cases r; rfl) (fun _ _ => rfl) fun x y h => by cases h; rfl

/-! ### data as a whole -/
mutual
def noLst : PyData → Bool
  | .list _ => false
  | .dict kvs => kvs.isEmpty
  | .tuple ds => noLsts ds
  | _ => true
def noLsts : List PyData → Bool
  | [] => true
  | d :: ds => noLst d && noLsts ds
end
theorem reads_val {h : Heap} {v : V} {u : Value} {d : PyData} (r : RelV v u) (e : valB v = some d) : Reads h u d [] := by
  cases v with
  | non => cases e; cases r; exact .none
  | bl b => cases e; cases r; exact .bool b
  | int i => cases e; obtain ⟨t, rfl⟩ := r; exact .int i t
  | str x => cases e; obtain ⟨t, rfl⟩ := r; exact .str x t
  | _ => cases e
theorem reads_kv {h : Heap} {k : L2.Key} {u : Value} (r : RelV (kV k) u) : Reads h u (keyD k) [] := by
  cases k with
  | inl i => obtain ⟨t, rfl⟩ := r; exact .int i t
  | inr x => obtain ⟨t, rfl⟩ := r; exact .str x t
theorem reads_dK {P : Program} {w : World} {h : Heap} : ∀ {es : List DictEntry} {vs : List (L2.Key × Value)} {ks : List (L2.Key × V)} {kvs : List (PyData × PyData)}, Pairs (mixKind P w) es vs → KV ks vs → ks.map (fun p => (keyD p.1, valB p.2)) = kvs.map (fun q => (q.1, some q.2)) →
    (∃ as, ReadsAll h (es.map (·.key)) (kvs.map (·.1)) as) ∧ ∃ bs, ReadsAll h (es.map (·.val)) (kvs.map (·.2)) bs
  | [], _, ks, kvs, p, q, e => by
    cases p
    cases q
    cases kvs with
    | nil => exact ⟨⟨_, .nil⟩, _, .nil⟩
    | cons _ _ => cases e
  | en :: es, _, ks, kvs, p, q, e => by
    cases p with
    | cons h1 h2 h3 =>
      cases q with
      | cons q1 q2 =>
        cases kvs with
        | nil => cases e
        | cons kv kvs =>
          rw [List.map_cons, List.map_cons, List.cons.injEq, Prod.mk.injEq] at e
          obtain ⟨⟨e1, e2⟩, e3⟩ := e
          obtain ⟨⟨as, a1⟩, bs, b1⟩ := reads_dK (h := h) h3 q2 e3
          have rk : Reads h en.key kv.1 [] := by
            rw [← e1]
            exact reads_kv (by rw [q1.1]; exact keyIs_rel h1)
          have rv : Reads h en.val kv.2 [] := reads_val (by rw [h2]; exact q1.2) e2
          exact ⟨⟨_, .cons rk a1⟩, _, .cons rv b1⟩
theorem reads_keys {pins : List (Addr × Obj)} {σ : L2.St} {H : Hp} {s : Shared} (I : Inv X pins σ H s) {a : Addr} {k : List L2.Key} (e : H a = some (.tup (k.map kV))) : ∃ as, Reads s.heap (.ref a) (.tuple (k.map keyD)) as := by
  obtain ⟨_, its, rv, o, ho, hc, n, hd⟩ := I.hok _ _ e
  have aux : ∀ (k : List L2.Key) (us : List Value), Vals (k.map kV) us → ∃ as, ReadsAll s.heap us (k.map keyD) as := by
    intro k
    induction k with
    | nil => intro us r; cases r; exact ⟨_, .nil⟩
    | cons x k ih =>
      intro us r
      cases r with
      | cons r1 r2 => obtain ⟨as, h⟩ := ih _ r2; exact ⟨_, .cons (reads_kv r1) h⟩
  obtain ⟨as, h⟩ := aux k its rv
  exact ⟨_, .tuple ho hc hd h⟩
theorem reads_dT {pins : List (Addr × Obj)} {σ : L2.St} {H : Hp} {s : Shared} (I : Inv X pins σ H s) : ∀ {ks : List (List L2.Key × V)} {xs : List (List L2.Key × Addr × Value)} {kvs : List (PyData × PyData)}, Paired (fun (p : List L2.Key × V) (q : List L2.Key × Addr × Value) => p.1 = q.1 ∧ H q.2.1 = some (.tup (p.1.map kV)) ∧ RelV p.2 q.2.2) ks xs →
    ks.map (fun p => (PyData.tuple (p.1.map keyD), valB p.2)) = kvs.map (fun q => (q.1, some q.2)) →
    (∃ as, ReadsAll s.heap (xs.map fun x => Value.ref x.2.1) (kvs.map (·.1)) as) ∧ ∃ bs, ReadsAll s.heap (xs.map fun x => x.2.2) (kvs.map (·.2)) bs
  | [], _, kvs, p, e => by
    cases p
    cases kvs with
    | nil => exact ⟨⟨_, .nil⟩, _, .nil⟩
    | cons _ _ => cases e
  | k :: ks, _, kvs, p, e => by
    cases p with
    | cons h1 h2 =>
      cases kvs with
      | nil => cases e
      | cons kv kvs =>
        rw [List.map_cons, List.map_cons, List.cons.injEq, Prod.mk.injEq] at e
        obtain ⟨⟨e1, e2⟩, e3⟩ := e
        obtain ⟨⟨as, a1⟩, bs, b1⟩ := reads_dT I h2 e3
        obtain ⟨cs, c1⟩ := reads_keys I h1.2.1
        rw [e1] at c1
        exact ⟨⟨_, .cons c1 a1⟩, _, .cons (reads_val h1.2.2 e2) b1⟩
mutual
theorem Rp.reads {pins : List (Addr × Obj)} {σ : L2.St} {H : Hp} {s : Shared} {A : Av} (I : Inv X pins σ H s) : ∀ (d : PyData) (v : V) (u : Value), Rp A H v d → RelV v u → ∃ as, Reads s.heap u d as ∧ (noLst d = true → sysModules ∉ as)
  | .none, _, _, h, r => by cases h; cases r; exact ⟨_, .none, by simp⟩
  | .bool b, _, _, h, r => by cases h; cases r; exact ⟨_, .bool b, by simp⟩
  | .int i, _, _, h, r => by cases h; obtain ⟨t, rfl⟩ := r; exact ⟨_, .int i t, by simp⟩
  | .str x, _, _, h, r => by cases h; obtain ⟨t, rfl⟩ := r; exact ⟨_, .str x t, by simp⟩
  | .list ds, _, _, h, r => by
    cases h with
    | @lst a vs _ na ha hr =>
      cases r
      obtain ⟨_, its, n, rv, ho⟩ := I.hok _ _ ha
      obtain ⟨as, q1, q2⟩ := RpAll.reads I ds _ its hr rv
      exact ⟨_, .list ho rfl rfl q1, by simp [noLst]⟩
  | .tuple ds, _, _, h, r => by
    cases h with
    | @tup a vs _ na ha hr =>
      cases r
      obtain ⟨_, its, rv, o, ho, hc, n, hd⟩ := I.hok _ _ ha
      obtain ⟨as, q1, q2⟩ := RpAll.reads I ds _ its hr rv
      exact ⟨_, .tuple ho hc hd q1, by simpa [noLst] using q2⟩
  | .dict kvs, _, _, h, r => by
    cases h with
    | @dic a u _ na ha hk =>
      cases r
      have fin : ∀ (o : Obj) (es : Array DictEntry) (ep : Nat), s.heap.get? a = some o → o.ExactDict → o.data = .dict es ep → (a == sysModules) = false → (∃ as, ReadsAll s.heap (es.toList.map (·.key)) (kvs.map (·.1)) as) → (∃ bs, ReadsAll s.heap (es.toList.map (·.val)) (kvs.map (·.2)) bs) →
          ∃ as, Reads s.heap (.ref a) (.dict kvs) as ∧ (noLst (.dict kvs) = true → sysModules ∉ as) := fun o es ep ho hx hd hs ⟨as, h1⟩ ⟨bs, h2⟩ => by
        refine ⟨_, .dict ho hx.1 hd h1 h2, fun n z => ?_⟩
        cases kvs with
        | cons _ _ => simp [noLst] at n
        | nil =>
          cases h1' : es.toList with
          | nil =>
            rw [h1'] at h1 h2
            cases h1
            cases h2
            have : sysModules = a := by simpa using z
            rw [← this] at hs
            simp at hs
          | cons e r => rw [h1'] at h1; cases h1
      cases u with
      | dK ks =>
        obtain ⟨_, hs, vs, kv, o, es, ep, ho, hx, hd, _, hp, _⟩ := I.hok _ _ ha
        obtain ⟨h1, h2⟩ := reads_dK (h := s.heap) hp kv hk
        exact fin o es ep ho hx hd hs h1 h2
      | dT ks =>
        obtain ⟨_, hs, xs, pr, o, es, ep, ho, hx, hd, he, _⟩ := I.hok _ _ ha
        obtain ⟨h1, h2⟩ := reads_dT I pr hk
        exact fin o es ep ho hx hd hs (by rw [he, List.map_map]; exact h1) (by rw [he, List.map_map]; exact h2)
      | _ => exact hk.elim
theorem RpAll.reads {pins : List (Addr × Obj)} {σ : L2.St} {H : Hp} {s : Shared} {A : Av} (I : Inv X pins σ H s) : ∀ (ds : List PyData) (vs : List V) (us : List Value), RpAll A H vs ds → Vals vs us → ∃ as, ReadsAll s.heap us ds as ∧ (noLsts ds = true → sysModules ∉ as)
  | [], _, _, h, r => by cases h; cases r; exact ⟨_, .nil, by simp⟩
  | d :: ds, _, _, h, r => by
    cases h with
    | cons h1 h2 =>
      cases r with
      | cons r1 r2 =>
        obtain ⟨as, q1, n1⟩ := Rp.reads I d _ _ h1 r1
        obtain ⟨bs, q2, n2⟩ := RpAll.reads I ds _ _ h2 r2
        refine ⟨_, .cons q1 q2, fun h => ?_⟩
        simp only [noLsts, Bool.and_eq_true] at h
        rw [List.mem_append]
        exact fun z => z.elim (n1 h.1) (n2 h.2)
end
/-- encodings whose data are equal just where the Lean values are -/
structure Dc (n : Nat) [DecidableEq α] (e : α → PyData) : Prop where
  plain : ∀ x, (e x).plain = true
  depth : ∀ x, (e x).depth ≤ n
  eqv : ∀ x y, PyData.eqv (e x) (e y) = decide (x = y)
theorem Dc.int {n : Nat} : Dc n eInt := ⟨fun _ => rfl, fun x => by simp [eInt, PyData.depth], fun x y => by simp [eInt, PyData.eqv]; exact Bool.beq_eq_decide_eq x y⟩
theorem Dc.bool {n : Nat} : Dc n eBool := ⟨fun _ => rfl, fun x => by simp [eBool, PyData.depth], fun x y => by simp [eBool, PyData.eqv]; exact Bool.beq_eq_decide_eq x y⟩
theorem Dc.str {n : Nat} : Dc n eStr := ⟨fun _ => rfl, fun x => by simp [eStr, PyData.depth], fun x y => by simp [eStr, PyData.eqv]; exact Bool.beq_eq_decide_eq x y⟩
theorem Dc.mono {n m : Nat} [DecidableEq α] (h : Dc n ea) (k : n ≤ m) : Dc m ea := ⟨h.plain, fun x => Nat.le_trans (h.depth x) k, h.eqv⟩
theorem Dc.plainAll {n : Nat} [DecidableEq α] (h : Dc n ea) : ∀ xs : List α, PyData.plainAll (xs.map ea) = true
  | [] => rfl
  | x :: xs => by simp [PyData.plainAll, h.plain x, Dc.plainAll h xs]
theorem Dc.depthAll {n : Nat} [DecidableEq α] (h : Dc n ea) : ∀ xs : List α, PyData.depthAll (xs.map ea) ≤ n
  | [] => Nat.zero_le _
  | x :: xs => by
    have h1 := h.depth x
    have h2 := Dc.depthAll h xs
    simp only [List.map_cons, PyData.depthAll]
    omega
theorem Dc.eqvAll {n : Nat} [DecidableEq α] (h : Dc n ea) : ∀ xs ys : List α, PyData.eqvAll (xs.map ea) (ys.map ea) = decide (xs = ys)
  | [], [] => by simp [PyData.eqvAll]
  | [], _ :: _ => by simp [PyData.eqvAll]
  | _ :: _, [] => by simp [PyData.eqvAll]
  | x :: xs, y :: ys => by simp [PyData.eqvAll, h.eqv x y, Dc.eqvAll h xs ys, Bool.decide_and]
theorem Dc.tup {n : Nat} [DecidableEq α] (h : Dc n ea) : Dc (n + 1) (eT ea) := ⟨fun xs => by simp [eT, PyData.plain, h.plainAll xs], fun xs => by have := h.depthAll xs; simp only [eT, PyData.depth]; omega, fun xs ys => by simp [eT, PyData.eqv, h.eqvAll xs ys]⟩
theorem Dc.lst {n : Nat} [DecidableEq α] (h : Dc n ea) : Dc (n + 1) (eL ea) := ⟨fun xs => by simp [eL, PyData.plain, h.plainAll xs], fun xs => by have := h.depthAll xs; simp only [eL, PyData.depth]; omega, fun xs ys => by simp [eL, PyData.eqv, h.eqvAll xs ys]⟩
structure Dcs (n : Nat) [DecidableEq α] (f : α → List PyData) : Prop where
  plain : ∀ x, PyData.plainAll (f x) = true
  depth : ∀ x, PyData.depthAll (f x) ≤ n
  eqv : ∀ x y, PyData.eqvAll (f x) (f y) = decide (x = y)
theorem Dcs.nil {n : Nat} : Dcs n eU := ⟨fun _ => rfl, fun _ => Nat.zero_le _, fun x y => by simp [eU, PyData.eqvAll]⟩
theorem Dcs.cons {n : Nat} [DecidableEq α] [DecidableEq β] {f : β → List PyData} (h : Dc n ea) (k : Dcs n f) : Dcs n (eC ea f) := ⟨fun p => by simp [eC, PyData.plainAll, h.plain, k.plain], fun p => by have h1 := h.depth p.1; have h2 := k.depth p.2; simp only [eC, PyData.depthAll]; omega, fun p q => by
  obtain ⟨a, b⟩ := p
  obtain ⟨c, d⟩ := q
  simp [eC, PyData.eqvAll, h.eqv, k.eqv, Bool.decide_and]⟩
theorem Dc.pr {n : Nat} [DecidableEq α] {f : α → List PyData} (h : Dcs n f) : Dc (n + 1) (eP f) := ⟨fun p => by simp [eP, PyData.plain, h.plain], fun p => by have := h.depth p; simp only [eP, PyData.depth]; omega, fun p q => by simp [eP, PyData.eqv, h.eqv]⟩

/-- ==, != of data -/
def rEqP : R2 := fun x y H Q => ∃ A d e, Rp A H x d ∧ Rp A H y e ∧ d.plain = true ∧ e.plain = true ∧ d.depth ≤ 60 ∧ Q (.bl (PyData.eqv d e)) H
def rNeP : R2 := fun x y H Q => ∃ A d e, Rp A H x d ∧ Rp A H y e ∧ d.plain = true ∧ e.plain = true ∧ d.depth ≤ 60 ∧ Q (.bl (!PyData.eqv d e)) H
theorem op_eqP (hu : X.A.units + 64 < cLine) : OpR X (compareOp .Eq) rEqP := fun pins s σ H x y v u Q I rx ry h => by
  obtain ⟨A, d, e, hd, he, p1, p2, dp, q⟩ := h
  obtain ⟨as, r1, _⟩ := Rp.reads I d x v hd rx
  obtain ⟨bs, r2, _⟩ := Rp.reads I e y u he ry
  exact SeqAt.eq_plain r1 r2 p1 p2 (by omega) ⟨.bl _, H, I, rfl, q⟩
theorem op_neP (hu : X.A.units + 64 < cLine) : OpR X (compareOp .NotEq) rNeP := fun pins s σ H x y v u Q I rx ry h => by
  obtain ⟨A, d, e, hd, he, p1, p2, dp, q⟩ := h
  obtain ⟨as, r1, _⟩ := Rp.reads I d x v hd rx
  obtain ⟨bs, r2, _⟩ := Rp.reads I e y u he ry
  exact SeqAt.ne_plain r1 r2 p1 p2 (by omega) ⟨.bl _, H, I, rfl, q⟩
theorem v_eqP {n : Nat} [DecidableEq α] (h : Dc n ea) (hn : n ≤ 60 := by decide) : VOp rEqP ea ea eBool (fun x y => some (decide (x = y))) := fun A H x y vx vy Q z ad r1 r2 e q => by
  cases e
  refine ⟨A, _, _, r1, r2, h.plain _, h.plain _, Nat.le_trans (h.depth _) hn, ?_⟩
  rw [h.eqv]
  exact q _ H (Same.refl H) (.bl _)
theorem v_neP {n : Nat} [DecidableEq α] (h : Dc n ea) (hn : n ≤ 60 := by decide) : VOp rNeP ea ea eBool (fun x y => some (!decide (x = y))) := fun A H x y vx vy Q z ad r1 r2 e q => by
  cases e
  refine ⟨A, _, _, r1, r2, h.plain _, h.plain _, Nat.le_trans (h.depth _) hn, ?_⟩
  rw [h.eqv]
  exact q _ H (Same.refl H) (.bl _)
/-- .. of any data -/
def eqD (d e : PyData) : Option Bool := if d.plain = true ∧ e.plain = true ∧ d.depth ≤ 60 then some (PyData.eqv d e) else none
theorem v_eqD : VOp rEqP ea eb eBool (fun x y => eqD (ea x) (eb y)) := fun A H x y vx vy Q z ad r1 r2 e q => by
  obtain ⟨⟨h1, h2, h3⟩, rfl⟩ := oif e
  exact ⟨A, _, _, r1, r2, h1, h2, h3, q _ H (Same.refl H) (.bl _)⟩
theorem v_neD : VOp rNeP ea eb eBool (fun x y => (eqD (ea x) (eb y)).map (!·)) := fun A H x y vx vy Q z ad r1 r2 e q => by
  obtain ⟨b, e1, rfl⟩ := Option.map_eq_some_iff.mp e
  obtain ⟨⟨h1, h2, h3⟩, rfl⟩ := oif e1
  exact ⟨A, _, _, r1, r2, h1, h2, h3, q _ H (Same.refl H) (.bl _)⟩

/-! ### repr -/
def reprO (d : PyData) : Option Str := if d.showable = true ∧ (d.hasDict = true → noLst d = true) ∧ d.depth ≤ 60 ∧ d.shown.length ≤ sizeLine then some d.shown else none
def rRepr : List V → Hp → VK → Prop := fun xs H Q => ∃ A x d z, xs = [x] ∧ Rp A H x d ∧ reprO d = some z ∧ Q (.str z) H
theorem call_reprD (hu : X.A.units + 64 < cLine) (hg : X.A.guards = some []) : CallR X (.builtin "repr") rRepr := fun pins s σ H xs us Q I r h => by
  obtain ⟨A, x, d, z, rfl, hd, e, q⟩ := h
  obtain ⟨u, rfl, ru⟩ := vals1 r
  obtain ⟨⟨h1, h2, h3, h4⟩, rfl⟩ := oif e
  have fin : ∀ h' t tk, (∀ b o, s.heap.get? b = some o → h'.get? b = some o) → EP X pins σ Q (.str d.shown t) { s with heap := h', toks := tk } := fun h' t tk k => ⟨.str d.shown, H, I.kept k, ⟨_, rfl⟩, q⟩
  have fin0 : ∀ t tk, EP X pins σ Q (.str d.shown t) { s with toks := tk } := fun t tk => fin s.heap t tk fun _ _ e => e
  cases d with
  | none => cases hd; cases ru; exact PySem.P.repr_of_none (by have := fin0 s.toks (s.toks + 1); simp only [PyData.shown] at this; exact this)
  | bool b => cases hd; cases ru; exact PySem.P.repr_of_bool (by have := fin0 s.toks (s.toks + 1); simp only [PyData.shown] at this; exact this)
  | int i => cases hd; obtain ⟨t, rfl⟩ := ru; exact PySem.P.repr_of_int (by simpa [PyData.showable] using h1) (by have := fin0 s.toks (s.toks + 1); simp only [PyData.shown] at this; exact this)
  | str x => cases hd; obtain ⟨t, rfl⟩ := ru; exact PySem.P.repr_of_str (by have := fin0 s.toks (s.toks + 1); simp only [PyData.shown] at this; exact this) (by simpa only [PyData.shown] using h4)
  | list ds =>
    obtain ⟨as, rr, hs⟩ := Rp.reads I _ _ _ hd ru
    cases hd with
    | lst _ _ _ => cases ru; exact repr_of_reads' rr h1 (fun h => hs (h2 h)) hg (by omega) (fun _ _ e => e) fin h4
  | tuple ds =>
    obtain ⟨as, rr, hs⟩ := Rp.reads I _ _ _ hd ru
    cases hd with
    | tup _ _ _ => cases ru; exact repr_of_reads' rr h1 (fun h => hs (h2 h)) hg (by omega) (fun _ _ e => e) fin h4
  | dict kvs =>
    obtain ⟨as, rr, hs⟩ := Rp.reads I _ _ _ hd ru
    cases hd with
    | dic _ _ _ => cases ru; exact repr_of_reads' rr h1 (fun h => hs (h2 h)) hg (by omega) (fun _ _ e => e) fin h4
theorem v_repr : VN rRepr (fun x : α × Unit => [ea x.1]) eStr (fun x => reprO (ea x.1)) := fun A H x vs Q z ad r e q => by
  cases r with
  | cons r1 r2 => cases r2; exact ⟨A, _, _, z, rfl, r1, e, q _ H (Same.refl H) (.str _)⟩

/-! ### lists and tuples -/
theorem rix {K : PySem.W.Frag} {A : Av} {H : Hp} {xs : List α} {i : Int} {z : α} {vs : List V} (r : RpAll A H vs (xs.map ea)) (h : atI xs i = some z) : ∃ v, atI vs i = some v ∧ Rp A H v (ea z) := by
  unfold atI at h ⊢
  obtain ⟨j, e1, e2⟩ := Option.bind_eq_some_iff.mp h
  rw [show vs.length = xs.length by rw [r.length, List.length_map], e1]
  exact r.get (by rw [List.getElem?_map, e2]; rfl)
theorem v_ixL {K : PySem.W.Frag} : VOp (rIxL K) (eL ea) eInt ea (fun xs i => atI xs i) := fun A H x y vx vy Q z ad r1 r2 e q => by
  cases r2
  cases r1 with
  | lst na ha hr =>
    obtain ⟨v, h1, h2⟩ := rix (K := K) hr e
    exact ⟨_, _, _, v, rfl, rfl, SqL.of ha, h1, q v H (Same.refl H) h2⟩
theorem v_ixT {K : PySem.W.Frag} : VOp (rIxT K) (eT ea) eInt ea (fun xs i => atI xs i) := fun A H x y vx vy Q z ad r1 r2 e q => by
  cases r2
  cases r1 with
  | tup na ha hr =>
    obtain ⟨v, h1, h2⟩ := rix (K := K) hr e
    exact ⟨_, _, _, v, rfl, rfl, SqT.of ha, h1, q v H (Same.refl H) h2⟩
/-- a place in a tuple of a written length -/
theorem v_ixP {K : PySem.W.Frag} {f : α → List PyData} (g : α → γ) (j : Nat) (hj : ∀ x, (f x)[j]? = some (ec (g x))) : VOp (rIxT K) (eP f) eInt ec (fun x i => if i = (j : Int) then some (g x) else none) := fun A H x y vx vy Q z ad r1 r2 e q => by
  cases r2
  obtain ⟨rfl, rfl⟩ := oif e
  cases r1 with
  | tup na ha hr =>
    obtain ⟨v, h1, h2⟩ := hr.get (hj x)
    exact ⟨_, _, _, v, rfl, rfl, SqT.of ha, atI_nat h1, q v H (Same.refl H) h2⟩
def rLen1 (K : PySem.W.Frag) : List V → Hp → VK → Prop := fun xs H Q => ∃ p ys, xs = [.ref p] ∧ (SqL K H p ys ∨ SqT K H p ys) ∧ Q (.int ys.length) H
theorem v_lenL {K : PySem.W.Frag} : VN (rLen1 K) (fun x : List α × Unit => [eL ea x.1]) eInt (fun x => some (x.1.length : Int)) := fun A H x vs Q z ad r e q => by
  cases e
  cases r with
  | cons r1 r2 =>
    cases r2
    cases r1 with
    | lst na ha hr => exact ⟨_, _, rfl, .inl (SqL.of ha), by rw [hr.length, List.length_map]; exact q _ H (Same.refl H) (.int _)⟩
theorem v_lenT {K : PySem.W.Frag} : VN (rLen1 K) (fun x : List α × Unit => [eT ea x.1]) eInt (fun x => some (x.1.length : Int)) := fun A H x vs Q z ad r e q => by
  cases e
  cases r with
  | cons r1 r2 =>
    cases r2
    cases r1 with
    | tup na ha hr => exact ⟨_, _, rfl, .inr (SqT.of ha), by rw [hr.length, List.length_map]; exact q _ H (Same.refl H) (.int _)⟩
/-- list(xs), list(t), tuple(xs), tuple(t) -/
def rList1 (K : PySem.W.Frag) : List V → Hp → VK → Prop := fun xs H Q => ∃ p ys, xs = [.ref p] ∧ (SqL K H p ys ∨ SqT K H p ys) ∧ ∀ l, H l = none → Q (.ref l) (upd H l (.lst ys))
def rTup1 (K : PySem.W.Frag) : List V → Hp → VK → Prop := fun xs H Q => ∃ p ys, xs = [.ref p] ∧ ((SqL K H p ys ∧ ∀ l, H l = none → Q (.ref l) (upd H l (.tup ys))) ∨ (SqT K H p ys ∧ Q (.ref p) H))
theorem v_listL {K : PySem.W.Frag} : VNF (rList1 K) (fun x : List α × Unit => [eL ea x.1]) ea (fun x => some x.1) := fun A H x vs Q z ad r e q => by
  cases e
  cases r with
  | cons r1 r2 =>
    cases r2
    cases r1 with
    | lst na ha hr => exact ⟨_, _, rfl, .inl (SqL.of ha), fun l n => q l _ _ n (same_new n) upd_same (hr.at n (Keep.of_same (same_new n)))⟩
theorem v_listT {K : PySem.W.Frag} : VNF (rList1 K) (fun x : List α × Unit => [eT ea x.1]) ea (fun x => some x.1) := fun A H x vs Q z ad r e q => by
  cases e
  cases r with
  | cons r1 r2 =>
    cases r2
    cases r1 with
    | tup na ha hr => exact ⟨_, _, rfl, .inr (SqT.of ha), fun l n => q l _ _ n (same_new n) upd_same (hr.at n (Keep.of_same (same_new n)))⟩
theorem v_tupL {K : PySem.W.Frag} : VN (rTup1 K) (fun x : List α × Unit => [eL ea x.1]) (eT ea) (fun x => some x.1) := fun A H x vs Q z ad r e q => by
  cases e
  cases r with
  | cons r1 r2 =>
    cases r2
    cases r1 with
    | lst na ha hr => exact ⟨_, _, rfl, .inl ⟨SqL.of ha, fun l n => q _ _ (same_new n) (.tup (ad.fresh n) upd_same (hr.keep (Keep.of_same (same_new n))))⟩⟩
theorem v_tupT {K : PySem.W.Frag} : VN (rTup1 K) (fun x : List α × Unit => [eT ea x.1]) (eT ea) (fun x => some x.1) := fun A H x vs Q z ad r e q => by
  cases e
  cases r with
  | cons r1 r2 =>
    cases r2
    cases r1 with
    | tup na ha hr => exact ⟨_, _, rfl, .inr ⟨SqT.of ha, q _ H (Same.refl H) (.tup na ha hr)⟩⟩
/-- xs + ys, xs * k -/
def catO (xs ys : List α) : Option (List α) := if xs.length + ys.length ≤ sizeLine then some (xs ++ ys) else none
theorem v_catL : VOpF rCat (eL ea) (eL ea) ea catO := fun A H x y vx vy Q z ad r1 r2 e q => by
  obtain ⟨h, rfl⟩ := oif e
  cases r1 with
  | lst na ha hr =>
    cases r2 with
    | lst nb hb hr2 =>
      exact ⟨_, _, _, _, rfl, rfl, ha, hb, by rw [hr.length, hr2.length, List.length_map, List.length_map]; exact h, fun p n => q p _ _ n (same_new n) upd_same (by rw [List.map_append]; exact (hr.append hr2).at n (Keep.of_same (same_new n)))⟩
theorem v_catT {K : PySem.W.Frag} : VOp (rCatA K) (eT ea) (eT ea) (eT ea) catO := fun A H x y vx vy Q z ad r1 r2 e q => by
  obtain ⟨h, rfl⟩ := oif e
  cases r1 with
  | @tup a vs _ na ha hr =>
    cases r2 with
    | @tup b ws _ nb hb hr2 =>
      have ra := hr.append hr2
      rw [← List.map_append] at ra
      refine ⟨_, _, _, _, rfl, rfl, SqT.of ha, SqT.of hb, by rw [hr.length, hr2.length, List.length_map, List.length_map]; exact h, fun h0 => ?_, fun _ h0 => ?_, fun _ _ p n => ?_⟩
      · subst h0; exact q _ H (Same.refl H) (.tup nb hb ra)
      · subst h0; rw [List.append_nil] at ra; exact q _ H (Same.refl H) (.tup na ha ra)
      · exact q _ _ (same_new n) (.tup (ad.fresh n) upd_same (ra.keep (Keep.of_same (same_new n))))
def repO (xs : List α) (k : Int) : Option (List α) := if -(2 ^ 63) ≤ k ∧ k < 2 ^ 63 ∧ xs.length * k.toNat ≤ sizeLine then some (List.replicate k.toNat xs).flatten else none
end
end Pz

namespace Pz
open PySem PySem.Spec PyProof.Rows L2

section
variable {α β γ δ ρ : Type} {ea : α → PyData} {eb : β → PyData} {ec : γ → PyData} {X : Cx} {R : Res} {Γ : List Slot} {e a b c : Expr} {pos : Pos}
theorem RpAll.repeat {A : Av} {H : Hp} {vs : List V} {ds : List PyData} (r : RpAll A H vs ds) : ∀ k : Nat, RpAll A H (List.replicate k vs).flatten (List.replicate k ds).flatten
  | 0 => .nil
  | k + 1 => by
    rw [List.replicate_succ, List.replicate_succ, List.flatten_cons, List.flatten_cons]
    exact r.append (RpAll.repeat r k)
theorem map_rep {f : α → PyData} (xs : List α) : ∀ k : Nat, ((List.replicate k xs).flatten).map f = (List.replicate k (xs.map f)).flatten := fun k => by
  rw [List.map_flatten, List.map_replicate]
theorem v_repL : VOpF rRep (eL ea) eInt ea repO := fun A H x y vx vy Q z ad r1 r2 e q => by
  obtain ⟨⟨h1, h2, h3⟩, rfl⟩ := oif e
  cases r2
  cases r1 with
  | lst na ha hr =>
    exact ⟨_, _, _, rfl, rfl, ha, h1, h2, by rw [hr.length, List.length_map]; exact h3, fun p n => q p _ _ n (same_new n) upd_same (by rw [map_rep]; exact (hr.repeat _).at n (Keep.of_same (same_new n)))⟩
def repTO (xs : List α) (k : Int) : Option (List α) := if xs ≠ [] ∧ 2 ≤ k ∧ k ≤ 1000 ∧ xs.length ≤ 1000 then some (List.replicate k.toNat xs).flatten else none
theorem v_repT {K : PySem.W.Frag} : VOp (rRepT K) (eT ea) eInt (eT ea) repTO := fun A H x y vx vy Q z ad r1 r2 e q => by
  obtain ⟨⟨h0, h1, h2, h3⟩, rfl⟩ := oif e
  cases r2
  cases r1 with
  | @tup p0 vs _ na ha hr =>
    have hl := hr.length
    rw [List.length_map] at hl
    refine ⟨_, _, _, rfl, rfl, SqT.of ha, fun z => ?_, h1, h2, by omega, fun p n => q _ _ (same_new n) (.tup (ad.fresh n) upd_same (by rw [map_rep]; exact (hr.repeat _).keep (Keep.of_same (same_new n))))⟩
    subst z
    exact h0 (List.eq_nil_of_length_eq_zero hl.symm)

/-! ### slices -/
theorem cut_rp {A : Av} {H : Hp} {vs : List V} {ds : List PyData} (r : RpAll A H vs ds) (lo hi : Option Int) : RpAll A H (cutV vs lo hi) ((ds.drop (HT.sIx ds.length 0 lo)).take (HT.sIx ds.length ds.length hi - HT.sIx ds.length 0 lo)) := by
  unfold cutV
  rw [r.length]
  exact (r.drop _).take _
/-- xs[lo:hi] -/
def cutL (xs : List α) (lo hi : Option Int) : List α := (xs.drop (HT.sIx xs.length 0 lo)).take (HT.sIx xs.length xs.length hi - HT.sIx xs.length 0 lo)
theorem cut_map {f : α → β} (xs : List α) (lo hi : Option Int) : (cutL xs lo hi).map f = cutL (xs.map f) lo hi := by
  unfold cutL
  rw [List.map_take, List.map_drop, List.length_map]
/-- a part of a slice -/
def tP (R : Res) (Γ : List Slot) (m : M (Option Int)) : TO := fun σ H Q => ∃ O H0 ow st r st', Rel R O H0 ow Γ σ H ∧ okR R st H ∧ m st = some (r, st') ∧ ∀ H', Keep (Zr R) H H' → okR R st' H' → Q r H'
theorem PO.weak {e : Option Expr} {t t' : TO} (h : PO X e t) (w : ∀ σ H Q, t' σ H Q → t σ H Q) : PO X e t' := ⟨fun pins s σ H Q I q => h.run pins s σ H Q I (w σ H Q q)⟩
theorem p_none : PO X none (tP R Γ (pureM none)) := PO.weak po_none fun σ H Q ⟨O, H0, ow, st, r, st', rel, ok, e, q⟩ => by
  obtain ⟨rfl, rfl⟩ := pure_some e
  exact q H (Keep.refl H) ok
theorem p_some {m : M Int} (h : EJ X R Γ e eInt m) : PO X (some e) (tP R Γ (bindM m fun i => pureM (some i))) := PO.weak (po_some h) fun σ H Q ⟨O, H0, ow, st, r, st', rel, ok, e, q⟩ => by
  obtain ⟨x, s1, e1, e2⟩ := bind_some e
  obtain ⟨rfl, rfl⟩ := pure_some e2
  exact ⟨O, H0, ow, st, x, s1, rel, ok, e1, fun v H' k o r => by cases r; exact ⟨x, rfl, q H' k o⟩⟩
theorem f_slL {lo hi : Option Expr} {m : M (List α)} {ml mh : M (Option Int)} {p2 : Pos} (h : EJ X R Γ e (eL ea) m) (hl : PO X lo (tP R Γ ml)) (hh : PO X hi (tP R Γ mh)) :
    EF X R Γ (.Subscript e (.Slice lo hi none p2) pos) ea (bindM m fun xs => bindM ml fun l => bindM mh fun u => pureM (cutL xs l u)) := by
  refine PE.weak (pe_slice sl_list h hl hh) fun σ H Q ⟨O, H0, ow, st, z, st', rel, ok, e, q⟩ => ?_
  obtain ⟨xs, s1, e1, e2⟩ := bind_some e
  obtain ⟨l, s2, e3, e4⟩ := bind_some e2
  obtain ⟨u, s3, e5, e6⟩ := bind_some e4
  obtain ⟨rfl, rfl⟩ := pure_some e6
  refine ⟨O, H0, ow, st, xs, s1, rel, ok, e1, fun v H1 k1 o1 r1 => ?_⟩
  have rel1 := rel.grow k1 (okZ o1)
  refine ⟨O, H0, ow, s1, l, s2, rel1, o1, e3, fun H2 k2 o2 => ?_⟩
  have rel2 := rel1.grow k2 (okZ o2)
  refine ⟨O, H0, ow, s2, u, s3, rel2, o2, e5, fun H3 k3 o3 => ?_⟩
  have kA : Keep (avo O Γ ow) H1 H3 := (rel1.keepA k2).trans (rel2.keepA k3)
  have r3 := r1.keep kA
  cases r3 with
  | lst na ha hr =>
    refine ⟨_, _, rfl, SqL.of ha, fun p n => q p _ _ (noneK ((k1.trans k2).trans k3) o3 n) (((k1.trans k2).trans k3).trans (Keep.of_same (same_new n))) (o3.same (same_new n)) upd_same ?_⟩
    rw [cut_map]
    exact (cut_rp hr l u).at n (Keep.of_same (same_new n))
theorem e_slT {lo hi : Option Expr} {m : M (List α)} {ml mh : M (Option Int)} {p2 : Pos} (h : EJ X R Γ e (eT ea) m) (hl : PO X lo (tP R Γ ml)) (hh : PO X hi (tP R Γ mh)) :
    EJ X R Γ (.Subscript e (.Slice lo hi none p2) pos) (eT ea) (bindM m fun xs => bindM ml fun l => bindM mh fun u => pureM (cutL xs l u)) := by
  refine PE.weak (pe_slice sl_tupA h hl hh) fun σ H Q ⟨O, H0, ow, st, z, st', rel, ok, e, q⟩ => ?_
  obtain ⟨xs, s1, e1, e2⟩ := bind_some e
  obtain ⟨l, s2, e3, e4⟩ := bind_some e2
  obtain ⟨u, s3, e5, e6⟩ := bind_some e4
  obtain ⟨rfl, rfl⟩ := pure_some e6
  refine ⟨O, H0, ow, st, xs, s1, rel, ok, e1, fun v H1 k1 o1 r1 => ?_⟩
  have rel1 := rel.grow k1 (okZ o1)
  refine ⟨O, H0, ow, s1, l, s2, rel1, o1, e3, fun H2 k2 o2 => ?_⟩
  have rel2 := rel1.grow k2 (okZ o2)
  refine ⟨O, H0, ow, s2, u, s3, rel2, o2, e5, fun H3 k3 o3 => ?_⟩
  have kA : Keep (avo O Γ ow) H1 H3 := (rel1.keepA k2).trans (rel2.keepA k3)
  have r3 := r1.keep kA
  cases r3 with
  | @tup p0 vs _ na ha hr =>
    have hlen := hr.length
    rw [List.length_map] at hlen
    refine ⟨_, _, rfl, SqT.of ha, fun w => q _ _ ((k1.trans k2).trans k3) o3 (.tup na ha ?_), fun _ p n => q _ _ (((k1.trans k2).trans k3).trans (Keep.of_same (same_new n))) (o3.same (same_new n)) (.tup ((rel2.grow k3 (okZ o3)).ad.fresh n) upd_same ?_)⟩
    · have : cutL xs l u = xs := by
        rw [hlen] at w
        unfold cutL
        rw [w.1, w.2, List.drop_zero, Nat.sub_zero, List.take_length]
      rw [this]
      exact hr
    · rw [cut_map]
      exact (cut_rp hr l u).keep (Keep.of_same (same_new n))

/-! ### sorted -/
theorem each_rp {pins : List (Addr × Obj)} {σ : L2.St} {H : Hp} {s : Shared} {A : Av} (I : Inv X pins σ H s) : ∀ {bs : List α} {vs : List V} {us : List Value}, RpAll A H vs (bs.map ea) → Vals vs us → PySem.W.EachIs (fun v b => ∃ x, RelV x v ∧ Rp A H x (ea b)) us bs
  | [], _, _, r, q => by cases r; cases q; exact .nil
  | b :: bs, _, _, r, q => by
    cases r with
    | cons r1 r2 => cases q with | cons q1 q2 => exact .cons ⟨_, q1, r1⟩ (each_rp I r2 q2)
theorem each_reads {pins : List (Addr × Obj)} {σ : L2.St} {H : Hp} {s : Shared} {A : Av} (I : Inv X pins σ H s) : ∀ {bs : List α} {us : List Value}, PySem.W.EachIs (fun v b => ∃ x, RelV x v ∧ Rp A H x (ea b)) us bs → PySem.W.EachIs (fun v b => ∃ as, Reads s.heap v (ea b) as) us bs
  | _, _, .nil => .nil
  | _, _, .cons ⟨x, q1, r1⟩ t => .cons (let ⟨as, h, _⟩ := Rp.reads I _ _ _ r1 q1; ⟨as, h⟩) (each_reads I t)
theorem rp_each {H : Hp} {A : Av} : ∀ {bs : List α} {us : List Value}, PySem.W.EachIs (fun v b => ∃ x, RelV x v ∧ Rp A H x (ea b)) us bs → ∃ vs, Vals vs us ∧ RpAll A H vs (bs.map ea)
  | _, _, .nil => ⟨[], .nil, .nil⟩
  | _, _, .cons ⟨x, q1, r1⟩ t => let ⟨vs, h1, h2⟩ := rp_each t; ⟨x :: vs, .cons q1 h1, .cons r1 h2⟩
/-- which lists are sorted here: their data alike, tuples with an item at least (or none of them a tuple) -/
structure Srt (ok : α → Bool) (e : α → PyData) : Prop where
  alike : ∀ x y, PySem.W.alike (e x) (e y) = true
  kind : (∀ x, ok x = true → ∃ d r, e x = .tuple (d :: r)) ∨ ∀ x, e x ≠ .none ∧ ∀ ds, e x ≠ .tuple ds
  depth : ∀ x, (e x).depth ≤ 60
def srt (e : α → PyData) (xs : List α) : List α := xs.mergeSort (PySem.W.dataLe false e)
def srtO (ok : α → Bool) (e : α → PyData) (xs : List α) : Option (List α) := if xs.all ok = true then some (srt e xs) else none
def rSortD (ok : α → Bool) (ea : α → PyData) : List V → Hp → VK → Prop := fun xs H Q => ∃ A p vs bs, xs = [.ref p] ∧ H p = some (.lst vs) ∧ RpAll A H vs (bs.map ea) ∧ bs.all ok = true ∧
  ∀ q ws, H q = none → RpAll A H ws ((srt ea bs).map ea) → Q (.ref q) (upd H q (.lst ws))
theorem call_sortD {ok : α → Bool} (hs : Srt ok ea) (hu : X.A.units + 64 < cLine) : CallR X (.builtin "sorted") (rSortD ok ea) := fun pins s σ H xs us Q I r h => by
  obtain ⟨A, p, vs, bs, rfl, hp, hr, hok, q⟩ := h
  obtain ⟨u, rfl, ru⟩ := vals1 r
  cases ru
  obtain ⟨its, rv, pl, hz⟩ := I.list (SqL.of hp)
  have each := each_rp I hr rv
  refine PySem.W.sorted_data (enc := ea) (R := fun v b => ∃ x, RelV x v ∧ Rp A H x (ea b)) pl.isList each (each_reads I each) (PySem.W.AllAlike.of hs.alike) ?_ ?_ (fun b _ => by have := hs.depth b; omega) fun out hl eo => ?_
  · rcases hs.kind with h | h
    · refine .inl fun d hd => ?_
      obtain ⟨b, hb, rfl⟩ := List.mem_map.mp hd
      exact h b (List.all_eq_true.mp hok b hb)
    · exact PySem.W.Sortable.others h
  · have := hr.length; rw [List.length_map] at this; omega
  · obtain ⟨ws, h1, h2⟩ := rp_each eo
    obtain ⟨c, hc⟩ := sortedAll_at s.heap its out.toArray
    have fr : H (s.heap.objs.size + 1) = none := I.hok.fresh (Nat.le_succ _)
    refine ⟨.ref _, _, I.laid (o := .lst ws) (t' := s.toks) (h' := sortedAll s.heap its out.toArray) (fun b o e => sortedAll_old e) (Nat.le_succ _) ⟨?_, out, c, h1, hc⟩, rfl, q _ ws fr h2⟩
    have e1 := h1.length
    have e2 := hr.length
    rw [List.length_map] at e2
    omega
theorem v_sort {ok : α → Bool} : VNF (rSortD ok ea) (fun x : List α × Unit => [eL ea x.1]) ea (fun x => srtO ok ea x.1) := fun A H x vs Q z ad r e q => by
  obtain ⟨h, rfl⟩ := oif e
  cases r with
  | cons r1 r2 =>
    cases r2
    cases r1 with
    | lst na ha hr => exact ⟨A, _, _, _, rfl, ha, hr, h, fun p ws n r => q p ws _ n (same_new n) upd_same (r.at n (Keep.of_same (same_new n)))⟩
theorem alikeAll_of (h : ∀ x y, PySem.W.alike (ea x) (ea y) = true) : ∀ xs ys : List α, PySem.W.alikeAll (xs.map ea) (ys.map ea) = true
  | [], _ => by simp [PySem.W.alikeAll]
  | _ :: _, [] => by simp [PySem.W.alikeAll]
  | x :: xs, y :: ys => by simp [PySem.W.alikeAll, h x y, alikeAll_of h xs ys]
theorem depthAll_of {n : Nat} (h : ∀ x, (ea x).depth ≤ n) : ∀ xs : List α, PyData.depthAll (xs.map ea) ≤ n
  | [] => Nat.zero_le _
  | x :: xs => by
    have h1 := h x
    have h2 := depthAll_of h xs
    simp only [List.map_cons, PyData.depthAll]
    omega
/-- rows of ints -/
theorem Srt.rows : Srt (fun r : List Int => !r.isEmpty) (eT eInt) := ⟨fun x y => by
  simp only [eT, PySem.W.alike]
  exact alikeAll_of (fun x y => by simp [eInt, PySem.W.alike]) x y, .inl fun x h => by
    cases x with
    | nil => cases h
    | cons d r => exact ⟨_, _, rfl⟩, fun x => by
      have := depthAll_of (ea := eInt) (n := 0) (fun x => by simp [eInt, PyData.depth]) x
      simp only [eT, PyData.depth]; omega⟩
theorem Srt.ints : Srt (fun _ : Int => true) eInt := ⟨fun x y => by simp [eInt, PySem.W.alike], .inr fun x => ⟨by simp [eInt], by simp [eInt]⟩, fun x => by simp [eInt, PyData.depth]⟩

/-! ### all, any, sum, int, abs, max, min -/
theorem bools_rp {A : Av} {H : Hp} : ∀ {bs : List Bool} {vs : List V}, RpAll A H vs (bs.map eBool) → vs = bs.map V.bl
  | [], _, r => by cases r; rfl
  | b :: bs, _, r => by cases r with | cons r1 r2 => cases r1; rw [bools_rp r2]; rfl
theorem ints_rp {A : Av} {H : Hp} : ∀ {bs : List Int} {vs : List V}, RpAll A H vs (bs.map eInt) → vs = bs.map V.int
  | [], _, r => by cases r; rfl
  | b :: bs, _, r => by cases r with | cons r1 r2 => cases r1; rw [ints_rp r2]; rfl
theorem v_all {K : PySem.W.Frag} : VN (rAll K) (fun x : List Bool × Unit => [eL eBool x.1]) eBool (fun x => some (x.1.all id)) := fun A H x vs Q z ad r e q => by
  cases e
  cases r with
  | cons r1 r2 =>
    cases r2
    cases r1 with
    | lst na ha hr =>
      have := bools_rp hr
      subst this
      exact ⟨_, _, rfl, SqL.of ha, q _ H (Same.refl H) (.bl _)⟩
theorem v_any {K : PySem.W.Frag} : VN (rAny K) (fun x : List Bool × Unit => [eL eBool x.1]) eBool (fun x => some (x.1.any id)) := fun A H x vs Q z ad r e q => by
  cases e
  cases r with
  | cons r1 r2 =>
    cases r2
    cases r1 with
    | lst na ha hr =>
      have := bools_rp hr
      subst this
      exact ⟨_, _, rfl, SqL.of ha, q _ H (Same.refl H) (.bl _)⟩
theorem v_sumL {K : PySem.W.Frag} : VN (rSum K) (fun x : List Int × Unit => [eL eInt x.1]) eInt (fun x => some x.1.sum) := fun A H x vs Q z ad r e q => by
  cases e
  cases r with
  | cons r1 r2 =>
    cases r2
    cases r1 with
    | lst na ha hr =>
      have := ints_rp hr
      subst this
      exact ⟨_, _, rfl, SqL.of ha, q _ H (Same.refl H) (.int _)⟩
def rInt1 : List V → Hp → VK → Prop := fun xs H Q => (∃ i, xs = [.int i] ∧ Q (.int i) H) ∨ ∃ k, xs = [.bl k] ∧ Q (.int (if k then 1 else 0)) H
theorem v_intI : VN rInt1 (fun x : Int × Unit => [eInt x.1]) eInt (fun x => some x.1) := fun A H x vs Q z ad r e q => by
  cases e
  cases r with | cons r1 r2 => cases r2; cases r1; exact .inl ⟨_, rfl, q _ H (Same.refl H) (.int _)⟩
theorem v_intB : VN rInt1 (fun x : Bool × Unit => [eBool x.1]) eInt (fun x => some (if x.1 then 1 else 0)) := fun A H x vs Q z ad r e q => by
  cases e
  cases r with | cons r1 r2 => cases r2; cases r1; exact .inr ⟨_, rfl, q _ H (Same.refl H) (.int _)⟩
def rAbs1 : List V → Hp → VK → Prop := fun xs H Q => ∃ i, xs = [.int i] ∧ Q (.int (if i < 0 then -i else i)) H
theorem v_abs : VN rAbs1 (fun x : Int × Unit => [eInt x.1]) eInt (fun x => some (if x.1 < 0 then -x.1 else x.1)) := fun A H x vs Q z ad r e q => by
  cases e
  cases r with | cons r1 r2 => cases r2; cases r1; exact ⟨_, rfl, q _ H (Same.refl H) (.int _)⟩
def rMax2 : List V → Hp → VK → Prop := fun xs H Q => ∃ i j, xs = [.int i, .int j] ∧ Q (.int (if j > i then j else i)) H
def rMin2 : List V → Hp → VK → Prop := fun xs H Q => ∃ i j, xs = [.int i, .int j] ∧ Q (.int (if j < i then j else i)) H
theorem v_max2 : VN rMax2 (fun x : Int × Int × Unit => [eInt x.1, eInt x.2.1]) eInt (fun x => some (max x.1 x.2.1)) := fun A H x vs Q z ad r e q => by
  cases e
  cases r with
  | cons r1 r2 =>
    cases r2 with
    | cons r2 r3 =>
      cases r3; cases r1; cases r2
      refine ⟨_, _, rfl, ?_⟩
      rw [show (if x.2.1 > x.1 then x.2.1 else x.1) = max x.1 x.2.1 by rw [Int.max_def]; split <;> split <;> omega]
      exact q _ H (Same.refl H) (.int _)
theorem v_min2 : VN rMin2 (fun x : Int × Int × Unit => [eInt x.1, eInt x.2.1]) eInt (fun x => some (min x.1 x.2.1)) := fun A H x vs Q z ad r e q => by
  cases e
  cases r with
  | cons r1 r2 =>
    cases r2 with
    | cons r2 r3 =>
      cases r3; cases r1; cases r2
      refine ⟨_, _, rfl, ?_⟩
      rw [show (if x.2.1 < x.1 then x.2.1 else x.1) = min x.1 x.2.1 by rw [Int.min_def]; split <;> split <;> omega]
      exact q _ H (Same.refl H) (.int _)

/-! ### is None, is True -/
/-- an encoding that is never None -/
def NN (e : α → PyData) : Prop := ∀ x, e x ≠ .none
theorem NN.int : NN eInt := fun _ => by simp [eInt]
theorem NN.tup : NN (eT ea) := fun _ => by simp [eT]
theorem NN.lst : NN (eL ea) := fun _ => by simp [eL]
theorem NN.pr {f : α → List PyData} : NN (eP f) := fun _ => by simp [eP]
theorem rp_non {A : Av} {H : Hp} {v : V} {d : PyData} (r : Rp A H v d) : v = .non ↔ d = .none := by cases r <;> simp
theorem v_isN (h : NN ea) : VOp (fun x y H Q => y = .non ∧ Q (.bl (decide (x = .non))) H) (eO ea) eNon eBool (fun x _ => some x.isNone) := fun A H x y vx vy Q z ad r1 r2 e q => by
  cases e
  cases r2
  refine ⟨rfl, ?_⟩
  have : decide (vx = .non) = x.isNone := by
    have := rp_non r1
    cases x with
    | none => simp [this, eO]
    | some a => simp [this, eO, h a]
  rw [this]
  exact q _ H (Same.refl H) (.bl _)
theorem v_notN (h : NN ea) : VOp (fun x y H Q => y = .non ∧ Q (.bl (!decide (x = .non))) H) (eO ea) eNon eBool (fun x _ => some x.isSome) := fun A H x y vx vy Q z ad r1 r2 e q => by
  cases e
  cases r2
  refine ⟨rfl, ?_⟩
  have : (!decide (vx = .non)) = x.isSome := by
    have := rp_non r1
    cases x with
    | none => simp [this, eO]
    | some a => simp [this, eO, h a]
  rw [this]
  exact q _ H (Same.refl H) (.bl _)
end
end Pz

namespace Pz
open PySem PySem.Spec PyProof.Rows L2

section
variable {α β γ δ κ ρ ι : Type} {ea : α → PyData} {eb : β → PyData} {ec : γ → PyData} {er : ρ → PyData} {ei : ι → PyData} {X : Cx} {R : Res} {Γ Γ' : List Slot} {e a b c : Expr} {st : Stmt} {rest A B body : List Stmt} {pos : Pos} {out : κ → OutD}
/-! ### short names -/
theorem e_add {ma mb : M Int} (ha : EJ X R Γ a eInt ma) (hb : EJ X R Γ b eInt mb) : EJ X R Γ (.BinOp a .Add b pos) eInt (bindM ma fun x => bindM mb fun y => pureM (x + y)) := e_bin op_add v_int2 ha hb
theorem e_sub {ma mb : M Int} (ha : EJ X R Γ a eInt ma) (hb : EJ X R Γ b eInt mb) : EJ X R Γ (.BinOp a .Sub b pos) eInt (bindM ma fun x => bindM mb fun y => pureM (x - y)) := e_bin op_sub v_int2 ha hb
theorem e_mul {ma mb : M Int} (ha : EJ X R Γ a eInt ma) (hb : EJ X R Γ b eInt mb) : EJ X R Γ (.BinOp a .Mult b pos) eInt (bindM ma fun x => bindM mb fun y => optM (mulO x y)) := e_bin op_mul v_mul ha hb
theorem e_div {ma mb : M Int} (ha : EJ X R Γ a eInt ma) (hb : EJ X R Γ b eInt mb) : EJ X R Γ (.BinOp a .FloorDiv b pos) eInt (bindM ma fun x => bindM mb fun y => optM (divO x y)) := e_bin op_fdivN v_div ha hb
theorem e_mod {ma mb : M Int} (ha : EJ X R Γ a eInt ma) (hb : EJ X R Γ b eInt mb) : EJ X R Γ (.BinOp a .Mod b pos) eInt (bindM ma fun x => bindM mb fun y => optM (modO x y)) := e_bin op_modN v_mod ha hb
theorem e_pow {ma mb : M Int} (ha : EJ X R Γ a eInt ma) (hb : EJ X R Γ b eInt mb) : EJ X R Γ (.BinOp a .Pow b pos) eInt (bindM ma fun x => bindM mb fun y => optM (powO x y)) := e_bin op_pow v_pow ha hb
theorem e_shl {ma mb : M Int} (ha : EJ X R Γ a eInt ma) (hb : EJ X R Γ b eInt mb) : EJ X R Γ (.BinOp a .LShift b pos) eInt (bindM ma fun x => bindM mb fun y => optM (shlO x y)) := e_bin op_shl v_shl ha hb
theorem e_neg {ma : M Int} (ha : EJ X R Γ a eInt ma) : EJ X R Γ (.UnaryOp .USub a pos) eInt (bindM ma fun x => pureM (-x)) := e_un un_neg v_neg ha
theorem e_lt {ma mb : M Int} (ha : EJ X R Γ a eInt ma) (hb : EJ X R Γ b eInt mb) : EJ X R Γ (.Compare a [.Lt] [b] pos) eBool (bindM ma fun x => bindM mb fun y => pureM (decide (x < y))) := e_cmp op_lt v_cmp2 ha hb
theorem e_le {ma mb : M Int} (ha : EJ X R Γ a eInt ma) (hb : EJ X R Γ b eInt mb) : EJ X R Γ (.Compare a [.LtE] [b] pos) eBool (bindM ma fun x => bindM mb fun y => pureM (decide (x ≤ y))) := e_cmp op_le v_cmp2 ha hb
theorem e_gt {ma mb : M Int} (ha : EJ X R Γ a eInt ma) (hb : EJ X R Γ b eInt mb) : EJ X R Γ (.Compare a [.Gt] [b] pos) eBool (bindM ma fun x => bindM mb fun y => pureM (decide (y < x))) := e_cmp op_gt v_cmp2 ha hb
theorem e_ge {ma mb : M Int} (ha : EJ X R Γ a eInt ma) (hb : EJ X R Γ b eInt mb) : EJ X R Γ (.Compare a [.GtE] [b] pos) eBool (bindM ma fun x => bindM mb fun y => pureM (decide (y ≤ x))) := e_cmp op_ge v_cmp2 ha hb
theorem t_lt {ma mb : M Int} (ha : EJ X R Γ a eInt ma) (hb : EJ X R Γ b eInt mb) : TJ X R Γ (.Compare a [.Lt] [b] pos) (bindM ma fun x => bindM mb fun y => pureM (decide (x < y))) := t_cmp op_lt v_cmp2 ha hb
theorem t_le {ma mb : M Int} (ha : EJ X R Γ a eInt ma) (hb : EJ X R Γ b eInt mb) : TJ X R Γ (.Compare a [.LtE] [b] pos) (bindM ma fun x => bindM mb fun y => pureM (decide (x ≤ y))) := t_cmp op_le v_cmp2 ha hb
theorem t_gt {ma mb : M Int} (ha : EJ X R Γ a eInt ma) (hb : EJ X R Γ b eInt mb) : TJ X R Γ (.Compare a [.Gt] [b] pos) (bindM ma fun x => bindM mb fun y => pureM (decide (y < x))) := t_cmp op_gt v_cmp2 ha hb
theorem t_ge {ma mb : M Int} (ha : EJ X R Γ a eInt ma) (hb : EJ X R Γ b eInt mb) : TJ X R Γ (.Compare a [.GtE] [b] pos) (bindM ma fun x => bindM mb fun y => pureM (decide (y ≤ x))) := t_cmp op_ge v_cmp2 ha hb
theorem e_eqI {ma mb : M Int} (ha : EJ X R Γ a eInt ma) (hb : EJ X R Γ b eInt mb) : EJ X R Γ (.Compare a [.Eq] [b] pos) eBool (bindM ma fun x => bindM mb fun y => pureM (decide (x = y))) := e_cmp op_eq v_eqI ha hb
theorem e_neI {ma mb : M Int} (ha : EJ X R Γ a eInt ma) (hb : EJ X R Γ b eInt mb) : EJ X R Γ (.Compare a [.NotEq] [b] pos) eBool (bindM ma fun x => bindM mb fun y => pureM (!decide (x = y))) := e_cmp op_ne v_neI ha hb
theorem t_eqI {ma mb : M Int} (ha : EJ X R Γ a eInt ma) (hb : EJ X R Γ b eInt mb) : TJ X R Γ (.Compare a [.Eq] [b] pos) (bindM ma fun x => bindM mb fun y => pureM (decide (x = y))) := t_cmp op_eq v_eqI ha hb
theorem t_neI {ma mb : M Int} (ha : EJ X R Γ a eInt ma) (hb : EJ X R Γ b eInt mb) : TJ X R Γ (.Compare a [.NotEq] [b] pos) (bindM ma fun x => bindM mb fun y => pureM (!decide (x = y))) := t_cmp op_ne v_neI ha hb
theorem e_eqT {ma mb : M Str} (ha : EJ X R Γ a eStr ma) (hb : EJ X R Γ b eStr mb) : EJ X R Γ (.Compare a [.Eq] [b] pos) eBool (bindM ma fun x => bindM mb fun y => pureM (decide (x = y))) := e_cmp op_eq v_eqT ha hb
theorem e_neT {ma mb : M Str} (ha : EJ X R Γ a eStr ma) (hb : EJ X R Γ b eStr mb) : EJ X R Γ (.Compare a [.NotEq] [b] pos) eBool (bindM ma fun x => bindM mb fun y => pureM (!decide (x = y))) := e_cmp op_ne v_neT ha hb
theorem t_eqT {ma mb : M Str} (ha : EJ X R Γ a eStr ma) (hb : EJ X R Γ b eStr mb) : TJ X R Γ (.Compare a [.Eq] [b] pos) (bindM ma fun x => bindM mb fun y => pureM (decide (x = y))) := t_cmp op_eq v_eqT ha hb
theorem t_neT {ma mb : M Str} (ha : EJ X R Γ a eStr ma) (hb : EJ X R Γ b eStr mb) : TJ X R Γ (.Compare a [.NotEq] [b] pos) (bindM ma fun x => bindM mb fun y => pureM (!decide (x = y))) := t_cmp op_ne v_neT ha hb
theorem e_eqP {n k : Nat} [DecidableEq α] {ma mb : M α} (hr : Room k X.A) (h : Dc n ea) (ha : EJ X R Γ a ea ma) (hb : EJ X R Γ b ea mb) (hn : n ≤ 60 := by decide) : EJ X R Γ (.Compare a [.Eq] [b] pos) eBool (bindM ma fun x => bindM mb fun y => pureM (decide (x = y))) := e_cmp (op_eqP hr.units) (v_eqP h hn) ha hb
theorem e_neP {n k : Nat} [DecidableEq α] {ma mb : M α} (hr : Room k X.A) (h : Dc n ea) (ha : EJ X R Γ a ea ma) (hb : EJ X R Γ b ea mb) (hn : n ≤ 60 := by decide) : EJ X R Γ (.Compare a [.NotEq] [b] pos) eBool (bindM ma fun x => bindM mb fun y => pureM (!decide (x = y))) := e_cmp (op_neP hr.units) (v_neP h hn) ha hb
theorem t_eqP {n k : Nat} [DecidableEq α] {ma mb : M α} (hr : Room k X.A) (h : Dc n ea) (ha : EJ X R Γ a ea ma) (hb : EJ X R Γ b ea mb) (hn : n ≤ 60 := by decide) : TJ X R Γ (.Compare a [.Eq] [b] pos) (bindM ma fun x => bindM mb fun y => pureM (decide (x = y))) := t_cmp (op_eqP hr.units) (v_eqP h hn) ha hb
theorem t_neP {n k : Nat} [DecidableEq α] {ma mb : M α} (hr : Room k X.A) (h : Dc n ea) (ha : EJ X R Γ a ea ma) (hb : EJ X R Γ b ea mb) (hn : n ≤ 60 := by decide) : TJ X R Γ (.Compare a [.NotEq] [b] pos) (bindM ma fun x => bindM mb fun y => pureM (!decide (x = y))) := t_cmp (op_neP hr.units) (v_neP h hn) ha hb
theorem e_isN {ma : M (Option α)} {j p} (h : NN ea) (ha : EJ X R Γ a (eO ea) ma) : EJ X R Γ (.Compare a [.Is] [.Constant .none j p] pos) eBool (bindM ma fun x => pureM x.isNone) := e_cmp op_isN (v_isN h) ha e_non
theorem e_notN {ma : M (Option α)} {j p} (h : NN ea) (ha : EJ X R Γ a (eO ea) ma) : EJ X R Γ (.Compare a [.IsNot] [.Constant .none j p] pos) eBool (bindM ma fun x => pureM x.isSome) := e_cmp op_notN (v_notN h) ha e_non
theorem t_isN {ma : M (Option α)} {j p} (h : NN ea) (ha : EJ X R Γ a (eO ea) ma) : TJ X R Γ (.Compare a [.Is] [.Constant .none j p] pos) (bindM ma fun x => pureM x.isNone) := t_cmp op_isN (v_isN h) ha e_non
theorem t_notN {ma : M (Option α)} {j p} (h : NN ea) (ha : EJ X R Γ a (eO ea) ma) : TJ X R Γ (.Compare a [.IsNot] [.Constant .none j p] pos) (bindM ma fun x => pureM x.isSome) := t_cmp op_notN (v_notN h) ha e_non
theorem v_isB : VOp rIsB eBool eBool eBool (fun x y => some (decide (x = y))) := fun A H x y vx vy Q z ad r1 r2 e q => by
  cases r1; cases r2; cases e
  exact ⟨_, _, rfl, rfl, q _ H (Same.refl H) (.bl _)⟩
theorem v_notB : VOp rNotB eBool eBool eBool (fun x y => some (!decide (x = y))) := fun A H x y vx vy Q z ad r1 r2 e q => by
  cases r1; cases r2; cases e
  exact ⟨_, _, rfl, rfl, q _ H (Same.refl H) (.bl _)⟩
theorem e_isB {ma mb : M Bool} (ha : EJ X R Γ a eBool ma) (hb : EJ X R Γ b eBool mb) : EJ X R Γ (.Compare a [.Is] [b] pos) eBool (bindM ma fun x => bindM mb fun y => pureM (decide (x = y))) := e_cmp op_isBl v_isB ha hb
theorem e_notB {ma mb : M Bool} (ha : EJ X R Γ a eBool ma) (hb : EJ X R Γ b eBool mb) : EJ X R Γ (.Compare a [.IsNot] [b] pos) eBool (bindM ma fun x => bindM mb fun y => pureM (!decide (x = y))) := e_cmp op_notBl v_notB ha hb
theorem t_isB {ma mb : M Bool} (ha : EJ X R Γ a eBool ma) (hb : EJ X R Γ b eBool mb) : TJ X R Γ (.Compare a [.Is] [b] pos) (bindM ma fun x => bindM mb fun y => pureM (decide (x = y))) := t_cmp op_isBl v_isB ha hb
theorem t_notB {ma mb : M Bool} (ha : EJ X R Γ a eBool ma) (hb : EJ X R Γ b eBool mb) : TJ X R Γ (.Compare a [.IsNot] [b] pos) (bindM ma fun x => bindM mb fun y => pureM (!decide (x = y))) := t_cmp op_notBl v_notB ha hb
theorem e_ixL {ma : M (List α)} {mb : M Int} (ha : EJ X R Γ a (eL ea) ma) (hb : EJ X R Γ b eInt mb) (hs : PlainIx b := by intro _ _; rfl) : EJ X R Γ (.Subscript a b pos) ea (bindM ma fun x => bindM mb fun y => optM (atI x y)) := e_ix ix_list v_ixL ha hb hs
theorem e_ixT {ma : M (List α)} {mb : M Int} (ha : EJ X R Γ a (eT ea) ma) (hb : EJ X R Γ b eInt mb) (hs : PlainIx b := by intro _ _; rfl) : EJ X R Γ (.Subscript a b pos) ea (bindM ma fun x => bindM mb fun y => optM (atI x y)) := e_ix ix_tup v_ixT ha hb hs
/-- t[j], j written, t a tuple of a written length -/
theorem e_ixP {ma : M α} {f : α → List PyData} {k : Int} {j0 : Nat} {p : Pos} (g : α → γ) (j : Nat) (hj : ∀ x, (f x)[j]? = some (ec (g x)) := by intro _; rfl) (hk : k = (j : Int) := by rfl) (ha : EJ X R Γ a (eP f) ma) : EJ X R Γ (.Subscript a (.Constant (.int k) j0 p) pos) ec (bindM ma fun x => pureM (g x)) := by
  have h := e_ix (X := X) (R := R) (Γ := Γ) (pos := pos) ix_tup (v_ixP (K := X.K) (f := f) (ec := ec) g j hj) ha (e_int (i := k) (j := j0) (pos := p)) (by intro _ _; rfl)
  subst hk
  simpa using h
theorem e_len {x : Str} {p : Pos} {ma : M (List α)} (hm : X.mg x = none) (hv : bootBuiltins x = some (.builtin "len")) (ha : EJ X R Γ a (eL ea) ma) (hg : Gl X x := by rfl) (hn : x ≠ "__name__" := by decide) (hdb : (x == ("__debug__" : Str)) = false := by decide)
    (he : starEach [a] X.env = (false, eval a X.env) :: starEach [] X.env := by rfl) : EJ X R Γ (.Call (.Name x p) [a] [] pos) eInt (bindM ma fun xs => pureM (xs.length : Int)) := by
  have h := e_many (es := [a]) (fun y : List α × Unit => [eL ea y.1]) (pe_callB (pos := pos) (p := p) call_len_seq hg hm hv (a_cons ha a_nil he) hn hdb he rfl) v_lenL
  simpa using h
theorem e_lenT {x : Str} {p : Pos} {ma : M (List α)} (hm : X.mg x = none) (hv : bootBuiltins x = some (.builtin "len")) (ha : EJ X R Γ a (eT ea) ma) (hg : Gl X x := by rfl) (hn : x ≠ "__name__" := by decide) (hdb : (x == ("__debug__" : Str)) = false := by decide)
    (he : starEach [a] X.env = (false, eval a X.env) :: starEach [] X.env := by rfl) : EJ X R Γ (.Call (.Name x p) [a] [] pos) eInt (bindM ma fun xs => pureM (xs.length : Int)) := by
  have h := e_many (es := [a]) (fun y : List α × Unit => [eT ea y.1]) (pe_callB (pos := pos) (p := p) call_len_seq hg hm hv (a_cons ha a_nil he) hn hdb he rfl) v_lenT
  simpa using h
/-- a built-in of one argument -/
theorem e_b1 {x : Str} {p : Pos} {id : String} {r : List V → Hp → VK → Prop} {ma : M α} {f : α → Option γ} (hc : CallR X (.builtin id) r) (hvn : VN r (fun y : α × Unit => [ea y.1]) ec (fun y => f y.1)) (hm : X.mg x = none) (hv : bootBuiltins x = some (.builtin id)) (ha : EJ X R Γ a ea ma) (hg : Gl X x := by rfl) (hn : x ≠ "__name__" := by decide) (hdb : (x == ("__debug__" : Str)) = false := by decide)
    (he : starEach [a] X.env = (false, eval a X.env) :: starEach [] X.env := by rfl) : EJ X R Γ (.Call (.Name x p) [a] [] pos) ec (bindM ma fun y => optM (f y)) := by
  have h := e_many (es := [a]) (fun y : α × Unit => [ea y.1]) (pe_callB (pos := pos) (p := p) hc hg hm hv (a_cons ha a_nil he) hn hdb he rfl) hvn
  simpa using h
theorem f_b1 {x : Str} {p : Pos} {id : String} {r : List V → Hp → VK → Prop} {ma : M α} {f : α → Option (List γ)} (hc : CallR X (.builtin id) r) (hvn : VNF r (fun y : α × Unit => [ea y.1]) ec (fun y => f y.1)) (hm : X.mg x = none) (hv : bootBuiltins x = some (.builtin id)) (ha : EJ X R Γ a ea ma) (hg : Gl X x := by rfl) (hn : x ≠ "__name__" := by decide) (hdb : (x == ("__debug__" : Str)) = false := by decide)
    (he : starEach [a] X.env = (false, eval a X.env) :: starEach [] X.env := by rfl) : EF X R Γ (.Call (.Name x p) [a] [] pos) ec (bindM ma fun y => optM (f y)) := by
  have h := f_many (es := [a]) (fun y : α × Unit => [ea y.1]) (pe_callB (pos := pos) (p := p) hc hg hm hv (a_cons ha a_nil he) hn hdb he rfl) hvn
  simpa using h
theorem e_t1 {x : Str} {p : Pos} {T : String} {r : List V → Hp → VK → Prop} {ma : M α} {f : α → Option γ} (hc : CallR X (.type T) r) (hvn : VN r (fun y : α × Unit => [ea y.1]) ec (fun y => f y.1)) (hm : X.mg x = none) (hv : bootBuiltins x = some (.type T)) (ha : EJ X R Γ a ea ma) (hg : Gl X x := by rfl) (hn : x ≠ "__name__" := by decide) (hdb : (x == ("__debug__" : Str)) = false := by decide)
    (he : starEach [a] X.env = (false, eval a X.env) :: starEach [] X.env := by rfl) : EJ X R Γ (.Call (.Name x p) [a] [] pos) ec (bindM ma fun y => optM (f y)) := by
  have h := e_many (es := [a]) (fun y : α × Unit => [ea y.1]) (pe_callTy (pos := pos) (p := p) hc hg hm hv (a_cons ha a_nil he) hn hdb he rfl) hvn
  simpa using h
theorem f_t1 {x : Str} {p : Pos} {T : String} {r : List V → Hp → VK → Prop} {ma : M α} {f : α → Option (List γ)} (hc : CallR X (.type T) r) (hvn : VNF r (fun y : α × Unit => [ea y.1]) ec (fun y => f y.1)) (hm : X.mg x = none) (hv : bootBuiltins x = some (.type T)) (ha : EJ X R Γ a ea ma) (hg : Gl X x := by rfl) (hn : x ≠ "__name__" := by decide) (hdb : (x == ("__debug__" : Str)) = false := by decide)
    (he : starEach [a] X.env = (false, eval a X.env) :: starEach [] X.env := by rfl) : EF X R Γ (.Call (.Name x p) [a] [] pos) ec (bindM ma fun y => optM (f y)) := by
  have h := f_many (es := [a]) (fun y : α × Unit => [ea y.1]) (pe_callTy (pos := pos) (p := p) hc hg hm hv (a_cons ha a_nil he) hn hdb he rfl) hvn
  simpa using h
theorem e_b2 {x : Str} {p : Pos} {id : String} {r : List V → Hp → VK → Prop} {ma : M α} {mb : M β} {f : α → β → Option γ} (hc : CallR X (.builtin id) r) (hvn : VN r (fun y : α × β × Unit => [ea y.1, eb y.2.1]) ec (fun y => f y.1 y.2.1)) (hm : X.mg x = none) (hv : bootBuiltins x = some (.builtin id)) (ha : EJ X R Γ a ea ma) (hb : EJ X R Γ b eb mb) (hg : Gl X x := by rfl) (hn : x ≠ "__name__" := by decide) (hdb : (x == ("__debug__" : Str)) = false := by decide)
    (he : starEach [a, b] X.env = (false, eval a X.env) :: starEach [b] X.env := by rfl) (he2 : starEach [b] X.env = (false, eval b X.env) :: starEach [] X.env := by rfl) : EJ X R Γ (.Call (.Name x p) [a, b] [] pos) ec (bindM ma fun y => bindM mb fun z => optM (f y z)) := by
  have h := e_many (es := [a, b]) (fun y : α × β × Unit => [ea y.1, eb y.2.1]) (pe_callB (pos := pos) (p := p) hc hg hm hv (a_cons ha (a_cons hb a_nil he2) he) hn hdb he (by rw [he2]; rfl)) hvn
  simpa using h
theorem e_repr {x : Str} {p : Pos} {k : Nat} {ma : M α} (hr : Room k X.A) (hG : X.A.guards = some []) (hm : X.mg x = none) (hv : bootBuiltins x = some (.builtin "repr")) (ha : EJ X R Γ a ea ma) (hg : Gl X x := by rfl) (hn : x ≠ "__name__" := by decide) (hdb : (x == ("__debug__" : Str)) = false := by decide)
    (he : starEach [a] X.env = (false, eval a X.env) :: starEach [] X.env := by rfl) : EJ X R Γ (.Call (.Name x p) [a] [] pos) eStr (bindM ma fun y => optM (reprO (ea y))) := e_b1 (call_reprD hr.units hG) v_repr hm hv ha hg hn hdb he
theorem f_catL {ma mb : M (List α)} (ha : EJ X R Γ a (eL ea) ma) (hb : EJ X R Γ b (eL ea) mb) : EF X R Γ (.BinOp a .Add b pos) ea (bindM ma fun x => bindM mb fun y => optM (catO x y)) := f_bin op_cat v_catL ha hb
theorem e_catT {ma mb : M (List α)} (ha : EJ X R Γ a (eT ea) ma) (hb : EJ X R Γ b (eT ea) mb) : EJ X R Γ (.BinOp a .Add b pos) (eT ea) (bindM ma fun x => bindM mb fun y => optM (catO x y)) := e_bin op_catA v_catT ha hb
theorem f_repL {ma : M (List α)} {mb : M Int} (ha : EJ X R Γ a (eL ea) ma) (hb : EJ X R Γ b eInt mb) : EF X R Γ (.BinOp a .Mult b pos) ea (bindM ma fun x => bindM mb fun y => optM (repO x y)) := f_bin op_rep v_repL ha hb
theorem e_repT {ma : M (List α)} {mb : M Int} (ha : EJ X R Γ a (eT ea) ma) (hb : EJ X R Γ b eInt mb) : EJ X R Γ (.BinOp a .Mult b pos) (eT ea) (bindM ma fun x => bindM mb fun y => optM (repTO x y)) := e_bin op_repT v_repT ha hb

/-! ### displays of one kind of items -/
abbrev LJ (X : Cx) (R : Res) (Γ : List Slot) (es : List Expr) (enc : α → PyData) (m : M (List α)) : Prop := AJ X R Γ es (fun xs => (xs.map enc).map .fz) m
theorem l_nil : LJ X R Γ [] ea (pureM []) := by
  refine PA.weak pa_nil fun σ H Q ⟨O, H0, ow, st, z, st', rel, ok, e, q⟩ => ?_
  obtain ⟨rfl, rfl⟩ := pure_some e
  exact q [] H (Keep.refl H) ok .nil
theorem l_cons {es : List Expr} {ma : M α} {mb : M (List α)} (ha : EJ X R Γ a ea ma) (hb : LJ X R Γ es ea mb) (hs : starEach (a :: es) X.env = (false, eval a X.env) :: starEach es X.env := by rfl) :
    LJ X R Γ (a :: es) ea (bindM ma fun x => bindM mb fun y => pureM (x :: y)) := by
  refine PA.weak (pa_cons ha hb hs) fun σ H Q ⟨O, H0, ow, st, z, st', rel, ok, e, q⟩ => ?_
  obtain ⟨x, s1, e1, e'⟩ := bind_some e
  obtain ⟨y, s2, e2, e3⟩ := bind_some e'
  obtain ⟨rfl, rfl⟩ := pure_some e3
  refine ⟨O, H0, ow, st, x, s1, rel, ok, e1, fun vx H1 k1 o1 r1 => ?_⟩
  refine ⟨O, H0, ow, s1, y, s2, rel.grow k1 (okZ o1), o1, e2, fun vs H2 k2 o2 r2 => ?_⟩
  exact q _ H2 (k1.trans k2) o2 (.cons (r1.keep ((rel.grow k1 (okZ o1)).keepA k2)) r2)
/-- how many: said by the reading -/
def smallM (m : M (List α)) : M (List α) := bindM m fun xs => if xs.length ≤ sizeLine then pureM xs else failM
theorem smallM_some {m : M (List α)} {s t : Src} {z : List α} (h : smallM m s = some (z, t)) : m s = some (z, t) ∧ z.length ≤ sizeLine := by
  obtain ⟨x, u, e1, e2⟩ := bind_some h
  obtain ⟨hl, rfl, rfl⟩ := if_some e2
  exact ⟨e1, hl⟩
theorem f_list {es : List Expr} {m : M (List α)} (h : LJ X R Γ es ea m) : EF X R Γ (.List es pos) ea (smallM m) := by
  refine PE.weak (pe_lst h) fun σ H Q ⟨O, H0, ow, st, z, st', rel, ok, e, q⟩ => ?_
  obtain ⟨e, hz⟩ := smallM_some e
  refine ⟨O, H0, ow, st, z, st', rel, ok, e, fun vs H1 k1 o1 r1 => ?_⟩
  have r2 : RpAll _ _ _ _ := RpSs.dat (R := R) r1
  refine ⟨by rw [r2.length, List.length_map]; exact hz, fun p n => q p vs _ (noneK k1 o1 n) (keepS k1 (same_new n)) (o1.same (same_new n)) upd_same (r2.at n (Keep.of_same (same_new n)))⟩
theorem e_tupl {es : List Expr} {k : Nat} {m : M (List α)} (h : LJ X R Γ es ea m) : EJ X R Γ (.Tuple es k pos) (eT ea) (smallM m) := by
  refine PE.weak (pe_tup h) fun σ H Q ⟨O, H0, ow, st, z, st', rel, ok, e, q⟩ => ?_
  obtain ⟨e, hz⟩ := smallM_some e
  refine ⟨O, H0, ow, st, z, st', rel, ok, e, fun vs H1 k1 o1 r1 => ?_⟩
  have r2 : RpAll _ _ _ _ := RpSs.dat (R := R) r1
  refine ⟨by rw [r2.length, List.length_map]; exact hz, fun p n => q _ _ (keepS k1 (same_new n)) (o1.same (same_new n)) (.tup ((rel.grow k1 (okZ o1)).ad.fresh n) upd_same (r2.keep (Keep.of_same (same_new n))))⟩
/-- *t ahead of more -/
theorem l_starT {es : List Expr} {p : Pos} {ma mb : M (List α)} (ha : EJ X R Γ a (eT ea) ma) (hb : LJ X R Γ es ea mb) (hs : starEach (.Starred a p :: es) X.env = (true, eval a X.env) :: starEach es X.env := by rfl) :
    LJ X R Γ (.Starred a p :: es) ea (bindM ma fun x => bindM mb fun y => pureM (x ++ y)) := by
  refine PA.weak (StX.pa_star ha hb hs) fun σ H Q ⟨O, H0, ow, st, z, st', rel, ok, e, q⟩ => ?_
  obtain ⟨x, s1, e1, e'⟩ := bind_some e
  obtain ⟨y, s2, e2, e3⟩ := bind_some e'
  obtain ⟨rfl, rfl⟩ := pure_some e3
  refine ⟨O, H0, ow, st, x, s1, rel, ok, e1, fun vx H1 k1 o1 r1 => ?_⟩
  cases r1 with
  | tup na ha hr =>
    refine ⟨_, _, rfl, .inl (SqT.of ha), O, H0, ow, s1, y, s2, rel.grow k1 (okZ o1), o1, e2, fun vs H2 k2 o2 r2 => q _ H2 (k1.trans k2) o2 ?_⟩
    have hr2 := hr.keep ((rel.grow k1 (okZ o1)).keepA k2)
    have all := hr2.append (RpSs.dat (R := R) r2)
    rw [← List.map_append] at all
    have back : ∀ {vs : List V} {ds : List PyData}, RpAll (avo O Γ ow) H2 vs ds → RpSs R (avo O Γ ow) H2 vs (ds.map .fz) := by
      intro vs ds
      induction ds generalizing vs with
      | nil => intro h; cases h; exact .nil
      | cons d ds ih => intro h; cases h with | cons h1 h2 => exact .cons h1 (ih h2)
    exact back all

/-! ### statements, short -/
def caseO {ρ β κ : Type} (o : Out ρ β) (f : β → M κ) (g : ρ → M κ) : M κ := match o with
  | .nx b => f b
  | .rt r => g r
theorem s_ret0 {m : M ρ} (he : EJ X R Γ e er m) : SJ X R Γ (.Return (some e) pos :: rest) (fun r => .rt (er r)) m := by
  have := s_ret (rest := rest) (pos := pos) (out := fun r => .rt (er r)) (f := id) he
  simpa using this
theorem s_retO {Γb : β → List Slot} {m : M ρ} (he : EJ X R Γ e er m) : SJ X R Γ (.Return (some e) pos :: rest) (outO er Γb) (bindM m fun r => pureM (Out.rt r)) := s_ret Out.rt he
theorem s_step1 {Γ1 : β → List Slot} {m1 : M (Out ρ β)} {k : β → M ρ} (h1 : QJ X R Γ st (outO er Γ1) m1) (h2 : ∀ b, SJ X R (Γ1 b) rest (fun r => .rt (er r)) (k b)) :
    SJ X R Γ (st :: rest) (fun r => .rt (er r)) (bindM m1 fun o => caseO o k pureM) :=
  s_eq (s_stepO (f := id) h1 h2) (congrArg (bindM m1) (funext fun o => by cases o <;> rfl))
theorem s_step2 {Γ1 : β → List Slot} {Γb : δ → List Slot} {m1 : M (Out ρ β)} {k : β → M (Out ρ δ)} (h1 : QJ X R Γ st (outO er Γ1) m1) (h2 : ∀ b, SJ X R (Γ1 b) rest (outO er Γb) (k b)) :
    SJ X R Γ (st :: rest) (outO er Γb) (bindM m1 fun o => caseO o k fun r => pureM (Out.rt r)) :=
  s_eq (s_stepO (f := Out.rt) h1 h2) (congrArg (bindM m1) (funext fun o => by cases o <;> rfl))
theorem s_ifret2 {Γb : β → List Slot} {mc : M Bool} {mA : M ρ} {mR : M (Out ρ β)} (hc : TJ X R Γ c mc) (hA : SJ X R Γ A (fun r => .rt (er r)) mA) (hR : SJ X R Γ rest (outO er Γb) mR) :
    SJ X R Γ (.If c A [] pos :: rest) (outO er Γb) (bindM mc fun k => if k then bindM mA (fun r => pureM (Out.rt r)) else mR) := s_ifret Out.rt hc hA (fun r => ⟨_, rfl⟩) (fun _ => rfl) hR
theorem s_nilN {Γb : β → List Slot} (b : β) (h : Low Γ (Γb b)) : SJ X R Γ [] (fun b => .nx (Γb b)) (pureM b) := s_nil rfl h
theorem s_nilO {Γb : β → List Slot} (b : β) (h : Low Γ (Γb b)) : SJ X R Γ [] (outO er Γb) (pureM (Out.nx b)) := s_nil rfl h

/-! ### targets, short -/
def st1 (i : Nat) (enc : ι → PyData) (Γ : List Slot) (y : ι) : List Slot := Γ.set i (.fz (enc y))
def st2 (i : Nat) (ea : α → PyData) (j : Nat) (eb : β → PyData) (Γ : List Slot) (y : α × β × Unit) : List Slot := (Γ.set i (.fz (ea y.1))).set j (.fz (eb y.2.1))
def st3 (i : Nat) (ea : α → PyData) (j : Nat) (eb : β → PyData) (k : Nat) (ec : γ → PyData) (Γ : List Slot) (y : α × β × γ × Unit) : List Slot := ((Γ.set i (.fz (ea y.1))).set j (.fz (eb y.2.1))).set k (.fz (ec y.2.2.1))
theorem g1 (i : Nat) {x : Str} (enc : ι → PyData) (hN : X.N.Nodup) (hi : X.N[i]? = some x := by rfl) (hx : Loc X.env.scope x := by first | exact Or.inl rfl | exact Or.inr rfl)
    (hf : X.fn x = true ∨ X.env.scope.names.lookup x = some .local := by first | exact .inl rfl | exact .inr rfl) : GJ X (.Name x pos) (st1 i enc) [i] enc := g_name i enc hN hi hx hf
theorem noow1 {i : Nat} {enc : ι → PyData} : ∀ Γ x (j : Nat) d, (st1 i enc Γ x)[j]? = some (.ow d) → Γ[j]? = some (.ow d) := fun _ _ _ _ e => set_noow _ _ e
theorem sm1 {i : Nat} {enc : ι → PyData} : ∀ Γ x (j : Nat), j ∉ [i] → (st1 i enc Γ x)[j]? = Γ[j]? := fun _ _ _ h => List.getElem?_set_ne (fun z => h (by simp [z]))
theorem noow2 {i j : Nat} : ∀ Γ x (l : Nat) d, (st2 i ea j eb Γ x)[l]? = some (.ow d) → Γ[l]? = some (.ow d) := fun _ _ _ _ e => set_noow _ _ (set_noow _ _ e)
theorem sm2 {i j : Nat} : ∀ Γ x (l : Nat), l ∉ [i, j] → (st2 i ea j eb Γ x)[l]? = Γ[l]? := fun _ _ _ h => (List.getElem?_set_ne (fun z => h (by simp [z]))).trans (List.getElem?_set_ne (fun z => h (by simp [z])))
theorem noow3 {i j k : Nat} : ∀ Γ x (l : Nat) d, (st3 i ea j eb k ec Γ x)[l]? = some (.ow d) → Γ[l]? = some (.ow d) := fun _ _ _ _ e => set_noow _ _ (set_noow _ _ (set_noow _ _ e))
theorem sm3 {i j k : Nat} : ∀ Γ x (l : Nat), l ∉ [i, j, k] → (st3 i ea j eb k ec Γ x)[l]? = Γ[l]? := fun _ _ _ h => (List.getElem?_set_ne (fun z => h (by simp [z]))).trans ((List.getElem?_set_ne (fun z => h (by simp [z]))).trans (List.getElem?_set_ne (fun z => h (by simp [z]))))
theorem g2 (i j : Nat) {x y : Str} {p q : Pos} {k : Nat} (ea : α → PyData) (eb : β → PyData) (hc : X.calm = true) (hN : X.N.Nodup) (hi : X.N[i]? = some x := by rfl) (hj : X.N[j]? = some y := by rfl) (hx : Loc X.env.scope x := by first | exact Or.inl rfl | exact Or.inr rfl) (hy : Loc X.env.scope y := by first | exact Or.inl rfl | exact Or.inr rfl)
    (hf : X.fn x = true ∨ X.env.scope.names.lookup x = some .local := by first | exact .inl rfl | exact .inr rfl) (hf2 : X.fn y = true ∨ X.env.scope.names.lookup y = some .local := by first | exact .inl rfl | exact .inr rfl) :
    GJ X (.Tuple [.Name x p, .Name y q] k pos) (st2 i ea j eb) [i, j] (eP (eC ea (eC eb eU))) :=
  g_tup (n := 2) hc (gs_cons (g1 i ea hN hi hx hf) (gs_cons (g1 j eb hN hj hy hf2) gs_nil noow1) noow1)
theorem g3 (i j l : Nat) {x y z : Str} {p q r : Pos} {k : Nat} (ea : α → PyData) (eb : β → PyData) (ec : γ → PyData) (hc : X.calm = true) (hN : X.N.Nodup) (hi : X.N[i]? = some x := by rfl) (hj : X.N[j]? = some y := by rfl) (hl : X.N[l]? = some z := by rfl) (hx : Loc X.env.scope x := by first | exact Or.inl rfl | exact Or.inr rfl) (hy : Loc X.env.scope y := by first | exact Or.inl rfl | exact Or.inr rfl) (hz : Loc X.env.scope z := by first | exact Or.inl rfl | exact Or.inr rfl)
    (hf : X.fn x = true ∨ X.env.scope.names.lookup x = some .local := by first | exact .inl rfl | exact .inr rfl) (hf2 : X.fn y = true ∨ X.env.scope.names.lookup y = some .local := by first | exact .inl rfl | exact .inr rfl) (hf3 : X.fn z = true ∨ X.env.scope.names.lookup z = some .local := by first | exact .inl rfl | exact .inr rfl) :
    GJ X (.Tuple [.Name x p, .Name y q, .Name z r] k pos) (st3 i ea j eb l ec) [i, j, l] (eP (eC ea (eC eb (eC ec eU)))) :=
  g_tup (n := 3) hc (gs_cons (g1 i ea hN hi hx hf) (gs_cons (g1 j eb hN hj hy hf2) (gs_cons (g1 l ec hN hl hz hf3) gs_nil noow1) noow1) noow1)
/-- no own list at the places vs -/
theorem noOw {Γ : List Slot} {vs : List Nat} (h : (vs.all fun i => match Γ[i]? with | some (.ow _) => false | _ => true) = true) : ∀ i ∈ vs, ∀ d, Γ[i]? ≠ some (.ow d) := fun i hi d e => by
  have := List.all_eq_true.mp h i hi
  rw [e] at this
  cases this
end
end Pz

namespace Pz
open PySem PySem.Spec PyProof.Rows L2

section
variable {α β γ δ ζ κ ρ ι : Type} {ea : α → PyData} {eb : β → PyData} {ec : γ → PyData} {ed : δ → PyData} {ez : ζ → PyData} {er : ρ → PyData} {X : Cx} {R : Res} {Γ Γ' : List Slot} {a b c d z : Expr} {pos : Pos}
/-! ### calls of defs, by the number of their arguments -/
theorem e_c1 {k : Nat} {f : Addr} {fd : FuncData} {ps : List Str} {x : Str} {p : Pos} {g : α → M ρ} {mα : M α} (F : FnG X.prog X.w X.K X.mg X.base k f fd ps (SpM (fun p : α × Unit => [.fz (ea p.1)]) er (fun p : α × Unit => g p.1))) (hG : X.A.guards = some []) (hr : Room k X.A) (hm : X.mg x = some (.ref f)) (hk : PySem.W.keepIn X.K (.ref f) = true)
    (hB : Binds X.K fd ps []) (ha : EJ X R Γ a ea mα) (hg : Gl X x := by rfl) (hdb : (x == ("__debug__" : Str)) = false := by decide) (has : starEach [a] X.env = (false, eval a X.env) :: starEach [] X.env := by rfl) (hpl : (backTo pos (starEach [] X.env)).any (·.1) = false := by rfl) :
    EJ X R Γ (.Call (.Name x p) [a] [] pos) er (bindM mα fun v0 => g v0) := by
  have h := e_callG (pos := pos) (p := p) F hG hr hm hk hB (a_cons ha a_nil has) hg hdb has hpl
  simpa using h
theorem e_cs1 {k : Nat} {f : Addr} {fd : FuncData} {ps : List Str} {x : Str} {p : Pos} {y : Str} {q : Pos} (i : Nat) {g : α → M ρ} {mα : M α} (F : FnG X.prog X.w X.K X.mg X.base k f fd ps (SpM (fun p : α × Unit => [.src, .fz (ea p.1)]) er (fun p : α × Unit => g p.1))) (hG : X.A.guards = some []) (hr : Room k X.A) (hm : X.mg x = some (.ref f)) (hk : PySem.W.keepIn X.K (.ref f) = true)
    (hB : Binds X.K fd ps []) (ha : EJ X R Γ a ea mα) (hg : Gl X x := by rfl) (hdb : (x == ("__debug__" : Str)) = false := by decide) (has : starEach [a] X.env = (false, eval a X.env) :: starEach [] X.env := by rfl) (hΓ : Γ[i]? = some .src := by rfl) (hN : X.N[i]? = some y := by rfl) (hv : Vis X.env.scope y := by first | exact Or.inl rfl | exact Or.inr (Or.inl rfl) | exact Or.inr (Or.inr rfl)) (hyd : (y == ("__debug__" : Str)) = false := by decide) (hyc : (y == ("__classdict__" : Str)) = false := by decide) (hsrc : starEach (.Name y q :: [a]) X.env = (false, eval (.Name y q) X.env) :: starEach [a] X.env := by rfl) (hpl : (backTo pos (starEach [a] X.env)).any (·.1) = false := by rfl) :
    EJ X R Γ (.Call (.Name x p) [.Name y q, a] [] pos) er (bindM mα fun v0 => g v0) := by
  have h := e_callG (pos := pos) (p := p) F hG hr hm hk hB (a_src i (a_cons ha a_nil has) hΓ hN hv hyd hyc hsrc) hg hdb hsrc hpl
  simpa using h
theorem e_c2 {k : Nat} {f : Addr} {fd : FuncData} {ps : List Str} {x : Str} {p : Pos} {g : α → β → M ρ} {mα : M α} {mβ : M β} (F : FnG X.prog X.w X.K X.mg X.base k f fd ps (SpM (fun p : α × β × Unit => [.fz (ea p.1), .fz (eb p.2.1)]) er (fun p : α × β × Unit => g p.1 p.2.1))) (hG : X.A.guards = some []) (hr : Room k X.A) (hm : X.mg x = some (.ref f)) (hk : PySem.W.keepIn X.K (.ref f) = true)
    (hB : Binds X.K fd ps []) (ha : EJ X R Γ a ea mα) (hb : EJ X R Γ b eb mβ) (hg : Gl X x := by rfl) (hdb : (x == ("__debug__" : Str)) = false := by decide) (has : starEach [a, b] X.env = (false, eval a X.env) :: starEach [b] X.env := by rfl) (hbs : starEach [b] X.env = (false, eval b X.env) :: starEach [] X.env := by rfl) (hpl : (backTo pos (starEach [b] X.env)).any (·.1) = false := by rfl) :
    EJ X R Γ (.Call (.Name x p) [a, b] [] pos) er (bindM mα fun v0 => bindM mβ fun v1 => g v0 v1) := by
  have h := e_callG (pos := pos) (p := p) F hG hr hm hk hB (a_cons ha (a_cons hb a_nil hbs) has) hg hdb has hpl
  simpa using h
theorem e_cs2 {k : Nat} {f : Addr} {fd : FuncData} {ps : List Str} {x : Str} {p : Pos} {y : Str} {q : Pos} (i : Nat) {g : α → β → M ρ} {mα : M α} {mβ : M β} (F : FnG X.prog X.w X.K X.mg X.base k f fd ps (SpM (fun p : α × β × Unit => [.src, .fz (ea p.1), .fz (eb p.2.1)]) er (fun p : α × β × Unit => g p.1 p.2.1))) (hG : X.A.guards = some []) (hr : Room k X.A) (hm : X.mg x = some (.ref f)) (hk : PySem.W.keepIn X.K (.ref f) = true)
    (hB : Binds X.K fd ps []) (ha : EJ X R Γ a ea mα) (hb : EJ X R Γ b eb mβ) (hg : Gl X x := by rfl) (hdb : (x == ("__debug__" : Str)) = false := by decide) (has : starEach [a, b] X.env = (false, eval a X.env) :: starEach [b] X.env := by rfl) (hbs : starEach [b] X.env = (false, eval b X.env) :: starEach [] X.env := by rfl) (hΓ : Γ[i]? = some .src := by rfl) (hN : X.N[i]? = some y := by rfl) (hv : Vis X.env.scope y := by first | exact Or.inl rfl | exact Or.inr (Or.inl rfl) | exact Or.inr (Or.inr rfl)) (hyd : (y == ("__debug__" : Str)) = false := by decide) (hyc : (y == ("__classdict__" : Str)) = false := by decide) (hsrc : starEach (.Name y q :: [a, b]) X.env = (false, eval (.Name y q) X.env) :: starEach [a, b] X.env := by rfl) (hpl : (backTo pos (starEach [a, b] X.env)).any (·.1) = false := by rfl) :
    EJ X R Γ (.Call (.Name x p) [.Name y q, a, b] [] pos) er (bindM mα fun v0 => bindM mβ fun v1 => g v0 v1) := by
  have h := e_callG (pos := pos) (p := p) F hG hr hm hk hB (a_src i (a_cons ha (a_cons hb a_nil hbs) has) hΓ hN hv hyd hyc hsrc) hg hdb hsrc hpl
  simpa using h
theorem e_c3 {k : Nat} {f : Addr} {fd : FuncData} {ps : List Str} {x : Str} {p : Pos} {g : α → β → γ → M ρ} {mα : M α} {mβ : M β} {mγ : M γ} (F : FnG X.prog X.w X.K X.mg X.base k f fd ps (SpM (fun p : α × β × γ × Unit => [.fz (ea p.1), .fz (eb p.2.1), .fz (ec p.2.2.1)]) er (fun p : α × β × γ × Unit => g p.1 p.2.1 p.2.2.1))) (hG : X.A.guards = some []) (hr : Room k X.A) (hm : X.mg x = some (.ref f)) (hk : PySem.W.keepIn X.K (.ref f) = true)
    (hB : Binds X.K fd ps []) (ha : EJ X R Γ a ea mα) (hb : EJ X R Γ b eb mβ) (hc : EJ X R Γ c ec mγ) (hg : Gl X x := by rfl) (hdb : (x == ("__debug__" : Str)) = false := by decide) (has : starEach [a, b, c] X.env = (false, eval a X.env) :: starEach [b, c] X.env := by rfl) (hbs : starEach [b, c] X.env = (false, eval b X.env) :: starEach [c] X.env := by rfl) (hcs : starEach [c] X.env = (false, eval c X.env) :: starEach [] X.env := by rfl) (hpl : (backTo pos (starEach [b, c] X.env)).any (·.1) = false := by rfl) :
    EJ X R Γ (.Call (.Name x p) [a, b, c] [] pos) er (bindM mα fun v0 => bindM mβ fun v1 => bindM mγ fun v2 => g v0 v1 v2) := by
  have h := e_callG (pos := pos) (p := p) F hG hr hm hk hB (a_cons ha (a_cons hb (a_cons hc a_nil hcs) hbs) has) hg hdb has hpl
  simpa using h
theorem e_cs3 {k : Nat} {f : Addr} {fd : FuncData} {ps : List Str} {x : Str} {p : Pos} {y : Str} {q : Pos} (i : Nat) {g : α → β → γ → M ρ} {mα : M α} {mβ : M β} {mγ : M γ} (F : FnG X.prog X.w X.K X.mg X.base k f fd ps (SpM (fun p : α × β × γ × Unit => [.src, .fz (ea p.1), .fz (eb p.2.1), .fz (ec p.2.2.1)]) er (fun p : α × β × γ × Unit => g p.1 p.2.1 p.2.2.1))) (hG : X.A.guards = some []) (hr : Room k X.A) (hm : X.mg x = some (.ref f)) (hk : PySem.W.keepIn X.K (.ref f) = true)
    (hB : Binds X.K fd ps []) (ha : EJ X R Γ a ea mα) (hb : EJ X R Γ b eb mβ) (hc : EJ X R Γ c ec mγ) (hg : Gl X x := by rfl) (hdb : (x == ("__debug__" : Str)) = false := by decide) (has : starEach [a, b, c] X.env = (false, eval a X.env) :: starEach [b, c] X.env := by rfl) (hbs : starEach [b, c] X.env = (false, eval b X.env) :: starEach [c] X.env := by rfl) (hcs : starEach [c] X.env = (false, eval c X.env) :: starEach [] X.env := by rfl) (hΓ : Γ[i]? = some .src := by rfl) (hN : X.N[i]? = some y := by rfl) (hv : Vis X.env.scope y := by first | exact Or.inl rfl | exact Or.inr (Or.inl rfl) | exact Or.inr (Or.inr rfl)) (hyd : (y == ("__debug__" : Str)) = false := by decide) (hyc : (y == ("__classdict__" : Str)) = false := by decide) (hsrc : starEach (.Name y q :: [a, b, c]) X.env = (false, eval (.Name y q) X.env) :: starEach [a, b, c] X.env := by rfl) (hpl : (backTo pos (starEach [a, b, c] X.env)).any (·.1) = false := by rfl) :
    EJ X R Γ (.Call (.Name x p) [.Name y q, a, b, c] [] pos) er (bindM mα fun v0 => bindM mβ fun v1 => bindM mγ fun v2 => g v0 v1 v2) := by
  have h := e_callG (pos := pos) (p := p) F hG hr hm hk hB (a_src i (a_cons ha (a_cons hb (a_cons hc a_nil hcs) hbs) has) hΓ hN hv hyd hyc hsrc) hg hdb hsrc hpl
  simpa using h
theorem e_c4 {k : Nat} {f : Addr} {fd : FuncData} {ps : List Str} {x : Str} {p : Pos} {g : α → β → γ → δ → M ρ} {mα : M α} {mβ : M β} {mγ : M γ} {mδ : M δ} (F : FnG X.prog X.w X.K X.mg X.base k f fd ps (SpM (fun p : α × β × γ × δ × Unit => [.fz (ea p.1), .fz (eb p.2.1), .fz (ec p.2.2.1), .fz (ed p.2.2.2.1)]) er (fun p : α × β × γ × δ × Unit => g p.1 p.2.1 p.2.2.1 p.2.2.2.1))) (hG : X.A.guards = some []) (hr : Room k X.A) (hm : X.mg x = some (.ref f)) (hk : PySem.W.keepIn X.K (.ref f) = true)
    (hB : Binds X.K fd ps []) (ha : EJ X R Γ a ea mα) (hb : EJ X R Γ b eb mβ) (hc : EJ X R Γ c ec mγ) (hd : EJ X R Γ d ed mδ) (hg : Gl X x := by rfl) (hdb : (x == ("__debug__" : Str)) = false := by decide) (has : starEach [a, b, c, d] X.env = (false, eval a X.env) :: starEach [b, c, d] X.env := by rfl) (hbs : starEach [b, c, d] X.env = (false, eval b X.env) :: starEach [c, d] X.env := by rfl) (hcs : starEach [c, d] X.env = (false, eval c X.env) :: starEach [d] X.env := by rfl) (hds : starEach [d] X.env = (false, eval d X.env) :: starEach [] X.env := by rfl) (hpl : (backTo pos (starEach [b, c, d] X.env)).any (·.1) = false := by rfl) :
    EJ X R Γ (.Call (.Name x p) [a, b, c, d] [] pos) er (bindM mα fun v0 => bindM mβ fun v1 => bindM mγ fun v2 => bindM mδ fun v3 => g v0 v1 v2 v3) := by
  have h := e_callG (pos := pos) (p := p) F hG hr hm hk hB (a_cons ha (a_cons hb (a_cons hc (a_cons hd a_nil hds) hcs) hbs) has) hg hdb has hpl
  simpa using h
theorem e_cs4 {k : Nat} {f : Addr} {fd : FuncData} {ps : List Str} {x : Str} {p : Pos} {y : Str} {q : Pos} (i : Nat) {g : α → β → γ → δ → M ρ} {mα : M α} {mβ : M β} {mγ : M γ} {mδ : M δ} (F : FnG X.prog X.w X.K X.mg X.base k f fd ps (SpM (fun p : α × β × γ × δ × Unit => [.src, .fz (ea p.1), .fz (eb p.2.1), .fz (ec p.2.2.1), .fz (ed p.2.2.2.1)]) er (fun p : α × β × γ × δ × Unit => g p.1 p.2.1 p.2.2.1 p.2.2.2.1))) (hG : X.A.guards = some []) (hr : Room k X.A) (hm : X.mg x = some (.ref f)) (hk : PySem.W.keepIn X.K (.ref f) = true)
    (hB : Binds X.K fd ps []) (ha : EJ X R Γ a ea mα) (hb : EJ X R Γ b eb mβ) (hc : EJ X R Γ c ec mγ) (hd : EJ X R Γ d ed mδ) (hg : Gl X x := by rfl) (hdb : (x == ("__debug__" : Str)) = false := by decide) (has : starEach [a, b, c, d] X.env = (false, eval a X.env) :: starEach [b, c, d] X.env := by rfl) (hbs : starEach [b, c, d] X.env = (false, eval b X.env) :: starEach [c, d] X.env := by rfl) (hcs : starEach [c, d] X.env = (false, eval c X.env) :: starEach [d] X.env := by rfl) (hds : starEach [d] X.env = (false, eval d X.env) :: starEach [] X.env := by rfl) (hΓ : Γ[i]? = some .src := by rfl) (hN : X.N[i]? = some y := by rfl) (hv : Vis X.env.scope y := by first | exact Or.inl rfl | exact Or.inr (Or.inl rfl) | exact Or.inr (Or.inr rfl)) (hyd : (y == ("__debug__" : Str)) = false := by decide) (hyc : (y == ("__classdict__" : Str)) = false := by decide) (hsrc : starEach (.Name y q :: [a, b, c, d]) X.env = (false, eval (.Name y q) X.env) :: starEach [a, b, c, d] X.env := by rfl) (hpl : (backTo pos (starEach [a, b, c, d] X.env)).any (·.1) = false := by rfl) :
    EJ X R Γ (.Call (.Name x p) [.Name y q, a, b, c, d] [] pos) er (bindM mα fun v0 => bindM mβ fun v1 => bindM mγ fun v2 => bindM mδ fun v3 => g v0 v1 v2 v3) := by
  have h := e_callG (pos := pos) (p := p) F hG hr hm hk hB (a_src i (a_cons ha (a_cons hb (a_cons hc (a_cons hd a_nil hds) hcs) hbs) has) hΓ hN hv hyd hyc hsrc) hg hdb hsrc hpl
  simpa using h
theorem e_c5 {k : Nat} {f : Addr} {fd : FuncData} {ps : List Str} {x : Str} {p : Pos} {g : α → β → γ → δ → ζ → M ρ} {mα : M α} {mβ : M β} {mγ : M γ} {mδ : M δ} {mζ : M ζ} (F : FnG X.prog X.w X.K X.mg X.base k f fd ps (SpM (fun p : α × β × γ × δ × ζ × Unit => [.fz (ea p.1), .fz (eb p.2.1), .fz (ec p.2.2.1), .fz (ed p.2.2.2.1), .fz (ez p.2.2.2.2.1)]) er (fun p : α × β × γ × δ × ζ × Unit => g p.1 p.2.1 p.2.2.1 p.2.2.2.1 p.2.2.2.2.1))) (hG : X.A.guards = some []) (hr : Room k X.A) (hm : X.mg x = some (.ref f)) (hk : PySem.W.keepIn X.K (.ref f) = true)
    (hB : Binds X.K fd ps []) (ha : EJ X R Γ a ea mα) (hb : EJ X R Γ b eb mβ) (hc : EJ X R Γ c ec mγ) (hd : EJ X R Γ d ed mδ) (hz : EJ X R Γ z ez mζ) (hg : Gl X x := by rfl) (hdb : (x == ("__debug__" : Str)) = false := by decide) (has : starEach [a, b, c, d, z] X.env = (false, eval a X.env) :: starEach [b, c, d, z] X.env := by rfl) (hbs : starEach [b, c, d, z] X.env = (false, eval b X.env) :: starEach [c, d, z] X.env := by rfl) (hcs : starEach [c, d, z] X.env = (false, eval c X.env) :: starEach [d, z] X.env := by rfl) (hds : starEach [d, z] X.env = (false, eval d X.env) :: starEach [z] X.env := by rfl) (hzs : starEach [z] X.env = (false, eval z X.env) :: starEach [] X.env := by rfl) (hpl : (backTo pos (starEach [b, c, d, z] X.env)).any (·.1) = false := by rfl) :
    EJ X R Γ (.Call (.Name x p) [a, b, c, d, z] [] pos) er (bindM mα fun v0 => bindM mβ fun v1 => bindM mγ fun v2 => bindM mδ fun v3 => bindM mζ fun v4 => g v0 v1 v2 v3 v4) := by
  have h := e_callG (pos := pos) (p := p) F hG hr hm hk hB (a_cons ha (a_cons hb (a_cons hc (a_cons hd (a_cons hz a_nil hzs) hds) hcs) hbs) has) hg hdb has hpl
  simpa using h
theorem e_cs5 {k : Nat} {f : Addr} {fd : FuncData} {ps : List Str} {x : Str} {p : Pos} {y : Str} {q : Pos} (i : Nat) {g : α → β → γ → δ → ζ → M ρ} {mα : M α} {mβ : M β} {mγ : M γ} {mδ : M δ} {mζ : M ζ} (F : FnG X.prog X.w X.K X.mg X.base k f fd ps (SpM (fun p : α × β × γ × δ × ζ × Unit => [.src, .fz (ea p.1), .fz (eb p.2.1), .fz (ec p.2.2.1), .fz (ed p.2.2.2.1), .fz (ez p.2.2.2.2.1)]) er (fun p : α × β × γ × δ × ζ × Unit => g p.1 p.2.1 p.2.2.1 p.2.2.2.1 p.2.2.2.2.1))) (hG : X.A.guards = some []) (hr : Room k X.A) (hm : X.mg x = some (.ref f)) (hk : PySem.W.keepIn X.K (.ref f) = true)
    (hB : Binds X.K fd ps []) (ha : EJ X R Γ a ea mα) (hb : EJ X R Γ b eb mβ) (hc : EJ X R Γ c ec mγ) (hd : EJ X R Γ d ed mδ) (hz : EJ X R Γ z ez mζ) (hg : Gl X x := by rfl) (hdb : (x == ("__debug__" : Str)) = false := by decide) (has : starEach [a, b, c, d, z] X.env = (false, eval a X.env) :: starEach [b, c, d, z] X.env := by rfl) (hbs : starEach [b, c, d, z] X.env = (false, eval b X.env) :: starEach [c, d, z] X.env := by rfl) (hcs : starEach [c, d, z] X.env = (false, eval c X.env) :: starEach [d, z] X.env := by rfl) (hds : starEach [d, z] X.env = (false, eval d X.env) :: starEach [z] X.env := by rfl) (hzs : starEach [z] X.env = (false, eval z X.env) :: starEach [] X.env := by rfl) (hΓ : Γ[i]? = some .src := by rfl) (hN : X.N[i]? = some y := by rfl) (hv : Vis X.env.scope y := by first | exact Or.inl rfl | exact Or.inr (Or.inl rfl) | exact Or.inr (Or.inr rfl)) (hyd : (y == ("__debug__" : Str)) = false := by decide) (hyc : (y == ("__classdict__" : Str)) = false := by decide) (hsrc : starEach (.Name y q :: [a, b, c, d, z]) X.env = (false, eval (.Name y q) X.env) :: starEach [a, b, c, d, z] X.env := by rfl) (hpl : (backTo pos (starEach [a, b, c, d, z] X.env)).any (·.1) = false := by rfl) :
    EJ X R Γ (.Call (.Name x p) [.Name y q, a, b, c, d, z] [] pos) er (bindM mα fun v0 => bindM mβ fun v1 => bindM mγ fun v2 => bindM mδ fun v3 => bindM mζ fun v4 => g v0 v1 v2 v3 v4) := by
  have h := e_callG (pos := pos) (p := p) F hG hr hm hk hB (a_src i (a_cons ha (a_cons hb (a_cons hc (a_cons hd (a_cons hz a_nil hzs) hds) hcs) hbs) has) hΓ hN hv hyd hyc hsrc) hg hdb hsrc hpl
  simpa using h
theorem e_cs0 {k : Nat} {f : Addr} {fd : FuncData} {ps : List Str} {x y : Str} {p q : Pos} (i : Nat) {g : M ρ} (F : FnG X.prog X.w X.K X.mg X.base k f fd ps (SpM (fun _ : Unit => [.src]) er (fun _ => g))) (hG : X.A.guards = some []) (hr : Room k X.A) (hm : X.mg x = some (.ref f)) (hk : PySem.W.keepIn X.K (.ref f) = true)
    (hB : Binds X.K fd ps []) (hg : Gl X x := by rfl) (hdb : (x == ("__debug__" : Str)) = false := by decide) (hΓ : Γ[i]? = some .src := by rfl) (hN : X.N[i]? = some y := by rfl) (hv : Vis X.env.scope y := by first | exact Or.inl rfl | exact Or.inr (Or.inl rfl) | exact Or.inr (Or.inr rfl)) (hyd : (y == ("__debug__" : Str)) = false := by decide) (hyc : (y == ("__classdict__" : Str)) = false := by decide)
    (hsrc : starEach [.Name y q] X.env = (false, eval (.Name y q) X.env) :: starEach [] X.env := by rfl) : EJ X R Γ (.Call (.Name x p) [.Name y q] [] pos) er g := by
  have h := e_callG (R := R) (pos := pos) (p := p) F hG hr hm hk hB (a_src i a_nil hΓ hN hv hyd hyc hsrc) hg hdb hsrc rfl
  simpa using h
end
end Pz

namespace Pz
open PySem PySem.Spec PyProof.Rows L2
/-! ### the draws -/
def drawC : Nat → List Int → Int → List Int × Int
  | 0, c, l => (c, l)
  | n + 1, c, l => if l < 2 then (match c.getLast? with
    | some y => drawC n c.dropLast y
    | none => (c, l)) else (c, l)
def pickM (most : Int) : M Int := fun s =>
  if most < 2 then some (0, s) else if 1073741824 ≤ most then none else
  let q := drawC s.cells.length s.cells s.left
  if 1 < q.2 then some (q.2.fmod most, ⟨q.1, q.2.fdiv most, s.mixed, s.turn⟩)
  else
    let t := s.turn + 1
    let a := (s.mixed + t * 104729).fmod 998244353
    let b := (a * a + t * 17).fmod 2147483647
    some ((b.fdiv 16).fmod most, ⟨q.1, q.2, s.mixed, t⟩)
/-- a drawn number lies where it is asked to -/
theorem pick_lt {most : Int} (h : most < 1073741824) (s : Src) : ∃ r s', pickM most s = some (r, s') ∧ 0 ≤ r ∧ (r < most ∨ r = 0) := by
  unfold pickM
  by_cases h2 : most < 2
  · rw [if_pos h2]; exact ⟨0, s, rfl, Int.le_refl 0, .inr rfl⟩
  · rw [if_neg h2, if_neg (by omega)]
    have pos : 0 < most := by omega
    dsimp only
    split
    · exact ⟨_, _, rfl, Int.fmod_nonneg_of_pos _ pos, .inl (Int.fmod_lt_of_pos _ pos)⟩
    · exact ⟨_, _, rfl, Int.fmod_nonneg_of_pos _ pos, .inl (Int.fmod_lt_of_pos _ pos)⟩
theorem drawC_stop : ∀ (n : Nat) (c : List Int) (l : Int), ¬ l < 2 → drawC n c l = (c, l)
  | 0, _, _, _ => rfl
  | n + 1, c, l, h => by unfold drawC; rw [if_neg h]
theorem drawC_nil : ∀ (n : Nat) (l : Int), drawC n [] l = ([], l)
  | 0, _ => rfl
  | n + 1, l => by unfold drawC; split <;> rfl
theorem drawC_snoc (c : List Int) (y l : Int) (h : l < 2) : drawC (c ++ [y]).length (c ++ [y]) l = drawC c.length c y := by
  rw [List.length_append, List.length_singleton]
  conv => lhs; unfold drawC
  rw [if_pos h, List.getLast?_concat, List.dropLast_concat]
def srcKv (c : Addr) (l m t : Int) : List (Key × V) := [(.inr "cells", .ref c), (.inr "left", .int l), (.inr "mixed", .int m), (.inr "turn", .int t)]
theorem src_cells (c : Addr) (l m t : Int) : valV (srcKv c l m t) (.inr "cells") = some (.ref c) := rfl
theorem src_left (c : Addr) (l m t : Int) : valV (srcKv c l m t) (.inr "left") = some (.int l) := rfl
theorem src_mixed (c : Addr) (l m t : Int) : valV (srcKv c l m t) (.inr "mixed") = some (.int m) := rfl
theorem src_turn (c : Addr) (l m t : Int) : valV (srcKv c l m t) (.inr "turn") = some (.int t) := rfl
theorem put_left (c : Addr) (l m t x : Int) : putK (srcKv c l m t) (.inr "left") (.int x) = srcKv c x m t := rfl
theorem put_mixed (c : Addr) (l m t x : Int) : putK (srcKv c l m t) (.inr "mixed") (.int x) = srcKv c l x t := rfl
theorem put_turn (c : Addr) (l m t x : Int) : putK (srcKv c l m t) (.inr "turn") (.int x) = srcKv c l m x := rfl
theorem srcKv_few (c : Addr) (l m t : Int) : (srcKv c l m t).length < sizeLine := by show 4 < sizeLine; decide
/-- where a draw stands behind its loop -/
def tDrawn (a c : Addr) (most : Int) (st : Src) (H : Hp) (Q : VK) : TS := fun D σ H' => ∃ cs l, σ = [some (.ref a), some (.int most), some (.ref c), none, none, none] ∧ H' a = some (.dK (srcKv c l st.mixed st.turn)) ∧ H' c = some (.lst (cs.map V.int)) ∧
  drawC st.cells.length st.cells st.left = (cs, l) ∧ Keep (Zr (some (a, c))) H H' ∧ ∀ z H2, Q (.int z) H2 → D.rt (.int z) H2
end Pz

namespace Pz
open PySem PySem.Spec PyProof.Rows L2
/-! ### what the walks of one law share -/
/-- a def that is called: found, kept, its arguments bound -/
structure Cal (K : PySem.W.Frag) (mg : Str → Option Value) (x : Str) (f : Addr) (fd : FuncData) (ps : List Str) : Prop where
  mg : mg x = some (.ref f)
  kp : PySem.W.keepIn K (.ref f) = true
  bd : Binds K fd ps []
/-- the built-ins that no global name hides -/
structure Bl (mg : Str → Option Value) : Prop where
  b_len : mg "len" = none
  b_int : mg "int" = none
  b_abs : mg "abs" = none
  b_range : mg "range" = none
  b_sorted : mg "sorted" = none
  b_sum : mg "sum" = none
  b_all : mg "all" = none
  b_any : mg "any" = none
  b_tuple : mg "tuple" = none
  b_list : mg "list" = none
  b_max : mg "max" = none
  b_min : mg "min" = none
  b_repr : mg "repr" = none
  b_enumerate : mg "enumerate" = none
  b_zip : mg "zip" = none
  b_isinstance : mg "isinstance" = none
  b_bool : mg "bool" = none
  b_str : mg "str" = none
  b_dict : mg "dict" = none
theorem bt_len : bootBuiltins "len" = some (.builtin "len") := by decide +kernel
theorem bt_int : bootBuiltins "int" = some (.type "int") := by decide +kernel
theorem bt_abs : bootBuiltins "abs" = some (.builtin "abs") := by decide +kernel
theorem bt_sorted : bootBuiltins "sorted" = some (.builtin "sorted") := by decide +kernel
theorem bt_sum : bootBuiltins "sum" = some (.builtin "sum") := by decide +kernel
theorem bt_all : bootBuiltins "all" = some (.builtin "all") := by decide +kernel
theorem bt_any : bootBuiltins "any" = some (.builtin "any") := by decide +kernel
theorem bt_tuple : bootBuiltins "tuple" = some (.type "tuple") := by decide +kernel
theorem bt_list : bootBuiltins "list" = some (.type "list") := by decide +kernel
theorem bt_max : bootBuiltins "max" = some (.builtin "max") := by decide +kernel
theorem bt_min : bootBuiltins "min" = some (.builtin "min") := by decide +kernel
theorem bt_repr : bootBuiltins "repr" = some (.builtin "repr") := by decide +kernel
theorem bt_bool : bootBuiltins "bool" = some (.type "bool") := by decide +kernel
theorem bt_str : bootBuiltins "str" = some (.type "str") := by decide +kernel
theorem bt_dict : bootBuiltins "dict" = some (.type "dict") := by decide +kernel
theorem bt_isinstance : bootBuiltins "isinstance" = some (.builtin "isinstance") := by decide +kernel
/-- _law_of, for every kind of items -/
def ofM {α : Type} (xs : List α) : M α := bindM (pureM xs) fun x => bindM (bindM (bindM (pureM xs) fun y => pureM (y.length : Int)) fun n => pickM n) fun i => optM (atI x i)
structure OfG (P : Program) (w : World) (K : PySem.W.Frag) (mg : Str → Option Value) (base : Heap) (f : Addr) (fd : FuncData) : Prop where
  L : ∀ {α : Type} (ea : α → PyData), FnG P w K mg base 2 f fd ["source", "some"] (SpM (fun p : List α × Unit => [.src, .fz (eL ea p.1)]) ea (fun p => ofM p.1))
  T : ∀ {α : Type} (ea : α → PyData), FnG P w K mg base 2 f fd ["source", "some"] (SpM (fun p : List α × Unit => [.src, .fz (eT ea p.1)]) ea (fun p => ofM p.1))
section
variable {α β γ δ κ ρ ι : Type} {ea : α → PyData} {eb : β → PyData} {ec : γ → PyData} {er : ρ → PyData} {ei : ι → PyData} {X : Cx} {R : Res} {Γ Γ' : List Slot} {e a b c : Expr} {st : Stmt} {rest A B body : List Stmt} {pos : Pos} {out : κ → OutD}
theorem e_eqB {ma mb : M Bool} (ha : EJ X R Γ a eBool ma) (hb : EJ X R Γ b eBool mb) : EJ X R Γ (.Compare a [.Eq] [b] pos) eBool (bindM ma fun x => bindM mb fun y => pureM (decide (x = y))) := e_cmp op_eq v_eqB ha hb
theorem e_neB {ma mb : M Bool} (ha : EJ X R Γ a eBool ma) (hb : EJ X R Γ b eBool mb) : EJ X R Γ (.Compare a [.NotEq] [b] pos) eBool (bindM ma fun x => bindM mb fun y => pureM (!decide (x = y))) := e_cmp op_ne v_neB ha hb
theorem t_eqB {ma mb : M Bool} (ha : EJ X R Γ a eBool ma) (hb : EJ X R Γ b eBool mb) : TJ X R Γ (.Compare a [.Eq] [b] pos) (bindM ma fun x => bindM mb fun y => pureM (decide (x = y))) := t_cmp op_eq v_eqB ha hb
theorem t_neB {ma mb : M Bool} (ha : EJ X R Γ a eBool ma) (hb : EJ X R Γ b eBool mb) : TJ X R Γ (.Compare a [.NotEq] [b] pos) (bindM ma fun x => bindM mb fun y => pureM (!decide (x = y))) := t_cmp op_ne v_neB ha hb
theorem e_eqD {k : Nat} {ma : M α} {mb : M β} (hr : Room k X.A) (ha : EJ X R Γ a ea ma) (hb : EJ X R Γ b eb mb) : EJ X R Γ (.Compare a [.Eq] [b] pos) eBool (bindM ma fun x => bindM mb fun y => optM (eqD (ea x) (eb y))) := e_cmp (op_eqP hr.units) v_eqD ha hb
theorem e_neD {k : Nat} {ma : M α} {mb : M β} (hr : Room k X.A) (ha : EJ X R Γ a ea ma) (hb : EJ X R Γ b eb mb) : EJ X R Γ (.Compare a [.NotEq] [b] pos) eBool (bindM ma fun x => bindM mb fun y => optM ((eqD (ea x) (eb y)).map (!·))) := e_cmp (op_neP hr.units) v_neD ha hb
theorem t_eqD {k : Nat} {ma : M α} {mb : M β} (hr : Room k X.A) (ha : EJ X R Γ a ea ma) (hb : EJ X R Γ b eb mb) : TJ X R Γ (.Compare a [.Eq] [b] pos) (bindM ma fun x => bindM mb fun y => optM (eqD (ea x) (eb y))) := t_cmp (op_eqP hr.units) v_eqD ha hb
theorem t_neD {k : Nat} {ma : M α} {mb : M β} (hr : Room k X.A) (ha : EJ X R Γ a ea ma) (hb : EJ X R Γ b eb mb) : TJ X R Γ (.Compare a [.NotEq] [b] pos) (bindM ma fun x => bindM mb fun y => optM ((eqD (ea x) (eb y)).map (!·))) := t_cmp (op_neP hr.units) v_neD ha hb
end
end Pz

namespace Pz
open PySem PySem.Spec PyProof.Rows L2
def spSource (K : PySem.W.Frag) : Sp := fun vs H Q _ => ∃ (a : Addr) (ns : List Int), vs = [.ref a] ∧ SqL K H a (ns.map V.int) ∧ ns.length ≤ 63 ∧ ∀ s c st H', H s = none → H c = none → SrcAt s c st H' → Same H H' → Q (.ref s) H'
/-- law(script): the draws, then what the rest says -/
theorem law_ok {P : Program} {w : World} {K : PySem.W.Frag} {mg : Str → Option Value} {base : Heap} {st : Stmt} {f : Addr} {fd : FuncData} {N N' : List Str} {k : Nat} {fs : Addr} {ds : FuncData} {rest : List Stmt} {p1 p2 p3 p4 p5 : Pos} {sn : Str}
    (F : Fun K "law" "law" st f fd) (S : FnScope N ["script"] (defScope st)) (hN : N = ("script" : Str) :: ("source" : Str) :: N') (hb : defBody st = .Assign [.Name "source" p1] (.Call (.Name sn p2) [.Name "script" p3] [] p4) p5 :: rest)
    (C : Cal K mg sn fs ds ["script"]) (Fs : FnG P w K mg base k fs ds ["script"] (spSource K)) (m : M Bool) (hm : ∀ st, ∃ st', m st = some (true, st'))
    (loc : Loc (defScope st) "source" ∧ Vis (defScope st) "script")
    (gl : ∀ (cdv : Value) (A : Around) (above : List Env) (s : Shared) (H : Hp) (E : XK), (sn == ("__debug__" : Str)) = false ∧ Gl (BX P w K mg base N "law" st f cdv A above s H E) sn ∧ starEach [Expr.Name "script" p3] (BX P w K mg base N "law" st f cdv A above s H E).env = (false, eval (.Name "script" p3) (BX P w K mg base N "law" st f cdv A above s H E).env) :: starEach [] (BX P w K mg base N "law" st f cdv A above s H E).env ∧
      swapsWith (.Call (.Name sn p2) [.Name "script" p3] [] p4) (some (.Name "source" p1)) p5.line (BX P w K mg base N "law" st f cdv A above s H E).env = pure false ∧ ((BX P w K mg base N "law" st f cdv A above s H E).fn "source" = true ∨ (BX P w K mg base N "law" st f cdv A above s H E).env.scope.names.lookup ("source" : Str) = some .local))
    (body : ∀ (cdv : Value) (A : Around) (above : List Env) (s : Shared) (H : Hp) (E : XK) (R : Res), A.guards = some [] → Room k (A.deeper (envOfC "law" (defScope st) s.heap.objs.size f cdv)) →
      SJ (BX P w K mg base N "law" st f cdv A above s H E) R (.un :: .src :: List.replicate N'.length .un) rest (fun r => .rt (eBool r)) m) :
    FnG P w K mg base (k + 1) f fd ["script"] (SpLaw K) := by
  refine g_def F S (fun vs H Q E ⟨a, ns, e, _⟩ => by rw [e]; rfl) (fun cdv A above s H vs Q E hG hr h => ?_)
  obtain ⟨a, ns, rfl, hS, hlen, _, q⟩ := h
  obtain ⟨g0, g1, g2, g3, g4⟩ := gl cdv A above s H E
  rw [hb]
  subst hN
  refine ⟨_, pss_cons (ps_set (i := 1) S.nd rfl loc.1 (pe_callG Fs hG hr g1 C.mg C.kp C.bd (pa_cons (pe_var (i := 0) rfl loc.2 (by decide) (by decide)) pa_nil g2) g0 g2 rfl) g3 g4)
    (PSs.ex fun R => body cdv A above s H E R hG hr), ?_⟩
  refine ⟨_, rfl, ?_⟩
  refine ⟨a, ns, rfl, hS, hlen, fun sa c st H' ns nc hat hsame => ?_⟩
  obtain ⟨st', hst⟩ := hm st
  refine ⟨some (sa, c), Zr (some (sa, c)), H', fun _ => 0, st, true, st', ?_, hat, hst, fun v H2 _ _ r => by cases r; exact q H2⟩
  refine ⟨by simp [L2.start], fun i d e => ?_, fun i d e => ?_, fun i e => ?_, fun i j d d' e => ?_, Keep.refl H', fun x z => z, fun x z => okR.dom (R := some (sa, c)) hat z⟩
  · rcases i with _ | _ | i
    · cases e
    · cases e
    · have := List.mem_of_getElem? (show (List.replicate N'.length Slot.un)[i]? = some _ from e)
      rw [List.mem_replicate] at this
      cases this.2
  · rcases i with _ | _ | i
    · cases e
    · cases e
    · have := List.mem_of_getElem? (show (List.replicate N'.length Slot.un)[i]? = some _ from e)
      rw [List.mem_replicate] at this
      cases this.2
  · rcases i with _ | _ | i
    · cases e
    · exact ⟨sa, c, rfl, rfl⟩
    · have := List.mem_of_getElem? (show (List.replicate N'.length Slot.un)[i]? = some _ from e)
      rw [List.mem_replicate] at this
      cases this.2
  · rcases i with _ | _ | i
    · cases e
    · cases e
    · have := List.mem_of_getElem? (show (List.replicate N'.length Slot.un)[i]? = some _ from e)
      rw [List.mem_replicate] at this
      cases this.2
end Pz

/-! the plain side: what a reading hands back -/
namespace Pz
open PySem PySem.Spec PyProof.Rows L2

theorem bp {α β : Type} (a : α) (f : α → M β) : bindM (pureM a) f = f a := funext fun _ => Eq.trans rfl rfl
theorem nil_le {α : Type} {xs : List α} {n m : Nat} (h : xs.length ≤ n) (k : n ≤ m := by decide) : ([] : List α).length + xs.length ≤ m := by simp; omega
def Sat {α : Type} (m : M α) (Q : α → Prop) : Prop := ∀ st, ∃ r st', m st = some (r, st') ∧ Q r
section
variable {α β γ κ ρ ι : Type}
theorem Sat.pure {a : α} {Q : α → Prop} (h : Q a) : Sat (pureM a) Q := fun st => ⟨a, st, rfl, h⟩
theorem Sat.bind {m : M α} {f : α → M β} {Q : β → Prop} (h : Sat m fun a => Sat (f a) Q) : Sat (bindM m f) Q := fun st => by
  obtain ⟨a, u, e, q⟩ := h st
  obtain ⟨b, v, e2, q2⟩ := q u
  exact ⟨b, v, by unfold bindM; rw [e]; exact e2, q2⟩
theorem Sat.mono {m : M α} {Q Q' : α → Prop} (h : Sat m Q) (k : ∀ a, Q a → Q' a) : Sat m Q' := fun st => let ⟨a, u, e, q⟩ := h st; ⟨a, u, e, k a q⟩
theorem Sat.bind2 {m : M α} {f : α → M β} {Q : α → Prop} {Q' : β → Prop} (h : Sat m Q) (k : ∀ a, Q a → Sat (f a) Q') : Sat (bindM m f) Q' := Sat.bind (h.mono k)
theorem Sat.opt {o : Option α} {a : α} {Q : α → Prop} (h : o = some a) (q : Q a) : Sat (optM o) Q := by subst h; exact .pure q
theorem Sat.pick {n : Int} {Q : Int → Prop} (h : n < 1073741824) (q : ∀ r, 0 ≤ r → (r < n ∨ r = 0) → Q r) : Sat (pickM n) Q := fun st => by
  obtain ⟨r, s', e, h0, h1⟩ := pick_lt h st
  exact ⟨r, s', e, q r h0 h1⟩
theorem atI_nat {xs : List α} {i : Nat} (h : i < xs.length) : atI xs (i : Int) = some xs[i] := by
  unfold atI L2.ixN
  rw [if_pos (by omega), if_pos (by omega)]
  simp [h]
theorem Sat.ite {c : Bool} {a b : M α} {Q : α → Prop} (h1 : c = true → Sat a Q) (h2 : c = false → Sat b Q) : Sat (if c then a else b) Q := by
  cases c
  · exact h2 rfl
  · exact h1 rfl
theorem Sat.ofList {xs : List α} {Q : α → Prop} (h0 : xs ≠ []) (hl : xs.length < 1073741824) (q : ∀ x ∈ xs, Q x) : Sat (ofM xs) Q := by
  unfold ofM
  have pos : 0 < xs.length := List.length_pos_iff.mpr h0
  simp only [bind_pure]
  refine Sat.bind2 (Sat.pick (by omega) fun r h1 h2 => (show 0 ≤ r ∧ r < xs.length by omega)) fun r h => ?_
  obtain ⟨i, rfl⟩ : ∃ i : Nat, r = i := ⟨r.toNat, by omega⟩
  have hi : i < xs.length := by omega
  exact Sat.opt (a := xs[i]) (atI_nat hi) (q _ (List.getElem_mem hi))
theorem Sat.forM {f : β → ι → M β} {I : β → Prop} : ∀ {xs : List ι} {b0 : β}, I b0 → (∀ b, ∀ x ∈ xs, I b → Sat (f b x) I) → Sat (forM' f xs b0) I
  | [], b0, h0, _ => .pure h0
  | x :: xs, b0, h0, h => by
    unfold forM'
    exact .bind2 (h b0 x List.mem_cons_self h0) fun b hb => Sat.forM hb fun b y hy => h b y (List.mem_cons_of_mem _ hy)
theorem Sat.forO {f : β → ι → M (Out ρ β)} {I : β → Prop} : ∀ {xs : List ι} {b0 : β}, I b0 → (∀ b, ∀ x ∈ xs, I b → Sat (f b x) fun o => ∃ b, o = .nx b ∧ I b) → Sat (forO f xs b0) fun o => ∃ b, o = .nx b ∧ I b
  | [], b0, h0, _ => .pure ⟨b0, rfl, h0⟩
  | x :: xs, b0, h0, h => by
    unfold Pz.forO
    refine .bind2 (h b0 x List.mem_cons_self h0) fun o ho => ?_
    obtain ⟨b, rfl, hb⟩ := ho
    exact Sat.forO hb fun b y hy => h b y (List.mem_cons_of_mem _ hy)
theorem Sat.comp {c : ι → M Bool} {f : ι → M γ} {Q : γ → Prop} : ∀ {xs : List ι}, (∀ x ∈ xs, Sat (c x) fun b => b = true → Sat (f x) Q) → Sat (compM c f xs) fun ys => ys.length ≤ xs.length ∧ ∀ y ∈ ys, Q y
  | [], _ => .pure ⟨Nat.le_refl _, by simp⟩
  | x :: xs, h => by
    unfold compM
    have ih := Sat.comp (xs := xs) fun y hy => h y (List.mem_cons_of_mem _ hy)
    refine .bind2 (h x List.mem_cons_self) fun b hb => ?_
    cases b with
    | false => exact ih.mono fun ys hy => ⟨Nat.le_trans hy.1 (by simp), hy.2⟩
    | true => exact .bind2 (hb rfl) fun y hy => .bind2 ih fun ys hys => .pure ⟨by simp; exact hys.1, by
        intro z hz
        rcases List.mem_cons.mp hz with rfl | hz
        · exact hy
        · exact hys.2 z hz⟩
theorem Sat.compAll {f : ι → M γ} {Q : γ → Prop} : ∀ {xs : List ι}, (∀ x ∈ xs, Sat (f x) Q) → Sat (compM (fun _ => pureM true) f xs) fun ys => ys.length = xs.length ∧ ∀ y ∈ ys, Q y
  | [], _ => .pure ⟨rfl, by simp⟩
  | x :: xs, h => by
    unfold compM
    have ih := Sat.compAll (xs := xs) fun y hy => h y (List.mem_cons_of_mem _ hy)
    simp only [bind_pure, if_true]
    exact .bind2 (h x List.mem_cons_self) fun y hy => .bind2 ih fun ys hys => .pure ⟨by simp; exact hys.1, by
        intro z hz
        rcases List.mem_cons.mp hz with rfl | hz
        · exact hy
        · exact hys.2 z hz⟩

/-! ### readings that draw nothing -/
theorem compM_pure {c : ι → M Bool} {f : ι → M γ} (cc : ι → Bool) (ff : ι → γ) : ∀ {xs : List ι}, (∀ x ∈ xs, c x = pureM (cc x)) → (∀ x ∈ xs, cc x = true → f x = pureM (ff x)) → compM c f xs = pureM ((xs.filter cc).map ff)
  | [], _, _ => rfl
  | x :: xs, hc, hf => by
    unfold compM
    rw [hc x List.mem_cons_self, bind_pure, compM_pure cc ff (fun y hy => hc y (List.mem_cons_of_mem _ hy)) fun y hy => hf y (List.mem_cons_of_mem _ hy)]
    cases h : cc x with
    | false => simp [h]
    | true => simp [h, hf x List.mem_cons_self h]
theorem compM_map {f : ι → M γ} (ff : ι → γ) {xs : List ι} (hf : ∀ x ∈ xs, f x = pureM (ff x)) : compM (fun _ => pureM true) f xs = pureM (xs.map ff) := by
  have e := compM_pure (c := fun _ : ι => pureM true) (fun _ => true) ff (fun _ _ => rfl) fun x hx _ => hf x hx
  rw [List.filter_eq_self.mpr (fun _ _ => rfl)] at e
  exact e
theorem forM_acc {f : List γ → ι → M (List γ)} (h : ι → List γ) (n : Nat) : ∀ {xs : List ι} {b : List γ}, (∀ x ∈ xs, ∀ b, b.length + (h x).length ≤ n → f b x = pureM (b ++ h x)) → b.length + (xs.flatMap h).length ≤ n → forM' f xs b = pureM (b ++ xs.flatMap h)
  | [], b, _, _ => by simp [forM']
  | x :: xs, b, hf, hn => by
    unfold forM'
    simp only [List.flatMap_cons, List.length_append] at hn
    rw [hf x List.mem_cons_self b (by omega), bind_pure, forM_acc h n (fun y hy => hf y (List.mem_cons_of_mem _ hy)) (by simp only [List.length_append]; omega)]
    simp [List.flatMap_cons]
theorem forM_fold {f : β → ι → M β} (g : β → ι → β) (I : β → Prop) : ∀ {xs : List ι} {b : β}, (∀ x ∈ xs, ∀ b, I b → f b x = pureM (g b x) ∧ I (g b x)) → I b → forM' f xs b = pureM (xs.foldl g b)
  | [], _, _, _ => rfl
  | x :: xs, b, hf, hb => by
    unfold forM'
    obtain ⟨e, i⟩ := hf x List.mem_cons_self b hb
    rw [e, bind_pure, forM_fold g I (fun y hy => hf y (List.mem_cons_of_mem _ hy)) i]
    rfl
/-- for x in xs: if c(x): return r(x) -/
theorem forO_find {f : β → ι → M (Out ρ β)} (c : ι → Bool) (r : ι → ρ) (b : β) : ∀ {xs : List ι}, (∀ x ∈ xs, f b x = pureM (if c x then .rt (r x) else .nx b)) → forO f xs b = pureM (match xs.find? c with | some x => .rt (r x) | none => .nx b)
  | [], _ => rfl
  | x :: xs, hf => by
    unfold forO
    rw [hf x List.mem_cons_self, bind_pure]
    cases h : c x with
    | true => simp [List.find?, h]
    | false =>
      simp only [Bool.false_eq_true, if_false]
      rw [forO_find c r b fun y hy => hf y (List.mem_cons_of_mem _ hy)]
      simp [List.find?, h]
theorem smallM_pure {xs : List α} (h : xs.length ≤ sizeLine) : smallM (pureM xs) = pureM xs := by unfold smallM; rw [bind_pure, if_pos h]
theorem rangeM_ok {lo hi : Int} (h1 : -(2 ^ 61) ≤ lo) (h2 : lo ≤ 2 ^ 61) (h3 : -(2 ^ 61) ≤ hi) (h4 : hi ≤ 2 ^ 61) (h5 : (hi - lo).toNat ≤ 16777216) : rangeM lo hi = pureM (irange lo hi) := by
  unfold rangeM; rw [if_pos ⟨h1, h2, h3, h4, h5⟩]
theorem rangeM_sm {lo hi : Int} (h1 : -1000000 ≤ lo) (h2 : lo ≤ 1000000) (h3 : -1000000 ≤ hi) (h4 : hi ≤ 1000000) : rangeM lo hi = pureM (irange lo hi) := rangeM_ok (by omega) (by omega) (by omega) (by omega) (by omega)
theorem mem_irange {lo hi i : Int} : i ∈ irange lo hi ↔ lo ≤ i ∧ i < hi := by
  unfold irange
  simp only [List.mem_map, List.mem_range]
  constructor
  · rintro ⟨j, h, rfl⟩; omega
  · rintro ⟨h1, h2⟩; exact ⟨(i - lo).toNat, by omega, by omega⟩
@[simp] theorem length_irange {lo hi : Int} : (irange lo hi).length = (hi - lo).toNat := by simp [irange]
theorem appM_ok {xs : List α} {x : α} (h : xs.length < sizeLine) : appM xs x = pureM (xs ++ [x]) := by unfold appM; rw [if_pos h]
theorem extM_ok {xs ys : List α} (h : xs.length + ys.length ≤ sizeLine) : extM xs ys = pureM (xs ++ ys) := by unfold extM; rw [if_pos h]
theorem catO_ok {xs ys : List α} (h : xs.length + ys.length ≤ sizeLine) : catO xs ys = some (xs ++ ys) := by unfold catO; rw [if_pos h]
theorem mulO_ok {x y : Int} (h : x.natAbs < 2 ^ 64 ∨ y.natAbs < 2 ^ 64) : mulO x y = some (x * y) := by unfold mulO; rw [if_pos h]
theorem divO_ok {x y : Int} (h : y ≠ 0 ∧ y.natAbs < 1073741824) : divO x y = some (x.fdiv y) := by unfold divO; rw [if_pos h]
theorem modO_ok {x y : Int} (h : y ≠ 0) : modO x y = some (x.fmod y) := by unfold modO; rw [if_pos h]
theorem powO_ok {x y : Int} (h : 0 ≤ y ∧ y ≤ 1000000 ∧ x.natAbs < 2 ^ 64) : powO x y = some (x ^ y.toNat) := by unfold powO; rw [if_pos h]
theorem atI_ok {xs : List α} {i : Int} (h0 : 0 ≤ i) (h : i < xs.length) : ∃ x, atI xs i = some x ∧ xs[i.toNat]? = some x := by
  obtain ⟨j, rfl⟩ : ∃ j : Nat, i = j := ⟨i.toNat, by omega⟩
  have hj : j < xs.length := by omega
  exact ⟨xs[j], atI_nat hj, by simp [hj]⟩

/-! ### texts of data -/
structure Sh (dp wt : Nat) (d : PyData) : Prop where
  show_ : d.showable = true
  dic : d.hasDict = false
  dep : d.depth ≤ dp
  leaf : d.leavesShort 40 = true
  wgt : d.weight ≤ wt
theorem reprO_ok {wt : Nat} {d : PyData} (h : Sh 60 wt d) (hw : 42 * wt + 40 ≤ 16777216 := by decide) : reprO d = some d.shown := by
  unfold reprO
  exact if_pos ⟨h.show_, fun z => (by rw [h.dic] at z; cases z), h.dep, (by
    have h1 := PyData.shown_le 40 (by decide) d h.leaf
    have h2 : (40 + 2) * d.weight ≤ (40 + 2) * wt := Nat.mul_le_mul_left _ h.wgt
    rw [sizeLine_eq]
    omega)⟩
theorem Sh.mono {dp wt dp' wt' : Nat} {d : PyData} (h : Sh dp wt d) (h1 : dp ≤ dp') (h2 : wt ≤ wt') : Sh dp' wt' d := ⟨h.show_, h.dic, Nat.le_trans h.dep h1, h.leaf, Nat.le_trans h.wgt h2⟩
theorem log2_lt {n : Nat} (h : n < 10 ^ 12) : n.log2 < 40 := by
  by_cases h0 : n = 0
  · subst h0; decide
  · exact (Nat.log2_lt h0).mpr (Nat.lt_trans h (by decide))
theorem Sh.int {i : Int} (h : i.natAbs < 10 ^ 12) : Sh 0 40 (eInt i) := by
  have hl := log2_lt h
  refine ⟨by simp only [eInt, PyData.showable, decide_eq_true_eq]; omega, rfl, by simp [eInt, PyData.depth], by simp only [eInt, PyData.leavesShort, decide_eq_true_eq]; exact Nat.le_trans (PyData.shown_int_le h) (by decide), ?_⟩
  simp only [eInt, PyData.weight]
  split <;> omega
theorem Sh.big {i : Int} (h : i.natAbs < 10 ^ 30) : Sh 0 100 (eInt i) := by
  have hl : i.natAbs.log2 < 100 := by
    by_cases h0 : i.natAbs = 0
    · rw [h0]; decide
    · exact (Nat.log2_lt h0).mpr (Nat.lt_trans h (by decide))
  have ht := int_text_length_le10 (k := 30) (by decide) h
  refine ⟨by simp only [eInt, PyData.showable, decide_eq_true_eq]; omega, rfl, by simp [eInt, PyData.depth], ?_, ?_⟩
  · simp only [eInt, PyData.leavesShort, decide_eq_true_eq]
    show (Str.ofString (toString i)).length ≤ 40
    rw [PySem.ofString_length]; exact Nat.le_trans ht (by decide)
  · simp only [eInt, PyData.weight]
    split <;> omega
theorem Sh.bool {b : Bool} : Sh 0 0 (eBool b) := ⟨rfl, rfl, by simp [eBool, PyData.depth], rfl, by simp [eBool, PyData.weight]⟩
theorem Sh.non : Sh 0 0 .none := ⟨rfl, rfl, by simp [PyData.depth], rfl, by simp [PyData.weight]⟩
theorem Sh.all {dp wt : Nat} {e : α → PyData} : ∀ {xs : List α}, (∀ x ∈ xs, Sh dp wt (e x)) → PyData.showableAll (xs.map e) = true ∧ PyData.hasDictAll (xs.map e) = false ∧ PyData.depthAll (xs.map e) ≤ dp ∧ PyData.leavesShortAll 40 (xs.map e) = true ∧ PyData.weightAll (xs.map e) ≤ xs.length * (wt + 1)
  | [], _ => ⟨rfl, rfl, Nat.zero_le _, rfl, Nat.zero_le _⟩
  | x :: xs, h => by
    obtain ⟨h1, h2, h3, h4, h5⟩ := h x List.mem_cons_self
    obtain ⟨g1, g2, g3, g4, g5⟩ := Sh.all (xs := xs) fun y hy => h y (List.mem_cons_of_mem _ hy)
    have e2 : (xs.length + 1) * (wt + 1) = xs.length * (wt + 1) + (wt + 1) := Nat.succ_mul _ _
    refine ⟨by simp [PyData.showableAll, h1, g1], by simp [PyData.hasDictAll, h2, g2], by simp only [List.map_cons, PyData.depthAll]; omega, by simp [PyData.leavesShortAll, h4, g4], ?_⟩
    simp only [List.map_cons, PyData.weightAll, List.length_cons]
    omega
theorem Sh.lst {dp wt : Nat} {e : α → PyData} {xs : List α} (n : Nat) (hn : xs.length ≤ n) (h : ∀ x ∈ xs, Sh dp wt (e x)) : Sh (dp + 1) (n * (wt + 1)) (eL e xs) := by
  obtain ⟨g1, g2, g3, g4, g5⟩ := Sh.all h
  refine ⟨by simpa [eL, PyData.showable] using g1, by simpa [eL, PyData.hasDict] using g2, by simp only [eL, PyData.depth]; omega, by simpa [eL, PyData.leavesShort] using g4, ?_⟩
  simp only [eL, PyData.weight]
  exact Nat.le_trans g5 (Nat.mul_le_mul_right _ hn)
theorem Sh.tup {dp wt : Nat} {e : α → PyData} {xs : List α} (n : Nat) (hn : xs.length ≤ n) (h : ∀ x ∈ xs, Sh dp wt (e x)) : Sh (dp + 1) (n * (wt + 1)) (eT e xs) := by
  obtain ⟨g1, g2, g3, g4, g5⟩ := Sh.all h
  refine ⟨by simpa [eT, PyData.showable] using g1, by simpa [eT, PyData.hasDict] using g2, by simp only [eT, PyData.depth]; omega, by simpa [eT, PyData.leavesShort] using g4, ?_⟩
  simp only [eT, PyData.weight]
  exact Nat.le_trans g5 (Nat.mul_le_mul_right _ hn)
theorem Sh.opt {dp wt : Nat} {e : α → PyData} {o : Option α} (h : ∀ x, o = some x → Sh dp wt (e x)) : Sh dp wt (eO e o) := by
  cases o with
  | none => exact Sh.non.mono (Nat.zero_le _) (Nat.zero_le _)
  | some a => exact h a rfl
end
end Pz

namespace Pz
open PySem PySem.Spec PyProof.Rows L2

/-! ### enumerate(tuple) -/
set_option maxHeartbeats 1000000 in
theorem meets_enum1 {v : Value} {ob : Obj} {Hd : Heap → Prop} (Bg : Begins v ob Hd) :
    Meets (Builtin.«enumerate.__new__» ⟨[.type "enumerate", v], []⟩) (fun _ R sh => Hd sh.heap ∧
      R (.ok (.ret (.ref (sh.heap.push ob).objs.size))) { sh with heap := (sh.heap.push ob).push { cls := .type "enumerate", data := .fields #[.none, .bool false, .ref sh.heap.objs.size, rawInt 0, .none, .none] } }) :=
  .of_wp fun prog w A R sh want => by
    obtain ⟨hq, gq, dq, tq, oq⟩ := sh; obtain ⟨hd1, want⟩ := want
    have esub := sub_enumerate
    have iter1 : ∀ {A2 : Around} {E2 : Value → Shared → Prop} {Q2 : Value → Shared → Prop}, Q2 (.ref hq.objs.size) ⟨hq.push ob, gq, dq, tq, oq⟩ → wpAny (model prog w) A2 (pyIter v) Q2 E2 ⟨hq, gq, dq, tq, oq⟩ :=
      fun q2 => Bg.iter prog w _ _ ⟨hq, gq, dq, tq, oq⟩ _ hd1 q2
    wp_walk using iter1
    refine wpAny_stack_any fun stk => wpAny_pure ?_
    split
    · rename_i cq _ _ _ _ _
      cases (cq == Value.type "enumerate")
      · wp_walk using iter1
        exact ⟨_, rfl, want⟩
      · wp_walk using iter1
        exact ⟨_, rfl, want⟩
    · wp_walk using iter1
      exact ⟨_, rfl, want⟩
theorem call_enum1 {prog : Program} {w : World} {A : Around} {E : Value → Shared → Prop} {sh : Shared} {v : Value} {ob : Obj} {Hd : Heap → Prop} {Q : Value → Shared → Prop} (Bg : Begins v ob Hd) (hd1 : Hd sh.heap)
    (want : ∀ h2, IsEnum h2 (sh.heap.objs.size + 1) sh.heap.objs.size 0 .none → h2.get? sh.heap.objs.size = some ob → h2.objs.size = sh.heap.objs.size + 2 →
      (∀ b o2, sh.heap.get? b = some o2 → h2.get? b = some o2) → Q (.ref (sh.heap.objs.size + 1)) { sh with heap := h2 }) :
    wpAny (model prog w) A (call (.type "enumerate") [v]) Q E sh := by
  refine callType_new F.called_enumerate (by decide) (F.typeCall_enumerate_1 _) (F.newCall_enumerate_1 _) (fun u => F.args_object_init_2 u _) F.entry_enumerate_new
    (meets_enum1 Bg) ⟨hd1, ?_⟩
  have size1 : (sh.heap.push ob).objs.size = sh.heap.objs.size + 1 := Heap.size_push ..
  show _ ∧ _
  rw [size1]
  have is1 : IsEnum ((sh.heap.push ob).push { cls := .type "enumerate", data := .fields #[.none, .bool false, .ref sh.heap.objs.size, rawInt 0, .none, .none] }) (sh.heap.objs.size + 1) sh.heap.objs.size 0 .none := by
    have e1 := Heap.get?_push_size (sh.heap.push ob) (o := { cls := .type "enumerate", data := .fields #[.none, .bool false, .ref sh.heap.objs.size, rawInt 0, .none, .none] }) rfl
    rw [size1] at e1; exact e1
  exact ⟨⟨_, is1, rfl⟩, want _ is1 (Heap.get?_push_of_some _ (Heap.get?_push_size _ Bg.free)) (by rw [Heap.size_push, size1]) fun b o2 x => Heap.get?_push_of_some _ (Heap.get?_push_of_some _ x)⟩
/-- the tuple at a, each item in a new pair -/
def IteT (K : PySem.W.Frag) (a : Addr) : It :=
  ⟨fun i H => ∃ (ys : List V) (y : V), SqT K H a ys ∧ ys[i]? = some y, fun i H v H2 => ∃ T y, v = .ref T ∧ H T = none ∧ H2 = upd H T (.tup [.int (i : Nat), y]) ∧ ∀ ys, SqT K H a ys → ys[i]? = some y, fun i H => ∃ ys : List V, SqT K H a ys ∧ ys.length ≤ i⟩
theorem turn_enumT {P : Program} {w : World} {K : PySem.W.Frag} {elts : List Expr} {kk : Nat} {tpos : Pos} (a e it : Addr) :
    Turn P w K (.Tuple elts kk tpos) (IteT K a) [e, it] e (fun i h => (∃ old, IsEnum h e it ((i : Nat) : Int) old) ∧ h.IsTupleIter it a i ∧ e ≠ it) where
  mem := by simp
  obj := fun i hh stt b hb => by
    obtain ⟨⟨old, en⟩, ⟨o, ho, hc, hd⟩, _⟩ := stt
    rcases (show b = e ∨ b = it by simpa using hb) with z | z
    · rw [z]; exact ⟨_, en, fun v q => nomatch q⟩
    · rw [z]; exact ⟨o, ho, fun v q => by rw [hd] at q; cases q⟩
  keep := fun i h1 h2 stt k => by
    obtain ⟨⟨old, en⟩, ⟨o, ho, hc, hd⟩, hne⟩ := stt
    exact ⟨⟨old, k e (by simp) _ en⟩, ⟨o, k it (by simp) _ ho, hc, hd⟩, hne⟩
  item := by
    intro X hP hw hK hc i pins s σ H E I hf stt hg
    subst hP hw hK
    obtain ⟨⟨old, en⟩, hit, hne⟩ := stt
    obtain ⟨ys, y, hq, hy⟩ := hg
    obtain ⟨its, rv, tup, hz⟩ := I.tuple hq
    obtain ⟨u, hu, ru⟩ := rv.get hy
    have lte : e < s.heap.objs.size := Heap.lt_size en
    have lti : it < s.heap.objs.size := by obtain ⟨_, q, _⟩ := hit; exact Heap.lt_size q
    have tup' : s.heap.IsTuple a its.toArray := tup
    have nea : e ≠ a := fun z => by
      obtain ⟨o, ho, hc, _⟩ := tup'
      subst z
      have en2 : s.heap.get? e = some _ := en
      rw [ho] at en2; cases en2; simp at hc
    have nia : a ≠ it := fun z => by
      obtain ⟨o, ho, hc, _⟩ := tup'
      obtain ⟨o2, ho2, hc2, _⟩ := hit
      subst z
      rw [ho] at ho2; cases ho2; rw [hc] at hc2; simp at hc2
    have D := Draws.tuple (prog := X.prog) (w := X.w) (A := X.A.in1) (I.ok.hd hc) it a nia its.toArray
    have hlt : i < its.toArray.size := by have := (List.getElem?_eq_some_iff.mp hu).1; simpa using this
    refine wpAny_pyNext_enum_itemD D en ⟨hit, tup'⟩ hlt hne (by simp [hne, nea]) fun x h2 tk hx ho hst2 hT hsz hk => ?_
    obtain rfl : u = x := by
      have hx' : its.toArray[i]? = some x := hx
      rw [List.getElem?_toArray, hu] at hx'; exact Option.some.inj hx'
    refine ⟨_, rfl, wpAny_letOwnedTupleGo_enum (s := { s with heap := h2, toks := tk + 1 }) ho fun h3 en3 sb => ?_⟩
    have hT3 : h3.get? s.heap.objs.size = some { cls := .type "tuple", data := .seq #[.int i tk, u] } := (sb.2 _ (Nat.ne_of_gt lte)).trans hT
    have fresh : ObjOk X.prog X.w (upd H s.heap.objs.size (.tup [.int (i : Nat), y])) h3 s.heap.objs.size (.tup [.int (i : Nat), y]) :=
      ⟨by show 2 ≤ sizeLine; decide, [.int i tk, u], .cons ⟨_, rfl⟩ (.cons ru .nil), ⟨_, hT3, rfl, _, rfl⟩⟩
    have I3 : Inv X pins σ (upd H s.heap.objs.size (.tup [.int (i : Nat), y])) { s with heap := h3, toks := tk + 1 } :=
      I.turnedNew (ch := [e, it]) (fun b ob nb q => (sb.2 b (fun z => nb (by simp [z]))).trans (hk b ob (fun z => nb (by simp [z])) (fun z => nb (by simp [z])) q)) hf (Nat.le_refl _) fresh
    refine ⟨.ref s.heap.objs.size, _, I3, rfl, ⟨_, y, rfl, I.hok.fresh (Nat.le_refl _), rfl, fun zs hzs => by rw [I.tuple_inj hzs hq]; exact hy⟩, ⟨⟨u, ?_⟩, ?_, hne⟩, fun b hb => ?_⟩
    · rw [show ((i + 1 : Nat) : Int) = (i : Int) + 1 by omega]; exact en3
    · obtain ⟨⟨o, h1, h2', h3'⟩, _⟩ := hst2
      exact ⟨o, (sb.2 it (Ne.symm hne)).trans h1, h2', h3'⟩
    · have ltb : b < s.heap.objs.size := by
        rcases (show b = e ∨ b = it by simpa using hb) with z | z
        · rw [z]; exact lte
        · rw [z]; exact lti
      rw [upd_ne (Nat.ne_of_lt ltb)]
      exact (hf b hb).1
  done := by
    intro X hP hw hK hc i pins s σ H E I hf stt hg
    subst hP hw hK
    obtain ⟨⟨old, en⟩, hit, hne⟩ := stt
    obtain ⟨ys, hq, hy⟩ := hg
    obtain ⟨its, rv, tup, hz⟩ := I.tuple hq
    have tup' : s.heap.IsTuple a its.toArray := tup
    obtain ⟨f0, f1, f2, f3, f4, f5⟩ := hf it (by simp)
    have hlen := rv.length
    have D : Draws X.prog X.w X.A.in1 it [it, a] i (fun _ _ => True) (fun j h => j = i ∧ h.IsTupleIter it a i ∧ h.IsTuple a its.toArray) :=
      { live := fun _ _ q => let ⟨o, ho, _⟩ := q.2.1; ⟨o, ho⟩
        frame := fun _ _ _ q hk => ⟨q.1, q.2.1.at fun o e => hk it (by simp) o e, q.2.2.at fun o e => hk a (by simp) o e⟩
        item := fun j s Q E hj q _ => absurd q.1 (Nat.ne_of_lt hj)
        done := fun s Q E q hE => wpAny_nextOf_tuple_end (I.ok.hd hc) q.2.1 q.2.2 (by simp; omega) hE }
    exact wpAny_pyNext_enum_endD D en ⟨rfl, hit, tup'⟩ fun h2 eb => ⟨rfl, I.turned (t' := s.toks) (fun b o nb q => eb b o nb q) f0 f1 f3 f4 f5⟩
  self := fun A i s Q E stt want => let ⟨⟨_, en⟩, _⟩ := stt; wpAny_pyIter_enum en want
def iEnumT (K : PySem.W.Frag) (ta : TA) : TI := fun σ H R => ta σ H fun vs H1 => ∃ a ys, vs = [.ref a] ∧ SqT K H1 a ys ∧ R (IteT K a) H1
theorem pi_enumT {X : Cx} {e : Expr} {ta : TA} {p pos tpos : Pos} {elts : List Expr} {kk : Nat} (hg : Gl X "enumerate") (hm : X.mg "enumerate" = none) (ha : PA X [e] ta) (hs : starEach [e] X.env = [(false, eval e X.env)] := by rfl) :
    PI X (.Tuple elts kk tpos) (.Call (.Name "enumerate" p) [e] [] pos) (iEnumT X.K ta) := by
  refine ⟨fun pins s σ H R I want => ?_⟩
  refine Call_ (ld_blt I hg hm boot_enumerate (PyProof.Rows.callWith_type1 (thn (ha.run pos pins s σ H _ I want) fun us s1 ⟨vs, H1, I1, r1, q1⟩ => ?_) hs rfl))
  obtain ⟨a, ys, ex, hq, q⟩ := q1
  subst ex
  cases r1 with
  | cons r rr =>
    cases rr
    cases r
    obtain ⟨its, rv, tup, hz⟩ := I1.tuple hq
    refine call_enum1 (begins_tuple a its.toArray) (show s1.heap.IsTuple a its.toArray from tup) fun h2 en hit hsz hk => wpAny_pyIter_enum en ?_
    have I2 : Inv X pins σ H1 { s1 with heap := h2 } := I1.kept (t' := s1.toks) hk
    refine ⟨s1.heap.objs.size + 1, [s1.heap.objs.size + 1, s1.heap.objs.size], _, _, H1, rfl, I2, turn_enumT a (s1.heap.objs.size + 1) s1.heap.objs.size, ⟨⟨.none, en⟩, ⟨_, hit, rfl, rfl⟩, Nat.succ_ne_self _⟩, fun b hb => ?_, q⟩
    have le1 : s1.heap.objs.size ≤ b := by
      rcases (show b = s1.heap.objs.size + 1 ∨ b = s1.heap.objs.size by simpa using hb) with z | z
      · rw [z]; exact Nat.le_add_right _ _
      · rw [z]; exact Nat.le_refl _
    exact I1.fpOk le1 (I1.hok.fresh le1)
end Pz

namespace Pz
open PySem PySem.Spec PyProof.Rows L2

section
variable {α β γ δ κ ρ ι : Type} {ea : α → PyData} {eb : β → PyData} {ec : γ → PyData} {er : ρ → PyData} {ei : ι → PyData} {X : Cx} {R : Res} {Γ Γ' : List Slot} {e a b c : Expr} {st : Stmt} {rest A B body : List Stmt} {pos : Pos} {out : κ → OutD}
/-! ### enumerate, zip -/
def enumF : Nat → List α → List (Int × α × Unit)
  | _, [] => []
  | k, x :: xs => ((k : Int), x, ()) :: enumF (k + 1) xs
def enumL (xs : List α) : List (Int × α × Unit) := enumF 0 xs
theorem enumF_get : ∀ (k : Nat) (xs : List α) (i : Nat), (enumF k xs)[i]? = xs[i]?.map fun x => (((k + i : Nat) : Int), x, ())
  | _, [], _ => by simp [enumF]
  | k, x :: xs, 0 => by simp [enumF]
  | k, x :: xs, i + 1 => by
    have := enumF_get (k + 1) xs i
    simp only [enumF, List.getElem?_cons_succ, this]
    rw [show k + 1 + i = k + (i + 1) by omega]
theorem enumF_length : ∀ (k : Nat) (xs : List α), (enumF k xs).length = xs.length
  | _, [] => rfl
  | k, x :: xs => by simp [enumF, enumF_length (k + 1) xs]
@[simp] theorem enumL_length (xs : List α) : (enumL xs).length = xs.length := enumF_length 0 xs
theorem enumL_get (xs : List α) (i : Nat) : (enumL xs)[i]? = xs[i]?.map fun x => ((i : Int), x, ()) := by
  unfold enumL; rw [enumF_get]; simp
def zipL (xs : List α) (ys : List β) : List (α × β × Unit) := List.zipWith (fun x y => (x, y, ())) xs ys
theorem pair_rp {A' : Av} {H' : Hp} {T : Addr} {v w : V} {d1 d2 : PyData} (n : ¬ A' T) (h1 : Rp A' H' v d1) (h2 : Rp A' H' w d2) (hT : H' T = some (.tup [v, w])) : Rp A' H' (.ref T) (.tuple [d1, d2]) := .tup n hT (.cons h1 (.cons h2 .nil))
theorem itok_enumL {K : PySem.W.Frag} {A : Av} {H1 : Hp} {p : Addr} {vs : List V} {xs : List α} (na : ¬ A p) (ha : H1 p = some (.lst vs)) (r : RpAll A H1 vs (xs.map ea)) : ItOk (Ite K p) A H1 ((enumL xs).map (eP (eC eInt (eC ea eU)))) := fun H i k => by
  have hH := k _ _ na ha
  have hl := r.length
  rw [List.length_map] at hl
  refine ⟨fun h => ⟨vs, SqL.of hH, by simpa [hl] using h⟩, fun d hd => ?_⟩
  rw [List.getElem?_map, enumL_get] at hd
  cases hx : xs[i]? with
  | none => rw [hx] at hd; cases hd
  | some x =>
    rw [hx] at hd
    obtain ⟨v, hv, rv⟩ := r.get (show (xs.map ea)[i]? = some (ea x) by rw [List.getElem?_map, hx]; rfl)
    refine ⟨⟨vs, v, SqL.of hH, hv⟩, fun w H' y => ?_⟩
    obtain ⟨T, y', rfl, nT, rfl, hy⟩ := y
    have e1 := hy vs (SqL.of hH)
    rw [hv] at e1
    obtain rfl : v = y' := Option.some.inj e1
    refine ⟨same_new nT, fun A' h1 h2 => ?_⟩
    have hd' : PyData.tuple [eInt (i : Int), ea x] = d := Option.some.inj hd
    subst hd'
    exact pair_rp (fun z => (h2 T z).1 nT) (.int _) ((Rp.move (fun b o nb e => ⟨h1 b o nb e, k b o nb e⟩) _ _ rv).keep (Keep.of_same (same_new nT))) upd_same
theorem itok_enumT {K : PySem.W.Frag} {A : Av} {H1 : Hp} {p : Addr} {vs : List V} {xs : List α} (na : ¬ A p) (ha : H1 p = some (.tup vs)) (r : RpAll A H1 vs (xs.map ea)) : ItOk (IteT K p) A H1 ((enumL xs).map (eP (eC eInt (eC ea eU)))) := fun H i k => by
  have hH := k _ _ na ha
  have hl := r.length
  rw [List.length_map] at hl
  refine ⟨fun h => ⟨vs, SqT.of hH, by simpa [hl] using h⟩, fun d hd => ?_⟩
  rw [List.getElem?_map, enumL_get] at hd
  cases hx : xs[i]? with
  | none => rw [hx] at hd; cases hd
  | some x =>
    rw [hx] at hd
    obtain ⟨v, hv, rv⟩ := r.get (show (xs.map ea)[i]? = some (ea x) by rw [List.getElem?_map, hx]; rfl)
    refine ⟨⟨vs, v, SqT.of hH, hv⟩, fun w H' y => ?_⟩
    obtain ⟨T, y', rfl, nT, rfl, hy⟩ := y
    have e1 := hy vs (SqT.of hH)
    rw [hv] at e1
    obtain rfl : v = y' := Option.some.inj e1
    refine ⟨same_new nT, fun A' h1 h2 => ?_⟩
    have hd' : PyData.tuple [eInt (i : Int), ea x] = d := Option.some.inj hd
    subst hd'
    exact pair_rp (fun z => (h2 T z).1 nT) (.int _) ((Rp.move (fun b o nb e => ⟨h1 b o nb e, k b o nb e⟩) _ _ rv).keep (Keep.of_same (same_new nT))) upd_same
theorem i_enumL {elts : List Expr} {k : Nat} {tpos p : Pos} {m : M (List α)} (hm : X.mg "enumerate" = none) (h : EJ X R Γ e (eL ea) m) (hg : Gl X "enumerate" := by rfl) (hs : starEach [e] X.env = [(false, eval e X.env)] := by rfl) :
    IJ X R Γ (.Call (.Name "enumerate" p) [e] [] pos) (.Tuple elts k tpos) (eP (eC eInt (eC ea eU))) (bindM m fun x => pureM (enumL x)) := by
  refine PI.weak (PI.fits (pi_enum hg hm (pa_cons h pa_nil hs) hs)) fun σ H Rr ⟨O, H0, ow, st, z, st', rel, ok, e, q⟩ => ?_
  obtain ⟨x, s1, e1, e2⟩ := bind_some e
  obtain ⟨rfl, rfl⟩ := pure_some e2
  refine ⟨O, H0, ow, st, x, s1, rel, ok, e1, fun v H1 k1 o1 rp => ?_⟩
  cases rp with
  | @lst p0 vs _ na ha ra =>
    exact ⟨p0, vs, rfl, SqL.of ha, fun fit => q _ H1 k1 o1 (by have := fit p0 vs (.inl ha); rw [ra.length, List.length_map] at this; rw [enumL_length]; exact this) (itok_enumL na ha ra)⟩
theorem i_enumT {elts : List Expr} {k : Nat} {tpos p : Pos} {m : M (List α)} (hm : X.mg "enumerate" = none) (h : EJ X R Γ e (eT ea) m) (hg : Gl X "enumerate" := by rfl) (hs : starEach [e] X.env = [(false, eval e X.env)] := by rfl) :
    IJ X R Γ (.Call (.Name "enumerate" p) [e] [] pos) (.Tuple elts k tpos) (eP (eC eInt (eC ea eU))) (bindM m fun x => pureM (enumL x)) := by
  refine PI.weak (PI.fits (pi_enumT hg hm (pa_cons h pa_nil hs) hs)) fun σ H Rr ⟨O, H0, ow, st, z, st', rel, ok, e, q⟩ => ?_
  obtain ⟨x, s1, e1, e2⟩ := bind_some e
  obtain ⟨rfl, rfl⟩ := pure_some e2
  refine ⟨O, H0, ow, st, x, s1, rel, ok, e1, fun v H1 k1 o1 rp => ?_⟩
  cases rp with
  | @tup p0 vs _ na ha ra =>
    exact ⟨p0, vs, rfl, SqT.of ha, fun fit => q _ H1 k1 o1 (by have := fit p0 vs (.inr ha); rw [ra.length, List.length_map] at this; rw [enumL_length]; exact this) (itok_enumT na ha ra)⟩

/-! ### data that are seen to be of a type -/
theorem e_narrow {m : M α} (f : α → Option γ) (h : EJ X R Γ e ea m) (hf : ∀ x y, f x = some y → ea x = ec y) : EJ X R Γ e ec (bindM m fun x => optM (f x)) := by
  refine PE.weak h fun σ H Q ⟨O, H0, ow, st, z, st', rel, ok, e, q⟩ => ?_
  obtain ⟨x, s1, e1, e2⟩ := bind_some e
  obtain ⟨e3, rfl⟩ := optM_inv e2
  exact ⟨O, H0, ow, st, x, s1, rel, ok, e1, fun v H1 k1 o1 rp => q v H1 k1 o1 (by rw [← hf _ _ e3]; exact rp)⟩
def asInt : PyData → Option Int
  | .int i => some i
  | _ => none
def asBool : PyData → Option Bool
  | .bool b => some b
  | _ => none
def asStr : PyData → Option Str
  | .str x => some x
  | _ => none
def asTup : PyData → Option (List PyData)
  | .tuple ds => some ds
  | _ => none
def asLst : PyData → Option (List PyData)
  | .list ds => some ds
  | _ => none
theorem map_eD (ds : List PyData) : ds.map eD = ds := List.map_id ds
theorem e_dInt {m : M PyData} (h : EJ X R Γ e eD m) : EJ X R Γ e eInt (bindM m fun x => optM (asInt x)) := e_narrow asInt h fun x y q => by cases x <;> cases q <;> rfl
theorem e_dBool {m : M PyData} (h : EJ X R Γ e eD m) : EJ X R Γ e eBool (bindM m fun x => optM (asBool x)) := e_narrow asBool h fun x y q => by cases x <;> cases q <;> rfl
theorem e_dStr {m : M PyData} (h : EJ X R Γ e eD m) : EJ X R Γ e eStr (bindM m fun x => optM (asStr x)) := e_narrow asStr h fun x y q => by cases x <;> cases q <;> rfl
theorem e_dTup {m : M PyData} (h : EJ X R Γ e eD m) : EJ X R Γ e (eT eD) (bindM m fun x => optM (asTup x)) := e_narrow asTup h fun x y q => by cases x <;> cases q; simp [eT, eD, map_eD]
theorem e_dLst {m : M PyData} (h : EJ X R Γ e eD m) : EJ X R Γ e (eL eD) (bindM m fun x => optM (asLst x)) := e_narrow asLst h fun x y q => by cases x <;> cases q; simp [eL, eD, map_eD]
/-- t[j] of mixed data, all of one place's type -/
theorem e_dTupAs {m : M (List PyData)} (f : PyData → Option γ) (hf : ∀ x y, f x = some y → x = ec y) (h : EJ X R Γ e (eT eD) m) : EJ X R Γ e (eT ec) (bindM m fun xs => optM (xs.mapM f)) := e_narrow (fun xs => xs.mapM f) h fun xs ys q => by
  have : ∀ (xs : List PyData) (ys : List γ), xs.mapM f = some ys → xs.map eD = ys.map ec := by
    intro xs
    induction xs with
    | nil => intro ys q; simp at q; subst q; rfl
    | cons x xs ih =>
      intro ys q
      rw [List.mapM_cons] at q
      obtain ⟨y, e1, q⟩ := Option.bind_eq_some_iff.mp q
      obtain ⟨zs, e2, q⟩ := Option.bind_eq_some_iff.mp q
      cases q
      rw [List.map_cons, List.map_cons, ih _ e2, ← hf _ _ e1]
      rfl
  show PyData.tuple _ = PyData.tuple _
  rw [this xs ys q]

/-! ### isinstance -/
def tyN : PyData → String
  | .none => "NoneType"
  | .bool _ => "bool"
  | .int _ => "int"
  | .str _ => "str"
  | .list _ => "list"
  | .tuple _ => "tuple"
  | .dict _ => "dict"
def isTy (n : String) (d : PyData) : Bool := tyN d == n || (n == "int" && tyN d == "bool")
theorem rp_ty {K : PySem.W.Frag} {A : Av} {H : Hp} {v : V} {d : PyData} (r : Rp A H v d) : TyX K H v (.type (tyN d)) := by
  cases r with
  | non => exact .base .non
  | bl b => exact .base (.bl b)
  | int i => exact .base (.int i)
  | str x => exact .base (.str x)
  | lst _ h _ => exact .base (.lst h)
  | tup _ h _ => exact .base (.tup h)
  | @dic a o kvs _ h k =>
    cases o with
    | dK _ => exact .base (.dK h)
    | dT _ => exact .base (.dT h)
    | _ => exact k.elim
theorem kit_int {K : PySem.W.Frag} (d : PyData) : PySem.W.kitOne K (.type (tyN d)) (.type "int") = some (isTy "int" d) := by cases d <;> rfl
theorem kit_bool {K : PySem.W.Frag} (d : PyData) : PySem.W.kitOne K (.type (tyN d)) (.type "bool") = some (isTy "bool" d) := by cases d <;> rfl
theorem kit_str {K : PySem.W.Frag} (d : PyData) : PySem.W.kitOne K (.type (tyN d)) (.type "str") = some (isTy "str" d) := by cases d <;> rfl
theorem kit_tuple {K : PySem.W.Frag} (d : PyData) : PySem.W.kitOne K (.type (tyN d)) (.type "tuple") = some (isTy "tuple" d) := by cases d <;> rfl
theorem kit_list {K : PySem.W.Frag} (d : PyData) : PySem.W.kitOne K (.type (tyN d)) (.type "list") = some (isTy "list" d) := by cases d <;> rfl
theorem kit_dict {K : PySem.W.Frag} (d : PyData) : PySem.W.kitOne K (.type (tyN d)) (.type "dict") = some (isTy "dict" d) := by cases d <;> rfl
theorem e_isi {x : Str} {p1 p2 : Pos} {n : String} {m : M α} (hk : ∀ (K : PySem.W.Frag) d, PySem.W.kitOne K (.type (tyN d)) (.type n) = some (isTy n d)) (hm : X.mg "isinstance" = none) (hmT : X.mg x = none) (hvT : bootBuiltins x = some (.type n)) (ha : EJ X R Γ a ea m)
    (hg : Gl X "isinstance" := by rfl) (hgT : Gl X x := by rfl) (hn : x ≠ "__name__" := by decide) (hdb : (x == ("__debug__" : Str)) = false := by decide)
    (hs1 : starEach [a, .Name x p2] X.env = (false, eval a X.env) :: starEach [.Name x p2] X.env := by rfl) (hs2 : starEach [.Name x p2] X.env = (false, eval (.Name x p2) X.env) :: starEach [] X.env := by rfl) :
    EJ X R Γ (.Call (.Name "isinstance" p1) [a, .Name x p2] [] pos) eBool (bindM m fun y => pureM (isTy n (ea y))) := by
  refine PE.weak (pe_callB (x := "isinstance") call_isi hg hm bt_isinstance (pa_cons ha (pa_cons (pe_bltn (v := .ty n) hgT hmT hvT rfl hn hdb) pa_nil hs2) hs1) (by decide) (by decide) hs1 (by rw [hs2]; rfl)) fun σ H Q ⟨O, H0, ow, st, z, st', rel, ok, e, q⟩ => ?_
  obtain ⟨y, s1, e1, e2⟩ := bind_some e
  obtain ⟨rfl, rfl⟩ := pure_some e2
  refine ⟨O, H0, ow, st, y, s1, rel, ok, e1, fun v H1 k1 o1 rp => ?_⟩
  exact ⟨v, .ty n, _, _, _, rfl, .ty n, rp_ty rp, hk _ _, q _ H1 k1 o1 (.bl _)⟩

/-! ### in -/
def rInP : R2 := fun x y H Q => ∃ A d ds, Rp A H x d ∧ (Rp A H y (.list ds) ∨ Rp A H y (.tuple ds)) ∧ PyData.plainAll ds = true ∧ d.plain = true ∧ d.depth ≤ 60 ∧ Q (.bl (ds.any fun z => PyData.eqv z d)) H
def rNinP : R2 := fun x y H Q => ∃ A d ds, Rp A H x d ∧ (Rp A H y (.list ds) ∨ Rp A H y (.tuple ds)) ∧ PyData.plainAll ds = true ∧ d.plain = true ∧ d.depth ≤ 60 ∧ Q (.bl (!ds.any fun z => PyData.eqv z d)) H
theorem op_inP (hu : X.A.units + 64 < cLine) : OpR X (compareOp .In) rInP := fun pins s σ H x y v u Q I rx ry h => by
  obtain ⟨A, d, ds, hd, hc, p1, p2, dp, q⟩ := h
  obtain ⟨as, r1, _⟩ := Rp.reads I d x v hd rx
  rcases hc with hc | hc
  · obtain ⟨bs, r2, _⟩ := Rp.reads I _ y u hc ry
    exact SeqAt.in_list_data r2 r1 p1 p2 (by omega) ⟨.bl _, H, I, rfl, q⟩
  · obtain ⟨bs, r2, _⟩ := Rp.reads I _ y u hc ry
    exact SeqAt.in_tuple_data r2 r1 p1 p2 (by omega) ⟨.bl _, H, I, rfl, q⟩
theorem op_ninP (hu : X.A.units + 64 < cLine) : OpR X (compareOp .NotIn) rNinP := fun pins s σ H x y v u Q I rx ry h => by
  obtain ⟨A, d, ds, hd, hc, p1, p2, dp, q⟩ := h
  obtain ⟨as, r1, _⟩ := Rp.reads I d x v hd rx
  rcases hc with hc | hc
  · obtain ⟨bs, r2, _⟩ := Rp.reads I _ y u hc ry
    exact SeqAt.notIn_list_data r2 r1 p1 p2 (by omega) ⟨.bl _, H, I, rfl, q⟩
  · obtain ⟨bs, r2, _⟩ := Rp.reads I _ y u hc ry
    exact SeqAt.notIn_tuple_data r2 r1 p1 p2 (by omega) ⟨.bl _, H, I, rfl, q⟩
theorem any_mem [DecidableEq α] {n : Nat} (h : Dc n ea) (x : α) (xs : List α) : ((xs.map ea).any fun z => PyData.eqv z (ea x)) = decide (x ∈ xs) := by
  rw [List.any_map, Bool.eq_iff_iff, List.any_eq_true, decide_eq_true_eq]
  constructor
  · rintro ⟨y, hy, e⟩
    have := (h.eqv y x).symm.trans e
    rw [decide_eq_true_eq] at this
    rw [← this]; exact hy
  · exact fun hx => ⟨x, hx, by have := h.eqv x x; rw [decide_eq_true rfl] at this; exact this⟩
theorem v_inL {n : Nat} [DecidableEq α] (h : Dc n ea) (hn : n ≤ 60 := by decide) : VOp rInP ea (eL ea) eBool (fun x xs => some (decide (x ∈ xs))) := fun A H x xs vx vy Q z ad r1 r2 e q => by
  cases e
  refine ⟨A, _, _, r1, .inl r2, h.plainAll _, h.plain _, Nat.le_trans (h.depth _) hn, ?_⟩
  rw [any_mem h]
  exact q _ H (Same.refl H) (.bl _)
theorem v_inT {n : Nat} [DecidableEq α] (h : Dc n ea) (hn : n ≤ 60 := by decide) : VOp rInP ea (eT ea) eBool (fun x xs => some (decide (x ∈ xs))) := fun A H x xs vx vy Q z ad r1 r2 e q => by
  cases e
  refine ⟨A, _, _, r1, .inr r2, h.plainAll _, h.plain _, Nat.le_trans (h.depth _) hn, ?_⟩
  rw [any_mem h]
  exact q _ H (Same.refl H) (.bl _)
theorem v_ninL {n : Nat} [DecidableEq α] (h : Dc n ea) (hn : n ≤ 60 := by decide) : VOp rNinP ea (eL ea) eBool (fun x xs => some (!decide (x ∈ xs))) := fun A H x xs vx vy Q z ad r1 r2 e q => by
  cases e
  refine ⟨A, _, _, r1, .inl r2, h.plainAll _, h.plain _, Nat.le_trans (h.depth _) hn, ?_⟩
  rw [any_mem h]
  exact q _ H (Same.refl H) (.bl _)
theorem v_ninT {n : Nat} [DecidableEq α] (h : Dc n ea) (hn : n ≤ 60 := by decide) : VOp rNinP ea (eT ea) eBool (fun x xs => some (!decide (x ∈ xs))) := fun A H x xs vx vy Q z ad r1 r2 e q => by
  cases e
  refine ⟨A, _, _, r1, .inr r2, h.plainAll _, h.plain _, Nat.le_trans (h.depth _) hn, ?_⟩
  rw [any_mem h]
  exact q _ H (Same.refl H) (.bl _)
def inD (d c : PyData) : Option Bool := match c with
  | .list ds | .tuple ds => if PyData.plainAll ds = true ∧ d.plain = true ∧ d.depth ≤ 60 then some (ds.any fun z => PyData.eqv z d) else none
  | _ => none
theorem inD_some {d c : PyData} {b : Bool} (h : inD d c = some b) : ∃ ds, (c = .list ds ∨ c = .tuple ds) ∧ PyData.plainAll ds = true ∧ d.plain = true ∧ d.depth ≤ 60 ∧ (ds.any fun z => PyData.eqv z d) = b := by
  cases c with
  | list ds => obtain ⟨⟨h1, h2, h3⟩, h4⟩ := oif (show (if PyData.plainAll ds = true ∧ d.plain = true ∧ d.depth ≤ 60 then some (ds.any fun z => PyData.eqv z d) else none) = some b from h); exact ⟨ds, .inl rfl, h1, h2, h3, h4⟩
  | tuple ds => obtain ⟨⟨h1, h2, h3⟩, h4⟩ := oif (show (if PyData.plainAll ds = true ∧ d.plain = true ∧ d.depth ≤ 60 then some (ds.any fun z => PyData.eqv z d) else none) = some b from h); exact ⟨ds, .inr rfl, h1, h2, h3, h4⟩
  | _ => cases h
theorem v_inD : VOp rInP ea eb eBool (fun x xs => inD (ea x) (eb xs)) := fun A H x xs vx vy Q z ad r1 r2 e q => by
  obtain ⟨ds, hc, h1, h2, h3, rfl⟩ := inD_some e
  refine ⟨A, _, ds, r1, ?_, h1, h2, h3, q _ H (Same.refl H) (.bl _)⟩
  rcases hc with hc | hc
  · rw [hc] at r2; exact .inl r2
  · rw [hc] at r2; exact .inr r2
theorem v_ninD : VOp rNinP ea eb eBool (fun x xs => (inD (ea x) (eb xs)).map (!·)) := fun A H x xs vx vy Q z ad r1 r2 e q => by
  obtain ⟨b, e1, rfl⟩ := Option.map_eq_some_iff.mp e
  obtain ⟨ds, hc, h1, h2, h3, rfl⟩ := inD_some e1
  refine ⟨A, _, ds, r1, ?_, h1, h2, h3, q _ H (Same.refl H) (.bl _)⟩
  rcases hc with hc | hc
  · rw [hc] at r2; exact .inl r2
  · rw [hc] at r2; exact .inr r2
theorem e_inL {n k : Nat} [DecidableEq α] {ma : M α} {mb : M (List α)} (hr : Room k X.A) (h : Dc n ea) (ha : EJ X R Γ a ea ma) (hb : EJ X R Γ b (eL ea) mb) (hn : n ≤ 60 := by decide) (hmk : behindInMarks .In b = false := by rfl) : EJ X R Γ (.Compare a [.In] [b] pos) eBool (bindM ma fun x => bindM mb fun y => pureM (decide (x ∈ y))) := e_cmp (op_inP hr.units) (v_inL h hn) ha hb hmk
theorem e_inT {n k : Nat} [DecidableEq α] {ma : M α} {mb : M (List α)} (hr : Room k X.A) (h : Dc n ea) (ha : EJ X R Γ a ea ma) (hb : EJ X R Γ b (eT ea) mb) (hn : n ≤ 60 := by decide) (hmk : behindInMarks .In b = false := by rfl) : EJ X R Γ (.Compare a [.In] [b] pos) eBool (bindM ma fun x => bindM mb fun y => pureM (decide (x ∈ y))) := e_cmp (op_inP hr.units) (v_inT h hn) ha hb hmk
theorem e_ninL {n k : Nat} [DecidableEq α] {ma : M α} {mb : M (List α)} (hr : Room k X.A) (h : Dc n ea) (ha : EJ X R Γ a ea ma) (hb : EJ X R Γ b (eL ea) mb) (hn : n ≤ 60 := by decide) (hmk : behindInMarks .NotIn b = false := by rfl) : EJ X R Γ (.Compare a [.NotIn] [b] pos) eBool (bindM ma fun x => bindM mb fun y => pureM (!decide (x ∈ y))) := e_cmp (op_ninP hr.units) (v_ninL h hn) ha hb hmk
theorem e_ninT {n k : Nat} [DecidableEq α] {ma : M α} {mb : M (List α)} (hr : Room k X.A) (h : Dc n ea) (ha : EJ X R Γ a ea ma) (hb : EJ X R Γ b (eT ea) mb) (hn : n ≤ 60 := by decide) (hmk : behindInMarks .NotIn b = false := by rfl) : EJ X R Γ (.Compare a [.NotIn] [b] pos) eBool (bindM ma fun x => bindM mb fun y => pureM (!decide (x ∈ y))) := e_cmp (op_ninP hr.units) (v_ninT h hn) ha hb hmk
theorem t_inL {n k : Nat} [DecidableEq α] {ma : M α} {mb : M (List α)} (hr : Room k X.A) (h : Dc n ea) (ha : EJ X R Γ a ea ma) (hb : EJ X R Γ b (eL ea) mb) (hn : n ≤ 60 := by decide) (hmk : behindInMarks .In b = false := by rfl) : TJ X R Γ (.Compare a [.In] [b] pos) (bindM ma fun x => bindM mb fun y => pureM (decide (x ∈ y))) := t_cmp (op_inP hr.units) (v_inL h hn) ha hb hmk
theorem t_inT {n k : Nat} [DecidableEq α] {ma : M α} {mb : M (List α)} (hr : Room k X.A) (h : Dc n ea) (ha : EJ X R Γ a ea ma) (hb : EJ X R Γ b (eT ea) mb) (hn : n ≤ 60 := by decide) (hmk : behindInMarks .In b = false := by rfl) : TJ X R Γ (.Compare a [.In] [b] pos) (bindM ma fun x => bindM mb fun y => pureM (decide (x ∈ y))) := t_cmp (op_inP hr.units) (v_inT h hn) ha hb hmk
theorem t_ninL {n k : Nat} [DecidableEq α] {ma : M α} {mb : M (List α)} (hr : Room k X.A) (h : Dc n ea) (ha : EJ X R Γ a ea ma) (hb : EJ X R Γ b (eL ea) mb) (hn : n ≤ 60 := by decide) (hmk : behindInMarks .NotIn b = false := by rfl) : TJ X R Γ (.Compare a [.NotIn] [b] pos) (bindM ma fun x => bindM mb fun y => pureM (!decide (x ∈ y))) := t_cmp (op_ninP hr.units) (v_ninL h hn) ha hb hmk
theorem t_ninT {n k : Nat} [DecidableEq α] {ma : M α} {mb : M (List α)} (hr : Room k X.A) (h : Dc n ea) (ha : EJ X R Γ a ea ma) (hb : EJ X R Γ b (eT ea) mb) (hn : n ≤ 60 := by decide) (hmk : behindInMarks .NotIn b = false := by rfl) : TJ X R Γ (.Compare a [.NotIn] [b] pos) (bindM ma fun x => bindM mb fun y => pureM (!decide (x ∈ y))) := t_cmp (op_ninP hr.units) (v_ninT h hn) ha hb hmk
theorem e_inD {k : Nat} {ma : M α} {mb : M β} (hr : Room k X.A) (ha : EJ X R Γ a ea ma) (hb : EJ X R Γ b eb mb) (hmk : behindInMarks .In b = false := by rfl) : EJ X R Γ (.Compare a [.In] [b] pos) eBool (bindM ma fun x => bindM mb fun y => optM (inD (ea x) (eb y))) := e_cmp (op_inP hr.units) v_inD ha hb hmk
theorem e_ninD {k : Nat} {ma : M α} {mb : M β} (hr : Room k X.A) (ha : EJ X R Γ a ea ma) (hb : EJ X R Γ b eb mb) (hmk : behindInMarks .NotIn b = false := by rfl) : EJ X R Γ (.Compare a [.NotIn] [b] pos) eBool (bindM ma fun x => bindM mb fun y => optM ((inD (ea x) (eb y)).map (!·))) := e_cmp (op_ninP hr.units) v_ninD ha hb hmk
theorem t_inD {k : Nat} {ma : M α} {mb : M β} (hr : Room k X.A) (ha : EJ X R Γ a ea ma) (hb : EJ X R Γ b eb mb) (hmk : behindInMarks .In b = false := by rfl) : TJ X R Γ (.Compare a [.In] [b] pos) (bindM ma fun x => bindM mb fun y => optM (inD (ea x) (eb y))) := t_cmp (op_inP hr.units) v_inD ha hb hmk
theorem t_ninD {k : Nat} {ma : M α} {mb : M β} (hr : Room k X.A) (ha : EJ X R Γ a ea ma) (hb : EJ X R Γ b eb mb) (hmk : behindInMarks .NotIn b = false := by rfl) : TJ X R Γ (.Compare a [.NotIn] [b] pos) (bindM ma fun x => bindM mb fun y => optM ((inD (ea x) (eb y)).map (!·))) := t_cmp (op_ninP hr.units) v_ninD ha hb hmk

/-! ### is None, of data -/
def isNon : PyData → Bool
  | .none => true
  | _ => false
theorem v_isD : VOp (fun x y H Q => y = .non ∧ Q (.bl (decide (x = .non))) H) eD eNon eBool (fun x _ => some (isNon x)) := fun A H x y vx vy Q z ad r1 r2 e q => by
  cases e
  cases r2
  refine ⟨rfl, ?_⟩
  have : decide (vx = .non) = isNon x := by
    have := rp_non r1
    cases x <;> simp [this, isNon, eD]
  rw [this]
  exact q _ H (Same.refl H) (.bl _)
theorem v_notD : VOp (fun x y H Q => y = .non ∧ Q (.bl (!decide (x = .non))) H) eD eNon eBool (fun x _ => some (!isNon x)) := fun A H x y vx vy Q z ad r1 r2 e q => by
  cases e
  cases r2
  refine ⟨rfl, ?_⟩
  have : decide (vx = .non) = isNon x := by
    have := rp_non r1
    cases x <;> simp [this, isNon, eD]
  rw [this]
  exact q _ H (Same.refl H) (.bl _)
theorem e_isNd {m : M PyData} {j p} (ha : EJ X R Γ a eD m) : EJ X R Γ (.Compare a [.Is] [.Constant .none j p] pos) eBool (bindM m fun x => pureM (isNon x)) := e_cmp op_isN v_isD ha e_non
theorem e_notNd {m : M PyData} {j p} (ha : EJ X R Γ a eD m) : EJ X R Γ (.Compare a [.IsNot] [.Constant .none j p] pos) eBool (bindM m fun x => pureM (!isNon x)) := e_cmp op_notN v_notD ha e_non
theorem t_isNd {m : M PyData} {j p} (ha : EJ X R Γ a eD m) : TJ X R Γ (.Compare a [.Is] [.Constant .none j p] pos) (bindM m fun x => pureM (isNon x)) := t_cmp op_isN v_isD ha e_non
theorem t_notNd {m : M PyData} {j p} (ha : EJ X R Γ a eD m) : TJ X R Γ (.Compare a [.IsNot] [.Constant .none j p] pos) (bindM m fun x => pureM (!isNon x)) := t_cmp op_notN v_notD ha e_non
end
/-- None or not: as data -/
theorem Dc.opt {α : Type} {n : Nat} [DecidableEq α] {ea : α → PyData} (h : NN ea) (k : Dc n ea) : Dc n (eO ea) := ⟨fun x => by cases x with
  | none => rfl
  | some x => exact k.plain x, fun x => by cases x with
  | none => simp [eO, PyData.depth]
  | some x => exact k.depth x, fun x y => by
    have aux : ∀ d : PyData, d ≠ .none → PyData.eqv .none d = false ∧ PyData.eqv d .none = false := fun d hd => by cases d <;> simp [PyData.eqv] at hd ⊢
    cases x with
    | none => cases y with
      | none => simp [eO, PyData.eqv]
      | some y => simp [eO, (aux _ (h y)).1]
    | some x => cases y with
      | none => simp [eO, (aux _ (h x)).2]
      | some y => simp [eO, k.eqv x y]⟩
end Pz

namespace Pz
open PySem PySem.Spec PyProof.Rows L2

/-! ### t[::-1] -/
section
variable {prog : Program} {w : World} {A : Around} {E : Value → Shared → Prop} {sh : Shared}
theorem sliceApplied_back {sl : Addr} {vs : Value} {n : Nat} {Q : Int × Int × Nat → Shared → Prop} (isSl : sh.heap.IsSliceOf sl .none .none vs) (back : IsPart vs (some (-1))) (want : Q ((n : Int) - 1, -1, n) sh) :
    wpAny (model prog w) A (Builtin.Slice.sliceApplied (.ref sl) (pure (n : Int))) Q E sh := by
  obtain ⟨ob, hob, hcls, hdat⟩ := isSl
  unfold Builtin.Slice.sliceApplied Builtin.Slice.sliceFields
  refine wpAny_bind (wpAny_bind (wpAny_field hob hdat (x := .none) rfl (wpAny_bind (wpAny_field hob hdat (x := .none) rfl (wpAny_bind (wpAny_field hob hdat (x := vs) rfl (wpAny_pure ?_)))))))
  refine wpAny_bind (HT.slicePart_ back ?_)
  show wpAny _ _ (if ((-1 : Int) == 0) = true then _ else _) _ _ sh
  rw [if_neg (by decide)]
  refine wpAny_bind (slicePart_none (wpAny_bind (slicePart_none (wpAny_bind (wpAny_pure ?_)))))
  show wpAny _ _ (match Builtin.Slice.sliceAdjust none none (-1) (n : Int) with | (x, y) => pure (x, (-1 : Int), Builtin.Slice.slicePlaces x y (-1))) _ _ sh
  show wpAny _ _ (pure ((n : Int) - 1, (-1 : Int), Builtin.Slice.slicePlaces ((n : Int) - 1) (-1) (-1))) _ _ sh
  have e1 : Builtin.Slice.slicePlaces ((n : Int) - 1) (-1) (-1) = n := by
    unfold Builtin.Slice.slicePlaces
    rw [if_neg (by decide)]
    by_cases h : (n : Int) - 1 > -1
    · rw [if_pos h, show (-(-1) : Int) = 1 by decide, Int.ediv_one]; omega
    · rw [if_neg h]; omega
  rw [e1]
  exact wpAny_pure want
theorem fm_cong {α β : Type} {f g : α → Option β} : ∀ {l : List α}, (∀ x ∈ l, f x = g x) → l.filterMap f = l.filterMap g
  | [], _ => rfl
  | x :: l, h => by rw [List.filterMap_cons, List.filterMap_cons, h x List.mem_cons_self, fm_cong fun y hy => h y (List.mem_cons_of_mem _ hy)]
theorem pick_back (xs : Array Value) : ((List.range xs.size).filterMap fun (m : Nat) => xs[(((xs.size : Int) - 1) + (m : Int) * (-1)).toNat]?).toArray = xs.toList.reverse.toArray := by
  have e1 : ((List.range xs.size).filterMap fun (m : Nat) => xs[(((xs.size : Int) - 1) + (m : Int) * (-1)).toNat]?) = ((List.range xs.size).map fun k => xs.size - 1 - k).filterMap (xs[·]?) := by
    rw [List.filterMap_map]
    refine fm_cong fun m hm => ?_
    have := List.mem_range.mp hm
    simp only [Function.comp]
    rw [show (((xs.size : Int) - 1) + (m : Int) * (-1)).toNat = xs.size - 1 - m by omega]
  rw [e1, PySem.W.krv_range, List.filterMap_reverse, PySem.W.krv_all]
theorem getItem_tuple_back {t sl : Addr} {items : Array Value} {vs : Value} {Q : Value → Shared → Prop} (tup : IsTup sh.heap t items) (isSl : sh.heap.IsSliceOf sl .none .none vs) (back : IsPart vs (some (-1))) (small : items.size ≤ sizeLine)
    (want : Q (.ref sh.heap.objs.size) { sh with heap := sh.heap.push { cls := .type "tuple", data := .seq items.toList.reverse.toArray } }) : wpAny (model prog w) A (getItem (.ref t) (.ref sl)) Q E sh := by
  have fits : sizeOk (.seq items.toList.reverse.toArray) := by
    show items.toList.reverse.toArray.size ≤ sizeLine
    rw [List.size_toArray, List.length_reverse, Array.length_toList]; exact small
  obtain ⟨ob, hob, hcls, hdat⟩ := id isSl
  have tySl : sh.TypeIs (.ref sl) "slice" := ⟨ob, hob, hcls⟩
  unfold getItem
  try with_reducible refine wpAny_holding ?_
  first | refine wpAny_bind (wpAny_pure ?_) | skip
  refine wpAny_bind (wpAny_sequenceKey tup.typeIs (by decide) ?_)
  refine wpAny_bind (wpAny_callSpecial?_slot (name := Str.ofString "__getitem__") tup.typeIs PyProof.Rows.slot_tuple_getitem (wpAny_call_entry PyProof.Rows.slot_tuple_getitem tup.typeIs entry_tuple_getitem ?_ (args_tuple_getitem _ _)))
  show wpAny _ _ (Builtin.Tuple.tupleItemsOf (.ref t) >>= _) _ _ sh
  refine wpAny_bind (tupleItemsOf_ tup ?_)
  refine wpAny_bind (wpAny_typeOf tySl ?_)
  rw [if_pos (by decide)]
  refine wpAny_bind (sliceApplied_back isSl back ?_)
  show wpAny _ _ (if (((items.size : Int) - 1) == 0 && (-1 : Int) == 1 && items.size == items.size) = true then _ else _) _ _ sh
  rw [if_neg (by simp), pick_back]
  first
    | exact wpAny_bind (m := Builtin.Tuple.tupleExact _) (wpAny_newObj_type (wpAny_pure ⟨_, rfl, wpAny_pure want⟩) fits)
    | exact wpAny_bind (m := Builtin.Tuple.tupleExact _) (wpAny_newObj_type (wpAny_bind (wpAny_pure (wpAny_pure ⟨_, rfl, wpAny_pure want⟩))) fits)
    | exact wpAny_bind (wpAny_bind (m := Builtin.Tuple.tupleExact _) (wpAny_newObj_type (wpAny_pure (wpAny_pure ⟨_, rfl, wpAny_pure want⟩)) fits))
    | exact wpAny_bind (wpAny_bind (m := Builtin.Tuple.tupleExact _) (wpAny_newObj_type (wpAny_pure ⟨_, rfl, wpAny_pure want⟩) fits))
end
section
variable {X : Cx} {R : Res} {Γ : List Slot} {α β : Type} {ea : α → PyData} {eb : β → PyData}
def tRevT (K : PySem.W.Frag) (te : TE) : TE := fun σ H Q => te σ H fun x H1 => ∃ a ys, x = .ref a ∧ SqT K H1 a ys ∧ ∀ p, H1 p = none → Q (.ref p) (upd H1 p (.tup ys.reverse))
theorem pe_revT {e : Expr} {te : TE} {k : Nat} {p1 p2 p3 pos : Pos} (he : PE X e te) : PE X (.Subscript e (.Slice none none (some (.UnaryOp .USub (.Constant (.int 1) k p1) p2)) p3) pos) (tRevT X.K te) := by
  refine ⟨fun pins s σ H Q I want => ?_⟩
  refine Subscript_ (thn (he.run pins s σ H _ I want) fun v s1 ⟨x, H1, I1, r1, q1⟩ => ?_)
  obtain ⟨a, ys, ex, hx, q⟩ := q1
  subst ex
  cases r1
  have hstep : PO X (some (.UnaryOp .USub (.Constant (.int 1) k p1) p2)) (tPart (tUn (rU fun i => .int (-i)) (tC (.int 1)))) := po_some (pe_un un_neg pe_int)
  refine wpAny_Slice (thn (po_none.run pins s1 σ H1 (fun o H2 => o = none ∧ H2 = H1) I1 ⟨rfl, rfl⟩) fun vl s2 ⟨l, H2, I2, pl, el, e2⟩ => ?_)
  subst el e2
  refine thn (po_none.run pins s2 σ H2 (fun o H3 => o = none ∧ H3 = H2) I2 ⟨rfl, rfl⟩) fun vu s3 ⟨u, H3, I3, pu, eu, e3⟩ => ?_
  subst eu e3
  refine thn (hstep.run pins s3 σ H3 (fun o H4 => o = some (-1) ∧ H4 = H3) I3 ⟨1, rfl, -1, rfl, rfl, rfl⟩) fun vstep s4 ⟨o, H4, I4, ps, eo, e4⟩ => ?_
  subst eo e4
  cases pl
  cases pu
  have I5 : Inv X pins σ H4 { s4 with heap := s4.heap.push { cls := .type "slice", data := .fields #[.none, .none, vstep] } } := I4.kept (t' := s4.toks) fun b ob q => Heap.get?_push_of_some _ q
  obtain ⟨its, r, tup, hz⟩ := I5.tuple hx
  have hlen := r.length
  show wpAny (model X.prog X.w) X.A (subscriptTail e (.Slice none none (some (.UnaryOp .USub (.Constant (.int 1) k p1) p2)) p3) (.ref a) (.ref s4.heap.objs.size)) (EP X pins σ Q) X.xe { s4 with heap := s4.heap.push { cls := .type "slice", data := .fields #[.none, .none, vstep] } }
  refine tail_any (ops := [.ref a, .ref s4.heap.objs.size]) tup.typeIs (PyProof.Rows.slot_tuple_getitem.lookup) ?_ (by with_unfolding_all rfl)
  refine getItem_tuple_back tup (Heap.IsSliceOf.new _ .none .none vstep) ps (by rw [List.size_toArray]; omega) ?_
  refine ⟨.ref _, _, I5.laid (t' := s4.toks) (o := .tup ys.reverse) (fun b ob q => Heap.get?_push_of_some _ q) (Nat.le_refl _) ?_, rfl, q _ (I5.hok.fresh (Nat.le_refl _))⟩
  exact ⟨by rw [List.length_reverse]; exact hz, _, r.reverse, IsTup.new _ _⟩
theorem e_revT {e : Expr} {k : Nat} {p1 p2 p3 pos : Pos} {m : M (List α)} (h : EJ X R Γ e (eT ea) m) : EJ X R Γ (.Subscript e (.Slice none none (some (.UnaryOp .USub (.Constant (.int 1) k p1) p2)) p3) pos) (eT ea) (bindM m fun x => pureM x.reverse) := by
  refine PE.weak (pe_revT h) fun σ H Q ⟨O, H0, ow, st, z, st', rel, ok, e, q⟩ => ?_
  obtain ⟨x, s1, e1, e2⟩ := bind_some e
  obtain ⟨rfl, rfl⟩ := pure_some e2
  refine ⟨O, H0, ow, st, x, s1, rel, ok, e1, fun v H1 k1 o1 rp => ?_⟩
  cases rp with
  | @tup a vs _ na ha hr =>
    refine ⟨a, vs, rfl, SqT.of ha, fun p n => q _ _ (keepS k1 (same_new n)) (o1.same (same_new n)) (.tup ((rel.grow k1 (okZ o1)).ad.fresh n) upd_same ?_)⟩
    rw [List.map_reverse]
    exact hr.reverse.keep (Keep.of_same (same_new n))
theorem f_revL {e : Expr} {k : Nat} {p1 p2 p3 pos : Pos} {m : M (List α)} (h : EJ X R Γ e (eL ea) m) : EF X R Γ (.Subscript e (.Slice none none (some (.UnaryOp .USub (.Constant (.int 1) k p1) p2)) p3) pos) ea (bindM m fun x => pureM x.reverse) := by
  refine PE.weak (pe_revL h) fun σ H Q ⟨O, H0, ow, st, z, st', rel, ok, e, q⟩ => ?_
  obtain ⟨x, s1, e1, e2⟩ := bind_some e
  obtain ⟨rfl, rfl⟩ := pure_some e2
  refine ⟨O, H0, ow, st, x, s1, rel, ok, e1, fun v H1 k1 o1 rp => ?_⟩
  cases rp with
  | @lst a vs _ na ha hr =>
    refine ⟨a, vs, rfl, SqL.of ha, fun p n => q p _ _ (noneK k1 o1 n) (keepS k1 (same_new n)) (o1.same (same_new n)) upd_same ?_⟩
    rw [List.map_reverse]
    exact hr.reverse.at n (Keep.of_same (same_new n))

/-! ### zip -/
theorem zipL_get (xs : List α) (ys : List β) (i : Nat) : (zipL xs ys)[i]? = (xs[i]?.bind fun x => ys[i]?.map fun y => (x, y, ())) := by
  unfold zipL
  rw [List.getElem?_zipWith]
  cases xs[i]? <;> cases ys[i]? <;> rfl
theorem itok_zipL {K : PySem.W.Frag} {A : Av} {H1 : Hp} {p q : Addr} {vs ws : List V} {xs : List α} {ys : List β} (na : ¬ A p) (ha : H1 p = some (.lst vs)) (r : RpAll A H1 vs (xs.map ea)) (nb : ¬ A q) (hb : H1 q = some (.lst ws)) (r2 : RpAll A H1 ws (ys.map eb)) :
    ItOk (Itz K p q) A H1 ((zipL xs ys).map (eP (eC ea (eC eb eU)))) := fun H i k => by
  have hH := k _ _ na ha
  have hH2 := k _ _ nb hb
  have hl := r.length
  have hl2 := r2.length
  rw [List.length_map] at hl hl2
  refine ⟨fun h => ⟨vs, ws, SqL.of hH, SqL.of hH2, ?_⟩, fun d hd => ?_⟩
  · rw [List.length_map] at h
    unfold zipL at h
    rw [List.length_zipWith] at h
    omega
  · rw [List.getElem?_map, zipL_get] at hd
    cases hx : xs[i]? with
    | none => rw [hx] at hd; cases hd
    | some x =>
      cases hy : ys[i]? with
      | none => rw [hx, hy] at hd; cases hd
      | some y =>
        rw [hx, hy] at hd
        obtain ⟨v, hv, rv⟩ := r.get (show (xs.map ea)[i]? = some (ea x) by rw [List.getElem?_map, hx]; rfl)
        obtain ⟨v2, hv2, rv2⟩ := r2.get (show (ys.map eb)[i]? = some (eb y) by rw [List.getElem?_map, hy]; rfl)
        refine ⟨⟨vs, ws, v, v2, SqL.of hH, SqL.of hH2, hv, hv2⟩, fun w H' yl => ?_⟩
        obtain ⟨T, a', b', rfl, nT, rfl, ha', hb'⟩ := yl
        have e1 := ha' vs (SqL.of hH)
        rw [hv] at e1
        obtain rfl : v = a' := Option.some.inj e1
        have e2 := hb' ws (SqL.of hH2)
        rw [hv2] at e2
        obtain rfl : v2 = b' := Option.some.inj e2
        refine ⟨same_new nT, fun A' h1 h2 => ?_⟩
        have hd' : PyData.tuple [ea x, eb y] = d := Option.some.inj hd
        subst hd'
        exact pair_rp (fun z => (h2 T z).1 nT) ((Rp.move (fun b o nb e => ⟨h1 b o nb e, k b o nb e⟩) _ _ rv).keep (Keep.of_same (same_new nT))) ((Rp.move (fun b o nb e => ⟨h1 b o nb e, k b o nb e⟩) _ _ rv2).keep (Keep.of_same (same_new nT))) upd_same
theorem itok_zipT {K : PySem.W.Frag} {A : Av} {H1 : Hp} {p q : Addr} {vs ws : List V} {xs : List α} {ys : List β} (na : ¬ A p) (ha : H1 p = some (.tup vs)) (r : RpAll A H1 vs (xs.map ea)) (nb : ¬ A q) (hb : H1 q = some (.tup ws)) (r2 : RpAll A H1 ws (ys.map eb)) :
    ItOk (RZ.ItzT K p q) A H1 ((zipL xs ys).map (eP (eC ea (eC eb eU)))) := fun H i k => by
  have hH := k _ _ na ha
  have hH2 := k _ _ nb hb
  have hl := r.length
  have hl2 := r2.length
  rw [List.length_map] at hl hl2
  refine ⟨fun h => ⟨vs, ws, SqT.of hH, SqT.of hH2, ?_⟩, fun d hd => ?_⟩
  · rw [List.length_map] at h
    unfold zipL at h
    rw [List.length_zipWith] at h
    omega
  · rw [List.getElem?_map, zipL_get] at hd
    cases hx : xs[i]? with
    | none => rw [hx] at hd; cases hd
    | some x =>
      cases hy : ys[i]? with
      | none => rw [hx, hy] at hd; cases hd
      | some y =>
        rw [hx, hy] at hd
        obtain ⟨v, hv, rv⟩ := r.get (show (xs.map ea)[i]? = some (ea x) by rw [List.getElem?_map, hx]; rfl)
        obtain ⟨v2, hv2, rv2⟩ := r2.get (show (ys.map eb)[i]? = some (eb y) by rw [List.getElem?_map, hy]; rfl)
        refine ⟨⟨vs, ws, v, v2, SqT.of hH, SqT.of hH2, hv, hv2⟩, fun w H' yl => ?_⟩
        obtain ⟨T, a', b', rfl, nT, rfl, ha', hb'⟩ := yl
        have e1 := ha' vs (SqT.of hH)
        rw [hv] at e1
        obtain rfl : v = a' := Option.some.inj e1
        have e2 := hb' ws (SqT.of hH2)
        rw [hv2] at e2
        obtain rfl : v2 = b' := Option.some.inj e2
        refine ⟨same_new nT, fun A' h1 h2 => ?_⟩
        have hd' : PyData.tuple [ea x, eb y] = d := Option.some.inj hd
        subst hd'
        exact pair_rp (fun z => (h2 T z).1 nT) ((Rp.move (fun b o nb e => ⟨h1 b o nb e, k b o nb e⟩) _ _ rv).keep (Keep.of_same (same_new nT))) ((Rp.move (fun b o nb e => ⟨h1 b o nb e, k b o nb e⟩) _ _ rv2).keep (Keep.of_same (same_new nT))) upd_same
theorem i_zipLL {a b : Expr} {pos : Pos} {elts : List Expr} {k : Nat} {tpos p : Pos} {ma : M (List α)} {mb : M (List β)} (hm : X.mg "zip" = none) (ha : EJ X R Γ a (eL ea) ma) (hb : EJ X R Γ b (eL eb) mb) (hg : Gl X "zip" := by rfl)
    (hs : starEach [a, b] X.env = (false, eval a X.env) :: starEach [b] X.env := by rfl) (hs2 : starEach [b] X.env = (false, eval b X.env) :: starEach [] X.env := by rfl) :
    IJ X R Γ (.Call (.Name "zip" p) [a, b] [] pos) (.Tuple elts k tpos) (eP (eC ea (eC eb eU))) (bindM ma fun x => bindM mb fun y => pureM (zipL x y)) := by
  refine PI.weak (PI.fits (pi_zip hg hm (pa_cons ha (pa_cons hb pa_nil hs2) hs) hs (by rw [hs2]; rfl))) fun σ H Rr ⟨O, H0, ow, st, z, st', rel, ok, e, q⟩ => ?_
  obtain ⟨x, s1, e1, e2⟩ := bind_some e
  obtain ⟨y, s2, e3, e4⟩ := bind_some e2
  obtain ⟨rfl, rfl⟩ := pure_some e4
  refine ⟨O, H0, ow, st, x, s1, rel, ok, e1, fun v H1 k1 o1 rp => ?_⟩
  have rel1 := rel.grow k1 (okZ o1)
  refine ⟨O, H0, ow, s1, y, s2, rel1, o1, e3, fun v2 H2 k2 o2 rp2 => ?_⟩
  have rpk := rp.keep (rel1.keepA k2)
  cases rpk with
  | @lst p0 vs _ na h0 ra =>
    cases rp2 with
    | @lst p1 ws _ nb h1 rb =>
      exact ⟨p0, p1, vs, ws, rfl, SqL.of h0, SqL.of h1, fun fit => q _ H2 (k1.trans k2) o2 (by have := fit p0 vs (.inl h0); rw [ra.length, List.length_map] at this; simp [zipL]; omega) (itok_zipL na h0 ra nb h1 rb)⟩
theorem i_zipTT {a b : Expr} {pos : Pos} {elts : List Expr} {k : Nat} {tpos p : Pos} {ma : M (List α)} {mb : M (List β)} (hm : X.mg "zip" = none) (ha : EJ X R Γ a (eT ea) ma) (hb : EJ X R Γ b (eT eb) mb) (hg : Gl X "zip" := by rfl)
    (hs : starEach [a, b] X.env = (false, eval a X.env) :: starEach [b] X.env := by rfl) (hs2 : starEach [b] X.env = (false, eval b X.env) :: starEach [] X.env := by rfl) :
    IJ X R Γ (.Call (.Name "zip" p) [a, b] [] pos) (.Tuple elts k tpos) (eP (eC ea (eC eb eU))) (bindM ma fun x => bindM mb fun y => pureM (zipL x y)) := by
  refine PI.weak (PI.fits (RZ.pi_zipA hg hm (pa_cons ha (pa_cons hb pa_nil hs2) hs) hs (by rw [hs2]; rfl))) fun σ H Rr ⟨O, H0, ow, st, z, st', rel, ok, e, q⟩ => ?_
  obtain ⟨x, s1, e1, e2⟩ := bind_some e
  obtain ⟨y, s2, e3, e4⟩ := bind_some e2
  obtain ⟨rfl, rfl⟩ := pure_some e4
  refine ⟨O, H0, ow, st, x, s1, rel, ok, e1, fun v H1 k1 o1 rp => ?_⟩
  have rel1 := rel.grow k1 (okZ o1)
  refine ⟨O, H0, ow, s1, y, s2, rel1, o1, e3, fun v2 H2 k2 o2 rp2 => ?_⟩
  have rpk := rp.keep (rel1.keepA k2)
  cases rpk with
  | @tup p0 vs _ na h0 ra =>
    cases rp2 with
    | @tup p1 ws _ nb h1 rb =>
      exact ⟨p0, p1, vs, ws, rfl, .inr ⟨SqT.of h0, SqT.of h1, fun fit => q _ H2 (k1.trans k2) o2 (by have := fit p0 vs (.inr h0); rw [ra.length, List.length_map] at this; simp [zipL]; omega) (itok_zipT na h0 ra nb h1 rb)⟩⟩
end
end Pz

namespace Pz
open PySem PySem.Spec PyProof.Rows L2 MeetsSeq SeqAt
/-! a dict beside other data: neither side knows the other -/
def IsD (hp : Heap) (l : Addr) : Prop := ∃ (dd : Option Addr) (es : Array DictEntry) (ep : Nat) (sl : Array (Option Value)), hp.get? l = some { cls := .type "dict", dict := dd, data := .dict es ep, slots := sl }
theorem dict_eq_bool (l : Addr) (es : Array DictEntry) (ep : Nat) (dd : Option Addr) (sl : Array (Option Value)) (c : Bool) :
    Meets (Builtin.«dict.__eq__» ⟨[.ref l, .bool c], []⟩) (fun _ R sh => sh.heap.get? l = some { cls := .type "dict", dict := dd, data := .dict es ep, slots := sl } ∧ R (.ok (.ret .notImplemented)) sh) :=
  .of_wp fun prog w A R sh want => by
    obtain ⟨hq, gq, dq, tq, oq⟩ := sh
    obtain ⟨hl, want⟩ := want
    have f1 := F.sub_bool_dict
    wp_walk using AutoSeq1.wpAny_loadPart' hl
    exact ⟨_, rfl, want⟩
theorem bool_eq_dict (c : Bool) (l : Addr) (es : Array DictEntry) (ep : Nat) (dd : Option Addr) (sl : Array (Option Value)) :
    Meets (Builtin.«int.__eq__» ⟨[.bool c, .ref l], []⟩) (fun _ R sh => sh.heap.get? l = some { cls := .type "dict", dict := dd, data := .dict es ep, slots := sl } ∧ R (.ok (.ret .notImplemented)) sh) :=
  .of_wp fun prog w A R sh want => by
    obtain ⟨hq, gq, dq, tq, oq⟩ := sh
    obtain ⟨hl, want⟩ := want
    wp_walk using AutoSeq1.wpAny_loadPart' hl, wpAny_load hl
    exact ⟨_, rfl, want⟩
theorem dict_eq_int (l : Addr) (es : Array DictEntry) (ep : Nat) (dd : Option Addr) (sl : Array (Option Value)) (c : Int) (u : Tok) :
    Meets (Builtin.«dict.__eq__» ⟨[.ref l, .int c u], []⟩) (fun _ R sh => sh.heap.get? l = some { cls := .type "dict", dict := dd, data := .dict es ep, slots := sl } ∧ R (.ok (.ret .notImplemented)) sh) :=
  .of_wp fun prog w A R sh want => by
    obtain ⟨hq, gq, dq, tq, oq⟩ := sh
    obtain ⟨hl, want⟩ := want
    have f1 := F.sub_int_dict
    wp_walk using AutoSeq1.wpAny_loadPart' hl
    exact ⟨_, rfl, want⟩
theorem int_eq_dict (c : Int) (u : Tok) (l : Addr) (es : Array DictEntry) (ep : Nat) (dd : Option Addr) (sl : Array (Option Value)) :
    Meets (Builtin.«int.__eq__» ⟨[.int c u, .ref l], []⟩) (fun _ R sh => sh.heap.get? l = some { cls := .type "dict", dict := dd, data := .dict es ep, slots := sl } ∧ R (.ok (.ret .notImplemented)) sh) :=
  .of_wp fun prog w A R sh want => by
    obtain ⟨hq, gq, dq, tq, oq⟩ := sh
    obtain ⟨hl, want⟩ := want
    wp_walk using AutoSeq1.wpAny_loadPart' hl, wpAny_load hl
    exact ⟨_, rfl, want⟩
theorem dict_eq_str (l : Addr) (es : Array DictEntry) (ep : Nat) (dd : Option Addr) (sl : Array (Option Value)) (c : Str) (u : Tok) :
    Meets (Builtin.«dict.__eq__» ⟨[.ref l, .str c u], []⟩) (fun _ R sh => sh.heap.get? l = some { cls := .type "dict", dict := dd, data := .dict es ep, slots := sl } ∧ R (.ok (.ret .notImplemented)) sh) :=
  .of_wp fun prog w A R sh want => by
    obtain ⟨hq, gq, dq, tq, oq⟩ := sh
    obtain ⟨hl, want⟩ := want
    have f1 := F.sub_str_dict
    wp_walk using AutoSeq1.wpAny_loadPart' hl
    exact ⟨_, rfl, want⟩
theorem str_eq_dict (c : Str) (u : Tok) (l : Addr) (es : Array DictEntry) (ep : Nat) (dd : Option Addr) (sl : Array (Option Value)) :
    Meets (Builtin.«str.__eq__» ⟨[.str c u, .ref l], []⟩) (fun _ R sh => sh.heap.get? l = some { cls := .type "dict", dict := dd, data := .dict es ep, slots := sl } ∧ R (.ok (.ret .notImplemented)) sh) :=
  .of_wp fun prog w A R sh want => by
    obtain ⟨hq, gq, dq, tq, oq⟩ := sh
    obtain ⟨hl, want⟩ := want
    wp_walk using AutoSeq1.wpAny_loadPart' hl, wpAny_load hl
    exact ⟨_, rfl, want⟩
theorem dict_eq_none (l : Addr) (es : Array DictEntry) (ep : Nat) (dd : Option Addr) (sl : Array (Option Value))  :
    Meets (Builtin.«dict.__eq__» ⟨[.ref l, .none], []⟩) (fun _ R sh => sh.heap.get? l = some { cls := .type "dict", dict := dd, data := .dict es ep, slots := sl } ∧ R (.ok (.ret .notImplemented)) sh) :=
  .of_wp fun prog w A R sh want => by
    obtain ⟨hq, gq, dq, tq, oq⟩ := sh
    obtain ⟨hl, want⟩ := want
    have f1 := F.sub_NoneType_dict
    wp_walk using AutoSeq1.wpAny_loadPart' hl
    exact ⟨_, rfl, want⟩
theorem dict_eq_list (l b : Addr) (es : Array DictEntry) (ep : Nat) (dd : Option Addr) (sl : Array (Option Value)) (ys : Array Value) (n2 : Nat) (d2 : Option Addr) (s2 : Array (Option Value)) :
    Meets (Builtin.«dict.__eq__» ⟨[.ref l, .ref b], []⟩) (fun _ R sh => sh.heap.get? l = some { cls := .type "dict", dict := dd, data := .dict es ep, slots := sl } ∧ sh.heap.get? b = some { cls := .type "list", dict := d2, data := .seq ys n2, slots := s2 } ∧ R (.ok (.ret .notImplemented)) sh) :=
  .of_wp fun prog w A R sh want => by
    obtain ⟨hq, gq, dq, tq, oq⟩ := sh
    obtain ⟨hl, hb, want⟩ := want
    have f1 := F.sub_list_dict
    wp_walk using AutoSeq1.wpAny_loadPart' hl, AutoSeq1.wpAny_loadPart' hb
    exact ⟨_, rfl, want⟩
theorem list_eq_dict (b l : Addr) (es : Array DictEntry) (ep : Nat) (dd : Option Addr) (sl : Array (Option Value)) (ys : Array Value) (n2 : Nat) (d2 : Option Addr) (s2 : Array (Option Value)) :
    Meets (Builtin.«list.__eq__» ⟨[.ref b, .ref l], []⟩) (fun _ R sh => sh.heap.get? b = some { cls := .type "list", dict := d2, data := .seq ys n2, slots := s2 } ∧ sh.heap.get? l = some { cls := .type "dict", dict := dd, data := .dict es ep, slots := sl } ∧ R (.ok (.ret .notImplemented)) sh) :=
  .of_wp fun prog w A R sh want => by
    obtain ⟨hq, gq, dq, tq, oq⟩ := sh
    obtain ⟨hb, hl, want⟩ := want
    have f1 := F.sub_dict_list
    wp_walk using AutoSeq1.wpAny_loadPart' hb, AutoSeq1.wpAny_loadPart' hl
    exact ⟨_, rfl, want⟩
theorem dict_eq_tuple (l b : Addr) (es : Array DictEntry) (ep : Nat) (dd : Option Addr) (sl : Array (Option Value)) (ys : Array Value) (n2 : Nat) (d2 : Option Addr) (s2 : Array (Option Value)) :
    Meets (Builtin.«dict.__eq__» ⟨[.ref l, .ref b], []⟩) (fun _ R sh => sh.heap.get? l = some { cls := .type "dict", dict := dd, data := .dict es ep, slots := sl } ∧ sh.heap.get? b = some { cls := .type "tuple", dict := d2, data := .seq ys n2, slots := s2 } ∧ R (.ok (.ret .notImplemented)) sh) :=
  .of_wp fun prog w A R sh want => by
    obtain ⟨hq, gq, dq, tq, oq⟩ := sh
    obtain ⟨hl, hb, want⟩ := want
    have f1 := F.sub_tuple_dict
    wp_walk using AutoSeq1.wpAny_loadPart' hl, AutoSeq1.wpAny_loadPart' hb
    exact ⟨_, rfl, want⟩
theorem tuple_eq_dict (b l : Addr) (es : Array DictEntry) (ep : Nat) (dd : Option Addr) (sl : Array (Option Value)) (ys : Array Value) (n2 : Nat) (d2 : Option Addr) (s2 : Array (Option Value)) :
    Meets (Builtin.«tuple.__eq__» ⟨[.ref b, .ref l], []⟩) (fun _ R sh => sh.heap.get? b = some { cls := .type "tuple", dict := d2, data := .seq ys n2, slots := s2 } ∧ sh.heap.get? l = some { cls := .type "dict", dict := dd, data := .dict es ep, slots := sl } ∧ R (.ok (.ret .notImplemented)) sh) :=
  .of_wp fun prog w A R sh want => by
    obtain ⟨hq, gq, dq, tq, oq⟩ := sh
    obtain ⟨hb, hl, want⟩ := want
    have f1 := F.sub_dict_tuple
    wp_walk using AutoSeq1.wpAny_loadPart' hb, AutoSeq1.wpAny_loadPart' hl
    exact ⟨_, rfl, want⟩
theorem dict_ne_bool (l : Addr) (es : Array DictEntry) (ep : Nat) (dd : Option Addr) (sl : Array (Option Value)) (c : Bool) :
    Meets (Builtin.«dict.__ne__» ⟨[.ref l, .bool c], []⟩) (fun _ R sh => sh.heap.get? l = some { cls := .type "dict", dict := dd, data := .dict es ep, slots := sl } ∧ R (.ok (.ret .notImplemented)) sh) :=
  .of_wp fun prog w A R sh want => by
    obtain ⟨hq, gq, dq, tq, oq⟩ := sh
    obtain ⟨hl, want⟩ := want
    have f1 := F.sub_bool_dict
    wp_walk using AutoSeq1.wpAny_loadPart' hl
    exact ⟨_, rfl, want⟩
theorem bool_ne_dict (c : Bool) (l : Addr) (es : Array DictEntry) (ep : Nat) (dd : Option Addr) (sl : Array (Option Value)) :
    Meets (Builtin.«int.__ne__» ⟨[.bool c, .ref l], []⟩) (fun _ R sh => sh.heap.get? l = some { cls := .type "dict", dict := dd, data := .dict es ep, slots := sl } ∧ R (.ok (.ret .notImplemented)) sh) :=
  .of_wp fun prog w A R sh want => by
    obtain ⟨hq, gq, dq, tq, oq⟩ := sh
    obtain ⟨hl, want⟩ := want
    wp_walk using AutoSeq1.wpAny_loadPart' hl, wpAny_load hl
    exact ⟨_, rfl, want⟩
theorem dict_ne_int (l : Addr) (es : Array DictEntry) (ep : Nat) (dd : Option Addr) (sl : Array (Option Value)) (c : Int) (u : Tok) :
    Meets (Builtin.«dict.__ne__» ⟨[.ref l, .int c u], []⟩) (fun _ R sh => sh.heap.get? l = some { cls := .type "dict", dict := dd, data := .dict es ep, slots := sl } ∧ R (.ok (.ret .notImplemented)) sh) :=
  .of_wp fun prog w A R sh want => by
    obtain ⟨hq, gq, dq, tq, oq⟩ := sh
    obtain ⟨hl, want⟩ := want
    have f1 := F.sub_int_dict
    wp_walk using AutoSeq1.wpAny_loadPart' hl
    exact ⟨_, rfl, want⟩
theorem int_ne_dict (c : Int) (u : Tok) (l : Addr) (es : Array DictEntry) (ep : Nat) (dd : Option Addr) (sl : Array (Option Value)) :
    Meets (Builtin.«int.__ne__» ⟨[.int c u, .ref l], []⟩) (fun _ R sh => sh.heap.get? l = some { cls := .type "dict", dict := dd, data := .dict es ep, slots := sl } ∧ R (.ok (.ret .notImplemented)) sh) :=
  .of_wp fun prog w A R sh want => by
    obtain ⟨hq, gq, dq, tq, oq⟩ := sh
    obtain ⟨hl, want⟩ := want
    wp_walk using AutoSeq1.wpAny_loadPart' hl, wpAny_load hl
    exact ⟨_, rfl, want⟩
theorem dict_ne_str (l : Addr) (es : Array DictEntry) (ep : Nat) (dd : Option Addr) (sl : Array (Option Value)) (c : Str) (u : Tok) :
    Meets (Builtin.«dict.__ne__» ⟨[.ref l, .str c u], []⟩) (fun _ R sh => sh.heap.get? l = some { cls := .type "dict", dict := dd, data := .dict es ep, slots := sl } ∧ R (.ok (.ret .notImplemented)) sh) :=
  .of_wp fun prog w A R sh want => by
    obtain ⟨hq, gq, dq, tq, oq⟩ := sh
    obtain ⟨hl, want⟩ := want
    have f1 := F.sub_str_dict
    wp_walk using AutoSeq1.wpAny_loadPart' hl
    exact ⟨_, rfl, want⟩
theorem str_ne_dict (c : Str) (u : Tok) (l : Addr) (es : Array DictEntry) (ep : Nat) (dd : Option Addr) (sl : Array (Option Value)) :
    Meets (Builtin.«str.__ne__» ⟨[.str c u, .ref l], []⟩) (fun _ R sh => sh.heap.get? l = some { cls := .type "dict", dict := dd, data := .dict es ep, slots := sl } ∧ R (.ok (.ret .notImplemented)) sh) :=
  .of_wp fun prog w A R sh want => by
    obtain ⟨hq, gq, dq, tq, oq⟩ := sh
    obtain ⟨hl, want⟩ := want
    wp_walk using AutoSeq1.wpAny_loadPart' hl, wpAny_load hl
    exact ⟨_, rfl, want⟩
theorem dict_ne_none (l : Addr) (es : Array DictEntry) (ep : Nat) (dd : Option Addr) (sl : Array (Option Value))  :
    Meets (Builtin.«dict.__ne__» ⟨[.ref l, .none], []⟩) (fun _ R sh => sh.heap.get? l = some { cls := .type "dict", dict := dd, data := .dict es ep, slots := sl } ∧ R (.ok (.ret .notImplemented)) sh) :=
  .of_wp fun prog w A R sh want => by
    obtain ⟨hq, gq, dq, tq, oq⟩ := sh
    obtain ⟨hl, want⟩ := want
    have f1 := F.sub_NoneType_dict
    wp_walk using AutoSeq1.wpAny_loadPart' hl
    exact ⟨_, rfl, want⟩
theorem dict_ne_list (l b : Addr) (es : Array DictEntry) (ep : Nat) (dd : Option Addr) (sl : Array (Option Value)) (ys : Array Value) (n2 : Nat) (d2 : Option Addr) (s2 : Array (Option Value)) :
    Meets (Builtin.«dict.__ne__» ⟨[.ref l, .ref b], []⟩) (fun _ R sh => sh.heap.get? l = some { cls := .type "dict", dict := dd, data := .dict es ep, slots := sl } ∧ sh.heap.get? b = some { cls := .type "list", dict := d2, data := .seq ys n2, slots := s2 } ∧ R (.ok (.ret .notImplemented)) sh) :=
  .of_wp fun prog w A R sh want => by
    obtain ⟨hq, gq, dq, tq, oq⟩ := sh
    obtain ⟨hl, hb, want⟩ := want
    have f1 := F.sub_list_dict
    wp_walk using AutoSeq1.wpAny_loadPart' hl, AutoSeq1.wpAny_loadPart' hb
    exact ⟨_, rfl, want⟩
theorem list_ne_dict (b l : Addr) (es : Array DictEntry) (ep : Nat) (dd : Option Addr) (sl : Array (Option Value)) (ys : Array Value) (n2 : Nat) (d2 : Option Addr) (s2 : Array (Option Value)) :
    Meets (Builtin.«list.__ne__» ⟨[.ref b, .ref l], []⟩) (fun _ R sh => sh.heap.get? b = some { cls := .type "list", dict := d2, data := .seq ys n2, slots := s2 } ∧ sh.heap.get? l = some { cls := .type "dict", dict := dd, data := .dict es ep, slots := sl } ∧ R (.ok (.ret .notImplemented)) sh) :=
  .of_wp fun prog w A R sh want => by
    obtain ⟨hq, gq, dq, tq, oq⟩ := sh
    obtain ⟨hb, hl, want⟩ := want
    have f1 := F.sub_dict_list
    wp_walk using AutoSeq1.wpAny_loadPart' hb, AutoSeq1.wpAny_loadPart' hl
    exact ⟨_, rfl, want⟩
theorem dict_ne_tuple (l b : Addr) (es : Array DictEntry) (ep : Nat) (dd : Option Addr) (sl : Array (Option Value)) (ys : Array Value) (n2 : Nat) (d2 : Option Addr) (s2 : Array (Option Value)) :
    Meets (Builtin.«dict.__ne__» ⟨[.ref l, .ref b], []⟩) (fun _ R sh => sh.heap.get? l = some { cls := .type "dict", dict := dd, data := .dict es ep, slots := sl } ∧ sh.heap.get? b = some { cls := .type "tuple", dict := d2, data := .seq ys n2, slots := s2 } ∧ R (.ok (.ret .notImplemented)) sh) :=
  .of_wp fun prog w A R sh want => by
    obtain ⟨hq, gq, dq, tq, oq⟩ := sh
    obtain ⟨hl, hb, want⟩ := want
    have f1 := F.sub_tuple_dict
    wp_walk using AutoSeq1.wpAny_loadPart' hl, AutoSeq1.wpAny_loadPart' hb
    exact ⟨_, rfl, want⟩
theorem tuple_ne_dict (b l : Addr) (es : Array DictEntry) (ep : Nat) (dd : Option Addr) (sl : Array (Option Value)) (ys : Array Value) (n2 : Nat) (d2 : Option Addr) (s2 : Array (Option Value)) :
    Meets (Builtin.«tuple.__ne__» ⟨[.ref b, .ref l], []⟩) (fun _ R sh => sh.heap.get? b = some { cls := .type "tuple", dict := d2, data := .seq ys n2, slots := s2 } ∧ sh.heap.get? l = some { cls := .type "dict", dict := dd, data := .dict es ep, slots := sl } ∧ R (.ok (.ret .notImplemented)) sh) :=
  .of_wp fun prog w A R sh want => by
    obtain ⟨hq, gq, dq, tq, oq⟩ := sh
    obtain ⟨hb, hl, want⟩ := want
    have f1 := F.sub_dict_tuple
    wp_walk using AutoSeq1.wpAny_loadPart' hb, AutoSeq1.wpAny_loadPart' hl
    exact ⟨_, rfl, want⟩
section
variable {A : Around} {s : Shared}
theorem ne_of_dict {l b : Addr} {ys : Array Value} {o : Obj} (hl : IsD s.heap l) (hb : s.heap.get? b = some o) (hc : o.cls ≠ .type "dict") : l ≠ b := fun z => by
  obtain ⟨dd, es, ep, sl, e⟩ := hl
  subst z
  rw [hb] at e
  cases e
  exact hc rfl
theorem eq_dict_bool {l : Addr} (c : Bool) (hl : IsD s.heap l) (hu : A.units < cLine) : RcAt A s (.ref l) (.bool c) false := fun prog w E Q want => by
  obtain ⟨dd, es, ep, sl, ob⟩ := hl
  exact rc_eq_decline_or (k := false) ⟨_, ob, rfl⟩ rfl (by decide) F.sub_bool_dict F.slot_dict_eq F.slot_bool_eq_refl (fun _ w2 => call_meets F.slot_dict_eq ⟨_, ob, rfl⟩ F.entry_dict_eq (F.args_dict_eq_2 _ _) (dict_eq_bool l es ep dd sl c) ⟨ob, w2⟩)
    (fun _ w2 => call_meets F.slot_bool_eq_refl rfl F.entry_int_eq (F.args_int_eq_2 _ _) (bool_eq_dict c l es ep dd sl) ⟨ob, w2⟩)
    (fun _ w2 => wpAny_of_eq (rfl : isSame (.ref l) (.bool c) = pure false) w2) (.inr hu) want
theorem eq_bool_dict_ {l : Addr} (c : Bool) (hl : IsD s.heap l) (hu : A.units < cLine) : RcAt A s (.bool c) (.ref l) false := fun prog w E Q want => by
  obtain ⟨dd, es, ep, sl, ob⟩ := hl
  exact rc_eq_decline_or (k := false) rfl ⟨_, ob, rfl⟩ (by decide) F.sub_dict_bool F.slot_bool_eq F.slot_dict_eq_refl
    (fun _ w2 => call_meets F.slot_bool_eq rfl F.entry_int_eq (F.args_int_eq_2 _ _) (bool_eq_dict c l es ep dd sl) ⟨ob, w2⟩)
    (fun _ w2 => call_meets F.slot_dict_eq_refl ⟨_, ob, rfl⟩ F.entry_dict_eq (F.args_dict_eq_2 _ _) (dict_eq_bool l es ep dd sl c) ⟨ob, w2⟩)
    (fun _ w2 => wpAny_of_eq (rfl : isSame (.bool c) (.ref l) = pure false) w2) (.inr hu) want
theorem eq_dict_int {l : Addr} (c : Int) (u : Tok) (hl : IsD s.heap l) (hu : A.units < cLine) : RcAt A s (.ref l) (.int c u) false := fun prog w E Q want => by
  obtain ⟨dd, es, ep, sl, ob⟩ := hl
  exact rc_eq_decline_or (k := false) ⟨_, ob, rfl⟩ (typeIs_int s c u) (by decide) F.sub_int_dict F.slot_dict_eq F.slot_int_eq_refl (fun _ w2 => call_meets F.slot_dict_eq ⟨_, ob, rfl⟩ F.entry_dict_eq (F.args_dict_eq_2 _ _) (dict_eq_int l es ep dd sl c u) ⟨ob, w2⟩)
    (fun _ w2 => call_meets F.slot_int_eq_refl (typeIs_int s c u) F.entry_int_eq (F.args_int_eq_2 _ _) (int_eq_dict c u l es ep dd sl) ⟨ob, w2⟩)
    (fun _ w2 => wpAny_of_eq (rfl : isSame (.ref l) (.int c u) = pure false) w2) (.inr hu) want
theorem eq_int_dict_ {l : Addr} (c : Int) (u : Tok) (hl : IsD s.heap l) (hu : A.units < cLine) : RcAt A s (.int c u) (.ref l) false := fun prog w E Q want => by
  obtain ⟨dd, es, ep, sl, ob⟩ := hl
  exact rc_eq_decline_or (k := false) (typeIs_int s c u) ⟨_, ob, rfl⟩ (by decide) F.sub_dict_int F.slot_int_eq F.slot_dict_eq_refl
    (fun _ w2 => call_meets F.slot_int_eq (typeIs_int s c u) F.entry_int_eq (F.args_int_eq_2 _ _) (int_eq_dict c u l es ep dd sl) ⟨ob, w2⟩)
    (fun _ w2 => call_meets F.slot_dict_eq_refl ⟨_, ob, rfl⟩ F.entry_dict_eq (F.args_dict_eq_2 _ _) (dict_eq_int l es ep dd sl c u) ⟨ob, w2⟩)
    (fun _ w2 => wpAny_of_eq (rfl : isSame (.int c u) (.ref l) = pure false) w2) (.inr hu) want
theorem eq_dict_str {l : Addr} (c : Str) (u : Tok) (hl : IsD s.heap l) (hu : A.units < cLine) : RcAt A s (.ref l) (.str c u) false := fun prog w E Q want => by
  obtain ⟨dd, es, ep, sl, ob⟩ := hl
  exact rc_eq_decline_or (k := false) ⟨_, ob, rfl⟩ (typeIs_str s c u) (by decide) F.sub_str_dict F.slot_dict_eq F.slot_str_eq_refl (fun _ w2 => call_meets F.slot_dict_eq ⟨_, ob, rfl⟩ F.entry_dict_eq (F.args_dict_eq_2 _ _) (dict_eq_str l es ep dd sl c u) ⟨ob, w2⟩)
    (fun _ w2 => call_meets F.slot_str_eq_refl (typeIs_str s c u) F.entry_str_eq (F.args_str_eq_2 _ _) (str_eq_dict c u l es ep dd sl) ⟨ob, w2⟩)
    (fun _ w2 => wpAny_of_eq (rfl : isSame (.ref l) (.str c u) = pure false) w2) (.inr hu) want
theorem eq_str_dict_ {l : Addr} (c : Str) (u : Tok) (hl : IsD s.heap l) (hu : A.units < cLine) : RcAt A s (.str c u) (.ref l) false := fun prog w E Q want => by
  obtain ⟨dd, es, ep, sl, ob⟩ := hl
  exact rc_eq_decline_or (k := false) (typeIs_str s c u) ⟨_, ob, rfl⟩ (by decide) F.sub_dict_str F.slot_str_eq F.slot_dict_eq_refl
    (fun _ w2 => call_meets F.slot_str_eq (typeIs_str s c u) F.entry_str_eq (F.args_str_eq_2 _ _) (str_eq_dict c u l es ep dd sl) ⟨ob, w2⟩)
    (fun _ w2 => call_meets F.slot_dict_eq_refl ⟨_, ob, rfl⟩ F.entry_dict_eq (F.args_dict_eq_2 _ _) (dict_eq_str l es ep dd sl c u) ⟨ob, w2⟩)
    (fun _ w2 => wpAny_of_eq (rfl : isSame (.str c u) (.ref l) = pure false) w2) (.inr hu) want
theorem eq_dict_none {l : Addr}  (hl : IsD s.heap l) (hu : A.units < cLine) : RcAt A s (.ref l) (.none) false := fun prog w E Q want => by
  obtain ⟨dd, es, ep, sl, ob⟩ := hl
  exact rc_eq_decline_or (k := false) ⟨_, ob, rfl⟩ rfl (by decide) F.sub_NoneType_dict F.slot_dict_eq F.slot_NoneType_eq_refl (fun _ w2 => call_meets F.slot_dict_eq ⟨_, ob, rfl⟩ F.entry_dict_eq (F.args_dict_eq_2 _ _) (dict_eq_none l es ep dd sl ) ⟨ob, w2⟩)
    (fun _ w2 => call_gives F.slot_NoneType_eq_refl rfl F.entry_NoneType_eq (F.args_NoneType_eq_2 _ _) (NoneType___eq___none_ref_0 l) w2)
    (fun _ w2 => wpAny_of_eq (rfl : isSame (.ref l) (.none) = pure false) w2) (.inr hu) want
theorem eq_none_dict_ {l : Addr}  (hl : IsD s.heap l) (hu : A.units < cLine) : RcAt A s (.none) (.ref l) false := fun prog w E Q want => by
  obtain ⟨dd, es, ep, sl, ob⟩ := hl
  exact rc_eq_decline_or (k := false) rfl ⟨_, ob, rfl⟩ (by decide) F.sub_dict_NoneType F.slot_NoneType_eq F.slot_dict_eq_refl
    (fun _ w2 => call_gives F.slot_NoneType_eq rfl F.entry_NoneType_eq (F.args_NoneType_eq_2 _ _) (NoneType___eq___none_ref_0 l) w2)
    (fun _ w2 => call_meets F.slot_dict_eq_refl ⟨_, ob, rfl⟩ F.entry_dict_eq (F.args_dict_eq_2 _ _) (dict_eq_none l es ep dd sl ) ⟨ob, w2⟩)
    (fun _ w2 => wpAny_of_eq (rfl : isSame (.none) (.ref l) = pure false) w2) (.inr hu) want
theorem eq_dict_list {l b : Addr} {ys : Array Value} (hl : IsD s.heap l) (hb : s.heap.IsList b ys) (hu : A.units < cLine) : RcAt A s (.ref l) (.ref b) false := fun prog w E Q want => by
  obtain ⟨⟨c2, d2, t2, s2⟩, ob2, e1, n2, e2⟩ := id hb
  simp only at e1 e2
  subst e1 e2
  have hne : l ≠ b := ne_of_dict (ys := #[]) hl ob2 (by simp)
  obtain ⟨dd, es, ep, sl, ob⟩ := hl
  exact rc_eq_decline_or (k := false) ⟨_, ob, rfl⟩ ⟨_, ob2, rfl⟩ (by decide) F.sub_list_dict F.slot_dict_eq F.slot_list_eq_refl
    (fun _ w2 => call_meets F.slot_dict_eq ⟨_, ob, rfl⟩ F.entry_dict_eq (F.args_dict_eq_2 _ _) (dict_eq_list l b es ep dd sl ys n2 d2 s2) ⟨ob, ob2, w2⟩)
    (fun _ w2 => call_meets F.slot_list_eq_refl ⟨_, ob2, rfl⟩ F.entry_list_eq (F.args_list_eq_2 _ _) (list_eq_dict b l es ep dd sl ys n2 d2 s2) ⟨ob2, ob, w2⟩)
    (fun _ w2 => wpAny_isSame_ref_other' hne ob ob2 (by simp) w2) (.inr hu) want
theorem eq_list_dict_ {l b : Addr} {ys : Array Value} (hl : IsD s.heap l) (hb : s.heap.IsList b ys) (hu : A.units < cLine) : RcAt A s (.ref b) (.ref l) false := fun prog w E Q want => by
  obtain ⟨⟨c2, d2, t2, s2⟩, ob2, e1, n2, e2⟩ := id hb
  simp only at e1 e2
  subst e1 e2
  have hne : l ≠ b := ne_of_dict (ys := #[]) hl ob2 (by simp)
  obtain ⟨dd, es, ep, sl, ob⟩ := hl
  exact rc_eq_decline_or (k := false) ⟨_, ob2, rfl⟩ ⟨_, ob, rfl⟩ (by decide) F.sub_dict_list F.slot_list_eq F.slot_dict_eq_refl
    (fun _ w2 => call_meets F.slot_list_eq ⟨_, ob2, rfl⟩ F.entry_list_eq (F.args_list_eq_2 _ _) (list_eq_dict b l es ep dd sl ys n2 d2 s2) ⟨ob2, ob, w2⟩)
    (fun _ w2 => call_meets F.slot_dict_eq_refl ⟨_, ob, rfl⟩ F.entry_dict_eq (F.args_dict_eq_2 _ _) (dict_eq_list l b es ep dd sl ys n2 d2 s2) ⟨ob, ob2, w2⟩)
    (fun _ w2 => wpAny_isSame_ref_other' (Ne.symm hne) ob2 ob (by simp) w2) (.inr hu) want
theorem eq_dict_tuple {l b : Addr} {ys : Array Value} (hl : IsD s.heap l) (hb : s.heap.IsTuple b ys) (hu : A.units < cLine) : RcAt A s (.ref l) (.ref b) false := fun prog w E Q want => by
  obtain ⟨⟨c2, d2, t2, s2⟩, ob2, e1, n2, e2⟩ := id hb
  simp only at e1 e2
  subst e1 e2
  have hne : l ≠ b := ne_of_dict (ys := #[]) hl ob2 (by simp)
  obtain ⟨dd, es, ep, sl, ob⟩ := hl
  exact rc_eq_decline_or (k := false) ⟨_, ob, rfl⟩ ⟨_, ob2, rfl⟩ (by decide) F.sub_tuple_dict F.slot_dict_eq F.slot_tuple_eq_refl
    (fun _ w2 => call_meets F.slot_dict_eq ⟨_, ob, rfl⟩ F.entry_dict_eq (F.args_dict_eq_2 _ _) (dict_eq_tuple l b es ep dd sl ys n2 d2 s2) ⟨ob, ob2, w2⟩)
    (fun _ w2 => call_meets F.slot_tuple_eq_refl ⟨_, ob2, rfl⟩ F.entry_tuple_eq (F.args_tuple_eq_2 _ _) (tuple_eq_dict b l es ep dd sl ys n2 d2 s2) ⟨ob2, ob, w2⟩)
    (fun _ w2 => wpAny_isSame_ref_other hne ob ob2 (by simp) w2) (.inr hu) want
theorem eq_tuple_dict_ {l b : Addr} {ys : Array Value} (hl : IsD s.heap l) (hb : s.heap.IsTuple b ys) (hu : A.units < cLine) : RcAt A s (.ref b) (.ref l) false := fun prog w E Q want => by
  obtain ⟨⟨c2, d2, t2, s2⟩, ob2, e1, n2, e2⟩ := id hb
  simp only at e1 e2
  subst e1 e2
  have hne : l ≠ b := ne_of_dict (ys := #[]) hl ob2 (by simp)
  obtain ⟨dd, es, ep, sl, ob⟩ := hl
  exact rc_eq_decline_or (k := false) ⟨_, ob2, rfl⟩ ⟨_, ob, rfl⟩ (by decide) F.sub_dict_tuple F.slot_tuple_eq F.slot_dict_eq_refl
    (fun _ w2 => call_meets F.slot_tuple_eq ⟨_, ob2, rfl⟩ F.entry_tuple_eq (F.args_tuple_eq_2 _ _) (tuple_eq_dict b l es ep dd sl ys n2 d2 s2) ⟨ob2, ob, w2⟩)
    (fun _ w2 => call_meets F.slot_dict_eq_refl ⟨_, ob, rfl⟩ F.entry_dict_eq (F.args_dict_eq_2 _ _) (dict_eq_tuple l b es ep dd sl ys n2 d2 s2) ⟨ob, ob2, w2⟩)
    (fun _ w2 => wpAny_isSame_ref_other' (Ne.symm hne) ob2 ob (by simp) w2) (.inr hu) want
theorem ne_dict_bool {l : Addr} (c : Bool) (hl : IsD s.heap l) (hu : A.units < cLine) : RcNeAt A s (.ref l) (.bool c) true := fun prog w E Q want => by
  obtain ⟨dd, es, ep, sl, ob⟩ := hl
  exact rc_ne_decline_or (k := false) ⟨_, ob, rfl⟩ rfl (by decide) F.sub_bool_dict F.slot_dict_ne F.slot_bool_ne_refl (fun _ w2 => call_meets F.slot_dict_ne ⟨_, ob, rfl⟩ F.entry_dict_ne (F.args_dict_ne_2 _ _) (dict_ne_bool l es ep dd sl c) ⟨ob, w2⟩)
    (fun _ w2 => call_meets F.slot_bool_ne_refl rfl F.entry_int_ne (F.args_int_ne_2 _ _) (bool_ne_dict c l es ep dd sl) ⟨ob, w2⟩)
    (fun _ w2 => wpAny_of_eq (rfl : isSame (.ref l) (.bool c) = pure false) w2) (.inr hu) want
theorem ne_bool_dict_ {l : Addr} (c : Bool) (hl : IsD s.heap l) (hu : A.units < cLine) : RcNeAt A s (.bool c) (.ref l) true := fun prog w E Q want => by
  obtain ⟨dd, es, ep, sl, ob⟩ := hl
  exact rc_ne_decline_or (k := false) rfl ⟨_, ob, rfl⟩ (by decide) F.sub_dict_bool F.slot_bool_ne F.slot_dict_ne_refl
    (fun _ w2 => call_meets F.slot_bool_ne rfl F.entry_int_ne (F.args_int_ne_2 _ _) (bool_ne_dict c l es ep dd sl) ⟨ob, w2⟩)
    (fun _ w2 => call_meets F.slot_dict_ne_refl ⟨_, ob, rfl⟩ F.entry_dict_ne (F.args_dict_ne_2 _ _) (dict_ne_bool l es ep dd sl c) ⟨ob, w2⟩)
    (fun _ w2 => wpAny_of_eq (rfl : isSame (.bool c) (.ref l) = pure false) w2) (.inr hu) want
theorem ne_dict_int {l : Addr} (c : Int) (u : Tok) (hl : IsD s.heap l) (hu : A.units < cLine) : RcNeAt A s (.ref l) (.int c u) true := fun prog w E Q want => by
  obtain ⟨dd, es, ep, sl, ob⟩ := hl
  exact rc_ne_decline_or (k := false) ⟨_, ob, rfl⟩ (typeIs_int s c u) (by decide) F.sub_int_dict F.slot_dict_ne F.slot_int_ne_refl (fun _ w2 => call_meets F.slot_dict_ne ⟨_, ob, rfl⟩ F.entry_dict_ne (F.args_dict_ne_2 _ _) (dict_ne_int l es ep dd sl c u) ⟨ob, w2⟩)
    (fun _ w2 => call_meets F.slot_int_ne_refl (typeIs_int s c u) F.entry_int_ne (F.args_int_ne_2 _ _) (int_ne_dict c u l es ep dd sl) ⟨ob, w2⟩)
    (fun _ w2 => wpAny_of_eq (rfl : isSame (.ref l) (.int c u) = pure false) w2) (.inr hu) want
theorem ne_int_dict_ {l : Addr} (c : Int) (u : Tok) (hl : IsD s.heap l) (hu : A.units < cLine) : RcNeAt A s (.int c u) (.ref l) true := fun prog w E Q want => by
  obtain ⟨dd, es, ep, sl, ob⟩ := hl
  exact rc_ne_decline_or (k := false) (typeIs_int s c u) ⟨_, ob, rfl⟩ (by decide) F.sub_dict_int F.slot_int_ne F.slot_dict_ne_refl
    (fun _ w2 => call_meets F.slot_int_ne (typeIs_int s c u) F.entry_int_ne (F.args_int_ne_2 _ _) (int_ne_dict c u l es ep dd sl) ⟨ob, w2⟩)
    (fun _ w2 => call_meets F.slot_dict_ne_refl ⟨_, ob, rfl⟩ F.entry_dict_ne (F.args_dict_ne_2 _ _) (dict_ne_int l es ep dd sl c u) ⟨ob, w2⟩)
    (fun _ w2 => wpAny_of_eq (rfl : isSame (.int c u) (.ref l) = pure false) w2) (.inr hu) want
theorem ne_dict_str {l : Addr} (c : Str) (u : Tok) (hl : IsD s.heap l) (hu : A.units < cLine) : RcNeAt A s (.ref l) (.str c u) true := fun prog w E Q want => by
  obtain ⟨dd, es, ep, sl, ob⟩ := hl
  exact rc_ne_decline_or (k := false) ⟨_, ob, rfl⟩ (typeIs_str s c u) (by decide) F.sub_str_dict F.slot_dict_ne F.slot_str_ne_refl (fun _ w2 => call_meets F.slot_dict_ne ⟨_, ob, rfl⟩ F.entry_dict_ne (F.args_dict_ne_2 _ _) (dict_ne_str l es ep dd sl c u) ⟨ob, w2⟩)
    (fun _ w2 => call_meets F.slot_str_ne_refl (typeIs_str s c u) F.entry_str_ne (F.args_str_ne_2 _ _) (str_ne_dict c u l es ep dd sl) ⟨ob, w2⟩)
    (fun _ w2 => wpAny_of_eq (rfl : isSame (.ref l) (.str c u) = pure false) w2) (.inr hu) want
theorem ne_str_dict_ {l : Addr} (c : Str) (u : Tok) (hl : IsD s.heap l) (hu : A.units < cLine) : RcNeAt A s (.str c u) (.ref l) true := fun prog w E Q want => by
  obtain ⟨dd, es, ep, sl, ob⟩ := hl
  exact rc_ne_decline_or (k := false) (typeIs_str s c u) ⟨_, ob, rfl⟩ (by decide) F.sub_dict_str F.slot_str_ne F.slot_dict_ne_refl
    (fun _ w2 => call_meets F.slot_str_ne (typeIs_str s c u) F.entry_str_ne (F.args_str_ne_2 _ _) (str_ne_dict c u l es ep dd sl) ⟨ob, w2⟩)
    (fun _ w2 => call_meets F.slot_dict_ne_refl ⟨_, ob, rfl⟩ F.entry_dict_ne (F.args_dict_ne_2 _ _) (dict_ne_str l es ep dd sl c u) ⟨ob, w2⟩)
    (fun _ w2 => wpAny_of_eq (rfl : isSame (.str c u) (.ref l) = pure false) w2) (.inr hu) want
theorem ne_dict_none {l : Addr}  (hl : IsD s.heap l) (hu : A.units < cLine) : RcNeAt A s (.ref l) (.none) true := fun prog w E Q want => by
  obtain ⟨dd, es, ep, sl, ob⟩ := hl
  exact rc_ne_decline_or (k := false) ⟨_, ob, rfl⟩ rfl (by decide) F.sub_NoneType_dict F.slot_dict_ne F.slot_NoneType_ne_refl (fun _ w2 => call_meets F.slot_dict_ne ⟨_, ob, rfl⟩ F.entry_dict_ne (F.args_dict_ne_2 _ _) (dict_ne_none l es ep dd sl ) ⟨ob, w2⟩)
    (fun _ w2 => call_gives F.slot_NoneType_ne_refl rfl F.entry_NoneType_ne (F.args_NoneType_ne_2 _ _) (NoneType___ne___none_ref_0 l) w2)
    (fun _ w2 => wpAny_of_eq (rfl : isSame (.ref l) (.none) = pure false) w2) (.inr hu) want
theorem ne_none_dict_ {l : Addr}  (hl : IsD s.heap l) (hu : A.units < cLine) : RcNeAt A s (.none) (.ref l) true := fun prog w E Q want => by
  obtain ⟨dd, es, ep, sl, ob⟩ := hl
  exact rc_ne_decline_or (k := false) rfl ⟨_, ob, rfl⟩ (by decide) F.sub_dict_NoneType F.slot_NoneType_ne F.slot_dict_ne_refl
    (fun _ w2 => call_gives F.slot_NoneType_ne rfl F.entry_NoneType_ne (F.args_NoneType_ne_2 _ _) (NoneType___ne___none_ref_0 l) w2)
    (fun _ w2 => call_meets F.slot_dict_ne_refl ⟨_, ob, rfl⟩ F.entry_dict_ne (F.args_dict_ne_2 _ _) (dict_ne_none l es ep dd sl ) ⟨ob, w2⟩)
    (fun _ w2 => wpAny_of_eq (rfl : isSame (.none) (.ref l) = pure false) w2) (.inr hu) want
theorem ne_dict_list {l b : Addr} {ys : Array Value} (hl : IsD s.heap l) (hb : s.heap.IsList b ys) (hu : A.units < cLine) : RcNeAt A s (.ref l) (.ref b) true := fun prog w E Q want => by
  obtain ⟨⟨c2, d2, t2, s2⟩, ob2, e1, n2, e2⟩ := id hb
  simp only at e1 e2
  subst e1 e2
  have hne : l ≠ b := ne_of_dict (ys := #[]) hl ob2 (by simp)
  obtain ⟨dd, es, ep, sl, ob⟩ := hl
  exact rc_ne_decline_or (k := false) ⟨_, ob, rfl⟩ ⟨_, ob2, rfl⟩ (by decide) F.sub_list_dict F.slot_dict_ne F.slot_list_ne_refl
    (fun _ w2 => call_meets F.slot_dict_ne ⟨_, ob, rfl⟩ F.entry_dict_ne (F.args_dict_ne_2 _ _) (dict_ne_list l b es ep dd sl ys n2 d2 s2) ⟨ob, ob2, w2⟩)
    (fun _ w2 => call_meets F.slot_list_ne_refl ⟨_, ob2, rfl⟩ F.entry_list_ne (F.args_list_ne_2 _ _) (list_ne_dict b l es ep dd sl ys n2 d2 s2) ⟨ob2, ob, w2⟩)
    (fun _ w2 => wpAny_isSame_ref_other' hne ob ob2 (by simp) w2) (.inr hu) want
theorem ne_list_dict_ {l b : Addr} {ys : Array Value} (hl : IsD s.heap l) (hb : s.heap.IsList b ys) (hu : A.units < cLine) : RcNeAt A s (.ref b) (.ref l) true := fun prog w E Q want => by
  obtain ⟨⟨c2, d2, t2, s2⟩, ob2, e1, n2, e2⟩ := id hb
  simp only at e1 e2
  subst e1 e2
  have hne : l ≠ b := ne_of_dict (ys := #[]) hl ob2 (by simp)
  obtain ⟨dd, es, ep, sl, ob⟩ := hl
  exact rc_ne_decline_or (k := false) ⟨_, ob2, rfl⟩ ⟨_, ob, rfl⟩ (by decide) F.sub_dict_list F.slot_list_ne F.slot_dict_ne_refl
    (fun _ w2 => call_meets F.slot_list_ne ⟨_, ob2, rfl⟩ F.entry_list_ne (F.args_list_ne_2 _ _) (list_ne_dict b l es ep dd sl ys n2 d2 s2) ⟨ob2, ob, w2⟩)
    (fun _ w2 => call_meets F.slot_dict_ne_refl ⟨_, ob, rfl⟩ F.entry_dict_ne (F.args_dict_ne_2 _ _) (dict_ne_list l b es ep dd sl ys n2 d2 s2) ⟨ob, ob2, w2⟩)
    (fun _ w2 => wpAny_isSame_ref_other' (Ne.symm hne) ob2 ob (by simp) w2) (.inr hu) want
theorem ne_dict_tuple {l b : Addr} {ys : Array Value} (hl : IsD s.heap l) (hb : s.heap.IsTuple b ys) (hu : A.units < cLine) : RcNeAt A s (.ref l) (.ref b) true := fun prog w E Q want => by
  obtain ⟨⟨c2, d2, t2, s2⟩, ob2, e1, n2, e2⟩ := id hb
  simp only at e1 e2
  subst e1 e2
  have hne : l ≠ b := ne_of_dict (ys := #[]) hl ob2 (by simp)
  obtain ⟨dd, es, ep, sl, ob⟩ := hl
  exact rc_ne_decline_or (k := false) ⟨_, ob, rfl⟩ ⟨_, ob2, rfl⟩ (by decide) F.sub_tuple_dict F.slot_dict_ne F.slot_tuple_ne_refl
    (fun _ w2 => call_meets F.slot_dict_ne ⟨_, ob, rfl⟩ F.entry_dict_ne (F.args_dict_ne_2 _ _) (dict_ne_tuple l b es ep dd sl ys n2 d2 s2) ⟨ob, ob2, w2⟩)
    (fun _ w2 => call_meets F.slot_tuple_ne_refl ⟨_, ob2, rfl⟩ F.entry_tuple_ne (F.args_tuple_ne_2 _ _) (tuple_ne_dict b l es ep dd sl ys n2 d2 s2) ⟨ob2, ob, w2⟩)
    (fun _ w2 => wpAny_isSame_ref_other hne ob ob2 (by simp) w2) (.inr hu) want
theorem ne_tuple_dict_ {l b : Addr} {ys : Array Value} (hl : IsD s.heap l) (hb : s.heap.IsTuple b ys) (hu : A.units < cLine) : RcNeAt A s (.ref b) (.ref l) true := fun prog w E Q want => by
  obtain ⟨⟨c2, d2, t2, s2⟩, ob2, e1, n2, e2⟩ := id hb
  simp only at e1 e2
  subst e1 e2
  have hne : l ≠ b := ne_of_dict (ys := #[]) hl ob2 (by simp)
  obtain ⟨dd, es, ep, sl, ob⟩ := hl
  exact rc_ne_decline_or (k := false) ⟨_, ob2, rfl⟩ ⟨_, ob, rfl⟩ (by decide) F.sub_dict_tuple F.slot_tuple_ne F.slot_dict_ne_refl
    (fun _ w2 => call_meets F.slot_tuple_ne ⟨_, ob2, rfl⟩ F.entry_tuple_ne (F.args_tuple_ne_2 _ _) (tuple_ne_dict b l es ep dd sl ys n2 d2 s2) ⟨ob2, ob, w2⟩)
    (fun _ w2 => call_meets F.slot_dict_ne_refl ⟨_, ob, rfl⟩ F.entry_dict_ne (F.args_dict_ne_2 _ _) (dict_ne_tuple l b es ep dd sl ys n2 d2 s2) ⟨ob, ob2, w2⟩)
    (fun _ w2 => wpAny_isSame_ref_other' (Ne.symm hne) ob2 ob (by simp) w2) (.inr hu) want
theorem at_dict_bool {l : Addr} (c : Bool) (hl : IsD s.heap l) (hu : A.units < cLine) : EqAt A s (.ref l) (.bool c) false := fun prog w E Q want => by
  unfold eqBool
  refine wpAny_holding ?_
  refine wpAny_ite_split (fun same => absurd (eq_of_beq same) nofun) (fun _ => ?_)
  exact wpAny_bind (eq_dict_bool c hl hu prog w E _ (wpAny_truthy_bool want))
theorem at_bool_dict {l : Addr} (c : Bool) (hl : IsD s.heap l) (hu : A.units < cLine) : EqAt A s (.bool c) (.ref l) false := fun prog w E Q want => by
  unfold eqBool
  refine wpAny_holding ?_
  refine wpAny_ite_split (fun same => absurd (eq_of_beq same) nofun) (fun _ => ?_)
  exact wpAny_bind (eq_bool_dict_ c hl hu prog w E _ (wpAny_truthy_bool want))
theorem at_dict_int {l : Addr} (c : Int) (u : Tok) (hl : IsD s.heap l) (hu : A.units < cLine) : EqAt A s (.ref l) (.int c u) false := fun prog w E Q want => by
  unfold eqBool
  refine wpAny_holding ?_
  refine wpAny_ite_split (fun same => absurd (eq_of_beq same) nofun) (fun _ => ?_)
  exact wpAny_bind (eq_dict_int c u hl hu prog w E _ (wpAny_truthy_bool want))
theorem at_int_dict {l : Addr} (c : Int) (u : Tok) (hl : IsD s.heap l) (hu : A.units < cLine) : EqAt A s (.int c u) (.ref l) false := fun prog w E Q want => by
  unfold eqBool
  refine wpAny_holding ?_
  refine wpAny_ite_split (fun same => absurd (eq_of_beq same) nofun) (fun _ => ?_)
  exact wpAny_bind (eq_int_dict_ c u hl hu prog w E _ (wpAny_truthy_bool want))
theorem at_dict_str {l : Addr} (c : Str) (u : Tok) (hl : IsD s.heap l) (hu : A.units < cLine) : EqAt A s (.ref l) (.str c u) false := fun prog w E Q want => by
  unfold eqBool
  refine wpAny_holding ?_
  refine wpAny_ite_split (fun same => absurd (eq_of_beq same) nofun) (fun _ => ?_)
  exact wpAny_bind (eq_dict_str c u hl hu prog w E _ (wpAny_truthy_bool want))
theorem at_str_dict {l : Addr} (c : Str) (u : Tok) (hl : IsD s.heap l) (hu : A.units < cLine) : EqAt A s (.str c u) (.ref l) false := fun prog w E Q want => by
  unfold eqBool
  refine wpAny_holding ?_
  refine wpAny_ite_split (fun same => absurd (eq_of_beq same) nofun) (fun _ => ?_)
  exact wpAny_bind (eq_str_dict_ c u hl hu prog w E _ (wpAny_truthy_bool want))
theorem at_dict_none {l : Addr}  (hl : IsD s.heap l) (hu : A.units < cLine) : EqAt A s (.ref l) (.none) false := fun prog w E Q want => by
  unfold eqBool
  refine wpAny_holding ?_
  refine wpAny_ite_split (fun same => absurd (eq_of_beq same) nofun) (fun _ => ?_)
  exact wpAny_bind (eq_dict_none  hl hu prog w E _ (wpAny_truthy_bool want))
theorem at_none_dict {l : Addr}  (hl : IsD s.heap l) (hu : A.units < cLine) : EqAt A s (.none) (.ref l) false := fun prog w E Q want => by
  unfold eqBool
  refine wpAny_holding ?_
  refine wpAny_ite_split (fun same => absurd (eq_of_beq same) nofun) (fun _ => ?_)
  exact wpAny_bind (eq_none_dict_  hl hu prog w E _ (wpAny_truthy_bool want))
theorem apart_list {l b : Addr} {ys : Array Value} (hl : IsD s.heap l) (hb : s.heap.IsList b ys) : l ≠ b := by
  obtain ⟨o2, ob2, e1, _⟩ := hb
  exact ne_of_dict (ys := #[]) hl ob2 (by rw [e1]; simp)
theorem at_dict_list {l b : Addr} {ys : Array Value} (hl : IsD s.heap l) (hb : s.heap.IsList b ys) (hu : A.units < cLine) : EqAt A s (.ref l) (.ref b) false := .of_refs (apart_list hl hb) (eq_dict_list hl hb hu)
theorem at_list_dict {l b : Addr} {ys : Array Value} (hl : IsD s.heap l) (hb : s.heap.IsList b ys) (hu : A.units < cLine) : EqAt A s (.ref b) (.ref l) false := .of_refs (Ne.symm (apart_list hl hb)) (eq_list_dict_ hl hb hu)
theorem apart_tuple {l b : Addr} {ys : Array Value} (hl : IsD s.heap l) (hb : s.heap.IsTuple b ys) : l ≠ b := by
  obtain ⟨o2, ob2, e1, _⟩ := hb
  exact ne_of_dict (ys := #[]) hl ob2 (by rw [e1]; simp)
theorem at_dict_tuple {l b : Addr} {ys : Array Value} (hl : IsD s.heap l) (hb : s.heap.IsTuple b ys) (hu : A.units < cLine) : EqAt A s (.ref l) (.ref b) false := .of_refs (apart_tuple hl hb) (eq_dict_tuple hl hb hu)
theorem at_tuple_dict {l b : Addr} {ys : Array Value} (hl : IsD s.heap l) (hb : s.heap.IsTuple b ys) (hu : A.units < cLine) : EqAt A s (.ref b) (.ref l) false := .of_refs (Ne.symm (apart_tuple hl hb)) (eq_tuple_dict_ hl hb hu)
end
end Pz

namespace Pz
open PySem PySem.Spec PyProof.Rows L2 MeetsSeq SeqAt
mutual
/-- no dict but empty ones -/
def pl0 : PyData → Bool
  | .list ds | .tuple ds => pl0s ds
  | .dict kvs => kvs.isEmpty
  | _ => true
def pl0s : List PyData → Bool
  | [] => true
  | d :: ds => pl0 d && pl0s ds
end
mutual
theorem pl0_plain : ∀ d : PyData, d.plain = true → pl0 d = true
  | .none, _ | .bool _, _ | .int _, _ | .str _, _ => rfl
  | .list ds, h => pl0s_plain ds h
  | .tuple ds, h => pl0s_plain ds h
  | .dict _, h => nomatch h
theorem pl0s_plain : ∀ ds : List PyData, PyData.plainAll ds = true → pl0s ds = true
  | [], _ => rfl
  | d :: ds, h => by
    simp only [PyData.plainAll, Bool.and_eq_true] at h
    simp only [pl0s, pl0_plain d h.1, pl0s_plain ds h.2, Bool.and_self]
end
/-- which pairs are compared: dicts on one side at most -/
def Cm (d e : PyData) : Prop := (pl0 d = true ∧ e.plain = true) ∨ (d.plain = true ∧ pl0 e = true)
def Cms (ds es : List PyData) : Prop := (pl0s ds = true ∧ PyData.plainAll es = true) ∨ (PyData.plainAll ds = true ∧ pl0s es = true)
theorem Cms.head {d e : PyData} {ds es : List PyData} (h : Cms (d :: ds) (e :: es)) : Cm d e ∧ Cms ds es := by
  simp only [Cms, pl0s, PyData.plainAll, Bool.and_eq_true] at h
  rcases h with ⟨⟨a, b⟩, c, d⟩ | ⟨⟨a, b⟩, c, d⟩
  · exact ⟨.inl ⟨a, c⟩, .inl ⟨b, d⟩⟩
  · exact ⟨.inr ⟨a, c⟩, .inr ⟨b, d⟩⟩
theorem isD_of {hp : Heap} {l : Addr} {o : Obj} {es : Array DictEntry} {ep : Nat} (h : hp.get? l = some o) (hc : o.cls = .type "dict") (hd : o.data = .dict es ep) : IsD hp l := by
  obtain ⟨c, dd, dt, sl⟩ := o
  simp only at hc hd
  subst hc hd
  exact ⟨dd, es, ep, sl, h⟩
theorem same_data {hp : Heap} {v : Value} {d e : PyData} {as bs : List Addr} (h : d.plain = true ∨ e.plain = true) (r1 : Reads hp v d as) (r2 : Reads hp v e bs) : d = e := by
  rcases h with h | h
  · exact plain_unique d e v as bs h r1 r2
  · exact (plain_unique e d v bs as h r2 r1).symm
theorem Cm.one {d e : PyData} (h : Cm d e) : d.plain = true ∨ e.plain = true := h.elim (fun q => .inr q.2) fun q => .inl q.1
mutual
theorem at_d : ∀ (da db : PyData) (A : Around) (s : Shared) (a b : Value) (as bs : List Addr), Reads s.heap a da as → Reads s.heap b db bs → Cm da db →
    A.units + min da.depth db.depth < cLine → EqAt A s a b (PyData.eqv da db)
  | .none, _, A, s, _, _, _, _, ra, rb, cm, hu => by
    cases ra
    cases rb with
    | none => exact EqAt.same _
    | bool y => exact EqAt.none_bool y
    | int y u => exact EqAt.none_int y u
    | str y u => exact EqAt.none_str y u
    | list q1 q2 q3 q4 => exact EqAt.none_list ⟨_, q1, q2, _, q3⟩ (room_here hu)
    | tuple q1 q2 q3 q4 => exact EqAt.none_tuple ⟨_, q1, q2, _, q3⟩ (room_here hu)
    | dict q1 q2 q3 _ _ => exact at_none_dict (isD_of q1 q2 q3) (room_here hu)
  | .bool x, _, A, s, _, _, _, _, ra, rb, cm, hu => by
    cases ra
    cases rb with
    | none => exact EqAt.bool_none x
    | bool y => exact EqAt.bool_bool x y
    | int y u => exact EqAt.bool_int x y u
    | str y u => exact EqAt.bool_str x y u
    | list q1 q2 q3 q4 => exact EqAt.bool_list x ⟨_, q1, q2, _, q3⟩ (room_here hu)
    | tuple q1 q2 q3 q4 => exact EqAt.bool_tuple x ⟨_, q1, q2, _, q3⟩ (room_here hu)
    | dict q1 q2 q3 _ _ => exact at_bool_dict x (isD_of q1 q2 q3) (room_here hu)
  | .int x, _, A, s, _, _, _, _, ra, rb, cm, hu => by
    cases ra with
    | int _ t =>
      cases rb with
      | none => exact EqAt.int_none x t
      | bool y => exact EqAt.int_bool x t y
      | int y u => exact EqAt.int_int x t y u
      | str y u => exact EqAt.int_str x t y u
      | list q1 q2 q3 q4 => exact EqAt.int_list x t ⟨_, q1, q2, _, q3⟩ (room_here hu)
      | tuple q1 q2 q3 q4 => exact EqAt.int_tuple x t ⟨_, q1, q2, _, q3⟩ (room_here hu)
      | dict q1 q2 q3 _ _ => exact at_int_dict x t (isD_of q1 q2 q3) (room_here hu)
  | .str x, _, A, s, _, _, _, _, ra, rb, cm, hu => by
    cases ra with
    | str _ t =>
      cases rb with
      | none => exact EqAt.str_none x t
      | bool y => exact EqAt.str_bool x t y
      | int y u => exact EqAt.str_int x t y u
      | str y u => exact EqAt.str_str x t y u
      | list q1 q2 q3 q4 => exact EqAt.str_list x t ⟨_, q1, q2, _, q3⟩ (room_here hu)
      | tuple q1 q2 q3 q4 => exact EqAt.str_tuple x t ⟨_, q1, q2, _, q3⟩ (room_here hu)
      | dict q1 q2 q3 _ _ => exact at_str_dict x t (isD_of q1 q2 q3) (room_here hu)
  | .list xs, db, A, s, _, _, _, _, ra, rb, cm, hu => by
    cases ra with
    | @list l o vs n _ as₁ p1 p2 p3 p4 =>
      have hL : s.heap.IsList l vs := ⟨_, p1, p2, _, p3⟩
      cases rb with
      | none => exact EqAt.list_none hL (room_here hu)
      | bool y => exact EqAt.list_bool y hL (room_here hu)
      | int y u => exact EqAt.list_int y u hL (room_here hu)
      | str y u => exact EqAt.list_str y u hL (room_here hu)
      | tuple q1 q2 q3 q4 => exact EqAt.list_tuple hL ⟨_, q1, q2, _, q3⟩ (room_here hu)
      | dict q1 q2 q3 _ _ => exact at_list_dict (isD_of q1 q2 q3) hL (room_here hu)
      | @list l2 o2 ws n2 ys bs₁ q1 q2 q3 q4 =>
        have hR : s.heap.IsList l2 ws := ⟨_, q1, q2, _, q3⟩
        have z1 : vs.size = xs.length := by simpa using ReadsAll.length _ _ _ p4
        have z2 : ws.size = ys.length := by simpa using ReadsAll.length _ _ _ q4
        have cms : Cms xs ys := cm
        show EqAt A s (.ref l) (.ref l2) (PyData.eqvAll xs ys)
        by_cases one : l = l2
        · subst one
          have e : PyData.list xs = PyData.list ys := same_data cm.one (.list p1 p2 p3 p4) (.list q1 q2 q3 q4)
          injection e with e
          subst e
          rw [eqvAll_refl_plain xs (by rcases cm.one with z | z <;> exact z)]
          exact EqAt.same _
        · by_cases hsz : vs.size = ws.size
          · rw [← eqvAll_same_length (by omega : xs.length = ys.length), ← z1]
            refine EqAt.of_refs one (RcAt.lists hL hR hsz (room_here hu) fun j j1 j2 => ?_)
            have e := at_ds xs ys A.in1 s vs.toList ws.toList _ _ p4 q4 cms (room_in hu) j (by simpa using j1) (by simpa using j2)
            simpa using e
          · rw [eqvAll_other_length (by omega : xs.length ≠ ys.length)]
            exact EqAt.of_refs one (RcAt.lists_lengths hL hR (by simpa using hsz) (room_here hu))
  | .tuple xs, db, A, s, _, _, _, _, ra, rb, cm, hu => by
    cases ra with
    | @tuple l o vs n _ as₁ p1 p2 p3 p4 =>
      have hL : s.heap.IsTuple l vs := ⟨_, p1, p2, _, p3⟩
      cases rb with
      | none => exact EqAt.tuple_none hL (room_here hu)
      | bool y => exact EqAt.tuple_bool y hL (room_here hu)
      | int y u => exact EqAt.tuple_int y u hL (room_here hu)
      | str y u => exact EqAt.tuple_str y u hL (room_here hu)
      | list q1 q2 q3 q4 => exact EqAt.tuple_list hL ⟨_, q1, q2, _, q3⟩ (room_here hu)
      | dict q1 q2 q3 _ _ => exact at_tuple_dict (isD_of q1 q2 q3) hL (room_here hu)
      | @tuple l2 o2 ws n2 ys bs₁ q1 q2 q3 q4 =>
        have hR : s.heap.IsTuple l2 ws := ⟨_, q1, q2, _, q3⟩
        have z1 : vs.size = xs.length := by simpa using ReadsAll.length _ _ _ p4
        have z2 : ws.size = ys.length := by simpa using ReadsAll.length _ _ _ q4
        have cms : Cms xs ys := cm
        show EqAt A s (.ref l) (.ref l2) (PyData.eqvAll xs ys)
        by_cases one : l = l2
        · subst one
          have e : PyData.tuple xs = PyData.tuple ys := same_data cm.one (.tuple p1 p2 p3 p4) (.tuple q1 q2 q3 q4)
          injection e with e
          subst e
          rw [eqvAll_refl_plain xs (by rcases cm.one with z | z <;> exact z)]
          exact EqAt.same _
        · rw [← eqvAll_eq xs ys, ← z1, ← z2]
          refine EqAt.of_refs one (RcAt.tuples hL hR (room_here hu) fun j j1 j2 => ?_)
          have e := at_ds xs ys A.in1 s vs.toList ws.toList _ _ p4 q4 cms (room_in hu) j (by simpa using j1) (by simpa using j2)
          simpa using e
  | .dict kv, db, A, s, _, _, _, _, ra, rb, cm, hu => by
    cases ra with
    | dict p1 p2 p3 _ _ =>
      have hD := isD_of p1 p2 p3
      cases rb with
      | none => exact at_dict_none hD (room_here hu)
      | bool y => exact at_dict_bool y hD (room_here hu)
      | int y u => exact at_dict_int y u hD (room_here hu)
      | str y u => exact at_dict_str y u hD (room_here hu)
      | list q1 q2 q3 q4 => exact at_dict_list hD ⟨_, q1, q2, _, q3⟩ (room_here hu)
      | tuple q1 q2 q3 q4 => exact at_dict_tuple hD ⟨_, q1, q2, _, q3⟩ (room_here hu)
      | dict => rcases cm with ⟨_, z⟩ | ⟨z, _⟩ <;> exact nomatch z
theorem at_ds : ∀ (xs ys : List PyData) (A : Around) (s : Shared) (vs ws : List Value) (as bs : List Addr), ReadsAll s.heap vs xs as → ReadsAll s.heap ws ys bs → Cms xs ys →
    A.units + min (PyData.depthAll xs) (PyData.depthAll ys) < cLine → ∀ j (h1 : j < vs.length) (h2 : j < ws.length), EqAt A s vs[j] ws[j] (pairEq xs ys j)
  | [], _, _, _, _, _, _, _, ra, _, _, _, j, h1, _ => by cases ra; exact absurd h1 (Nat.not_lt_zero _)
  | _ :: _, [], _, _, _, _, _, _, _, rb, _, _, j, _, h2 => by cases rb; exact absurd h2 (Nat.not_lt_zero _)
  | x :: xs, y :: ys, A, s, _, _, _, _, ra, rb, cm, hu, j, h1, h2 => by
    cases ra with
    | cons r rs =>
      cases rb with
      | cons r2 rs2 =>
        cases j with
        | zero => exact at_d x y A s _ _ _ _ r r2 cm.head.1 (room_head hu)
        | succ j => exact at_ds xs ys A s _ _ _ _ rs rs2 cm.head.2 (room_tail hu) j (Nat.lt_of_succ_lt_succ h1) (Nat.lt_of_succ_lt_succ h2)
end
theorem eq_d {da db : PyData} {A : Around} {s : Shared} {a b : Value} {as bs : List Addr} (ra : Reads s.heap a da as) (rb : Reads s.heap b db bs) (cm : Cm da db) (hu : A.units + min da.depth db.depth < cLine) : RcAt A s a b (PyData.eqv da db) := by
  cases ra with
  | none =>
    cases rb with
    | none => exact RcAt.none_none
    | bool y => exact RcAt.none_bool y
    | int y u => exact RcAt.none_int y u
    | str y u => exact RcAt.none_str y u
    | list q1 q2 q3 q4 => exact RcAt.none_list ⟨_, q1, q2, _, q3⟩ (room_here hu)
    | tuple q1 q2 q3 q4 => exact RcAt.none_tuple ⟨_, q1, q2, _, q3⟩ (room_here hu)
    | dict q1 q2 q3 _ _ => exact eq_none_dict_ (isD_of q1 q2 q3) (room_here hu)
  | bool x =>
    cases rb with
    | none => exact RcAt.bool_none x
    | bool y => exact RcAt.bool_bool x y
    | int y u => exact RcAt.bool_int x y u
    | str y u => exact RcAt.bool_str x y u
    | list q1 q2 q3 q4 => exact RcAt.bool_list x ⟨_, q1, q2, _, q3⟩ (room_here hu)
    | tuple q1 q2 q3 q4 => exact RcAt.bool_tuple x ⟨_, q1, q2, _, q3⟩ (room_here hu)
    | dict q1 q2 q3 _ _ => exact eq_bool_dict_ x (isD_of q1 q2 q3) (room_here hu)
  | int x t =>
    cases rb with
    | none => exact RcAt.int_none x t
    | bool y => exact RcAt.int_bool x t y
    | int y u => exact RcAt.int_int x t y u
    | str y u => exact RcAt.int_str x t y u
    | list q1 q2 q3 q4 => exact RcAt.int_list x t ⟨_, q1, q2, _, q3⟩ (room_here hu)
    | tuple q1 q2 q3 q4 => exact RcAt.int_tuple x t ⟨_, q1, q2, _, q3⟩ (room_here hu)
    | dict q1 q2 q3 _ _ => exact eq_int_dict_ x t (isD_of q1 q2 q3) (room_here hu)
  | str x t =>
    cases rb with
    | none => exact RcAt.str_none x t
    | bool y => exact RcAt.str_bool x t y
    | int y u => exact RcAt.str_int x t y u
    | str y u => exact RcAt.str_str x t y u
    | list q1 q2 q3 q4 => exact RcAt.str_list x t ⟨_, q1, q2, _, q3⟩ (room_here hu)
    | tuple q1 q2 q3 q4 => exact RcAt.str_tuple x t ⟨_, q1, q2, _, q3⟩ (room_here hu)
    | dict q1 q2 q3 _ _ => exact eq_str_dict_ x t (isD_of q1 q2 q3) (room_here hu)
  | @list l o vs n xs as₁ p1 p2 p3 p4 =>
    have hL : s.heap.IsList l vs := ⟨_, p1, p2, _, p3⟩
    cases rb with
    | none => exact RcAt.list_none hL (room_here hu)
    | bool y => exact RcAt.list_bool y hL (room_here hu)
    | int y u => exact RcAt.list_int y u hL (room_here hu)
    | str y u => exact RcAt.list_str y u hL (room_here hu)
    | tuple q1 q2 q3 q4 => exact RcAt.list_tuple hL ⟨_, q1, q2, _, q3⟩ (room_here hu)
    | dict q1 q2 q3 _ _ => exact eq_list_dict_ (isD_of q1 q2 q3) hL (room_here hu)
    | @list l2 o2 ws n2 ys bs₁ q1 q2 q3 q4 =>
      have hR : s.heap.IsList l2 ws := ⟨_, q1, q2, _, q3⟩
      have z1 : vs.size = xs.length := by simpa using ReadsAll.length _ _ _ p4
      have z2 : ws.size = ys.length := by simpa using ReadsAll.length _ _ _ q4
      have each : ∀ j (j1 : j < vs.size) (j2 : j < ws.size), EqAt A.in1 s vs[j] ws[j] (pairEq xs ys j) := fun j j1 j2 => by
        have e := at_ds xs ys A.in1 s vs.toList ws.toList _ _ p4 q4 cm (room_in hu) j (by simpa using j1) (by simpa using j2)
        simpa using e
      show RcAt A s (.ref l) (.ref l2) (PyData.eqvAll xs ys)
      by_cases hsz : vs.size = ws.size
      · rw [← eqvAll_same_length (by omega : xs.length = ys.length), ← z1]
        exact RcAt.lists hL hR hsz (room_here hu) each
      · rw [eqvAll_other_length (by omega : xs.length ≠ ys.length)]
        exact RcAt.lists_lengths hL hR (by simpa using hsz) (room_here hu)
  | @tuple l o vs n xs as₁ p1 p2 p3 p4 =>
    have hL : s.heap.IsTuple l vs := ⟨_, p1, p2, _, p3⟩
    cases rb with
    | none => exact RcAt.tuple_none hL (room_here hu)
    | bool y => exact RcAt.tuple_bool y hL (room_here hu)
    | int y u => exact RcAt.tuple_int y u hL (room_here hu)
    | str y u => exact RcAt.tuple_str y u hL (room_here hu)
    | list q1 q2 q3 q4 => exact RcAt.tuple_list hL ⟨_, q1, q2, _, q3⟩ (room_here hu)
    | dict q1 q2 q3 _ _ => exact eq_tuple_dict_ (isD_of q1 q2 q3) hL (room_here hu)
    | @tuple l2 o2 ws n2 ys bs₁ q1 q2 q3 q4 =>
      have hR : s.heap.IsTuple l2 ws := ⟨_, q1, q2, _, q3⟩
      have z1 : vs.size = xs.length := by simpa using ReadsAll.length _ _ _ p4
      have z2 : ws.size = ys.length := by simpa using ReadsAll.length _ _ _ q4
      have each : ∀ j (j1 : j < vs.size) (j2 : j < ws.size), EqAt A.in1 s vs[j] ws[j] (pairEq xs ys j) := fun j j1 j2 => by
        have e := at_ds xs ys A.in1 s vs.toList ws.toList _ _ p4 q4 cm (room_in hu) j (by simpa using j1) (by simpa using j2)
        simpa using e
      show RcAt A s (.ref l) (.ref l2) (PyData.eqvAll xs ys)
      rw [← eqvAll_eq xs ys, ← z1, ← z2]
      exact RcAt.tuples hL hR (room_here hu) each
  | dict p1 p2 p3 _ _ =>
    have hD := isD_of p1 p2 p3
    cases rb with
    | none => exact eq_dict_none hD (room_here hu)
    | bool y => exact eq_dict_bool y hD (room_here hu)
    | int y u => exact eq_dict_int y u hD (room_here hu)
    | str y u => exact eq_dict_str y u hD (room_here hu)
    | list q1 q2 q3 q4 => exact eq_dict_list hD ⟨_, q1, q2, _, q3⟩ (room_here hu)
    | tuple q1 q2 q3 q4 => exact eq_dict_tuple hD ⟨_, q1, q2, _, q3⟩ (room_here hu)
    | dict => rcases cm with ⟨_, z⟩ | ⟨z, _⟩ <;> exact nomatch z
theorem ne_d {da db : PyData} {A : Around} {s : Shared} {a b : Value} {as bs : List Addr} (ra : Reads s.heap a da as) (rb : Reads s.heap b db bs) (cm : Cm da db) (hu : A.units + min da.depth db.depth < cLine) : RcNeAt A s a b (!PyData.eqv da db) := by
  cases ra with
  | none =>
    cases rb with
    | none => exact RcNeAt.none_none
    | bool y => exact RcNeAt.none_bool y
    | int y u => exact RcNeAt.none_int y u
    | str y u => exact RcNeAt.none_str y u
    | list q1 q2 q3 q4 => exact RcNeAt.none_list ⟨_, q1, q2, _, q3⟩ (room_here hu)
    | tuple q1 q2 q3 q4 => exact RcNeAt.none_tuple ⟨_, q1, q2, _, q3⟩ (room_here hu)
    | dict q1 q2 q3 _ _ => exact ne_none_dict_ (isD_of q1 q2 q3) (room_here hu)
  | bool x =>
    cases rb with
    | none => exact RcNeAt.bool_none x
    | bool y => exact RcNeAt.bool_bool x y
    | int y u => exact RcNeAt.bool_int x y u
    | str y u => exact RcNeAt.bool_str x y u
    | list q1 q2 q3 q4 => exact RcNeAt.bool_list x ⟨_, q1, q2, _, q3⟩ (room_here hu)
    | tuple q1 q2 q3 q4 => exact RcNeAt.bool_tuple x ⟨_, q1, q2, _, q3⟩ (room_here hu)
    | dict q1 q2 q3 _ _ => exact ne_bool_dict_ x (isD_of q1 q2 q3) (room_here hu)
  | int x t =>
    cases rb with
    | none => exact RcNeAt.int_none x t
    | bool y => exact RcNeAt.int_bool x t y
    | int y u => exact RcNeAt.int_int x t y u
    | str y u => exact RcNeAt.int_str x t y u
    | list q1 q2 q3 q4 => exact RcNeAt.int_list x t ⟨_, q1, q2, _, q3⟩ (room_here hu)
    | tuple q1 q2 q3 q4 => exact RcNeAt.int_tuple x t ⟨_, q1, q2, _, q3⟩ (room_here hu)
    | dict q1 q2 q3 _ _ => exact ne_int_dict_ x t (isD_of q1 q2 q3) (room_here hu)
  | str x t =>
    cases rb with
    | none => exact RcNeAt.str_none x t
    | bool y => exact RcNeAt.str_bool x t y
    | int y u => exact RcNeAt.str_int x t y u
    | str y u => exact RcNeAt.str_str x t y u
    | list q1 q2 q3 q4 => exact RcNeAt.str_list x t ⟨_, q1, q2, _, q3⟩ (room_here hu)
    | tuple q1 q2 q3 q4 => exact RcNeAt.str_tuple x t ⟨_, q1, q2, _, q3⟩ (room_here hu)
    | dict q1 q2 q3 _ _ => exact ne_str_dict_ x t (isD_of q1 q2 q3) (room_here hu)
  | @list l o vs n xs as₁ p1 p2 p3 p4 =>
    have hL : s.heap.IsList l vs := ⟨_, p1, p2, _, p3⟩
    cases rb with
    | none => exact RcNeAt.list_none hL (room_here hu)
    | bool y => exact RcNeAt.list_bool y hL (room_here hu)
    | int y u => exact RcNeAt.list_int y u hL (room_here hu)
    | str y u => exact RcNeAt.list_str y u hL (room_here hu)
    | tuple q1 q2 q3 q4 => exact RcNeAt.list_tuple hL ⟨_, q1, q2, _, q3⟩ (room_here hu)
    | dict q1 q2 q3 _ _ => exact ne_list_dict_ (isD_of q1 q2 q3) hL (room_here hu)
    | @list l2 o2 ws n2 ys bs₁ q1 q2 q3 q4 =>
      have hR : s.heap.IsList l2 ws := ⟨_, q1, q2, _, q3⟩
      have z1 : vs.size = xs.length := by simpa using ReadsAll.length _ _ _ p4
      have z2 : ws.size = ys.length := by simpa using ReadsAll.length _ _ _ q4
      have each : ∀ j (j1 : j < vs.size) (j2 : j < ws.size), EqAt A.in1 s vs[j] ws[j] (pairEq xs ys j) := fun j j1 j2 => by
        have e := at_ds xs ys A.in1 s vs.toList ws.toList _ _ p4 q4 cm (room_in hu) j (by simpa using j1) (by simpa using j2)
        simpa using e
      show RcNeAt A s (.ref l) (.ref l2) (!PyData.eqvAll xs ys)
      by_cases hsz : vs.size = ws.size
      · rw [← eqvAll_same_length (by omega : xs.length = ys.length), ← z1]
        exact RcNeAt.lists hL hR hsz (room_here hu) each
      · rw [eqvAll_other_length (by omega : xs.length ≠ ys.length)]
        exact RcNeAt.lists_lengths hL hR (by simpa using hsz) (room_here hu)
  | @tuple l o vs n xs as₁ p1 p2 p3 p4 =>
    have hL : s.heap.IsTuple l vs := ⟨_, p1, p2, _, p3⟩
    cases rb with
    | none => exact RcNeAt.tuple_none hL (room_here hu)
    | bool y => exact RcNeAt.tuple_bool y hL (room_here hu)
    | int y u => exact RcNeAt.tuple_int y u hL (room_here hu)
    | str y u => exact RcNeAt.tuple_str y u hL (room_here hu)
    | list q1 q2 q3 q4 => exact RcNeAt.tuple_list hL ⟨_, q1, q2, _, q3⟩ (room_here hu)
    | dict q1 q2 q3 _ _ => exact ne_tuple_dict_ (isD_of q1 q2 q3) hL (room_here hu)
    | @tuple l2 o2 ws n2 ys bs₁ q1 q2 q3 q4 =>
      have hR : s.heap.IsTuple l2 ws := ⟨_, q1, q2, _, q3⟩
      have z1 : vs.size = xs.length := by simpa using ReadsAll.length _ _ _ p4
      have z2 : ws.size = ys.length := by simpa using ReadsAll.length _ _ _ q4
      have each : ∀ j (j1 : j < vs.size) (j2 : j < ws.size), EqAt A.in1 s vs[j] ws[j] (pairEq xs ys j) := fun j j1 j2 => by
        have e := at_ds xs ys A.in1 s vs.toList ws.toList _ _ p4 q4 cm (room_in hu) j (by simpa using j1) (by simpa using j2)
        simpa using e
      show RcNeAt A s (.ref l) (.ref l2) (!PyData.eqvAll xs ys)
      rw [← eqvAll_eq xs ys, ← z1, ← z2]
      exact RcNeAt.tuples hL hR (room_here hu) each
  | dict p1 p2 p3 _ _ =>
    have hD := isD_of p1 p2 p3
    cases rb with
    | none => exact ne_dict_none hD (room_here hu)
    | bool y => exact ne_dict_bool y hD (room_here hu)
    | int y u => exact ne_dict_int y u hD (room_here hu)
    | str y u => exact ne_dict_str y u hD (room_here hu)
    | list q1 q2 q3 q4 => exact ne_dict_list hD ⟨_, q1, q2, _, q3⟩ (room_here hu)
    | tuple q1 q2 q3 q4 => exact ne_dict_tuple hD ⟨_, q1, q2, _, q3⟩ (room_here hu)
    | dict => rcases cm with ⟨_, z⟩ | ⟨z, _⟩ <;> exact nomatch z
end Pz

namespace Pz
open PySem PySem.Spec PyProof.Rows L2

section
variable {α β γ δ κ ρ ι : Type} {ea : α → PyData} {eb : β → PyData} {ec : γ → PyData} {er : ρ → PyData} {ei : ι → PyData} {X : Cx} {R : Res} {Γ Γ' : List Slot} {e a b c : Expr} {st : Stmt} {rest A B body : List Stmt} {pos : Pos} {out : κ → OutD}
/-! ### comparing data, empty dicts among them -/
def cmB (d e : PyData) : Bool := (pl0 d && e.plain) || (d.plain && pl0 e)
theorem cmB_of {d e : PyData} (h : cmB d e = true) : Cm d e := by
  unfold cmB at h
  rw [Bool.or_eq_true, Bool.and_eq_true, Bool.and_eq_true] at h
  exact h
def rEqZ : R2 := fun x y H Q => ∃ A d e, Rp A H x d ∧ Rp A H y e ∧ Cm d e ∧ d.depth ≤ 60 ∧ Q (.bl (PyData.eqv d e)) H
def rNeZ : R2 := fun x y H Q => ∃ A d e, Rp A H x d ∧ Rp A H y e ∧ Cm d e ∧ d.depth ≤ 60 ∧ Q (.bl (!PyData.eqv d e)) H
theorem op_eqZ (hu : X.A.units + 64 < cLine) : OpR X (compareOp .Eq) rEqZ := fun pins s σ H x y v u Q I rx ry h => by
  obtain ⟨A, d, e, hd, he, cm, dp, q⟩ := h
  obtain ⟨as, r1, _⟩ := Rp.reads I d x v hd rx
  obtain ⟨bs, r2, _⟩ := Rp.reads I e y u he ry
  exact eq_d r1 r2 cm (by omega) _ _ _ _ ⟨.bl _, H, I, rfl, q⟩
theorem op_neZ (hu : X.A.units + 64 < cLine) : OpR X (compareOp .NotEq) rNeZ := fun pins s σ H x y v u Q I rx ry h => by
  obtain ⟨A, d, e, hd, he, cm, dp, q⟩ := h
  obtain ⟨as, r1, _⟩ := Rp.reads I d x v hd rx
  obtain ⟨bs, r2, _⟩ := Rp.reads I e y u he ry
  exact ne_d r1 r2 cm (by omega) _ _ _ _ ⟨.bl _, H, I, rfl, q⟩
def eqZ (d e : PyData) : Option Bool := if cmB d e = true ∧ d.depth ≤ 60 then some (PyData.eqv d e) else none
theorem v_eqZ : VOp rEqZ ea eb eBool (fun x y => eqZ (ea x) (eb y)) := fun A H x y vx vy Q z ad r1 r2 e q => by
  obtain ⟨⟨h1, h3⟩, rfl⟩ := oif e
  exact ⟨A, _, _, r1, r2, cmB_of h1, h3, q _ H (Same.refl H) (.bl _)⟩
theorem v_neZ : VOp rNeZ ea eb eBool (fun x y => (eqZ (ea x) (eb y)).map (!·)) := fun A H x y vx vy Q z ad r1 r2 e q => by
  obtain ⟨b, e1, rfl⟩ := Option.map_eq_some_iff.mp e
  obtain ⟨⟨h1, h3⟩, rfl⟩ := oif e1
  exact ⟨A, _, _, r1, r2, cmB_of h1, h3, q _ H (Same.refl H) (.bl _)⟩
theorem e_eqZ {k : Nat} {ma : M α} {mb : M β} (hr : Room k X.A) (ha : EJ X R Γ a ea ma) (hb : EJ X R Γ b eb mb) : EJ X R Γ (.Compare a [.Eq] [b] pos) eBool (bindM ma fun x => bindM mb fun y => optM (eqZ (ea x) (eb y))) := e_cmp (op_eqZ hr.units) v_eqZ ha hb
theorem e_neZ {k : Nat} {ma : M α} {mb : M β} (hr : Room k X.A) (ha : EJ X R Γ a ea ma) (hb : EJ X R Γ b eb mb) : EJ X R Γ (.Compare a [.NotEq] [b] pos) eBool (bindM ma fun x => bindM mb fun y => optM ((eqZ (ea x) (eb y)).map (!·))) := e_cmp (op_neZ hr.units) v_neZ ha hb
theorem t_eqZ {k : Nat} {ma : M α} {mb : M β} (hr : Room k X.A) (ha : EJ X R Γ a ea ma) (hb : EJ X R Γ b eb mb) : TJ X R Γ (.Compare a [.Eq] [b] pos) (bindM ma fun x => bindM mb fun y => optM (eqZ (ea x) (eb y))) := t_cmp (op_eqZ hr.units) v_eqZ ha hb
theorem t_neZ {k : Nat} {ma : M α} {mb : M β} (hr : Room k X.A) (ha : EJ X R Γ a ea ma) (hb : EJ X R Γ b eb mb) : TJ X R Γ (.Compare a [.NotEq] [b] pos) (bindM ma fun x => bindM mb fun y => optM ((eqZ (ea x) (eb y)).map (!·))) := t_cmp (op_neZ hr.units) v_neZ ha hb
/-! ### in, the items plain, what is asked for any -/
theorem items_z {s : Shared} {A : Around} {vs : Array Value} {xs : List PyData} {as bs : List Addr} {x : Value} {d : PyData} (rs : ReadsAll s.heap vs.toList xs as) (rx : Reads s.heap x d bs) (hxs : PyData.plainAll xs = true) (hd : pl0 d = true)
    (hu : A.units + 1 + d.depth < cLine) : ∀ y, y ∈ vs → SeqAt.EqAt A.in1 s y x (PyData.eqv (SeqAt.readOf s.heap y) d) := fun y hy => by
  obtain ⟨dy, cs, ry, hcy, _⟩ := SeqAt.readsAll_mem_plain xs _ _ hxs rs y (by simpa using hy)
  rw [SeqAt.readOf_plain hcy ry]
  refine at_d dy d A.in1 s y x _ _ ry rx (.inr ⟨hcy, hd⟩) ?_
  have : min dy.depth d.depth ≤ d.depth := Nat.min_le_right _ _
  show A.units + 1 + min dy.depth d.depth < cLine
  omega
def rInZ : R2 := fun x y H Q => ∃ A d ds, Rp A H x d ∧ (Rp A H y (.list ds) ∨ Rp A H y (.tuple ds)) ∧ PyData.plainAll ds = true ∧ pl0 d = true ∧ d.depth ≤ 60 ∧ Q (.bl (ds.any fun z => PyData.eqv z d)) H
def rNinZ : R2 := fun x y H Q => ∃ A d ds, Rp A H x d ∧ (Rp A H y (.list ds) ∨ Rp A H y (.tuple ds)) ∧ PyData.plainAll ds = true ∧ pl0 d = true ∧ d.depth ≤ 60 ∧ Q (.bl (!ds.any fun z => PyData.eqv z d)) H
theorem op_inZ (hu : X.A.units + 64 < cLine) : OpR X (compareOp .In) rInZ := fun pins s σ H x y v u Q I rx ry h => by
  obtain ⟨A, d, ds, hd, hc, p1, p2, dp, q⟩ := h
  obtain ⟨as, r1, _⟩ := Rp.reads I d x v hd rx
  rcases hc with hc | hc
  · obtain ⟨bs, r2, _⟩ := Rp.reads I _ y u hc ry
    cases r2 with
    | list h1 h2 h3 h4 => exact SeqAt.in_listAt _ ⟨_, h1, h2, _, h3⟩ (items_z h4 r1 p1 p2 (by omega)) (by rw [SeqAt.any_plain h4 p1]; exact ⟨.bl _, H, I, rfl, q⟩)
  · obtain ⟨bs, r2, _⟩ := Rp.reads I _ y u hc ry
    cases r2 with
    | tuple h1 h2 h3 h4 => exact SeqAt.in_tupleAt _ ⟨_, h1, h2, _, h3⟩ (items_z h4 r1 p1 p2 (by omega)) (by rw [SeqAt.any_plain h4 p1]; exact ⟨.bl _, H, I, rfl, q⟩)
theorem op_ninZ (hu : X.A.units + 64 < cLine) : OpR X (compareOp .NotIn) rNinZ := fun pins s σ H x y v u Q I rx ry h => by
  obtain ⟨A, d, ds, hd, hc, p1, p2, dp, q⟩ := h
  obtain ⟨as, r1, _⟩ := Rp.reads I d x v hd rx
  rcases hc with hc | hc
  · obtain ⟨bs, r2, _⟩ := Rp.reads I _ y u hc ry
    cases r2 with
    | list h1 h2 h3 h4 => exact SeqAt.notIn_listAt _ ⟨_, h1, h2, _, h3⟩ (items_z h4 r1 p1 p2 (by omega)) (by rw [SeqAt.any_plain h4 p1]; exact ⟨.bl _, H, I, rfl, q⟩)
  · obtain ⟨bs, r2, _⟩ := Rp.reads I _ y u hc ry
    cases r2 with
    | tuple h1 h2 h3 h4 => exact SeqAt.notIn_tupleAt _ ⟨_, h1, h2, _, h3⟩ (items_z h4 r1 p1 p2 (by omega)) (by rw [SeqAt.any_plain h4 p1]; exact ⟨.bl _, H, I, rfl, q⟩)
def inZ (d c : PyData) : Option Bool := match c with
  | .list ds | .tuple ds => if PyData.plainAll ds = true ∧ pl0 d = true ∧ d.depth ≤ 60 then some (ds.any fun z => PyData.eqv z d) else none
  | _ => none
theorem inZ_some {d c : PyData} {b : Bool} (h : inZ d c = some b) : ∃ ds, (c = .list ds ∨ c = .tuple ds) ∧ PyData.plainAll ds = true ∧ pl0 d = true ∧ d.depth ≤ 60 ∧ (ds.any fun z => PyData.eqv z d) = b := by
  cases c with
  | list ds => obtain ⟨⟨h1, h2, h3⟩, h4⟩ := oif (show (if PyData.plainAll ds = true ∧ pl0 d = true ∧ d.depth ≤ 60 then some (ds.any fun z => PyData.eqv z d) else none) = some b from h); exact ⟨ds, .inl rfl, h1, h2, h3, h4⟩
  | tuple ds => obtain ⟨⟨h1, h2, h3⟩, h4⟩ := oif (show (if PyData.plainAll ds = true ∧ pl0 d = true ∧ d.depth ≤ 60 then some (ds.any fun z => PyData.eqv z d) else none) = some b from h); exact ⟨ds, .inr rfl, h1, h2, h3, h4⟩
  | _ => cases h
theorem v_inZ : VOp rInZ ea eb eBool (fun x xs => inZ (ea x) (eb xs)) := fun A H x xs vx vy Q z ad r1 r2 e q => by
  obtain ⟨ds, hc, h1, h2, h3, rfl⟩ := inZ_some e
  refine ⟨A, _, ds, r1, ?_, h1, h2, h3, q _ H (Same.refl H) (.bl _)⟩
  rcases hc with hc | hc
  · rw [hc] at r2; exact .inl r2
  · rw [hc] at r2; exact .inr r2
theorem v_ninZ : VOp rNinZ ea eb eBool (fun x xs => (inZ (ea x) (eb xs)).map (!·)) := fun A H x xs vx vy Q z ad r1 r2 e q => by
  obtain ⟨b, e1, rfl⟩ := Option.map_eq_some_iff.mp e
  obtain ⟨ds, hc, h1, h2, h3, rfl⟩ := inZ_some e1
  refine ⟨A, _, ds, r1, ?_, h1, h2, h3, q _ H (Same.refl H) (.bl _)⟩
  rcases hc with hc | hc
  · rw [hc] at r2; exact .inl r2
  · rw [hc] at r2; exact .inr r2
theorem e_inZ {k : Nat} {ma : M α} {mb : M β} (hr : Room k X.A) (ha : EJ X R Γ a ea ma) (hb : EJ X R Γ b eb mb) (hmk : behindInMarks .In b = false := by rfl) : EJ X R Γ (.Compare a [.In] [b] pos) eBool (bindM ma fun x => bindM mb fun y => optM (inZ (ea x) (eb y))) := e_cmp (op_inZ hr.units) v_inZ ha hb hmk
theorem e_ninZ {k : Nat} {ma : M α} {mb : M β} (hr : Room k X.A) (ha : EJ X R Γ a ea ma) (hb : EJ X R Γ b eb mb) (hmk : behindInMarks .NotIn b = false := by rfl) : EJ X R Γ (.Compare a [.NotIn] [b] pos) eBool (bindM ma fun x => bindM mb fun y => optM ((inZ (ea x) (eb y)).map (!·))) := e_cmp (op_ninZ hr.units) v_ninZ ha hb hmk
theorem t_inZ {k : Nat} {ma : M α} {mb : M β} (hr : Room k X.A) (ha : EJ X R Γ a ea ma) (hb : EJ X R Γ b eb mb) (hmk : behindInMarks .In b = false := by rfl) : TJ X R Γ (.Compare a [.In] [b] pos) (bindM ma fun x => bindM mb fun y => optM (inZ (ea x) (eb y))) := t_cmp (op_inZ hr.units) v_inZ ha hb hmk
theorem t_ninZ {k : Nat} {ma : M α} {mb : M β} (hr : Room k X.A) (ha : EJ X R Γ a ea ma) (hb : EJ X R Γ b eb mb) (hmk : behindInMarks .NotIn b = false := by rfl) : TJ X R Γ (.Compare a [.NotIn] [b] pos) (bindM ma fun x => bindM mb fun y => optM ((inZ (ea x) (eb y)).map (!·))) := t_cmp (op_ninZ hr.units) v_ninZ ha hb hmk

/-! ### a < b < c -/
theorem chain_read {r r' : R2} {ma : M α} {mb : M β} {mc : M γ} {f : α → β → Option Bool} {g : β → γ → Option Bool} (hv : VOp r ea eb eBool f) (hv' : VOp r' eb ec eBool g) {σ : L2.St} {H : Hp} {Q : VK}
    (h : tE R Γ eBool (bindM ma fun x => bindM mb fun y => bindM (optM (f x y)) fun k => if k then bindM mc fun z => optM (g y z) else pureM false) σ H Q) : tChain r r' (tE R Γ ea ma) (tE R Γ eb mb) (tE R Γ ec mc) σ H Q := by
  obtain ⟨O, H0, ow, st, z, st', rel, ok, e, q⟩ := h
  obtain ⟨x, s1, e1, e2⟩ := bind_some e
  obtain ⟨y, s2, e3, e4⟩ := bind_some e2
  obtain ⟨k, s3, e5, e6⟩ := bind_some e4
  obtain ⟨e7, rfl⟩ := optM_inv e5
  refine ⟨O, H0, ow, st, x, s1, rel, ok, e1, fun vx H1 k1 o1 r1 => ?_⟩
  have rel1 := rel.grow k1 (okZ o1)
  refine ⟨O, H0, ow, s1, y, s2, rel1, o1, e3, fun vy H2 k2 o2 r2 => ?_⟩
  have rel2 := rel1.grow k2 (okZ o2)
  refine hv (avo O Γ ow) H2 x y vx vy _ k rel2.ad (r1.keep (rel1.keepA k2)) r2 e7 fun v H3 s3' r3 => ?_
  cases r3
  refine ⟨k, rfl, ?_⟩
  have k3 := Keep.of_same (A := Zr R) s3'
  have o3 := o2.same s3'
  have rel3 := rel2.grow k3 (okZ o3)
  cases k with
  | false =>
    obtain ⟨rfl, rfl⟩ := pure_some (show pureM false s2 = some (z, st') from e6)
    exact L2.iteF (q _ H3 ((k1.trans k2).trans k3) o3 (.bl false))
  | true =>
    obtain ⟨w, s4, e8, e9⟩ := bind_some (show bindM mc (fun z => optM (g y z)) s2 = some (z, st') from e6)
    obtain ⟨e10, rfl⟩ := optM_inv e9
    refine L2.iteT ⟨O, H0, ow, s2, w, s4, rel3, o3, e8, fun vz H4 k4 o4 r4 => ?_⟩
    have rel4 := rel3.grow k4 (okZ o4)
    exact hv' (avo O Γ ow) H4 y w vy vz Q z rel4.ad ((r2.keep (rel2.keepA k3)).keep (rel3.keepA k4)) r4 e10 fun v H5 s5 r5 => q v H5 (((k1.trans k2).trans k3).trans (k4.trans (Keep.of_same s5))) (o4.same s5) r5
theorem e_chain {op op' : CmpOp} {r r' : R2} {ma : M α} {mb : M β} {mc : M γ} {f : α → β → Option Bool} {g : β → γ → Option Bool} (ho : OpR X (compareOp op) r) (ho' : OpR X (compareOp op') r') (hv : VOp r ea eb eBool f) (hv' : VOp r' eb ec eBool g)
    (ha : EJ X R Γ a ea ma) (hb : EJ X R Γ b eb mb) (hc : EJ X R Γ c ec mc) (hm : lastMarks [op, op'] [b, c] = false := by first | rfl | with_unfolding_all rfl) :
    EJ X R Γ (.Compare a [op, op'] [b, c] pos) eBool (bindM ma fun x => bindM mb fun y => bindM (optM (f x y)) fun k => if k then bindM mc fun z => optM (g y z) else pureM false) :=
  PE.weak (pe_chain ho ho' ha hb hc hm) fun σ H Q h => chain_read hv hv' h
theorem t_chain {op op' : CmpOp} {r r' : R2} {ma : M α} {mb : M β} {mc : M γ} {f : α → β → Option Bool} {g : β → γ → Option Bool} (ho : OpR X (compareOp op) r) (ho' : OpR X (compareOp op') r') (hv : VOp r ea eb eBool f) (hv' : VOp r' eb ec eBool g)
    (ha : EJ X R Γ a ea ma) (hb : EJ X R Γ b eb mb) (hc : EJ X R Γ c ec mc) (hm : lastMarks [op, op'] [b, c] = false := by first | rfl | with_unfolding_all rfl) :
    TJ X R Γ (.Compare a [op, op'] [b, c] pos) (bindM ma fun x => bindM mb fun y => bindM (optM (f x y)) fun k => if k then bindM mc fun z => optM (g y z) else pureM false) := by
  refine PT.weak (pt_chain ho ho' ha hb hc hm) fun σ H Q h => ?_
  refine chain_read (Q := fun v H' => ∃ k, v = .bl k ∧ Q k H') hv hv' ?_
  obtain ⟨O, H0, ow, st, z, st', rel, ok, e, q⟩ := h
  exact ⟨O, H0, ow, st, z, st', rel, ok, e, fun v H' k o r => by cases r; exact ⟨_, rfl, q H' k o⟩⟩
end
end Pz

namespace Pz
open PySem PySem.Spec PyProof.Rows L2

section
variable {α β γ δ κ ρ ι : Type} {ea : α → PyData} {eb : β → PyData} {ec : γ → PyData} {er : ρ → PyData} {ei : ι → PyData} {X : Cx} {R : Res} {Γ Γ' : List Slot} {e a b c : Expr} {st : Stmt} {rest A B body : List Stmt} {pos : Pos} {out : κ → OutD}
/-! ### a tuple taken apart -/
def of2 (xs : List α) : Option (α × α × Unit) := match xs with
  | [a, b] => some (a, b, ())
  | _ => none
def of3 (xs : List α) : Option (α × α × α × Unit) := match xs with
  | [a, b, c] => some (a, b, c, ())
  | _ => none
def of4 (xs : List α) : Option (α × α × α × α × Unit) := match xs with
  | [a, b, c, d] => some (a, b, c, d, ())
  | _ => none
theorem e_of2 {m : M (List α)} (h : EJ X R Γ e (eT ea) m) : EJ X R Γ e (eP (eC ea (eC ea eU))) (bindM m fun x => optM (of2 x)) := e_narrow of2 h fun x y q => by
  unfold of2 at q
  split at q
  · cases q; rfl
  · cases q
theorem e_of3 {m : M (List α)} (h : EJ X R Γ e (eT ea) m) : EJ X R Γ e (eP (eC ea (eC ea (eC ea eU)))) (bindM m fun x => optM (of3 x)) := e_narrow of3 h fun x y q => by
  unfold of3 at q
  split at q
  · cases q; rfl
  · cases q
theorem e_of4 {m : M (List α)} (h : EJ X R Γ e (eT ea) m) : EJ X R Γ e (eP (eC ea (eC ea (eC ea (eC ea eU))))) (bindM m fun x => optM (of4 x)) := e_narrow of4 h fun x y q => by
  unfold of4 at q
  split at q
  · cases q; rfl
  · cases q
/-! ### a, b = (.., [..]): the second is an own list -/
theorem q_par2o (i j : Nat) {x y : Str} {a b : Expr} {px py pt : Pos} {kt k2 pt2} {ma : M α} {mb : M (List β)} (ha : EJ X R Γ a ea ma) (hb : EF X R Γ b eb mb) (hc : X.calm = true) (hN : X.N.Nodup) (hi : X.N[i]? = some x := by rfl) (hj : X.N[j]? = some y := by rfl) (hij : i ≠ j := by decide)
    (hx : X.env.scope.names.lookup x = some .local := by rfl) (hy : X.env.scope.names.lookup y = some .local := by rfl)
    (hw : swappedStores [.Tuple [.Name x px, .Name y py] kt pt] (.Tuple [a, b] k2 pt2) X.env = pure (some [x, y]) := by rfl)
    (hs : swapsWithSole [.Tuple [.Name x px, .Name y py] kt pt] (.Tuple [a, b] k2 pt2) pos.line X.env = pure false := by rfl)
    (hs1 : starEach [a, b] X.env = (false, eval a X.env) :: starEach [b] X.env := by rfl) (hs2 : starEach [b] X.env = (false, eval b X.env) :: starEach [] X.env := by rfl) :
    QJ X R Γ (.Assign [.Tuple [.Name x px, .Name y py] kt pt] (.Tuple [a, b] k2 pt2) pos) (fun p : α × List β => .nx ((Γ.set i (.fz (ea p.1))).set j (.ow (eL eb p.2)))) (bindM ma fun u => bindM mb fun v => pureM (u, v)) := by
  refine PS.weak (ps_par hc hN hi hj hij hx hy (pa_cons ha (pa_cons hb pa_nil hs2) hs1) hw hs) fun D σ H ⟨O, H0, ow, st, z, st', rel, ok, e, q⟩ => ?_
  obtain ⟨u, s1, e1, e2⟩ := bind_some e
  obtain ⟨v, s2, e3, e4⟩ := bind_some e2
  obtain ⟨rfl, rfl⟩ := pure_some e4
  refine ⟨O, H0, ow, st, u, s1, rel, ok, e1, fun vx H1 k1 o1 r1 => ?_⟩
  have rel1 := rel.grow k1 (okZ o1)
  refine ⟨O, H0, ow, s1, v, s2, rel1, o1, e3, fun p vs H2 n2 k2 o2 ep r2 => ?_⟩
  have relx := rel1.setFz i r1
  have less : ∀ a, avo O (Γ.set i (.fz (ea u))) ow a → avo O Γ ow a := fun a z => by
    rcases z with z | ⟨l, d, e5, e6⟩
    · exact .inl z
    · exact .inr ⟨l, d, set_noow _ _ e5, e6⟩
  obtain ⟨rel2, stp⟩ := relx.setOw j n2 k2 (okZ o2) ep (r2.less fun a z => z.elim (fun z => .inl (less a z)) .inr)
  refine ⟨vx, .ref p, rfl, q _ _ H2 rel2 o2 ⟨?_, fun l d e5 => ?_⟩⟩
  · exact rel.keepA (k1.trans k2)
  · rcases stp.sub l d e5 with z | z
    · exact .inl (less _ z)
    · by_cases na : avo O Γ ow ((fun l => if l = j then p else ow l) l)
      · exact .inl na
      · cases h : H ((fun l => if l = j then p else ow l) l) with
        | none => exact .inr rfl
        | some o =>
          have := rel.keepA k1 _ _ na h
          rw [this] at z; cases z
theorem e_some {m : M (Option α)} (h : EJ X R Γ e (eO ea) m) : EJ X R Γ e ea (bindM m fun x => optM x) := e_narrow (fun x => x) h fun x y q => by rw [q]; rfl
/-! ### {} as data -/
theorem e_dict0 : EJ X R Γ (.Dict [] [] pos) eD (pureM (.dict [])) := by
  refine PE.weak pe_dnewK fun σ H Q ⟨O, H0, ow, st, z, st', rel, ok, e, q⟩ => ?_
  obtain ⟨rfl, rfl⟩ := pure_some e
  intro p n
  exact q _ _ (Keep.of_same (same_new n)) (ok.same (same_new n)) (.dic (rel.ad.fresh n) upd_same rfl)
/-! ### more stars -/
theorem l_starL {es : List Expr} {p : Pos} {ma mb : M (List α)} (ha : EJ X R Γ a (eL ea) ma) (hb : LJ X R Γ es ea mb) (hs : starEach (.Starred a p :: es) X.env = (true, eval a X.env) :: starEach es X.env := by rfl) :
    LJ X R Γ (.Starred a p :: es) ea (bindM ma fun x => bindM mb fun y => pureM (x ++ y)) := by
  refine PA.weak (StX.pa_star ha hb hs) fun σ H Q ⟨O, H0, ow, st, z, st', rel, ok, e, q⟩ => ?_
  obtain ⟨x, s1, e1, e'⟩ := bind_some e
  obtain ⟨y, s2, e2, e3⟩ := bind_some e'
  obtain ⟨rfl, rfl⟩ := pure_some e3
  refine ⟨O, H0, ow, st, x, s1, rel, ok, e1, fun vx H1 k1 o1 r1 => ?_⟩
  cases r1 with
  | lst na ha hr =>
    refine ⟨_, _, rfl, .inr (SqL.of ha), O, H0, ow, s1, y, s2, rel.grow k1 (okZ o1), o1, e2, fun vs H2 k2 o2 r2 => q _ H2 (k1.trans k2) o2 ?_⟩
    have hr2 := hr.keep ((rel.grow k1 (okZ o1)).keepA k2)
    have all := hr2.append (RpSs.dat (R := R) r2)
    rw [← List.map_append] at all
    have back : ∀ {vs : List V} {ds : List PyData}, RpAll (avo O Γ ow) H2 vs ds → RpSs R (avo O Γ ow) H2 vs (ds.map .fz) := by
      intro vs ds
      induction ds generalizing vs with
      | nil => intro h; cases h; exact .nil
      | cons d ds ih => intro h; cases h with | cons h1 h2 => exact .cons h1 (ih h2)
    exact back all
end
end Pz

namespace Pz
open PySem PySem.Spec PyProof.Rows L2
/-! ### sorted rows of ints: the order of lists -/
theorem rowsLe : PySem.W.dataLe false (eT eInt) = fun (p q : List Int) => decide (p ≤ q) := PySem.W.dataLe_rows (β := List Int) (fun x => x)
theorem srt_rows (xs : List (List Int)) : srt (eT eInt) xs = xs.mergeSort fun p q => decide (p ≤ q) := by unfold srt; rw [rowsLe]
theorem intsLe : PySem.W.dataLe false eInt = fun (p q : Int) => decide (p ≤ q) := PySem.W.dataLe_int (β := Int) (fun x => x)
theorem srt_ints (xs : List Int) : srt eInt xs = xs.mergeSort fun p q => decide (p ≤ q) := by unfold srt; rw [intsLe]
theorem rows_anti (a b : List Int) (h1 : a ≤ b) (h2 : b ≤ a) : a = b := Std.le_antisymm h1 h2
theorem srt_sorted (xs : List (List Int)) : (srt (eT eInt) xs).Pairwise (· ≤ ·) := by
  rw [srt_rows]
  have := List.pairwise_mergeSort (le := fun p q : List Int => decide (p ≤ q)) (fun a b c h1 h2 => by simp only [decide_eq_true_eq] at h1 h2 ⊢; exact Std.le_trans h1 h2) (fun a b => by simp only [Bool.or_eq_true, decide_eq_true_eq]; exact Std.le_total) xs
  exact this.imp fun h => by simpa using h
/-- sorted, and the same items: the same list -/
theorem srt_eq {xs ys : List (List Int)} (hp : xs.Perm ys) (hs : ys.Pairwise (· ≤ ·)) : srt (eT eInt) xs = ys := by
  have h1 : (srt (eT eInt) xs).Perm ys := (List.mergeSort_perm _ _).trans hp
  exact h1.eq_of_pairwise (fun a b _ _ => rows_anti a b) (srt_sorted xs) hs
end Pz

namespace Pz
open PySem PySem.Spec PyProof.Rows L2
/-! ### the lots of k of n points, the first first -/
def nextL (lot : List Int) : Int := match lot.getLast? with
  | some x => x + 1
  | none => 0
def lotsL (n : Int) : Nat → List (List Int)
  | 0 => [[]]
  | k + 1 => (lotsL n k).flatMap fun lot => (irange (nextL lot) n).map fun b => lot ++ [b]
/-- rising, from lo on, below n -/
def Lot (n : Int) (lot : List Int) : Prop := lot.Pairwise (· < ·) ∧ ∀ x ∈ lot, 0 ≤ x ∧ x < n
theorem nextL_snoc (l : List Int) (b : Int) : nextL (l ++ [b]) = b + 1 := by unfold nextL; rw [List.getLast?_concat]
theorem lot_next {n : Int} {lot : List Int} (h : Lot n lot) : 0 ≤ nextL lot ∧ ∀ x ∈ lot, x < nextL lot := by
  rcases List.eq_nil_or_concat lot with rfl | ⟨l, b, rfl⟩
  · exact ⟨by decide, by simp⟩
  · rw [List.concat_eq_append] at h ⊢
    rw [nextL_snoc]
    have hb := h.2 b (by simp)
    refine ⟨by omega, fun x hx => ?_⟩
    rcases List.mem_append.mp hx with hx | hx
    · have := (List.pairwise_append.mp h.1).2.2 x hx b (by simp)
      omega
    · rw [List.mem_singleton] at hx; omega
theorem lot_snoc {n : Int} {l : List Int} {b : Int} : Lot n (l ++ [b]) ↔ Lot n l ∧ nextL l ≤ b ∧ b < n := by
  constructor
  · intro h
    have hl : Lot n l := ⟨(List.pairwise_append.mp h.1).1, fun x hx => h.2 x (List.mem_append_left _ hx)⟩
    have hb := h.2 b (by simp)
    refine ⟨hl, ?_, hb.2⟩
    rcases List.eq_nil_or_concat l with rfl | ⟨m, c, rfl⟩
    · exact hb.1
    · rw [List.concat_eq_append] at h ⊢
      rw [nextL_snoc]
      have := (List.pairwise_append.mp h.1).2.2 c (by simp) b (by simp)
      omega
  · rintro ⟨hl, h1, h2⟩
    have nx := lot_next hl
    refine ⟨List.pairwise_append.mpr ⟨hl.1, by simp, fun x hx y hy => ?_⟩, fun x hx => ?_⟩
    · rw [List.mem_singleton] at hy
      have := nx.2 x hx
      omega
    · rcases List.mem_append.mp hx with hx | hx
      · exact hl.2 x hx
      · rw [List.mem_singleton] at hx; omega
theorem mem_lotsL {n : Int} : ∀ {k : Nat} {lot : List Int}, lot ∈ lotsL n k ↔ Lot n lot ∧ lot.length = k
  | 0, lot => by
    simp only [lotsL, List.mem_singleton]
    constructor
    · rintro rfl; exact ⟨⟨.nil, by simp⟩, rfl⟩
    · rintro ⟨_, h⟩; exact List.eq_nil_of_length_eq_zero h
  | k + 1, lot => by
    simp only [lotsL, List.mem_flatMap, List.mem_map, mem_irange]
    constructor
    · rintro ⟨l, hl, b, ⟨h1, h2⟩, rfl⟩
      have := mem_lotsL.mp hl
      exact ⟨lot_snoc.mpr ⟨this.1, h1, h2⟩, by simp [this.2]⟩
    · rintro ⟨h, hk⟩
      rcases List.eq_nil_or_concat lot with rfl | ⟨l, b, rfl⟩
      · simp at hk
      · rw [List.concat_eq_append] at *
        obtain ⟨hl, h1, h2⟩ := lot_snoc.mp h
        exact ⟨l, mem_lotsL.mpr ⟨hl, by simpa using hk⟩, b, ⟨h1, h2⟩, rfl⟩
theorem lt_app : ∀ {a b : List Int} (x y : List Int), a.length = b.length → a < b → a ++ x < b ++ y
  | [], [], _, _, _, h => absurd h (by simp)
  | a :: as, b :: bs, x, y, hl, h => by
    rw [List.cons_append, List.cons_append, List.cons_lt_cons_iff]
    rcases List.cons_lt_cons_iff.mp h with h | ⟨e, h2⟩
    · exact .inl h
    · exact .inr ⟨e, lt_app x y (by simpa using hl) h2⟩
theorem app_lt : ∀ (a : List Int) {x y : List Int}, x < y → a ++ x < a ++ y
  | [], _, _, h => h
  | a :: as, _, _, h => by
    rw [List.cons_append, List.cons_append, List.cons_lt_cons_iff]
    exact .inr ⟨rfl, app_lt as h⟩
theorem irange_sorted (lo hi : Int) : (irange lo hi).Pairwise (· < ·) := by
  unfold irange
  rw [List.pairwise_map]
  exact List.pairwise_lt_range.imp fun h => by omega
theorem lotsL_sorted {n : Int} : ∀ k : Nat, (lotsL n k).Pairwise (· < ·)
  | 0 => by simp [lotsL]
  | k + 1 => by
    unfold lotsL
    rw [List.pairwise_flatMap]
    refine ⟨fun l _ => ?_, ?_⟩
    · rw [List.pairwise_map]
      exact (irange_sorted _ _).imp fun {a b} h => app_lt l (List.cons_lt_cons_iff.mpr (.inl h))
    · refine (lotsL_sorted k).imp_of_mem fun {a b} ha hb h x hx y hy => ?_
      obtain ⟨c, _, rfl⟩ := List.mem_map.mp hx
      obtain ⟨d, _, rfl⟩ := List.mem_map.mp hy
      exact lt_app _ _ (by rw [(mem_lotsL.mp ha).2, (mem_lotsL.mp hb).2]) h
theorem lotsL_nodup {n : Int} (k : Nat) : (lotsL n k).Nodup := (lotsL_sorted k).imp fun h e => by rw [e] at h; exact absurd h (Std.lt_irrefl)
/-- a list of the same lots, none twice: sorted, it is lotsL -/
theorem srt_lots {n : Int} {k : Nat} {xs : List (List Int)} (hn : xs.Nodup) (hm : ∀ l, l ∈ xs ↔ Lot n l ∧ l.length = k) : srt (eT eInt) xs = lotsL n k := by
  refine srt_eq ((List.perm_ext_iff_of_nodup hn (lotsL_nodup k)).mpr fun a => by rw [hm, mem_lotsL]) ?_
  exact (lotsL_sorted k).imp fun h => Std.le_of_lt h
end Pz

/-! the plain side, part two: lists, shown data, heads -/
namespace Pz
open PySem PySem.Spec PyProof.Rows L2
section
variable {α β γ κ ρ ι : Type}
theorem sm100 {xs : List α} (h : xs.length ≤ 100) : smallM (pureM xs) = pureM xs := smallM_pure (by unfold sizeLine; omega)
theorem forM_append {β ι : Type} (f : β → ι → M β) : ∀ (xs ys : List ι) (b : β), forM' f (xs ++ ys) b = Pz.bindM (forM' f xs b) fun c => forM' f ys c
  | [], ys, b => rfl
  | x :: xs, ys, b => by
    rw [List.cons_append, forM', forM', Pz.bind_assoc]
    congr 1
    funext c
    exact forM_append f xs ys c
theorem irange_succ (m : Nat) : irange 0 ((m : Int) + 1) = irange 0 m ++ [(m : Int)] := by
  unfold irange
  rw [show ((m : Int) + 1 - 0).toNat = m + 1 by omega, show ((m : Int) - 0).toNat = m by omega, List.range_succ, List.map_append]
  simp
theorem irange_snoc {lo hi : Int} (h : lo ≤ hi) : irange lo (hi + 1) = irange lo hi ++ [hi] := by
  unfold irange
  rw [show (hi + 1 - lo).toNat = (hi - lo).toNat + 1 by omega, List.range_succ, List.map_append]
  simp
  omega
theorem irange_cons {lo hi : Int} (h : lo < hi) : irange lo hi = lo :: irange (lo + 1) hi := by
  unfold irange
  rw [show (hi - lo).toNat = (hi - (lo + 1)).toNat + 1 by omega, List.range_succ_eq_map, List.map_cons, List.map_map]
  simp
  intro a _
  omega
theorem irange_nil {lo hi : Int} (h : hi ≤ lo) : irange lo hi = [] := by
  unfold irange
  rw [show (hi - lo).toNat = 0 by omega]; rfl
theorem irange_nodup (lo hi : Int) : (irange lo hi).Nodup := (irange_sorted lo hi).imp fun h => by omega
theorem filt_map (q : α → Bool) (f : α → β) : ∀ xs : List α, (xs.flatMap fun x => if q x then [f x] else []) = (xs.filter q).map f
  | [] => rfl
  | x :: xs => by
    rw [List.flatMap_cons, filt_map q f xs]
    cases h : q x <;> simp [h]
theorem filter_flatMap' (q : β → Bool) (f : α → List β) : ∀ xs : List α, (xs.flatMap f).filter q = xs.flatMap fun x => (f x).filter q
  | [] => rfl
  | x :: xs => by rw [List.flatMap_cons, List.filter_append, filter_flatMap' q f xs, List.flatMap_cons]
theorem flatMap_filter' (q : α → Bool) (f : α → List β) : ∀ xs : List α, (xs.filter q).flatMap f = xs.flatMap fun x => if q x then f x else []
  | [] => rfl
  | x :: xs => by
    cases h : q x with
    | true => rw [List.filter_cons_of_pos h, List.flatMap_cons, List.flatMap_cons, h, flatMap_filter' q f xs]; rfl
    | false => rw [List.filter_cons_of_neg (by rw [h]; simp), List.flatMap_cons, h, flatMap_filter' q f xs]; rfl
theorem atI_lastq (xs : List α) (x : α) : atI (xs ++ [x]) (-1) = some x := by
  unfold atI L2.ixN
  rw [if_neg (by omega), List.length_append, List.length_singleton, if_pos (by omega), show (-1 + ((xs.length + 1 : Nat) : Int)).toNat = xs.length by omega]
  simp
theorem cut_to (xs : List α) {n : Int} (h : 0 ≤ n) : cutL xs none (some n) = xs.take n.toNat := by
  unfold cutL HT.sIx
  dsimp only
  rw [if_neg (by omega), List.drop_zero, Nat.sub_zero, ← List.take_take, List.take_length]
theorem cut_from (xs : List α) {n : Int} (h : 0 ≤ n) : cutL xs (some n) none = xs.drop n.toNat := by
  unfold cutL HT.sIx
  dsimp only
  rw [if_neg (by omega)]
  by_cases hl : n.toNat ≤ xs.length
  · rw [Nat.min_eq_left hl, List.take_of_length_le (by rw [List.length_drop]; omega)]
  · rw [Nat.min_eq_right (by omega), List.drop_eq_nil_of_le (Nat.le_refl _), List.drop_eq_nil_of_le (by omega)]; simp
theorem enumF_snoc (b : α) : ∀ (k : Nat) (xs : List α), enumF k (xs ++ [b]) = enumF k xs ++ [(((k + xs.length : Nat) : Int), b, ())]
  | k, [] => by simp [enumF]
  | k, x :: xs => by
    rw [List.cons_append, enumF, enumF_snoc b (k + 1) xs, enumF, List.cons_append]
    simp only [List.length_cons]
    rw [show k + 1 + xs.length = k + (xs.length + 1) by omega]
theorem enum_lt {xs : List α} {q : Int × α × Unit} (h : q ∈ enumL xs) : 0 ≤ q.1 ∧ q.1 < xs.length ∧ xs[q.1.toNat]? = some q.2.1 := by
  obtain ⟨i, hi⟩ := List.mem_iff_getElem?.mp h
  rw [enumL_get] at hi
  obtain ⟨x, hx, e⟩ := Option.map_eq_some_iff.mp hi
  have h1 := (List.getElem?_eq_some_iff.mp hx).1
  subst e
  exact ⟨Int.natCast_nonneg i, by show (i : Int) < _; omega, by simpa using hx⟩
theorem enum_mem {xs : List α} {q : Int × α × Unit} (h : q ∈ enumL xs) : q.2.1 ∈ xs := List.mem_of_getElem? (enum_lt h).2.2
theorem enumF_map (f : α → β) : ∀ (k : Nat) (xs : List α), enumF k (xs.map f) = (enumF k xs).map fun p => (p.1, f p.2.1, ())
  | _, [] => rfl
  | k, x :: xs => by rw [List.map_cons, enumF, enumF, List.map_cons, enumF_map f (k + 1) xs]
theorem enum_map (f : α → β) (xs : List α) : enumL (xs.map f) = (enumL xs).map fun p => (p.1, f p.2.1, ()) := enumF_map f 0 xs
theorem comp_map (c : β → M Bool) (f : β → M γ) (g : α → β) : ∀ xs : List α, compM c f (xs.map g) = compM (fun x => c (g x)) (fun x => f (g x)) xs
  | [] => rfl
  | x :: xs => by rw [List.map_cons, compM, compM, comp_map c f g xs]
theorem forO_map {f : β → γ → M (Out ρ β)} (g : α → γ) : ∀ (xs : List α) (b : β), forO f (xs.map g) b = forO (fun b x => f b (g x)) xs b
  | [], b => rfl
  | x :: xs, b => by
    rw [List.map_cons, forO, forO]
    congr 1
    funext o
    cases o with
    | nx b => exact forO_map g xs b
    | rt r => rfl
theorem forO_some {f : β → ι → M (Out ρ β)} (g : ι → Option ρ) (b : β) : ∀ {xs : List ι}, (∀ x ∈ xs, f b x = pureM (match g x with | some r => .rt r | none => .nx b)) → forO f xs b = pureM (match xs.findSome? g with | some r => .rt r | none => .nx b)
  | [], _ => rfl
  | x :: xs, hf => by
    unfold forO
    rw [hf x List.mem_cons_self, bp]
    cases h : g x with
    | some r => simp [List.findSome?, h]
    | none =>
      dsimp only
      rw [forO_some g b fun y hy => hf y (List.mem_cons_of_mem _ hy)]
      simp [List.findSome?, h]
theorem compM_pureF {c : ι → M Bool} (cc : ι → Bool) {xs : List ι} (h : ∀ x ∈ xs, c x = pureM (cc x)) : compM c (fun x => pureM x) xs = pureM (xs.filter cc) := by
  rw [compM_pure cc (fun x => x) h fun _ _ _ => rfl, List.map_id']
theorem at0 (x : α) (r : List α) : atI (x :: r) 0 = some x := Pz.atI_nat (xs := x :: r) (i := 0) (Nat.succ_pos _)
theorem at1 (x y : α) (r : List α) : atI (x :: y :: r) 1 = some y := Pz.atI_nat (xs := x :: y :: r) (i := 1) (by simp)
theorem at2 (x y z : α) (r : List α) : atI (x :: y :: z :: r) 2 = some z := Pz.atI_nat (xs := x :: y :: z :: r) (i := 2) (by simp)
theorem asTup_t (ds : List PyData) : asTup (.tuple ds) = some ds := rfl
theorem find_head (q : α → Bool) (xs : List α) : (xs.filter q).head? = xs.find? q := List.head?_filter ..

/-! ### whole numbers among data -/
def isWN : PyData → Bool
  | .int _ => true
  | _ => false
theorem wn_ints : ∀ {ys : List PyData}, ys.all isWN = true → ∃ xs : List Int, ys.mapM asInt = some xs ∧ ys = xs.map eInt
  | [], _ => ⟨[], rfl, rfl⟩
  | y :: ys, h => by
    rw [List.all_cons, Bool.and_eq_true] at h
    obtain ⟨xs, e1, e2⟩ := wn_ints h.2
    cases y with
    | int i =>
      refine ⟨i :: xs, ?_, by rw [e2]; rfl⟩
      rw [List.mapM_cons]
      show (some i).bind _ = _
      rw [Option.bind_some, e1]
      rfl
    | _ => simp [isWN] at h
theorem mapM_ints : ∀ xs : List Int, (xs.map eInt).mapM asInt = some xs
  | [] => rfl
  | x :: xs => by
    rw [List.map_cons, List.mapM_cons, mapM_ints xs]; rfl
theorem all_ints (xs : List Int) : (xs.map eInt).all isWN = true := by
  rw [List.all_eq_true]
  intro d hd
  obtain ⟨i, _, rfl⟩ := List.mem_map.mp hd
  rfl

/-! ### comparing -/
theorem eqZ_str (s t : Str) : eqZ (.str s) (eStr t) = some (decide (s = t)) := by
  unfold eqZ
  rw [if_pos ⟨rfl, by simp [PyData.depth]⟩]
  simp [eStr, PyData.eqv]
  exact Bool.beq_eq_decide_eq s t
theorem pl0s_filter {p : PyData → Bool} : ∀ {ys : List PyData}, pl0s ys = true → pl0s (ys.filter p) = true
  | [], _ => rfl
  | y :: ys, h => by
    simp only [pl0s, Bool.and_eq_true] at h
    cases hy : p y with
    | true => rw [List.filter_cons_of_pos hy]; simp only [pl0s, Bool.and_eq_true]; exact ⟨h.1, pl0s_filter h.2⟩
    | false => rw [List.filter_cons_of_neg (by rw [hy]; simp)]; exact pl0s_filter h.2
theorem depth_filter {p : PyData → Bool} : ∀ {ys : List PyData}, PyData.depthAll (ys.filter p) ≤ PyData.depthAll ys
  | [] => Nat.le_refl _
  | y :: ys => by
    have ih := depth_filter (p := p) (ys := ys)
    cases hy : p y with
    | true => rw [List.filter_cons_of_pos hy]; simp only [PyData.depthAll]; omega
    | false => rw [List.filter_cons_of_neg (by rw [hy]; simp)]; simp only [PyData.depthAll]; omega
/-- a list of data compared with [] -/
theorem eqZ_nil {ys : List PyData} (hp : pl0s ys = true) (hd : PyData.depthAll ys ≤ 58) : eqZ (eL eD ys) (eL eD []) = some ys.isEmpty := by
  have e : eqZ (eL eD ys) (eL eD []) = some (PyData.eqv (eL eD ys) (eL eD [])) := by
    unfold eqZ
    refine if_pos ⟨?_, by simp only [eL, PyData.depth, map_eD]; omega⟩
    unfold cmB
    rw [Bool.or_eq_true]
    left
    rw [Bool.and_eq_true]
    exact ⟨by simpa [eL, pl0, map_eD] using hp, rfl⟩
  rw [e]
  cases ys with
  | nil => rfl
  | cons a l => simp [eL, PyData.eqv, PyData.eqvAll]

/-! ### shown data: f: no list in it (then empty dicts may be), else no dict -/
structure Sg (f : Bool) (dp wt : Nat) (d : PyData) : Prop where
  show_ : d.showable = true
  dic : if f then noLst d = true else d.hasDict = false
  dep : d.depth ≤ dp
  leaf : d.leavesShort 40 = true
  wgt : d.weight ≤ wt
structure Sgs (f : Bool) (dp wt : Nat) (ds : List PyData) : Prop where
  show_ : PyData.showableAll ds = true
  dic : if f then noLsts ds = true else PyData.hasDictAll ds = false
  dep : PyData.depthAll ds ≤ dp
  leaf : PyData.leavesShortAll 40 ds = true
  wgt : PyData.weightAll ds ≤ wt
theorem Sg.mono {f : Bool} {dp wt dp' wt' : Nat} {d : PyData} (h : Sg f dp wt d) (h1 : dp ≤ dp') (h2 : wt ≤ wt') : Sg f dp' wt' d := ⟨h.show_, h.dic, Nat.le_trans h.dep h1, h.leaf, Nat.le_trans h.wgt h2⟩
theorem Sgs.mono {f : Bool} {dp wt dp' wt' : Nat} {d : List PyData} (h : Sgs f dp wt d) (h1 : dp ≤ dp') (h2 : wt ≤ wt') : Sgs f dp' wt' d := ⟨h.show_, h.dic, Nat.le_trans h.dep h1, h.leaf, Nat.le_trans h.wgt h2⟩
theorem Sg.rep {f : Bool} {wt : Nat} {d : PyData} (h : Sg f 60 wt d) (hw : 42 * wt + 40 ≤ 16777216 := by decide) : reprO d = some d.shown := by
  unfold reprO
  exact if_pos ⟨h.show_, (by
    have h2 := h.dic
    cases f with
    | true => exact fun _ => by simpa using h2
    | false => exact fun z => by simp only [Bool.false_eq_true, if_false] at h2; rw [h2] at z; cases z), h.dep, (by
    have h1 := PyData.shown_le 40 (by decide) d h.leaf
    have h2 : (40 + 2) * d.weight ≤ (40 + 2) * wt := Nat.mul_le_mul_left _ h.wgt
    rw [sizeLine_eq]
    omega)⟩
theorem Sg.of {dp wt : Nat} {d : PyData} (h : Sh dp wt d) : Sg false dp wt d := ⟨h.show_, by simpa using h.dic, h.dep, h.leaf, h.wgt⟩
theorem Sgs.nil {f : Bool} : Sgs f 0 0 [] := ⟨rfl, by cases f <;> rfl, by simp [PyData.depthAll], rfl, by simp [PyData.weightAll]⟩
theorem Sgs.cons {f : Bool} {dp w1 w2 : Nat} {d : PyData} {r : List PyData} (h : Sg f dp w1 d) (k : Sgs f dp w2 r) : Sgs f dp (w1 + 1 + w2) (d :: r) := by
  obtain ⟨a1, a2, a3, a4, a5⟩ := h
  obtain ⟨b1, b2, b3, b4, b5⟩ := k
  refine ⟨by simp [PyData.showableAll, a1, b1], ?_, by simp only [PyData.depthAll]; omega, by simp [PyData.leavesShortAll, a4, b4], by simp only [PyData.weightAll]; omega⟩
  cases f with
  | true => simp only [if_true] at a2 b2 ⊢; simp [noLsts, a2, b2]
  | false => simp only [Bool.false_eq_true, if_false] at a2 b2 ⊢; simp [PyData.hasDictAll, a2, b2]
theorem Sgs.all {f : Bool} {dp w : Nat} : ∀ {ds : List PyData}, (∀ d ∈ ds, Sg f dp w d) → Sgs f dp (ds.length * (w + 1)) ds
  | [], _ => Sgs.nil.mono (Nat.zero_le _) (Nat.zero_le _)
  | d :: ds, h => (Sgs.cons (h d List.mem_cons_self) (Sgs.all fun x hx => h x (List.mem_cons_of_mem _ hx))).mono (Nat.le_refl _) (by
      rw [List.length_cons, Nat.succ_mul]; omega)
theorem Sgs.mem {f : Bool} {dp wt : Nat} : ∀ {ds : List PyData}, Sgs f dp wt ds → ∀ d ∈ ds, Sg f dp wt d
  | [], _, _, h => nomatch h
  | x :: xs, k, d, h => by
    obtain ⟨b1, b2, b3, b4, b5⟩ := k
    simp only [PyData.showableAll, PyData.depthAll, PyData.leavesShortAll, PyData.weightAll, Bool.and_eq_true] at b1 b3 b4 b5
    have b2' : (if f then noLst x = true else x.hasDict = false) ∧ (if f then noLsts xs = true else PyData.hasDictAll xs = false) := by
      cases f with
      | true => simpa [noLsts] using b2
      | false => simpa [PyData.hasDictAll] using b2
    rcases List.mem_cons.mp h with rfl | h
    · exact ⟨b1.1, b2'.1, by omega, b4.1, by omega⟩
    · exact Sgs.mem ⟨b1.2, b2'.2, by omega, b4.2, by omega⟩ d h
theorem Sg.tup {f : Bool} {dp wt : Nat} {ds : List PyData} (h : Sgs f dp wt ds) : Sg f (dp + 1) wt (.tuple ds) := by
  obtain ⟨b1, b2, b3, b4, b5⟩ := h
  refine ⟨by simpa [PyData.showable] using b1, ?_, by simp only [PyData.depth]; omega, by simpa [PyData.leavesShort] using b4, by simpa [PyData.weight] using b5⟩
  cases f with
  | true => simpa [noLst] using b2
  | false => simpa [PyData.hasDict] using b2
theorem Sg.parts {f : Bool} {dp wt : Nat} {ds : List PyData} (h : Sg f (dp + 1) wt (.tuple ds)) : Sgs f dp wt ds := by
  obtain ⟨b1, b2, b3, b4, b5⟩ := h
  refine ⟨by simpa [PyData.showable] using b1, ?_, by simp only [PyData.depth] at b3; omega, by simpa [PyData.leavesShort] using b4, by simpa [PyData.weight] using b5⟩
  cases f with
  | true => simpa [noLst] using b2
  | false => simpa [PyData.hasDict] using b2
theorem Sg.lst {dp wt : Nat} {ds : List PyData} (h : Sgs false dp wt ds) : Sg false (dp + 1) wt (.list ds) := by
  obtain ⟨b1, b2, b3, b4, b5⟩ := h
  exact ⟨by simpa [PyData.showable] using b1, by simpa [PyData.hasDict] using b2, by simp only [PyData.depth]; omega, by simpa [PyData.leavesShort] using b4, by simpa [PyData.weight] using b5⟩
theorem Sg.int {f : Bool} {i : Int} (h : i.natAbs < 10 ^ 30) : Sg f 0 100 (.int i) := by
  have k := Sh.big h
  exact ⟨k.show_, by cases f <;> rfl, k.dep, k.leaf, k.wgt⟩
theorem Sg.bool {f : Bool} {b : Bool} : Sg f 0 0 (.bool b) := ⟨rfl, by cases f <;> rfl, by simp [PyData.depth], rfl, by simp [PyData.weight]⟩
theorem Sg.non {f : Bool} : Sg f 0 0 .none := ⟨rfl, by cases f <;> rfl, by simp [PyData.depth], rfl, by simp [PyData.weight]⟩
theorem Sg.str {f : Bool} {s : Str} (h : s.cps.size ≤ 50) (h2 : (s.cps.toList.all fun c => decide (c < 16 ^ 8)) = true) : Sg f 0 50 (.str s) := ⟨rfl, by cases f <;> rfl, by simp [PyData.depth], by simpa [PyData.leavesShort] using h2, by simpa [PyData.weight] using h⟩
theorem Sg.dict : Sg true 1 0 (.dict []) := ⟨rfl, rfl, by simp [PyData.depth, PyData.depthKv], rfl, by simp [PyData.weight, PyData.weightKv]⟩
theorem Sg.ints {f : Bool} {xs : List Int} (n : Nat) (hn : xs.length ≤ n) (h : ∀ x ∈ xs, x.natAbs < 10 ^ 30) : Sg f 1 (n * 101) (eT eInt xs) := by
  have k := Sgs.all (f := f) (dp := 0) (w := 100) (ds := xs.map eInt) fun d hd => by
    obtain ⟨i, hi, rfl⟩ := List.mem_map.mp hd
    exact Sg.int (h i hi)
  rw [List.length_map] at k
  exact (Sg.tup k).mono (Nat.le_refl _) (Nat.mul_le_mul_right _ hn)
mutual
theorem noLst_pl0 : ∀ d : PyData, noLst d = true → pl0 d = true
  | .none, _ | .bool _, _ | .int _, _ | .str _, _ => rfl
  | .list ds, h => nomatch h
  | .tuple ds, h => noLsts_pl0 ds h
  | .dict _, h => h
theorem noLsts_pl0 : ∀ ds : List PyData, noLsts ds = true → pl0s ds = true
  | [], _ => rfl
  | d :: ds, h => by
    simp only [noLsts, Bool.and_eq_true] at h
    simp only [pl0s, noLst_pl0 d h.1, noLsts_pl0 ds h.2, Bool.and_self]
end
mutual
theorem noDict_plain : ∀ d : PyData, d.hasDict = false → d.plain = true
  | .none, _ | .bool _, _ | .int _, _ | .str _, _ => rfl
  | .list ds, h => noDicts_plain ds (by simpa [PyData.hasDict] using h)
  | .tuple ds, h => noDicts_plain ds (by simpa [PyData.hasDict] using h)
  | .dict _, h => by simp [PyData.hasDict] at h
theorem noDicts_plain : ∀ ds : List PyData, PyData.hasDictAll ds = false → PyData.plainAll ds = true
  | [], _ => rfl
  | d :: ds, h => by
    simp only [PyData.hasDictAll, Bool.or_eq_false_iff] at h
    simp only [PyData.plainAll, noDict_plain d h.1, noDicts_plain ds h.2, Bool.and_self]
end
theorem Sg.pl0 {f : Bool} {dp wt : Nat} {d : PyData} (h : Sg f dp wt d) : pl0 d = true := by
  have h2 := h.dic
  cases f with
  | true => exact noLst_pl0 d (by simpa using h2)
  | false => exact pl0_plain d (noDict_plain d (by simpa using h2))

/-! ### what a one-tuple shows -/
theorem cps_append (a b : Str) : (a ++ b).cps.toList = a.cps.toList ++ b.cps.toList := by
  show (Str.append a b).cps.toList = _
  unfold Str.append
  simp
theorem str_ext {a b : Str} (h : a.cps.toList = b.cps.toList) : a = b := by
  cases a; cases b; simp only [Str.mk.injEq]; exact Array.toList_inj.mp h
theorem repr_last (t : Str) : (reprText t).cps.toList.getLast? = some (reprQuote t) := by
  unfold reprText
  rw [Array.toList_push, List.getLast?_concat]
theorem quote_or (t : Str) : reprQuote t = 39 ∨ reprQuote t = 34 := by
  unfold reprQuote
  split
  · exact .inr rfl
  · exact .inl rfl
theorem shown_not_str {x : PyData} {t : Str} (h : ∀ s, x ≠ .str s) : x.shown ≠ PyData.shown (.str t) := by
  intro e
  have hl : x.shown.cps.toList.getLast? = some (reprQuote t) := by rw [e]; exact repr_last t
  have hq := quote_or t
  have last : ∀ (a b : Str) (c : Nat), b.cps.toList.getLast? = some c → (a ++ b).cps.toList.getLast? = some c := fun a b c hb => by
    rw [cps_append, List.getLast?_append, hb]; rfl
  cases x with
  | none =>
    rw [show (PyData.shown .none).cps.toList.getLast? = some 101 by decide +kernel, Option.some.injEq] at hl
    omega
  | bool b =>
    rw [show (PyData.shown (.bool b)).cps.toList.getLast? = some 101 by cases b <;> decide +kernel, Option.some.injEq] at hl
    omega
  | int i =>
    have hm := List.mem_of_getLast? hl
    rcases hq with q | q
    · rw [q] at hm; exact (shown_int_free_39 i).mp hm
    · rw [q] at hm; exact (shown_int_free_34 i).mp hm
  | str s => exact h s rfl
  | list ds =>
    have : (PyData.shown (.list ds)).cps.toList.getLast? = some 93 := by
      simp only [PyData.shown, listText]
      exact last _ _ _ (by decide +kernel)
    rw [this, Option.some.injEq] at hl
    omega
  | tuple ds =>
    have : (PyData.shown (.tuple ds)).cps.toList.getLast? = some 41 := by
      simp only [PyData.shown, tupleText]
      refine last _ _ _ ?_
      split <;> decide +kernel
    rw [this, Option.some.injEq] at hl
    omega
  | dict kvs =>
    have : (PyData.shown (.dict kvs)).cps.toList.getLast? = some 125 := by
      simp only [PyData.shown, dictText]
      exact last _ _ _ (by decide +kernel)
    rw [this, Option.some.injEq] at hl
    omega
theorem shown_one {x : PyData} {t : Str} (hs : ∀ s, x = .str s → PyData.shown (.str s) = PyData.shown (.str t) → s = t) : (PyData.tuple [x]).shown = (PyData.tuple [.str t]).shown ↔ x = .str t := by
  constructor
  · intro e
    have e2 : x.shown = PyData.shown (.str t) := by
      have : ∀ y : PyData, (PyData.tuple [y]).shown.cps.toList = ("(" : Str).cps.toList ++ y.shown.cps.toList ++ (",)" : Str).cps.toList := fun y => by
        simp only [PyData.shown, PyData.shownAll, tupleText, List.length_singleton, beq_self_eq_true, if_true]
        rw [cps_append, cps_append]; rfl
      have e3 := congrArg (fun z : Str => z.cps.toList) e
      simp only [this] at e3
      exact str_ext (List.append_cancel_left (List.append_cancel_right e3))
    by_cases h : ∃ s, x = .str s
    · obtain ⟨s, rfl⟩ := h
      rw [hs s rfl e2]
    · exact absurd e2 (shown_not_str fun s z => h ⟨s, z⟩)
  · rintro rfl; rfl
/-- the strings that may stand first -/
def HdS (S : List Str) (v : PyData) : Prop := ∀ s r, v = .tuple (.str s :: r) → s ∈ S
def okS (S T : List Str) : Bool := S.all fun s => T.all fun t => decide (PyData.shown (.str s) = PyData.shown (.str t)) == decide (s = t)
theorem head_in {f : Bool} {S T : List Str} {dp wt : Nat} (hST : okS S T = true) {x : PyData} {r : List PyData} (h : Sg f (dp + 1) wt (.tuple (x :: r))) (hS : HdS S (.tuple (x :: r))) (hdp : dp ≤ 58 := by decide) (hw : 42 * (wt + 1) + 40 ≤ 16777216 := by decide) :
    ∃ z, reprO (.tuple [x]) = some z ∧ ∀ t ∈ T, (z = (PyData.tuple [.str t]).shown ↔ x = .str t) := by
  have hx := h.parts.mem x List.mem_cons_self
  have h1 : Sg f (dp + 1) (wt + 1 + 0) (.tuple [x]) := Sg.tup (Sgs.cons hx (Sgs.nil.mono (Nat.zero_le _) (Nat.le_refl _)))
  refine ⟨_, (h1.mono (by omega) (Nat.le_refl _)).rep (by omega), fun t ht => shown_one fun s e1 e2 => ?_⟩
  subst e1
  have := List.all_eq_true.mp (List.all_eq_true.mp hST s (hS s r rfl)) t ht
  rw [beq_iff_eq, decide_eq_decide] at this
  exact this.mp e2
end
end Pz

namespace Pz
open PySem PySem.Spec PyProof.Rows L2
section
variable {α β γ δ κ ρ ι : Type} {ea : α → PyData} {eb : β → PyData} {ec : γ → PyData} {er : ρ → PyData} {ei : ι → PyData} {X : Cx} {R : Res} {Γ Γ' : List Slot} {e a b c : Expr} {st : Stmt} {rest A B body : List Stmt} {pos : Pos} {out : κ → OutD}
/-! ### a, b = [..], ..: the first is an own list -/
theorem q_par2p (i j : Nat) {x y : Str} {a b : Expr} {px py pt : Pos} {kt k2 pt2} {ma : M (List α)} {mb : M β} (ha : EF X R Γ a ea ma) (hb : EJ X R Γ b eb mb) (hn : NL eb) (hc : X.calm = true) (hN : X.N.Nodup) (hi : X.N[i]? = some x := by rfl) (hj : X.N[j]? = some y := by rfl) (hij : i ≠ j := by decide)
    (hx : X.env.scope.names.lookup x = some .local := by rfl) (hy : X.env.scope.names.lookup y = some .local := by rfl)
    (hw : swappedStores [.Tuple [.Name x px, .Name y py] kt pt] (.Tuple [a, b] k2 pt2) X.env = pure (some [x, y]) := by rfl)
    (hs : swapsWithSole [.Tuple [.Name x px, .Name y py] kt pt] (.Tuple [a, b] k2 pt2) pos.line X.env = pure false := by rfl)
    (hs1 : starEach [a, b] X.env = (false, eval a X.env) :: starEach [b] X.env := by rfl) (hs2 : starEach [b] X.env = (false, eval b X.env) :: starEach [] X.env := by rfl) :
    QJ X R Γ (.Assign [.Tuple [.Name x px, .Name y py] kt pt] (.Tuple [a, b] k2 pt2) pos) (fun p : List α × β => .nx ((Γ.set i (.ow (eL ea p.1))).set j (.fz (eb p.2)))) (bindM ma fun u => bindM mb fun v => pureM (u, v)) := by
  refine PS.weak (ps_par hc hN hi hj hij hx hy (pa_cons ha (pa_cons hb pa_nil hs2) hs1) hw hs) fun D σ H ⟨O, H0, ow, st, z, st', rel, ok, e, q⟩ => ?_
  obtain ⟨u, s1, e1, e2⟩ := bind_some e
  obtain ⟨v, s2, e3, e4⟩ := bind_some e2
  obtain ⟨rfl, rfl⟩ := pure_some e4
  refine ⟨O, H0, ow, st, u, s1, rel, ok, e1, fun p vs H1 n1 k1 o1 ep r1 => ?_⟩
  have rel1 := rel.grow k1 (okZ o1)
  refine ⟨O, H0, ow, s1, v, s2, rel1, o1, e3, fun vx H2 k2 o2 r2 => ?_⟩
  have np : ¬ Pz.avo O Γ ow p := rel.ad.fresh n1
  have ep2 : H2 p = some (.lst vs) := k2 _ _ (fun z => np (rel.zavo z)) ep
  have kA := rel1.keepA k2
  have r1' : RpAll (avp (Pz.avo O Γ ow) p) H2 vs (u.map ea) := r1.keep fun a o na h => kA a o (fun z => na (.inl z)) h
  obtain ⟨rel2, stp⟩ := rel.setOw i n1 (k1.trans k2) (okZ o2) ep2 r1'
  have r2' : Rp (Pz.avo O (Γ.set i (.ow (.list (u.map ea)))) (fun l => if l = i then p else ow l)) H2 vx (eb v) := by
    refine noL_rp (fun a xs na ha za => ?_) _ _ (hn v) r2
    rcases za with za | ⟨l, d, e5, e6⟩
    · exact na (.inl za)
    · by_cases hl : l = i
      · dsimp only at e6
        rw [if_pos hl] at e6
        rw [← e6, ep2] at ha
        cases ha
      · dsimp only at e6
        rw [if_neg hl] at e6
        rw [List.getElem?_set_ne (fun z => hl z.symm)] at e5
        exact na (.inr ⟨l, d, e5, e6⟩)
  refine ⟨.ref p, vx, rfl, q _ _ H2 (rel2.setFz j r2') o2 ⟨rel.keepA (k1.trans k2), fun l d e5 => stp.sub l d (set_noow _ _ e5)⟩⟩
def asOI : PyData → Option (Option Int)
  | .none => some none
  | .int i => some (some i)
  | _ => none
theorem asOI_eq (x : PyData) (y : Option Int) (q : asOI x = some y) : x = eO eInt y := by cases x <;> cases q <;> rfl
end
end Pz

namespace Pz
open PySem PySem.Spec PyProof.Rows L2
theorem Sat.forR {β : Type} {f : β → Int → M β} {I : Int → β → Prop} : ∀ (m : Nat) {lo hi : Int} {b0 : β}, (hi - lo).toNat = m → lo ≤ hi → I lo b0 → (∀ i b, lo ≤ i → i < hi → I i b → Sat (f b i) (I (i + 1))) → Sat (forM' f (irange lo hi) b0) (I hi)
  | 0, lo, hi, b0, e, hl, h0, _ => by
    have : lo = hi := by omega
    subst this
    rw [irange_nil (Int.le_refl _)]
    exact .pure h0
  | m + 1, lo, hi, b0, e, hl, h0, h => by
    rw [irange_cons (by omega)]
    unfold forM'
    exact .bind2 (h lo b0 (Int.le_refl _) (by omega) h0) fun b hb => Sat.forR m (by omega) (by omega) hb fun i b hi => h i b (by omega)
theorem Sgs.len {f : Bool} {dp wt : Nat} : ∀ {ds : List PyData}, Sgs f dp wt ds → ds.length ≤ wt
  | [], _ => Nat.zero_le _
  | d :: ds, h => by
    have h1 : PyData.weightAll (d :: ds) ≤ wt := h.wgt
    have aux : ∀ l : List PyData, l.length ≤ PyData.weightAll l := by
      intro l
      induction l with
      | nil => simp
      | cons a l ih => simp only [List.length_cons, PyData.weightAll]; omega
    have := aux (d :: ds)
    omega
end Pz

/-! blocks in blocks; sorted of tuples, of lists among whose tuples empty ones are -/
namespace PzS
open PySem PySem.W PySem.Calls PySem.SeqAt PyProof.Rows
section
variable {prog : Program} {w : World} {A : Around} {E : Value → Shared → Prop} {s : Shared}
theorem call_tuple_lt {Q : Value → Shared → Prop} {l b : Addr} {items items2 : Array Value} {e r : Nat → Bool} (hl : s.heap.IsTuple l items) (hb : s.heap.IsTuple b items2)
    (he : ∀ j (h1 : j < items.size) (h2 : j < items2.size), EqAt A.in1 s items[j] items2[j] (e j)) (hr : ∀ j (h1 : j < items.size) (h2 : j < items2.size), e j = false → RcLt A.in1 s items[j] items2[j] (r j))
    (h : Q (.bool (firstLt e r (decide (items.size < items2.size)) (List.range (min items.size items2.size)))) s) : wpAny (model prog w) A (call (.builtin "tuple.__lt__") [.ref l, .ref b]) Q E s := by
  obtain ⟨⟨cls, dd, data, sl⟩, ho, hc, n, hd⟩ := id hl
  obtain ⟨⟨cls2, dd2, data2, sl2⟩, ho2, hc2, n2, hd2⟩ := id hb
  simp only at hc hd hc2 hd2
  subst hc hd hc2 hd2
  exact call_meets F.slot_tuple_lt ⟨_, ho, rfl⟩ F.entry_tuple_lt (F.args_tuple_lt_2 _ _) (tuple_ltAt l b items items2 n n2 dd dd2 sl sl2 e r) ⟨ho, ho2, he, hr, h⟩
theorem oneLt_tup {xs ys : List PyData} {a b : Value} {as bs : List Addr} {Q : Bool → Shared → Prop} (ra : Reads s.heap a (.tuple xs) as) (rb : Reads s.heap b (.tuple ys) bs) (h : alike (.tuple xs) (.tuple ys) = true)
    (hu : A.units + min (PyData.depth (.tuple xs)) (PyData.depth (.tuple ys)) < cLine) (hq : Q (dataLt (.tuple xs) (.tuple ys)) s) : wpAny (model prog w) A (oneLt' true a b) Q E s := by
  have hal : alikeAll xs ys = true := by simpa [alike] using h
  cases ra with
  | @tuple l o vs n _ as₁ h1 h2 h3 h4 =>
    cases rb with
    | @tuple l' o' vs' n' _ bs₁ k1 k2 k3 k4 =>
      have n1 : vs.size = xs.length := by simpa using ReadsAll.length _ _ _ h4
      have n2 : vs'.size = ys.length := by simpa using ReadsAll.length _ _ _ k4
      rw [dataLt_tuple, ← firstLt_toks xs ys hal, ← n1, ← n2] at hq
      rw [oneLt'_eq]
      simp only [if_true]
      refine wpAny_bind (wpAny_cRoomFor (room_here hu) ?_)
      refine wpAny_bind (wpAny_callSpecialIfBound?_slot (T := "tuple") ⟨_, h1, h2⟩ F.slot_tuple_lt (call_tuple_lt (e := pairEq xs ys) (r := fun j => dataLt (xs.getD j .none) (ys.getD j .none)) ⟨_, h1, h2, _, h3⟩ ⟨_, k1, k2, _, k3⟩ (fun j j1 j2 => ?_) (fun j j1 j2 hj => ?_) ?_))
      · have := eqAt_alikeAll xs ys A.in1 s vs.toList vs'.toList _ _ h4 k4 hal (room_in hu) j (by simpa using j1) (by simpa using j2)
        simpa using this
      · have := rcLt_alikeAll xs ys A.in1 s vs.toList vs'.toList _ _ h4 k4 hal (room_in hu) j (by simpa using j1) (by simpa using j2) hj
        simpa using this
      · exact wpAny_truthy_bool hq
theorem firsts_any {M : Model} : ∀ {vs : List Value} {ds : List PyData}, EachIs (fun v d => ∃ as, Reads s.heap v d as) vs ds → (∀ d, d ∈ ds → ∃ xs, d = .tuple xs) →
    ∃ fo : List (Option Value), fo.length = vs.length ∧ (∀ (E : Value → Shared → Prop) (Q : List (Option Value) → Shared → Prop), Q fo s → wpAny M A (vs.mapM firstOfTuple') Q E s) ∧ ((∀ f ∈ fo, f.isSome = true) → ∀ d ∈ ds, ∃ x r, d = .tuple (x :: r))
  | _, _, .nil, _ => ⟨[], rfl, fun E Q h => by rw [List.mapM_nil]; exact wpAny_pure h, fun _ d hd => absurd hd (by simp)⟩
  | _, _, .cons (a := v) (b := d) ⟨as, r⟩ t, ht => by
    obtain ⟨fo, h1, h2, h3⟩ := firsts_any (M := M) t fun d hd => ht d (List.mem_cons_of_mem _ hd)
    obtain ⟨ys, rfl⟩ := ht d (List.mem_cons_self ..)
    cases r with
    | @tuple a o xs n _ _ ho hc hd hr =>
      refine ⟨xs[0]? :: fo, by rw [List.length_cons, List.length_cons, h1], fun E Q h => ?_, fun hs d hd2 => ?_⟩
      · rw [List.mapM_cons]
        refine wpAny_bind ?_
        rw [kas_first_eq]
        refine wpAny_bind (Looks.here (show Looks M s.heap (typeOf (.ref a)) o.cls from (Looks.ld ho).andThen .now) ?_)
        rw [hc, if_neg (by first | decide | simp)]
        refine wpAny_bind (listItems_at ho hd (wpAny_pure ?_))
        exact wpAny_bind (h2 E (fun bs s' => wpAny M A (pure (xs[0]? :: bs)) Q E s') (wpAny_pure h))
      · rcases List.mem_cons.mp hd2 with rfl | hd2
        · have h0 := hs _ (List.mem_cons_self ..)
          cases ys with
          | cons y r => exact ⟨y, r, rfl⟩
          | nil =>
            cases q : xs.toList with
            | nil =>
              have : xs[0]? = none := by rw [← Array.getElem?_toList, q]; rfl
              rw [this] at h0; cases h0
            | cons f fr => rw [q] at hr; cases hr
        · exact h3 (fun f hf => hs f (List.mem_cons_of_mem _ hf)) d hd2
/-- tuples that read as alike data can be sorted, empty ones too -/
theorem sorts_tups {vs : List Value} {ds : List PyData} (e : EachIs (fun v d => ∃ as, Reads s.heap v d as) vs ds) (hal : AllAlike ds) (ht : ∀ d, d ∈ ds → ∃ xs, d = .tuple xs) (hu : ∀ d, d ∈ ds → A.units + d.depth < cLine) : SortsAt prog w A s (dataKind s.heap ds) vs := by
  by_cases hne : ∀ d, d ∈ ds → ∃ x r, d = .tuple (x :: r)
  · exact SortsAt.data e hal (.inl hne) hu
  have room : ∀ {d d' : PyData}, d ∈ ds → A.units + min d.depth d'.depth < cLine := fun {d d'} hd => Nat.lt_of_le_of_lt (Nat.add_le_add_left (Nat.min_le_left _ _) _) (hu d hd)
  refine ⟨fun v hv => ?_, ?_⟩
  · obtain ⟨d, hd, as, r⟩ := e.left v hv
    exact ⟨_, dataKind_some hal hd r⟩
  · obtain ⟨fo, f1, f2, f3⟩ := firsts_any (M := model prog w) (A := A) e ht
    have hall : (fo.toArray.all fun x => x.isSome) = false := by
      cases q : (fo.toArray.all fun x => x.isSome) with
      | false => rfl
      | true =>
        rw [List.all_toArray, List.all_eq_true] at q
        exact absurd (f3 q) hne
    by_cases h0 : (fo.toArray[0]?.bind id).isSome = true
    · refine ⟨general', ?_, fun h2 E Q hq => ?_⟩
      · intro E x y a b Q ha hb hq
        obtain ⟨d, as, hd, ra, rfl⟩ := dataKind_inv ha
        obtain ⟨d', as', hd', rb, rfl⟩ := dataKind_inv hb
        show wpAny (model prog w) A (oneLt' false x y) Q E s
        obtain ⟨xs, rfl⟩ := ht d hd
        exact oneLt_alike (fun z => absurd z (by simp)) ra rb (hal _ hd d' hd') (fun z => nomatch z) (room hd) hq
      · rw [kat_kind_eq, List.mapM_toArray, map_eq_pure_bind]
        refine wpAny_bind (wpAny_bind (f2 _ _ (wpAny_pure ?_)))
        rw [if_neg (by rw [hall]; simp), if_pos h0]
        exact wpAny_pure hq
    · refine ⟨oneType', ?_, fun h2 E Q hq => ?_⟩
      · intro E x y a b Q ha hb hq
        obtain ⟨d, as, hd, ra, rfl⟩ := dataKind_inv ha
        obtain ⟨d', as', hd', rb, rfl⟩ := dataKind_inv hb
        rw [keyLt'_oneType]
        obtain ⟨xs, rfl⟩ := ht d hd
        obtain ⟨ys, rfl⟩ := ht d' hd'
        exact oneLt_tup ra rb (hal _ hd _ hd') (room hd) hq
      · rw [kat_kind_eq, List.mapM_toArray, map_eq_pure_bind]
        refine wpAny_bind (wpAny_bind (f2 _ _ (wpAny_pure ?_)))
        rw [if_neg (by rw [hall]; simp), if_neg h0]
        obtain ⟨v₁, v₂, rest, rfl⟩ : ∃ v₁ v₂ rest, vs = v₁ :: v₂ :: rest := by
          match vs, h2 with
          | [], h2 => simp at h2
          | [_], h2 => simp at h2
          | v₁ :: v₂ :: rest, _ => exact ⟨v₁, v₂, rest, rfl⟩
        rw [oneTypeOnly'_eq, List.mapM_toArray, map_eq_pure_bind]
        refine wpAny_bind (wpAny_bind (wpAny_bind (kas_mapM (r := Value.type "tuple") _ (fun v hv Q' hq => ?_) (wpAny_pure ?_))))
        · obtain ⟨d, hd, as, r⟩ := e.left v hv
          obtain ⟨xs, rfl⟩ := ht d hd
          exact (looks_reads r).here hq
        have hall2 : ((List.map (fun _ => Value.type "tuple") (v₁ :: v₂ :: rest)).toArray.all fun x => x == Value.type "tuple") = true := by
          simp only [List.all_toArray, List.all_map, List.all_eq_true]
          intro _ _
          exact beq_self_eq_true _
        have h00 : (List.map (fun _ => Value.type "tuple") (v₁ :: v₂ :: rest)).toArray[0]? = some (Value.type "tuple") := by simp
        rw [h00]
        simp only [hall2, if_true]
        exact wpAny_pure (wpAny_pure hq)
/-- sorted(xs) of anything that is collected -/
theorem sorted_coll {v : Value} {vs : List Value} {Q : Value → Shared → Prop} (ha1 : argsOk "sorted" ⟨[v], []⟩) (hL : vs.length ≤ sizeLine)
    (hc : ∀ (E' : Value → Shared → Prop) (Q' : List Value → Shared → Prop), (∀ (h' : Heap) (tk : Nat), (∀ b o, s.heap.get? b = some o → h'.get? b = some o) → Q' vs { s with heap := h', toks := tk }) → wpAny (model prog w) A.in1 (collect v) Q' E' s)
    (S : ∀ (h' : Heap) (tk : Nat), (∀ b o, s.heap.get? b = some o → h'.get? b = some o) → ∃ κ, SortsAt prog w A.in1.in1 { s with heap := sortingHeap (h'.push (seqObj "list" vs.toArray 0)) h'.objs.size vs, toks := tk } κ vs ∧
      Q (.ref h'.objs.size) { s with heap := sortedHeap (h'.push (seqObj "list" vs.toArray 0)) h'.objs.size vs (sortVals κ false vs vs).toArray, toks := tk }) :
    wpAny (model prog w) A (call (.builtin "sorted") [v]) Q E s := by
  refine call_function_entry_kw kind_sorted plain_sorted entry_sorted ha1 ?_
  unfold Builtin.«sorted»
  refine wpAny_bind (m := checkCount "sorted" 1 1 _) (wpAny_pure ?_)
  refine wpAny_bind (hc _ _ fun h' tk hk => ?_)
  obtain ⟨κ, S1, hQ⟩ := S h' tk hk
  refine wpAny_bind (wpAny_newList ?_ hL)
  have hat : (h'.push (seqObj "list" vs.toArray 0)).get? h'.objs.size = some (seqObj "list" vs.toArray 0) := Heap.get?_push_size _ rfl
  refine wpAny_bind (wpAny_holding (wpAny_call_entry_kw slot_list_sort ⟨_, hat, rfl⟩ entry_list_sort ?body (args_list_sort _)))
  case body =>
    refine wpAny_mono (list_sort_vals (P := fun f s' => f = .done (.ret .none) ∧ Q (.ref h'.objs.size) s') (s := { s with heap := h'.push (seqObj "list" vs.toArray 0), toks := tk }) hat S1 hL ⟨rfl, hQ⟩) (fun f s' hf => ?_) fun _ _ e => e
    obtain ⟨rfl, hq⟩ := hf
    exact ⟨_, rfl, wpAny_pure ⟨_, rfl, hq⟩⟩
end
end PzS
namespace Pz
open PySem PySem.Spec PyProof.Rows L2
section
variable {α β γ δ κ ρ ι : Type} {ea : α → PyData} {eb : β → PyData} {ec : γ → PyData} {X : Cx} {R : Res} {Γ Γ' : List Slot} {e a b c : Expr} {pos : Pos}
theorem blkOk_in {s : Shared} {H : Hp} {C : Addr} {cl : List (Str × Addr)} {fp : List Addr} {sc0 scope : Scope} {own : List (Str × Nat)} (N : List Str) (hN : X.N = N) (h : blkC N sc0 scope own = true) :
    BlkOk (X.blk s H sc0 (compEnvC sc0 cl C X.env) fp).N (X.blk s H sc0 (compEnvC sc0 cl C X.env) fp).env.scope scope own := by
  subst hN
  have k : BlkOk X.N sc0 scope own := blkOk_by h
  have aux : ∀ {names : List (Str × NameKind)} {x : Str}, names.lookup x = some .cell ∨ names.lookup x = some .free →
      (names.map fun (n, k) => if (k == NameKind.free && X.env.scope.kind == .function && X.env.kindOf n == some .cell) then (n, NameKind.cell) else (n, k)).lookup x = some .cell ∨
      (names.map fun (n, k) => if (k == NameKind.free && X.env.scope.kind == .function && X.env.kindOf n == some .cell) then (n, NameKind.cell) else (n, k)).lookup x = some .free := by
    intro names x
    induction names with
    | nil => intro h; simp at h
    | cons p r ih =>
      obtain ⟨n, k⟩ := p
      intro h
      show List.lookup x ((if (k == NameKind.free && X.env.scope.kind == .function && X.env.kindOf n == some .cell) = true then (n, NameKind.cell) else (n, k)) :: _) = _ ∨ List.lookup x ((if (k == NameKind.free && X.env.scope.kind == .function && X.env.kindOf n == some .cell) = true then (n, NameKind.cell) else (n, k)) :: _) = _
      cases hx : x == n with
      | true =>
        simp only [List.lookup_cons, hx, Option.some.injEq] at h
        split
        · left; simp only [List.lookup_cons, hx]
        · simp only [List.lookup_cons, hx, Option.some.injEq]; exact h
      | false =>
        simp only [List.lookup_cons, hx] at h
        split
        · simp only [List.lookup_cons, hx]; exact ih h
        · simp only [List.lookup_cons, hx]; exact ih h
  exact ⟨k.kind, k.uniq, k.ix, fun y hy e => aux (k.free y hy e), k.own⟩
structure SrtA (e : α → PyData) : Prop where
  alike : ∀ x y, PySem.W.alike (e x) (e y) = true
  kind : (∀ x, ∃ ds, e x = .tuple ds) ∨ ∀ x, e x ≠ .none ∧ ∀ ds, e x ≠ .tuple ds
  depth : ∀ x, (e x).depth ≤ 60
theorem Srt.toA {ok : α → Bool} (h : Srt ok ea) (hk : (∀ x, ∃ ds, ea x = .tuple ds) ∨ ∀ x, ea x ≠ .none ∧ ∀ ds, ea x ≠ .tuple ds) : SrtA ea := ⟨h.alike, hk, h.depth⟩
theorem SrtA.rows : SrtA (eT eInt) := Srt.toA Srt.rows (.inl fun x => ⟨_, rfl⟩)
theorem SrtA.ints : SrtA eInt := Srt.toA Srt.ints (.inr fun x => ⟨(fun z => nomatch z), fun ds z => nomatch z⟩)
theorem SrtA.sorts {prog : Program} {w : World} {A : Around} {s : Shared} (hs : SrtA ea) {vs : List Value} {bs : List α} (e : PySem.W.EachIs (fun v b => ∃ as, Reads s.heap v (ea b) as) vs bs) (hu : A.units + 61 < cLine) :
    PySem.W.SortsAt prog w A s (PySem.W.dataKind s.heap (bs.map ea)) vs := by
  have e' := PySem.W.each_map (R := fun v d => ∃ as, Reads s.heap v d as) ea e
  have hd : ∀ d, d ∈ bs.map ea → A.units + d.depth < cLine := fun d hd => by
    obtain ⟨b, _, rfl⟩ := List.mem_map.mp hd
    have := hs.depth b
    omega
  rcases hs.kind with h | h
  · exact PzS.sorts_tups e' (PySem.W.AllAlike.of hs.alike) (fun d hd => by obtain ⟨b, _, rfl⟩ := List.mem_map.mp hd; exact h b) hd
  · exact PySem.W.SortsAt.data e' (PySem.W.AllAlike.of hs.alike) (PySem.W.Sortable.others h) hd
/-- what sorted makes of the collected items -/
theorem sorted_fin (hs : SrtA ea) (hu : X.A.units + 64 < cLine) {pins : List (Addr × Obj)} {σ : L2.St} {H : Hp} {s : Shared} (I : Inv X pins σ H s) {A : Av} {bs : List α} {us : List Value} {v : Value} {Q : VK}
    (each : PySem.W.EachIs (fun v b => ∃ x, RelV x v ∧ Rp A H x (ea b)) us bs) (hL : us.length ≤ sizeLine)
    (hc : ∀ (E' : Value → Shared → Prop) (Q' : List Value → Shared → Prop), (∀ (h' : Heap) (tk : Nat), (∀ b o, s.heap.get? b = some o → h'.get? b = some o) → Q' us { s with heap := h', toks := tk }) → wpAny (model X.prog X.w) X.A.in1 (collect v) Q' E' s)
    (q : ∀ q ws, H q = none → RpAll A H ws ((srt ea bs).map ea) → Q (.ref q) (upd H q (.lst ws))) :
    wpAny (model X.prog X.w) X.A (call (.builtin "sorted") [v]) (EP X pins σ Q) X.xe s := by
  refine PzS.sorted_coll (PyProof.Rows.args_sorted1 _) hL hc fun h' tk hk => ?_
  have I1 : Inv X pins σ H { s with heap := h', toks := tk } := I.kept hk
  have old : ∀ b o, h'.get? b = some o → (h'.push (seqObj "list" us.toArray 0)).get? b = some o := fun b o e => Heap.get?_push_of_some _ e
  have er : PySem.W.EachIs (fun v b => ∃ as, Reads (PySem.W.sortingHeap (h'.push (seqObj "list" us.toArray 0)) h'.objs.size us) v (ea b) as) us bs :=
    (each_reads I each).mono fun _ _ ⟨as, r⟩ => ⟨as, PyProof.Rows.Reads.keeps (fun b o e => PySem.W.sortingHeap_old (Nat.ne_of_lt (Heap.lt_size (hk b o e))) (old b o (hk b o e))) r⟩
  refine ⟨_, hs.sorts (s := { s with heap := PySem.W.sortingHeap (h'.push (seqObj "list" us.toArray 0)) h'.objs.size us, toks := tk }) er (by show X.A.units + 1 + 1 + 61 < cLine; omega), ?_⟩
  have eo := PySem.W.sortVals_data (h' := PySem.W.sortingHeap (h'.push (seqObj "list" us.toArray 0)) h'.objs.size us) false each er (PySem.W.AllAlike.of hs.alike)
  obtain ⟨ws, h1, h2⟩ := rp_each eo
  have hat : (h'.push (seqObj "list" us.toArray 0)).get? h'.objs.size = some (seqObj "list" us.toArray 0) := Heap.get?_push_size _ rfl
  generalize hout : PySem.W.sortVals (PySem.W.dataKind (PySem.W.sortingHeap (h'.push (seqObj "list" us.toArray 0)) h'.objs.size us) (bs.map ea)) false us us = out at h1 eo
  obtain ⟨c, hc2⟩ := sortedHeap_at (vs := us) (out := out.toArray) hat
  have fr : H h'.objs.size = none := I1.hok.fresh (Nat.le_refl _)
  have e1 := h1.length
  have e2 := eo.length
  have e3 := each.length
  refine ⟨.ref _, _, I1.laid (o := .lst ws) (t' := tk) (h' := sortedHeap (h'.push (seqObj "list" us.toArray 0)) h'.objs.size us out.toArray) (fun b o e => ?_) (Nat.le_refl _) ⟨?_, out, c, h1, hc2⟩, rfl, q _ ws fr h2⟩
  · have hlt := Heap.lt_size e
    have e5 : b < (h'.push (seqObj "list" us.toArray 0)).objs.size := by rw [Heap.size_push]; exact Nat.lt_succ_of_lt hlt
    exact (sortedHeap_old (Nat.ne_of_lt hlt) e5).trans (old b o e)
  · show ws.length ≤ sizeLine
    rw [List.length_mergeSort] at e2
    omega
def rSortA (ea : α → PyData) : List V → Hp → VK → Prop := fun xs H Q => ∃ A p vs bs, xs = [.ref p] ∧ (H p = some (.lst vs) ∨ H p = some (.tup vs)) ∧ RpAll A H vs (bs.map ea) ∧
  ∀ q ws, H q = none → RpAll A H ws ((srt ea bs).map ea) → Q (.ref q) (upd H q (.lst ws))
theorem call_sortA (hs : SrtA ea) (hu : X.A.units + 64 < cLine) : CallR X (.builtin "sorted") (rSortA ea) := fun pins s σ H xs us Q I r h => by
  obtain ⟨A, p, vs, bs, rfl, hp, hr, q⟩ := h
  obtain ⟨u, rfl, ru⟩ := vals1 r
  cases ru
  rcases hp with hp | hp
  · obtain ⟨its, rv, pl, hz⟩ := I.list (SqL.of hp)
    obtain ⟨o, ho, hcl, n, hd⟩ := pl.isList
    have hl := rv.length
    refine sorted_fin hs hu I (each_rp I hr rv) (by omega) (fun E' Q' hq => ?_) q
    refine wpAny_collect_seq (A := X.A.in1) p (.inl rfl) ho hcl hd (fun h' hk => ?_) (by simp; omega)
    have := hq h' s.toks hk
    simpa using this
  · obtain ⟨its, rv, pl, hz⟩ := I.tuple (SqT.of hp)
    obtain ⟨o, ho, hcl, n, hd⟩ := pl
    have hl := rv.length
    refine sorted_fin hs hu I (each_rp I hr rv) (by omega) (fun E' Q' hq => ?_) q
    refine wpAny_collect_seq (A := X.A.in1) p (.inr rfl) ho hcl hd (fun h' hk => ?_) (by simp; omega)
    have := hq h' s.toks hk
    simpa using this
theorem v_sortAL : VNF (rSortA ea) (fun x : List α × Unit => [eL ea x.1]) ea (fun x => some (srt ea x.1)) := fun A H x vs Q z ad r e q => by
  cases e
  cases r with
  | cons r1 r2 =>
    cases r2
    cases r1 with
    | lst na ha hr => exact ⟨A, _, _, _, rfl, .inl ha, hr, fun p ws n r => q p ws _ n (same_new n) upd_same (r.at n (Keep.of_same (same_new n)))⟩
theorem v_sortAT : VNF (rSortA ea) (fun x : List α × Unit => [eT ea x.1]) ea (fun x => some (srt ea x.1)) := fun A H x vs Q z ad r e q => by
  cases e
  cases r with
  | cons r1 r2 =>
    cases r2
    cases r1 with
    | tup na ha hr => exact ⟨A, _, _, _, rfl, .inr ha, hr, fun p ws n r => q p ws _ n (same_new n) upd_same (r.at n (Keep.of_same (same_new n)))⟩
end
end Pz

/-! the plain side, part three: lots, told data, the values that are judged -/
namespace Pz
open PySem PySem.Spec PyProof.Rows L2
/-- the lots of at most k of m points, as the law makes them -/
def lawF (k : Int) : Nat → List (List Int)
  | 0 => [[]]
  | m + 1 => lawF k m ++ ((lawF k m).filter fun l => decide ((l.length : Int) < k)).map fun l => l ++ [(m : Int)]
theorem lawF_len (k : Int) : ∀ m : Nat, (lawF k m).length ≤ 2 ^ m
  | 0 => by simp [lawF]
  | m + 1 => by
    have ih := lawF_len k m
    have := List.length_filter_le (fun l : List Int => decide ((l.length : Int) < k)) (lawF k m)
    simp only [lawF, List.length_append, List.length_map, Nat.pow_succ]
    omega
theorem lawF_mem {k : Int} (hk : 0 ≤ k) : ∀ {m : Nat} {l : List Int}, l ∈ lawF k m ↔ Lot m l ∧ (l.length : Int) ≤ k
  | 0, l => by
    simp only [lawF, List.mem_singleton]
    constructor
    · rintro rfl; exact ⟨⟨.nil, by simp⟩, by simpa using hk⟩
    · rintro ⟨h, _⟩
      cases l with
      | nil => rfl
      | cons x r => have := h.2 x (by simp); omega
  | m + 1, l => by
    simp only [lawF, List.mem_append, List.mem_map, List.mem_filter, decide_eq_true_eq]
    constructor
    · rintro (h | ⟨q, ⟨h, hq⟩, rfl⟩)
      · obtain ⟨h1, h2⟩ := (lawF_mem hk).mp h
        exact ⟨⟨h1.1, fun x hx => by have := h1.2 x hx; omega⟩, h2⟩
      · obtain ⟨h1, h2⟩ := (lawF_mem hk).mp h
        refine ⟨⟨List.pairwise_append.mpr ⟨h1.1, by simp, fun x hx y hy => ?_⟩, fun x hx => ?_⟩, by simp; omega⟩
        · rw [List.mem_singleton] at hy; have := h1.2 x hx; omega
        · rcases List.mem_append.mp hx with hx | hx
          · have := h1.2 x hx; omega
          · rw [List.mem_singleton] at hx; omega
    · rintro ⟨h, hl⟩
      rcases List.eq_nil_or_concat l with rfl | ⟨q, b, rfl⟩
      · exact .inl ((lawF_mem hk).mpr ⟨⟨.nil, by simp⟩, by simpa using hk⟩)
      · rw [List.concat_eq_append] at *
        obtain ⟨hq, h1, h2⟩ := lot_snoc.mp h
        by_cases hb : b = m
        · refine .inr ⟨q, ⟨(lawF_mem hk).mpr ⟨⟨hq.1, fun x hx => ?_⟩, by simp at hl; omega⟩, by simp at hl; omega⟩, by rw [hb]⟩
          have := (lot_next hq).2 x hx
          have := (hq.2 x hx).1
          omega
        · refine .inl ((lawF_mem hk).mpr ⟨⟨h.1, fun x hx => ?_⟩, hl⟩)
          have h3 := h.2 x hx
          rcases List.mem_append.mp hx with hx | hx
          · have := (lot_next hq).2 x hx; omega
          · rw [List.mem_singleton] at hx; omega
theorem lawF_nodup {k : Int} (hk : 0 ≤ k) : ∀ m : Nat, (lawF k m).Nodup
  | 0 => by simp [lawF]
  | m + 1 => by
    unfold lawF
    rw [List.nodup_append]
    refine ⟨lawF_nodup hk m, ?_, fun a ha b hb e => ?_⟩
    · have h := (lawF_nodup hk m).filter (fun l : List Int => decide ((l.length : Int) < k))
      exact List.Pairwise.map _ (fun a b hab e => hab (List.append_cancel_right e)) h
    · obtain ⟨q, _, rfl⟩ := List.mem_map.mp hb
      subst e
      have := (((lawF_mem hk).mp ha).1).2 m (by simp)
      omega
theorem lot_le {n : Int} : ∀ (m : Nat) {l : List Int}, l.length = m → Lot n l → (l.length : Int) ≤ nextL l
  | 0, l, e, _ => by rw [List.eq_nil_of_length_eq_zero e]; decide
  | m + 1, l, e, h => by
    rcases List.eq_nil_or_concat l with rfl | ⟨q, b, rfl⟩
    · simp at e
    · rw [List.concat_eq_append] at *
      obtain ⟨hq, h1, _⟩ := lot_snoc.mp h
      have ih := lot_le m (by simpa using e) hq
      rw [nextL_snoc]
      simp
      omega
theorem lot_len {n : Int} {l : List Int} (h : Lot n l) (h0 : 0 ≤ n) : (l.length : Int) ≤ n := by
  have h1 := lot_le l.length rfl h
  rcases List.eq_nil_or_concat l with rfl | ⟨q, b, rfl⟩
  · simpa using h0
  · rw [List.concat_eq_append] at *
    have := (lot_snoc.mp h).2.2
    rw [nextL_snoc] at h1
    omega
theorem next_read (l : List Int) : (if (!decide (l = [])) = true then Pz.bindM (optM (atI l (-1))) fun x => pureM (x + 1) else pureM 0) = pureM (nextL l) := by
  rcases List.eq_nil_or_concat l with rfl | ⟨q, b, rfl⟩
  · rfl
  · rw [List.concat_eq_append, nextL_snoc]
    simp [atI_lastq, bp]
theorem lots_len {n : Int} (h10 : n ≤ 10) : ∀ k : Nat, (lotsL n k).length ≤ 10 ^ k
  | 0 => by simp [lotsL]
  | k + 1 => by
    have ih := lots_len h10 k
    have : (lotsL n (k + 1)).length ≤ (lotsL n k).length * 10 := by
      have aux : ∀ (xs : List (List Int)), (∀ l ∈ xs, Lot n l) → (xs.flatMap fun l => (irange (nextL l) n).map fun b => l ++ [b]).length ≤ xs.length * 10 := by
        intro xs
        induction xs with
        | nil => intro _; simp
        | cons l xs ih2 =>
          intro hx
          have h1 := ih2 fun q hq => hx q (List.mem_cons_of_mem _ hq)
          have h2 := (lot_next (hx l List.mem_cons_self)).1
          simp only [List.flatMap_cons, List.length_append, List.length_map, length_irange, List.length_cons]
          omega
      exact aux _ fun l hl => (mem_lotsL.mp hl).1
    rw [Nat.pow_succ]
    omega
theorem lot_take {n : Int} {l : List Int} (h : Lot n l) {i : Nat} {b a : Int} (hb : l[i]? = some b) (ha : a ∈ l.take i) : a < b := by
  obtain ⟨hi, e⟩ := List.getElem?_eq_some_iff.mp hb
  have : l = l.take i ++ l.drop i := (List.take_append_drop i l).symm
  have hp := h.1
  rw [this] at hp
  have hd : b ∈ l.drop i := by rw [List.drop_eq_getElem_cons hi, e]; exact List.mem_cons_self
  exact (List.pairwise_append.mp hp).2.2 a ha b hd
theorem chain_zip : ∀ xs : List Int, ((xs.zip xs.tail).all fun p => decide (p.1 < p.2)) = decide (xs.Pairwise (· < ·))
  | [] => by simp
  | [x] => by simp
  | x :: y :: r => by
    have ih := chain_zip (y :: r)
    simp only [List.tail_cons, List.zip_cons_cons, List.all_cons] at ih ⊢
    rw [ih, Bool.eq_iff_iff, Bool.and_eq_true, decide_eq_true_eq, decide_eq_true_eq, decide_eq_true_eq]
    constructor
    · rintro ⟨h1, h2⟩
      refine List.pairwise_cons.mpr ⟨fun z hz => ?_, h2⟩
      rcases List.mem_cons.mp hz with rfl | hz
      · exact h1
      · have := (List.pairwise_cons.mp h2).1 z hz; omega
    · intro h
      exact ⟨(List.pairwise_cons.mp h).1 y List.mem_cons_self, (List.pairwise_cons.mp h).2⟩
theorem getD_get {l : List Int} {i : Nat} (h : i < l.length) : l.getD i 0 = l[i] := by simp [h]
theorem chain_idx (xs : List Int) : ((irange 1 xs.length).filter fun k => decide (xs.getD k.toNat 0 ≤ xs.getD (k - 1).toNat 0)) = [] ↔ xs.Pairwise (· < ·) := by
  rw [List.filter_eq_nil_iff]
  constructor
  · intro h
    rw [List.pairwise_iff_getElem]
    intro i j hi hj hij
    have step : ∀ m, i + m + 1 < xs.length → xs.getD i 0 < xs.getD (i + m + 1) 0 := by
      intro m
      induction m with
      | zero =>
        intro hm
        have := h ((i + 1 : Nat) : Int) (mem_irange.mpr ⟨by omega, by omega⟩)
        rw [decide_eq_true_eq, show (((i + 1 : Nat) : Int)).toNat = i + 1 by omega, show (((i + 1 : Nat) : Int) - 1).toNat = i by omega] at this
        simpa using this
      | succ m ih =>
        intro hm
        have h1 := ih (by omega)
        have := h ((i + m + 2 : Nat) : Int) (mem_irange.mpr ⟨by omega, by omega⟩)
        rw [decide_eq_true_eq, show (((i + m + 2 : Nat) : Int)).toNat = i + m + 2 by omega, show (((i + m + 2 : Nat) : Int) - 1).toNat = i + m + 1 by omega] at this
        show _ < xs.getD (i + m + 2) 0
        omega
    have := step (j - i - 1) (by omega)
    rw [show i + (j - i - 1) + 1 = j by omega] at this
    simpa [hi, hj] using this
  · intro h k hk
    rw [mem_irange] at hk
    rw [List.pairwise_iff_getElem] at h
    have := h (k - 1).toNat k.toNat (by omega) (by omega) (by omega)
    rw [decide_eq_true_eq, getD_get (show k.toNat < xs.length by omega), getD_get (show (k - 1).toNat < xs.length by omega)]
    omega
def inR (n : Int) : PyData → Bool
  | .int i => decide (0 ≤ i) && decide (i < n)
  | _ => false
def risB (n : Int) (xs : List Int) : Bool := (xs.all fun x => decide (0 ≤ x) && decide (x < n)) && decide (xs.Pairwise (· < ·))
theorem risB_iff {n : Int} {xs : List Int} : risB n xs = true ↔ Lot n xs := by
  unfold risB Lot
  rw [Bool.and_eq_true, decide_eq_true_eq, List.all_eq_true]
  constructor
  · rintro ⟨h1, h2⟩
    exact ⟨h2, fun x hx => by have := h1 x hx; simpa using this⟩
  · rintro ⟨h1, h2⟩
    exact ⟨fun x hx => by have := h2 x hx; simpa using this, h1⟩
def lotD (n : Int) : PyData → Option (List Int)
  | .tuple ds => if ds.all isWN then (ds.mapM asInt).filter (risB n) else none
  | _ => none
theorem lotD_some {n : Int} {d : PyData} {xs : List Int} (h : lotD n d = some xs) : d = eT eInt xs ∧ Lot n xs := by
  unfold lotD at h
  split at h
  · split at h
    · rename_i ds hw
      obtain ⟨ys, e1, e2⟩ := wn_ints hw
      rw [e1, Option.filter_eq_some_iff] at h
      obtain ⟨h1, h2⟩ := h
      cases h1
      exact ⟨by rw [e2]; rfl, risB_iff.mp h2⟩
    · cases h
  · cases h
theorem all_inR (n : Int) : ∀ xs : List Int, (xs.map eInt).all (inR n) = xs.all fun x => decide (0 ≤ x) && decide (x < n)
  | [] => rfl
  | x :: xs => by rw [List.map_cons, List.all_cons, all_inR n xs]; rfl
theorem inR_wn {n : Int} {ds : List PyData} (h : ds.all (inR n) = true) : ds.all isWN = true := by
  rw [List.all_eq_true] at h ⊢
  intro d hd
  have := h d hd
  cases d <;> first | rfl | cases this
theorem zip_map : ∀ (xs ys : List Int), zipL (xs.map eInt) (ys.map eInt) = (xs.zip ys).map fun p => (eInt p.1, eInt p.2, ())
  | [], ys => by cases ys <;> rfl
  | x :: xs, [] => rfl
  | x :: xs, y :: ys => by
    have ih := zip_map xs ys
    unfold zipL at ih ⊢
    rw [List.map_cons, List.map_cons, List.zipWith_cons_cons, ih, List.zip_cons_cons, List.map_cons]
theorem sz_at {s : List Int} {i : Int} (h0 : 0 ≤ i) (h : i < s.length) : atI s i = some (s.getD i.toNat 0) := by
  obtain ⟨x, e1, e2⟩ := atI_ok h0 h
  rw [e1, List.getD_eq_getElem?_getD, e2]; rfl
theorem eqZ_t {v : PyData} (hp : pl0 v = true) (hd : v.depth ≤ 60) (t : Str) : eqZ v (.tuple [.str t]) = some (PyData.eqv v (.tuple [.str t])) := by
  unfold eqZ
  refine if_pos ⟨?_, hd⟩
  unfold cmB
  rw [Bool.or_eq_true]
  left
  rw [Bool.and_eq_true]
  exact ⟨hp, rfl⟩
theorem eqv_1 (s t : Str) : PyData.eqv (.tuple [.str s]) (.tuple [.str t]) = decide (s = t) := by
  simp [PyData.eqv, PyData.eqvAll]
  exact Bool.beq_eq_decide_eq s t
theorem eqv_2 (x y : PyData) (r : List PyData) (t : Str) : PyData.eqv (.tuple (x :: y :: r)) (.tuple [.str t]) = false := by simp [PyData.eqv, PyData.eqvAll]
theorem eqZ_int (i j : Int) : eqZ (.int i) (.int j) = some (decide (i = j)) := by
  unfold eqZ
  rw [if_pos ⟨rfl, by simp [PyData.depth]⟩]
  simp [PyData.eqv]
  exact Bool.beq_eq_decide_eq i j
theorem plain_ints (l : List Int) : (eT eInt l).plain = true := (Dc.tup (n := 0) Dc.int).plain l
theorem asInt_i (i : Int) : asInt (.int i) = some i := rfl
theorem filt_ints (l : List Int) (q : Int → Bool) : eqZ (eL eD ((l.filter q).map eInt)) (eL eD []) = some (!(l.any q)) := by
  have hp : pl0s ((l.filter q).map eInt) = true := pl0_plain (eT eInt (l.filter q)) (plain_ints _)
  have hd : PyData.depth (eT eInt (l.filter q)) ≤ 1 := (Dc.tup (n := 0) Dc.int).depth _
  rw [eqZ_nil hp (by have : PyData.depthAll ((l.filter q).map eInt) + 1 ≤ 1 := by simpa [eT, PyData.depth, Nat.add_comm] using hd
                     omega)]
  congr 1
  rw [List.isEmpty_map]
  induction l with
  | nil => rfl
  | cons a l ih =>
    cases h : q a with
    | true => rw [List.filter_cons_of_pos h, List.any_cons, h]; rfl
    | false => rw [List.filter_cons_of_neg (by rw [h]; simp), List.any_cons, h, Bool.false_or]; exact ih (pl0_plain (eT eInt (l.filter q)) (plain_ints _)) ((Dc.tup (n := 0) Dc.int).depth _)
theorem ix_ints (l : List Int) {k : Int} (h0 : 0 ≤ k) (h : k < l.length) : atI (l.map eInt) k = some (eInt (l.getD k.toNat 0)) := by
  obtain ⟨x, e1, e2⟩ := atI_ok (xs := l.map eInt) h0 (by rw [List.length_map]; exact h)
  rw [e1]
  rw [List.getElem?_map] at e2
  obtain ⟨y, hy, rfl⟩ := Option.map_eq_some_iff.mp e2
  rw [List.getD_eq_getElem?_getD, hy]; rfl
def RowB (m : Nat) (xs : List Int) : Prop := xs.length ≤ m ∧ ∀ x ∈ xs, 0 ≤ x ∧ x ≤ 10
theorem sstr {f : Bool} {s : Str} (h : s.cps.size ≤ 50) (h2 : (s.cps.toList.all fun c => decide (c < 16 ^ 8)) = true) : Sg f 7 100 (.str s) := (Sg.str h h2).mono (by decide) (by decide)
theorem s_int {f : Bool} {i : Int} (h : i.natAbs < 10 ^ 30) : Sg f 7 100 (.int i) := (Sg.int h).mono (by decide) (Nat.le_refl _)
theorem s_row {f : Bool} {xs : List Int} (h : RowB 10 xs) : Sg f 7 1010 (eT eInt xs) := (Sg.ints 10 h.1 fun x hx => by have := h.2 x hx; omega).mono (by decide) (by decide)
theorem s_rowL {xs : List Int} (h : RowB 10 xs) : Sg false 7 1010 (eL eInt xs) := by
  have k := Sgs.all (f := false) (dp := 0) (w := 100) (ds := xs.map eInt) fun d hd => by
    obtain ⟨i, hi, rfl⟩ := List.mem_map.mp hd
    exact Sg.int (by have := h.2 i hi; omega)
  rw [List.length_map] at k
  exact (Sg.lst k).mono (by decide) (by have := h.1; omega)
theorem Sg.exact {f : Bool} {dp w : Nat} {d : PyData} (h : Sg f dp w d) : Sg f dp d.weight d := ⟨h.show_, h.dic, h.dep, h.leaf, Nat.le_refl _⟩
theorem Sgs.append {f : Bool} {dp w2 : Nat} {ys : List PyData} (k : Sgs f dp w2 ys) : ∀ {xs : List PyData} {w1 : Nat}, Sgs f dp w1 xs → Sgs f dp (w1 + w2) (xs ++ ys)
  | [], w1, _ => k.mono (Nat.le_refl _) (by omega)
  | x :: xs, w1, h => by
    have hx := (h.mem x List.mem_cons_self).exact
    have hxs : Sgs f dp (PyData.weightAll xs) xs := by
      obtain ⟨b1, b2, b3, b4, b5⟩ := h
      simp only [PyData.showableAll, PyData.depthAll, PyData.leavesShortAll, Bool.and_eq_true] at b1 b3 b4
      refine ⟨b1.2, ?_, by omega, b4.2, Nat.le_refl _⟩
      cases f with
      | true => have : noLst x = true ∧ noLsts xs = true := by simpa [noLsts] using b2
                simpa using this.2
      | false => have : x.hasDict = false ∧ PyData.hasDictAll xs = false := by simpa [PyData.hasDictAll] using b2
                 simpa using this.2
    have hw := h.wgt
    simp only [PyData.weightAll] at hw
    exact (Sgs.cons hx (Pz.Sgs.append k hxs)).mono (Nat.le_refl _) (by omega)
theorem sgs_ints {f : Bool} {xs : List Int} (h : RowB 10 xs) : Sgs f 6 1010 (xs.map eInt) := by
  have k := Sgs.all (f := f) (dp := 0) (w := 100) (ds := xs.map eInt) fun d hd => by
    obtain ⟨i, hi, rfl⟩ := List.mem_map.mp hd
    exact Sg.int (by have := h.2 i hi; omega)
  rw [List.length_map] at k
  exact k.mono (by decide) (by have := h.1; omega)
theorem rowb_sub {xs ys : List Int} (h : RowB 10 xs) (hl : ys.length ≤ xs.length) (hs : ∀ y ∈ ys, y ∈ xs) : RowB 10 ys := ⟨by have := h.1; omega, fun y hy => h.2 y (hs y hy)⟩
/-- the values that are judged; S: the strings that may stand first in a tuple -/
structure GvS (S : List Str) (v : PyData) : Prop where
  sg : ∃ f, Sg f 8 20000 v
  hd : HdS S v
structure HeadT (T : List Str) (x : PyData) (z : Str) : Prop where
  rep : reprO (.tuple [x]) = some z
  iff : ∀ t ∈ T, (z = (PyData.tuple [.str t]).shown ↔ x = .str t)
theorem GvS.head {S T : List Str} {v : PyData} (hST : okS S T = true) (h : GvS S v) : ∀ x r, v = .tuple (x :: r) → ∃ z, HeadT T x z := fun x r e => by
  subst e
  obtain ⟨f, hf⟩ := h.sg
  obtain ⟨z, h1, h2⟩ := head_in (T := T) hST hf h.hd
  exact ⟨z, h1, h2⟩
theorem GvS.lens {S : List Str} {v : PyData} (h : GvS S v) : ∀ ds, v = .tuple ds → ds.length ≤ 20000 ∧ ∀ z ∈ ds, ∀ es, z = .tuple es → es.length ≤ 20000 := fun ds e => by
  subst e
  obtain ⟨f, hf⟩ := h.sg
  refine ⟨hf.parts.len, fun z hz es e2 => ?_⟩
  subst e2
  exact (Sg.parts ((hf.parts.mem _ hz).mono (Nat.le_refl _) (Nat.le_refl _) : Sg f (6 + 1) 20000 (.tuple es))).len
theorem GvS.tup {S : List Str} {f : Bool} {w : Nat} {ds : List PyData} (h : Sgs f 7 w ds) (hw : w ≤ 20000) (hh : ∀ s r, ds = .str s :: r → s ∈ S) : GvS S (.tuple ds) := ⟨⟨f, (Sg.tup h).mono (Nat.le_refl _) hw⟩, fun s r e => by cases e; exact hh s r rfl⟩
theorem GvS.flat {S : List Str} {f : Bool} {v : PyData} (h : Sg f 8 20000 v) (hn : ∀ ds, v ≠ .tuple ds) : GvS S v := ⟨⟨f, h⟩, fun s r e => absurd e (hn _)⟩
theorem GvS.pl {S : List Str} {v : PyData} (h : GvS S v) : pl0 v = true := let ⟨_, hf⟩ := h.sg; hf.pl0
theorem GvS.dp {S : List Str} {v : PyData} (h : GvS S v) : v.depth ≤ 8 := let ⟨_, hf⟩ := h.sg; hf.dep
theorem GvS.rep {S : List Str} {v : PyData} (h : GvS S v) : reprO v = some v.shown := let ⟨_, hf⟩ := h.sg; (hf.mono (by decide) (Nat.le_refl _)).rep
/-- odd things -/
structure OddS (S : List Str) (d : PyData) : Prop where
  sg : ∃ f, Sg f 5 400 d
  hd : HdS S d
  str : ∀ s, d = .str s → s ∈ S
def AllS (S : List Str) (n : Nat) (l : List PyData) : Prop := l.length ≤ n ∧ ∀ v ∈ l, GvS S v
theorem AllS.nil {S : List Str} : AllS S 0 [] := ⟨Nat.le_refl 0, by simp⟩
theorem AllS.cons {S : List Str} {n : Nat} {v : PyData} {l : List PyData} (h : GvS S v) (k : AllS S n l) : AllS S (n + 1) (v :: l) := ⟨by have := k.1; simp; exact this, fun u hu => by
  rcases List.mem_cons.mp hu with rfl | hu
  · exact h
  · exact k.2 u hu⟩
theorem AllS.cat {S : List Str} {a b : Nat} {xs ys : List PyData} (h1 : AllS S a xs) (h2 : AllS S b ys) (hn : a + b ≤ 1000 := by decide) : Sat (optM (catO xs ys)) (AllS S (a + b)) := by
  rw [catO_ok (by have := h1.1; have := h2.1; unfold sizeLine; omega), optM_some]
  refine .pure ⟨by have := h1.1; have := h2.1; rw [List.length_append]; omega, fun v hv => ?_⟩
  rcases List.mem_append.mp hv with hv | hv
  · exact h1.2 v hv
  · exact h2.2 v hv
/-! ### more readings -/
theorem Sat.compSub {α : Type} {c : α → M Bool} : ∀ {xs : List α}, (∀ x ∈ xs, Sat (c x) fun _ => True) → Sat (compM c (fun x => pureM x) xs) fun ys => ys.Sublist xs
  | [], _ => .pure .slnil
  | x :: xs, h => by
    unfold compM
    have ih := Sat.compSub (xs := xs) fun y hy => h y (List.mem_cons_of_mem _ hy)
    refine .bind2 (h x List.mem_cons_self) fun b _ => ?_
    cases b with
    | false => exact ih.mono fun ys hy => hy.cons _
    | true =>
      rw [if_pos rfl, bp]
      exact .bind2 ih fun ys hys => .pure (hys.cons₂ _)
theorem enum_eq {α : Type} (d : α) (xs : List α) : enumL xs = (irange 0 xs.length).map fun i => (i, xs.getD i.toNat d, ()) := by
  apply List.ext_getElem?
  intro i
  rw [enumL_get, List.getElem?_map]
  unfold irange
  rw [List.getElem?_map]
  by_cases h : i < xs.length
  · rw [List.getElem?_range (by omega)]
    simp [h]
  · rw [List.getElem?_eq_none (by omega), List.getElem?_eq_none (by rw [List.length_range]; omega)]
    rfl
theorem enum_filter_ix {α : Type} (d : α) (f : α → Bool) (xs : List α) : ((enumL xs).filter fun q => f q.2.1).map (·.1) = (irange 0 xs.length).filter fun i => f (xs.getD i.toNat d) := by
  rw [enum_eq d, List.filter_map, List.map_map]
  exact List.map_id' _
theorem at_getD {α : Type} (d : α) {s : List α} {i : Int} (h0 : 0 ≤ i) (h : i < s.length) : atI s i = some (s.getD i.toNat d) := by
  obtain ⟨x, e1, e2⟩ := atI_ok h0 h
  rw [e1, List.getD_eq_getElem?_getD, e2]; rfl
theorem Lot.sub {n : Int} {xs ys : List Int} (h : Lot n ys) (s : xs.Sublist ys) : Lot n xs := ⟨h.1.sublist s, fun x hx => h.2 x (s.subset hx)⟩
theorem lot_irange {n : Int} : Lot n (irange 0 n) := ⟨irange_sorted 0 n, fun x hx => by rw [mem_irange] at hx; exact hx⟩
theorem Lot.nodup {n : Int} {xs : List Int} (h : Lot n xs) : xs.Nodup := h.1.imp fun h => by omega
end Pz

namespace Pz
open PySem PySem.Spec PyProof.Rows L2
section
variable {R : Res} {Γ : List Slot}
theorem Rel.updOwD {O : Av} {H0 H : Hp} {ow : Nat → Addr} {σ : L2.St} (r : Rel R O H0 ow Γ σ H) {i : Nat} {d0 : PyData} {ds : List (PyData × PyData)} {u : HO} (h : Γ[i]? = some (.ow d0)) (hd : DicO u ds) :
    Rel R O H0 ow (Γ.set i (.ow (.dict ds))) σ (upd H (ow i) u) ∧ Step O Γ ow H (Γ.set i (.ow (.dict ds))) ow (upd H (ow i) u) := by
  have av : ∀ a, Pz.avo O (Γ.set i (.ow (.dict ds))) ow a → Pz.avo O Γ ow a := fun a z => by
    rcases z with z | ⟨j, d', e, q⟩
    · exact .inl z
    · rcases set_ow h e with ⟨rfl, _⟩ | ⟨_, e⟩
      · exact .inr ⟨j, d0, h, q⟩
      · exact .inr ⟨j, d', e, q⟩
  have k : Keep (Pz.avo O Γ ow) H (upd H (ow i) u) := fun a o n e => by
    rw [upd_ne (fun z => n (.inr ⟨i, d0, h, z.symm⟩))]; exact e
  obtain ⟨hs, _, nO, n0⟩ := r.how i d0 h
  refine ⟨⟨by rw [List.length_set]; exact r.len, fun j d' e => ?_, fun j d' e => ?_, fun j e => ?_, fun j k d1 d2 e1 e2 q => ?_, fun a o z e => ?_, r.zsub, fun a z => ?_⟩, ⟨k, fun j d' e => .inl ?_⟩⟩
  · by_cases hj : i = j
    · subst hj
      rw [List.getElem?_set_self', h] at e; cases e
    · rw [List.getElem?_set_ne hj] at e
      obtain ⟨w, a, b⟩ := r.hfz j d' e
      exact ⟨w, a, (b.keep k).less av⟩
  · rcases set_ow h e with ⟨rfl, rfl⟩ | ⟨nj, e⟩
    · exact ⟨hs, ⟨u, upd_same, hd⟩, nO, n0⟩
    · obtain ⟨a, b, c, f⟩ := r.how j d' e
      refine ⟨a, ?_, c, f⟩
      cases d' with
      | list ds2 =>
        obtain ⟨vs2, q1, q2⟩ := b
        exact ⟨vs2, by rw [upd_ne (fun z => nj (r.hinj j i _ _ e h z))]; exact q1, (q2.keep k).less av⟩
      | dict kvs =>
        obtain ⟨o, q1, q2⟩ := b
        exact ⟨o, by rw [upd_ne (fun z => nj (r.hinj j i _ _ e h z))]; exact q1, q2⟩
      | _ => exact b.elim
  · by_cases hj : i = j
    · subst hj
      rw [List.getElem?_set_self', h] at e; cases e
    · rw [List.getElem?_set_ne hj] at e
      exact r.hsrc j e
  · rcases set_ow h e1 with ⟨rfl, _⟩ | ⟨_, f1⟩ <;> rcases set_ow h e2 with ⟨rfl, _⟩ | ⟨_, f2⟩
    · rfl
    · exact r.hinj _ _ _ _ h f2 q
    · exact r.hinj _ _ _ _ f1 h q
    · exact r.hinj _ _ _ _ f1 f2 q
  · have e1 := r.same a o z e
    rw [upd_ne (fun q => by rw [q, n0] at e; cases e)]; exact e1
  · by_cases q : a = ow i
    · rw [q, upd_same]; exact NT.of fun xs z => by subst z; exact hd
    · rw [upd_ne q]; exact r.odom a z
  · rcases set_ow h e with ⟨rfl, _⟩ | ⟨_, e⟩
    · exact .inr ⟨j, d0, h, rfl⟩
    · exact .inr ⟨j, d', e, rfl⟩
theorem Rel.setOwD {O : Av} {H0 H H' : Hp} {ow : Nat → Addr} {σ : L2.St} (r : Rel R O H0 ow Γ σ H) (i : Nat) {p : Addr} {ds : List (PyData × PyData)} {u : HO} (n : H p = none) (k : Keep (Zr R) H H') (z : ∀ a, Zr R a → NT (H' a)) (hp : H' p = some u) (hd : DicO u ds) :
    Rel R O H0 (fun j => if j = i then p else ow j) (Γ.set i (.ow (.dict ds))) (σ.set i (some (.ref p))) H' ∧ Step O Γ ow H (Γ.set i (.ow (.dict ds))) (fun j => if j = i then p else ow j) H' := by
  have r' := r.grow k z
  have n1 : ¬ Pz.avo O Γ ow p := r.ad.fresh n
  have n0 : H0 p = none := by
    cases h : H0 p with
    | none => rfl
    | some u =>
      by_cases z1 : Zr R p
      · exact absurd (r.zavo z1) n1
      · rw [r.same p u z1 h] at n; cases n
  have sub : ∀ (j : Nat) (d' : PyData), (Γ.set i (.ow (.dict ds)))[j]? = some (.ow d') → (j = i ∧ d' = .dict ds ∧ i < Γ.length) ∨ (j ≠ i ∧ Γ[j]? = some (.ow d')) := fun j d' e => by
    by_cases h : i = j
    · subst h
      rw [List.getElem?_set_self'] at e
      cases h : Γ[i]? with
      | none => rw [h] at e; cases e
      | some s => rw [h] at e; refine .inl ⟨rfl, by cases e; rfl, (List.getElem?_eq_some_iff.mp h).1⟩
    · rw [List.getElem?_set_ne h] at e; exact .inr ⟨fun z => h z.symm, e⟩
  have less : ∀ a, Pz.avo O (Γ.set i (.ow (.dict ds))) (fun j => if j = i then p else ow j) a → avp (Pz.avo O Γ ow) p a := fun a z => by
    rcases z with z | ⟨j, d', e, q⟩
    · exact .inl (.inl z)
    · rcases sub j d' e with ⟨rfl, _, _⟩ | ⟨n, e⟩
      · simp at q; exact .inr q.symm
      · simp [n] at q; exact .inl (.inr ⟨j, d', e, q⟩)
  have own' : ∀ (j : Nat) (d : PyData), Γ[j]? = some (.ow d) → ow j ≠ p := fun j d e z => n1 (.inr ⟨j, d, e, z⟩)
  have kA := r.keepA k
  refine ⟨⟨by rw [List.length_set, List.length_set]; exact r.len, fun j d' e => ?_, fun j d' e => ?_, fun j e => ?_, fun j k d1 d2 e1 e2 q => ?_, r'.same, r.zsub, r'.odom⟩, ⟨kA, fun j d' e => ?_⟩⟩
  · by_cases h : i = j
    · subst h
      rw [List.getElem?_set_self'] at e
      cases h : Γ[i]? <;> rw [h] at e <;> cases e
    · rw [List.getElem?_set_ne h] at e
      obtain ⟨w, a, b⟩ := r.hfz j d' e
      exact ⟨w, by rw [List.getElem?_set_ne h]; exact a, (b.at (p := p) n kA).less less⟩
  · rcases sub j d' e with ⟨rfl, rfl, hl⟩ | ⟨nj, e⟩
    · have hl' : j < σ.length := by rw [← r.len]; exact hl
      refine ⟨by simp [hl'], ⟨u, by simp [hp], hd⟩, by simp; exact fun z => n1 (.inl z), by simp [n0]⟩
    · obtain ⟨a, b, c, f⟩ := r.how j d' e
      simp only [nj, if_false]
      refine ⟨by rw [List.getElem?_set_ne fun z => nj z.symm]; exact a, ?_, c, f⟩
      cases d' with
      | list ds =>
        obtain ⟨vs, q1, q2⟩ := b
        exact ⟨vs, k _ _ (fun z => c (r.zsub _ z)) q1, (q2.at (p := p) n kA).less less⟩
      | dict kvs =>
        obtain ⟨o, q1, q2⟩ := b
        exact ⟨o, k _ _ (fun z => c (r.zsub _ z)) q1, q2⟩
      | _ => exact b.elim
  · by_cases h : i = j
    · subst h
      rw [List.getElem?_set_self'] at e
      cases h : Γ[i]? <;> rw [h] at e <;> cases e
    · rw [List.getElem?_set_ne h] at e
      obtain ⟨a, c, e1, e2⟩ := r.hsrc j e
      exact ⟨a, c, e1, by rw [List.getElem?_set_ne h]; exact e2⟩
  · rcases sub j d1 e1 with ⟨rfl, _, _⟩ | ⟨nj, f1⟩ <;> rcases sub k d2 e2 with ⟨rfl, _, _⟩ | ⟨nk, f2⟩
    · rfl
    · simp [nk] at q; exact absurd q.symm (own' k _ f2)
    · simp [nj] at q; exact absurd q (own' j _ f1)
    · simp [nj, nk] at q; exact r.hinj j k _ _ f1 f2 q
  · rcases sub j d' e with ⟨rfl, _, _⟩ | ⟨nj, e⟩
    · simp [n]
    · simp only [nj, if_false]; exact .inl (.inr ⟨j, d', e, rfl⟩)
end

section
variable {α β γ δ κ ν ρ ι : Type} {ea : α → PyData} {eb : β → PyData} {ec : γ → PyData} {X : Cx} {R : Res} {Γ Γ' : List Slot} {e a b c : Expr} {pos : Pos} {ek : κ → PyData} {ev : ν → PyData}
/-! ### dicts as data -/
def eM (ek : κ → PyData) (ev : ν → PyData) (xs : List (κ × ν × Unit)) : PyData := .dict (xs.map fun p => (ek p.1, ev p.2.1))
/-- keys that are tuples of ints and texts -/
structure KyT (ek : κ → PyData) (kk : κ → List L2.Key) : Prop where
  enc : ∀ x, ek x = .tuple ((kk x).map keyD)
  inj : ∀ x y, kk x = kk y → x = y
/-- keys that are ints or texts -/
structure KyK (ek : κ → PyData) (kk : κ → L2.Key) : Prop where
  enc : ∀ x, ek x = keyD (kk x)
  inj : ∀ x y, kk x = kk y → x = y
/-- values that are no objects -/
structure VlB (ev : ν → PyData) (vv : ν → V) : Prop where
  enc : ∀ x, valB (vv x) = some (ev x)
theorem map_inl_inj : ∀ x y : List Int, (x.map Sum.inl : List L2.Key) = y.map Sum.inl → x = y
  | [], [], _ => rfl
  | [], _ :: _, h => by simp at h
  | _ :: _, [], h => by simp at h
  | a :: x, b :: y, h => by
    rw [List.map_cons, List.map_cons, List.cons.injEq] at h
    rw [Sum.inl.inj h.1, map_inl_inj x y h.2]
theorem KyT.rows : KyT (eT eInt) (List.map Sum.inl) := ⟨fun x => by simp [eT, keyD, eInt], map_inl_inj⟩
theorem KyT.int2 : KyT (eP (eC eInt (eC eInt eU))) (fun p => [.inl p.1, .inl p.2.1]) := ⟨fun x => rfl, fun x y h => by
  obtain ⟨a, b, u⟩ := x; obtain ⟨c, d, w⟩ := y
  simp at h
  rw [h.1, h.2]⟩
theorem KyK.int : KyK eInt Sum.inl := ⟨fun _ => rfl, fun x y h => Sum.inl.inj h⟩
theorem VlB.int : VlB eInt V.int := ⟨fun _ => rfl⟩
theorem VlB.bool : VlB eBool V.bl := ⟨fun _ => rfl⟩
theorem keyD_inj {a b : L2.Key} (h : keyD a = keyD b) : a = b := by
  cases a <;> cases b <;> simp [keyD] at h <;> rw [h]
theorem keyDs_inj : ∀ {a b : List L2.Key}, a.map keyD = b.map keyD → a = b
  | [], [], _ => rfl
  | [], _ :: _, h => by simp at h
  | _ :: _, [], h => by simp at h
  | x :: a, y :: b, h => by
    rw [List.map_cons, List.map_cons, List.cons.injEq] at h
    rw [keyD_inj h.1, keyDs_inj h.2]
theorem valB_inj {a b : V} {d : PyData} (h : valB a = some d) (k : valB b = some d) : a = b := by
  cases a <;> simp [valB] at h <;> subst h <;> cases b <;> simp [valB] at k <;> first | rfl | (rw [k])
theorem rp_val {A : Av} {H : Hp} {v w : V} {d : PyData} (r : Rp A H v d) (h : valB w = some d) : v = w := by
  cases w <;> simp [valB] at h <;> subst h <;> cases r <;> rfl
theorem rp_key {A : Av} {H : Hp} {v : V} {k : L2.Key} (r : Rp A H v (keyD k)) : v = kV k := by
  cases k <;> cases r <;> rfl
theorem rp_keys {A : Av} {H : Hp} : ∀ {ks : List L2.Key} {vs : List V}, RpAll A H vs (ks.map keyD) → vs = ks.map kV
  | [], _, r => by cases r; rfl
  | k :: ks, _, r => by
    cases r with
    | cons h1 h2 => rw [rp_key h1, rp_keys h2]; rfl
theorem rp_keyT {A : Av} {H : Hp} {v : V} {ks : List L2.Key} (r : Rp A H v (.tuple (ks.map keyD))) : ∃ b, v = .ref b ∧ ¬ A b ∧ H b = some (.tup (ks.map kV)) := by
  cases r with
  | tup na h r => rw [rp_keys r] at h; exact ⟨_, rfl, na, h⟩
theorem keys_rp {A : Av} {H : Hp} : ∀ ks : List L2.Key, RpAll A H (ks.map kV) (ks.map keyD)
  | [] => .nil
  | k :: ks => .cons (by cases k; exact .int _; exact .str _) (keys_rp ks)
/-- how a dict of such keys stands in the heap -/
def kvT (kk : κ → List L2.Key) (vv : ν → V) (xs : List (κ × ν × Unit)) : List (List L2.Key × V) := xs.map fun p => (kk p.1, vv p.2.1)
def kvK (kk : κ → L2.Key) (vv : ν → V) (xs : List (κ × ν × Unit)) : List (L2.Key × V) := xs.map fun p => (kk p.1, vv p.2.1)
theorem dicO_T {kk : κ → List L2.Key} {vv : ν → V} (hk : KyT ek kk) (hv : VlB ev vv) {o : HO} : ∀ {xs : List (κ × ν × Unit)}, DicO o (xs.map fun p => (ek p.1, ev p.2.1)) → o = .dT (kvT kk vv xs) ∨ (xs = [] ∧ o = .dK []) := by
  intro xs h
  cases o with
  | dK ks =>
    cases xs with
    | nil =>
      have : ks = [] := by simpa [DicO] using h
      exact .inr ⟨rfl, by rw [this]⟩
    | cons p xs =>
      cases ks with
      | nil => simp [DicO] at h
      | cons k ks =>
        simp only [DicO, List.map_cons, List.cons.injEq, Prod.mk.injEq] at h
        have := h.1.1
        rw [hk.enc] at this
        cases hkk : k.1 <;> rw [hkk] at this <;> simp [keyD] at this
  | dT ks =>
    refine .inl ?_
    congr 1
    have aux : ∀ (ks : List (List L2.Key × V)) (xs : List (κ × ν × Unit)), ks.map (fun p => (PyData.tuple (p.1.map keyD), valB p.2)) = (xs.map fun p => (ek p.1, ev p.2.1)).map (fun q => (q.1, some q.2)) → ks = kvT kk vv xs := by
      intro ks
      induction ks with
      | nil => intro xs e; cases xs with
        | nil => rfl
        | cons _ _ => cases e
      | cons k ks ih =>
        intro xs e
        cases xs with
        | nil => cases e
        | cons p xs =>
          simp only [List.map_cons, List.cons.injEq, Prod.mk.injEq] at e
          obtain ⟨⟨e1, e2⟩, e3⟩ := e
          rw [hk.enc] at e1
          have k1 := keyDs_inj (PyData.tuple.inj e1)
          have k2 := valB_inj e2 (hv.enc p.2.1)
          have := ih xs e3
          unfold kvT at this ⊢
          rw [List.map_cons, ← this, ← k1, ← k2]
    exact aux ks xs h
  | _ => exact h.elim
theorem dicO_K {kk : κ → L2.Key} {vv : ν → V} (hk : KyK ek kk) (hv : VlB ev vv) {o : HO} : ∀ {xs : List (κ × ν × Unit)}, DicO o (xs.map fun p => (ek p.1, ev p.2.1)) → o = .dK (kvK kk vv xs) ∨ (xs = [] ∧ o = .dT []) := by
  intro xs h
  cases o with
  | dT ks =>
    cases xs with
    | nil =>
      have : ks = [] := by simpa [DicO] using h
      exact .inr ⟨rfl, by rw [this]⟩
    | cons p xs =>
      cases ks with
      | nil => simp [DicO] at h
      | cons k ks =>
        simp only [DicO, List.map_cons, List.cons.injEq, Prod.mk.injEq] at h
        have := h.1.1
        rw [hk.enc] at this
        cases hkk : kk p.1 <;> rw [hkk] at this <;> simp [keyD] at this
  | dK ks =>
    refine .inl ?_
    congr 1
    have aux : ∀ (ks : List (L2.Key × V)) (xs : List (κ × ν × Unit)), ks.map (fun p => (keyD p.1, valB p.2)) = (xs.map fun p => (ek p.1, ev p.2.1)).map (fun q => (q.1, some q.2)) → ks = kvK kk vv xs := by
      intro ks
      induction ks with
      | nil => intro xs e; cases xs with
        | nil => rfl
        | cons _ _ => cases e
      | cons k ks ih =>
        intro xs e
        cases xs with
        | nil => cases e
        | cons p xs =>
          simp only [List.map_cons, List.cons.injEq, Prod.mk.injEq] at e
          obtain ⟨⟨e1, e2⟩, e3⟩ := e
          rw [hk.enc] at e1
          have k1 := keyD_inj e1
          have k2 := valB_inj e2 (hv.enc p.2.1)
          have := ih xs e3
          unfold kvK at this ⊢
          rw [List.map_cons, ← this, ← k1, ← k2]
    exact aux ks xs h
  | _ => exact h.elim
theorem dicO_ofT {kk : κ → List L2.Key} {vv : ν → V} (hk : KyT ek kk) (hv : VlB ev vv) (xs : List (κ × ν × Unit)) : DicO (.dT (kvT kk vv xs)) (xs.map fun p => (ek p.1, ev p.2.1)) := by
  show List.map _ (List.map _ xs) = List.map _ (List.map _ xs)
  rw [List.map_map, List.map_map]
  refine List.map_congr_left fun p _ => ?_
  simp [hk.enc, hv.enc]
theorem dicO_ofK {kk : κ → L2.Key} {vv : ν → V} (hk : KyK ek kk) (hv : VlB ev vv) (xs : List (κ × ν × Unit)) : DicO (.dK (kvK kk vv xs)) (xs.map fun p => (ek p.1, ev p.2.1)) := by
  show List.map _ (List.map _ xs) = List.map _ (List.map _ xs)
  rw [List.map_map, List.map_map]
  refine List.map_congr_left fun p _ => ?_
  simp [hk.enc, hv.enc]
/-! ### the empty dict is of both kinds -/
theorem upd_upd {H : Hp} {a : Addr} {o u : HO} : upd (upd H a o) a u = upd H a u := by
  funext b
  by_cases h : b = a
  · subst h; rw [upd_same, upd_same]
  · rw [upd_ne h, upd_ne h, upd_ne h]
theorem upd_back {H : Hp} {a : Addr} {o : HO} (h : H a = some o) : upd H a o = H := by
  funext b
  by_cases q : b = a
  · subst q; rw [upd_same, h]
  · rw [upd_ne q]
theorem inv_k2t {pins : List (Addr × Obj)} {σ : L2.St} {H : Hp} {s : Shared} {a : Addr} (I : Inv X pins σ H s) (e : H a = some (.dK [])) : Inv X pins σ (upd H a (.dT [])) s := by
  obtain ⟨z, hs, vs, kv, o, es, ep, ho, hx, hd, _, hp, _⟩ := I.hok _ _ e
  cases kv
  have e0 : es.toList = [] := by
    cases h0 : es.toList with
    | nil => rfl
    | cons x r => rw [h0] at hp; cases hp
  exact d_write (h' := s.heap) (t' := s.toks) I (by rw [e]; exact True.intro) ⟨rfl, fun _ _ => rfl⟩ ⟨o, ho⟩ ⟨Nat.zero_le _, hs, [], .nil, o, es, ep, ho, hx, hd, by rw [e0]; rfl, by simp⟩
theorem inv_t2k {pins : List (Addr × Obj)} {σ : L2.St} {H : Hp} {s : Shared} {a : Addr} (I : Inv X pins σ H s) (e : H a = some (.dT [])) : Inv X pins σ (upd H a (.dK [])) s := by
  obtain ⟨z, hs, vs, kv, o, es, ep, ho, hx, hd, he, _⟩ := I.hok _ _ e
  cases kv
  have e0 : es.toList = [] := by rw [he]; rfl
  have e1 : es = #[] := by rw [← Array.toArray_toList (xs := es), e0]
  subst e1
  exact d_write (h' := s.heap) (t' := s.toks) I (by rw [e]; exact True.intro) ⟨rfl, fun _ _ => rfl⟩ ⟨o, ho⟩ ⟨Nat.zero_le _, hs, [], .nil, o, #[], ep, ho, hx, hd, fun i h => absurd h (by simp), .nil, by simp⟩
end
end Pz


/-! own dicts, part two: in, d[k], d[k] = v, {}, len -/
namespace Pz
open PySem PySem.Spec PyProof.Rows L2
section
variable {κ ν : Type} [DecidableEq κ]
def hasM (xs : List (κ × ν × Unit)) (k : κ) : Bool := xs.any fun p => decide (p.1 = k)
def lookM (xs : List (κ × ν × Unit)) (k : κ) : Option ν := (xs.find? fun p => decide (p.1 = k)).map (·.2.1)
def putL (xs : List (κ × ν × Unit)) (k : κ) (v : ν) : List (κ × ν × Unit) := if hasM xs k = true then xs.map (fun p => if p.1 = k then (p.1, v, ()) else p) else xs ++ [(k, v, ())]
def mergeL (xs ys : List (κ × ν × Unit)) : List (κ × ν × Unit) := ys.foldl (fun acc p => putL acc p.1 p.2.1) xs
def putM (xs : List (κ × ν × Unit)) (k : κ) (v : ν) : M (List (κ × ν × Unit)) := if xs.length < sizeLine then pureM (putL xs k v) else failM
def dictM (ys : List (κ × ν × Unit)) : M (List (κ × ν × Unit)) := if ys.length ≤ sizeLine then pureM (mergeL [] ys) else failM
/-- update: an empty dict takes but one entry, or none -/
def updM (xs ys : List (κ × ν × Unit)) : M (List (κ × ν × Unit)) := if (xs ≠ [] ∨ ys.length ≤ 1) ∧ xs.length + ys.length ≤ sizeLine then pureM (mergeL xs ys) else failM
theorem hasM_val {ζ : Type} [DecidableEq ζ] {f : κ → ζ} (inj : ∀ x y, f x = f y → x = y) {g : ν → V} (k : κ) : ∀ xs : List (κ × ν × Unit), (valV (xs.map fun p => (f p.1, g p.2.1)) (f k)) = (lookM xs k).map g
  | [] => rfl
  | p :: xs => by
    have ih := hasM_val (g := g) inj k xs
    rw [List.map_cons]
    by_cases h : p.1 = k
    · rw [valV_pos (by rw [h])]
      simp [lookM, List.find?_cons, h]
    · rw [valV_neg (fun z => h (inj _ _ z)), ih]
      simp [lookM, List.find?_cons, h]
theorem look_has (xs : List (κ × ν × Unit)) (k : κ) : (lookM xs k).isSome = hasM xs k := by
  unfold lookM hasM
  rw [Option.isSome_map]
  induction xs with
  | nil => rfl
  | cons p xs ih =>
    by_cases h : p.1 = k
    · simp [List.find?_cons, h]
    · simp [List.find?_cons, h]
      simpa using ih
theorem put_map {ζ : Type} [DecidableEq ζ] {f : κ → ζ} (inj : ∀ x y, f x = f y → x = y) {g : ν → V} (k : κ) (v : ν) (xs : List (κ × ν × Unit)) : putK (xs.map fun p => (f p.1, g p.2.1)) (f k) (g v) = (putL xs k v).map fun p => (f p.1, g p.2.1) := by
  have e : ((xs.map fun p => (f p.1, g p.2.1)).any fun kv => decide (kv.1 = f k)) = hasM xs k := by
    rw [valV_any, hasM_val inj, Option.isSome_map, look_has]
  unfold putK putL
  rw [e]
  by_cases h : hasM xs k = true
  · rw [if_pos h, if_pos h, List.map_map, List.map_map]
    refine List.map_congr_left fun p _ => ?_
    simp only [Function.comp]
    by_cases q : p.1 = k
    · rw [if_pos q, if_pos (by rw [q])]
    · rw [if_neg q, if_neg (fun z => q (inj _ _ z))]
  · rw [if_neg h, if_neg h, List.map_append]
    rfl
theorem putL_len (xs : List (κ × ν × Unit)) (k : κ) (v : ν) : (putL xs k v).length ≤ xs.length + 1 := by
  unfold putL
  split <;> simp
theorem mergeL_len : ∀ (ys xs : List (κ × ν × Unit)), (mergeL xs ys).length ≤ xs.length + ys.length
  | [], xs => by simp [mergeL]
  | p :: ys, xs => by
    have h1 := mergeL_len ys (putL xs p.1 p.2.1)
    have h2 := putL_len xs p.1 p.2.1
    show (mergeL (putL xs p.1 p.2.1) ys).length ≤ _
    rw [List.length_cons]; omega
end
section
variable {α β γ δ κ ν ρ ι : Type} [DecidableEq κ] {ea : α → PyData} {eb : β → PyData} {ec : γ → PyData} {X : Cx} {R : Res} {Γ Γ' : List Slot} {e a b c : Expr} {pos : Pos} {ek : κ → PyData} {ev : ν → PyData}
/-- the kinds of keys -/
inductive Ky (ek : κ → PyData) : Prop
  | T (kk : κ → List L2.Key) (h : KyT ek kk) : Ky ek
  | K (kk : κ → L2.Key) (h : KyK ek kk) : Ky ek
theorem Ky.rows : Ky (eT eInt) := .T _ KyT.rows
theorem Ky.int2 : Ky (eP (eC eInt (eC eInt eU))) := .T _ KyT.int2
theorem Ky.int : Ky eInt := .K _ KyK.int
theorem val_rp {A : Av} {H : Hp} {v : V} {d : PyData} (h : valB v = some d) : Rp A H v d := by
  cases v <;> simp [valB] at h <;> subst h
  · exact .non
  · exact .bl _
  · exact .int _
  · exact .str _
/-- what a dict of the heap holds at a key, whatever kind the empty one has: the heap may be seen so that DGet tells it -/
theorem dget_of {vv : ν → V} (hk : Ky ek) (hv : VlB ev vv) {pins : List (Addr × Obj)} {σ : L2.St} {H : Hp} {s : Shared} (I : Inv X pins σ H s) {A : Av} {k : κ} {y : V} {a : Addr} {o : HO} {xs : List (κ × ν × Unit)}
    (hy : Rp A H y (ek k)) (ha : H a = some o) (hd : DicO o (xs.map fun p => (ek p.1, ev p.2.1))) :
    ∃ H2, Inv X pins σ H2 s ∧ DGet H2 a y ((lookM xs k).map vv) ∧ ∀ s', Inv X pins σ H2 s' → Inv X pins σ H s' := by
  cases hk with
  | T kk hk =>
    rw [hk.enc] at hy
    obtain ⟨b, rfl, nb, hb⟩ := rp_keyT hy
    rcases dicO_T hk hv hd with rfl | ⟨rfl, rfl⟩
    · refine ⟨H, I, ?_, fun _ h => h⟩
      rw [← hasM_val hk.inj k xs]
      exact DGet.t ha hb
    · have hne : b ≠ a := fun z => by subst z; rw [ha] at hb; cases hb
      refine ⟨_, inv_k2t I ha, ?_, fun s' I' => ?_⟩
      · have := DGet.t (H := upd H a (.dT [])) (a := a) (b := b) (kvs := []) (k := kk k) upd_same (by rw [upd_ne hne]; exact hb)
        exact this
      · have := inv_t2k I' upd_same
        rwa [upd_upd, upd_back ha] at this
  | K kk hk =>
    rw [hk.enc] at hy
    rw [rp_key hy]
    rcases dicO_K hk hv hd with rfl | ⟨rfl, rfl⟩
    · refine ⟨H, I, ?_, fun _ h => h⟩
      rw [← hasM_val hk.inj k xs]
      exact DGet.k ha
    · refine ⟨_, inv_t2k I ha, ?_, fun s' I' => ?_⟩
      · exact DGet.k (H := upd H a (.dK [])) (a := a) (kvs := []) (k := kk k) upd_same
      · have := inv_k2t I' upd_same
        rwa [upd_upd, upd_back ha] at this
def rInM (ek : κ → PyData) (ev : ν → PyData) : R2 := fun x y H Q => ∃ A k xs, Rp A H x (ek k) ∧ Rp A H y (eM ek ev xs) ∧ Q (.bl (hasM xs k)) H
def rNinM (ek : κ → PyData) (ev : ν → PyData) : R2 := fun x y H Q => ∃ A k xs, Rp A H x (ek k) ∧ Rp A H y (eM ek ev xs) ∧ Q (.bl (!hasM xs k)) H
theorem op_inM {vv : ν → V} (hk : Ky ek) (hv : VlB ev vv) (hu : X.A.units + 64 < cLine) : OpR X (compareOp .In) (rInM ek ev) := fun pins s σ H x y v u Q I rx ry h => by
  obtain ⟨A, k, xs, hx, hy, q⟩ := h
  cases hy with
  | @dic a o _ na ha hd =>
    cases (show u = Value.ref a from ry)
    obtain ⟨H2, I2, g, back⟩ := dget_of hk hv I hx ha hd
    refine d_in (by omega) I2 g rx fun s' I' => ⟨.bl _, H, back s' I', ?_, q⟩
    rw [Option.isSome_map, look_has]; rfl
theorem op_ninM {vv : ν → V} (hk : Ky ek) (hv : VlB ev vv) (hu : X.A.units + 64 < cLine) : OpR X (compareOp .NotIn) (rNinM ek ev) := fun pins s σ H x y v u Q I rx ry h => by
  obtain ⟨A, k, xs, hx, hy, q⟩ := h
  cases hy with
  | @dic a o _ na ha hd =>
    cases (show u = Value.ref a from ry)
    obtain ⟨H2, I2, g, back⟩ := dget_of hk hv I hx ha hd
    refine d_notIn (by omega) I2 g rx fun s' I' => ⟨.bl _, H, back s' I', ?_, q⟩
    rw [Option.isSome_map, look_has]; rfl
theorem v_inM : VOp (rInM ek ev) ek (eM ek ev) eBool (fun x xs => some (hasM xs x)) := fun A H x y vx vy Q z ad r1 r2 e q => by
  cases e
  exact ⟨A, _, _, r1, r2, q _ H (Same.refl H) (.bl _)⟩
theorem v_ninM : VOp (rNinM ek ev) ek (eM ek ev) eBool (fun x xs => some (!hasM xs x)) := fun A H x y vx vy Q z ad r1 r2 e q => by
  cases e
  exact ⟨A, _, _, r1, r2, q _ H (Same.refl H) (.bl _)⟩
theorem e_inM {k : Nat} {vv : ν → V} (hk : Ky ek) (hv : VlB ev vv) {ma : M κ} {mb : M (List (κ × ν × Unit))} (hr : Room k X.A) (ha : EJ X R Γ a ek ma) (hb : EJ X R Γ b (eM ek ev) mb) (hm : behindInMarks .In b = false := by rfl) : EJ X R Γ (.Compare a [.In] [b] pos) eBool (bindM ma fun x => bindM mb fun y => pureM (hasM y x)) := e_cmp (op_inM hk hv hr.units) v_inM ha hb hm
theorem e_ninM {k : Nat} {vv : ν → V} (hk : Ky ek) (hv : VlB ev vv) {ma : M κ} {mb : M (List (κ × ν × Unit))} (hr : Room k X.A) (ha : EJ X R Γ a ek ma) (hb : EJ X R Γ b (eM ek ev) mb) (hm : behindInMarks .NotIn b = false := by rfl) : EJ X R Γ (.Compare a [.NotIn] [b] pos) eBool (bindM ma fun x => bindM mb fun y => pureM (!hasM y x)) := e_cmp (op_ninM hk hv hr.units) v_ninM ha hb hm
theorem t_inM {k : Nat} {vv : ν → V} (hk : Ky ek) (hv : VlB ev vv) {ma : M κ} {mb : M (List (κ × ν × Unit))} (hr : Room k X.A) (ha : EJ X R Γ a ek ma) (hb : EJ X R Γ b (eM ek ev) mb) (hm : behindInMarks .In b = false := by rfl) : TJ X R Γ (.Compare a [.In] [b] pos) (bindM ma fun x => bindM mb fun y => pureM (hasM y x)) := t_cmp (op_inM hk hv hr.units) v_inM ha hb hm
theorem t_ninM {k : Nat} {vv : ν → V} (hk : Ky ek) (hv : VlB ev vv) {ma : M κ} {mb : M (List (κ × ν × Unit))} (hr : Room k X.A) (ha : EJ X R Γ a ek ma) (hb : EJ X R Γ b (eM ek ev) mb) (hm : behindInMarks .NotIn b = false := by rfl) : TJ X R Γ (.Compare a [.NotIn] [b] pos) (bindM ma fun x => bindM mb fun y => pureM (!hasM y x)) := t_cmp (op_ninM hk hv hr.units) v_ninM ha hb hm
/-! ### d[k] -/
theorem e_ixM {k : Nat} {vv : ν → V} (hk : Ky ek) (hv : VlB ev vv) {mb : M (List (κ × ν × Unit))} {ma : M κ} (hr : Room k X.A) (hb : EJ X R Γ b (eM ek ev) mb) (ha : EJ X R Γ a ek ma) (hs : NoSl a := by intro _ _; rfl) : EJ X R Γ (.Subscript b a pos) ev (bindM mb fun xs => bindM ma fun k => optM (lookM xs k)) := by
  have hu := hr.units
  refine PE.weak (pe_dget (by omega) hb ha hs) fun σ H Q ⟨O, H0, ow, st, z, st', rel, ok, e, q⟩ => ?_
  obtain ⟨xs, s1, e1, e2⟩ := bind_some e
  obtain ⟨k, s2, e3, e4⟩ := bind_some e2
  obtain ⟨e5, rfl⟩ := optM_inv e4
  refine ⟨O, H0, ow, st, xs, s1, rel, ok, e1, fun v H1 k1 o1 r1 => ?_⟩
  have rel1 := rel.grow k1 (okZ o1)
  refine ⟨O, H0, ow, s1, k, s2, rel1, o1, e3, fun y H2 k2 o2 r2 => ?_⟩
  have r1' := r1.keep (rel1.keepA k2)
  cases r1' with
  | @dic p o _ na hp hd =>
    refine ⟨p, vv z, rfl, ?_, q _ H2 (k1.trans k2) o2 (val_rp (hv.enc z))⟩
    cases hk with
    | T kk hk =>
      rw [hk.enc] at r2
      obtain ⟨c, rfl, nc, hc⟩ := rp_keyT r2
      rcases dicO_T hk hv hd with rfl | ⟨rfl, rfl⟩
      · have g := DGet.t hp hc
        unfold kvT at g
        rw [hasM_val hk.inj k xs, e5] at g
        exact g
      · cases e5
    | K kk hk =>
      rw [hk.enc] at r2
      rw [rp_key r2]
      rcases dicO_K hk hv hd with rfl | ⟨rfl, rfl⟩
      · have g := DGet.k (k := kk k) hp
        unfold kvK at g
        rw [hasM_val hk.inj k xs, e5] at g
        exact g
      · cases e5
/-! ### new dicts -/
def tDn (R : Res) (Γ : List Slot) (ek : κ → PyData) (ev : ν → PyData) (m : M (List (κ × ν × Unit))) : TE := fun σ H Q => ∃ O H0 ow st r st', Rel R O H0 ow Γ σ H ∧ okR R st H ∧ m st = some (r, st') ∧
  ∀ p o H', H p = none → Keep (Zr R) H H' → okR R st' H' → H' p = some o → DicO o (r.map fun p => (ek p.1, ev p.2.1)) → Q (.ref p) H'
abbrev DJ (X : Cx) (R : Res) (Γ : List Slot) (e : Expr) (ek : κ → PyData) (ev : ν → PyData) (m : M (List (κ × ν × Unit))) : Prop := PE X e (tDn R Γ ek ev m)
theorem d_e {m : M (List (κ × ν × Unit))} (h : DJ X R Γ e ek ev m) : EJ X R Γ e (eM ek ev) m :=
  PE.weak h fun σ H Q ⟨O, H0, ow, st, z, st', rel, ok, e, q⟩ => ⟨O, H0, ow, st, z, st', rel, ok, e, fun p o H' n k o1 e1 hd => q _ _ k o1 (.dic (rel.ad.fresh n) e1 hd)⟩
theorem d_new : DJ X R Γ (.Dict [] [] pos) ek ev (pureM []) := by
  refine PE.weak pe_dnewK fun σ H Q ⟨O, H0, ow, st, z, st', rel, ok, e, q⟩ => ?_
  obtain ⟨rfl, rfl⟩ := pure_some e
  intro p n
  exact q _ _ _ n (Keep.of_same (same_new n)) (ok.same (same_new n)) upd_same rfl
theorem q_setM (i : Nat) {x : Str} {pos' : Pos} {m : M (List (κ × ν × Unit))} (he : DJ X R Γ e ek ev m) (hN : X.N.Nodup) (hi : X.N[i]? = some x := by rfl) (hx : Loc X.env.scope x := by first | exact Or.inl rfl | exact Or.inr rfl)
    (hs : swapsWith e (some (.Name x pos')) pos.line X.env = pure false := by rfl) (hf : X.fn x = true ∨ X.env.scope.names.lookup x = some .local := by first | exact .inl rfl | exact .inr rfl) :
    QJ X R Γ (.Assign [.Name x pos'] e pos) (fun r => .nx (Γ.set i (.ow (eM ek ev r)))) m := by
  refine PS.weak (ps_set hN hi hx he hs hf) fun D σ H ⟨O, H0, ow, st, z, st', rel, ok, e, q⟩ => ⟨O, H0, ow, st, z, st', rel, ok, e, fun p u H' n k o ep hd => ?_⟩
  obtain ⟨r1, s1⟩ := rel.setOwD i n k (okZ o) ep hd
  exact q _ _ H' r1 o s1
/-! ### d[k] = v, d an own dict -/
/-- the store, the empty dict taken as it is needed -/
theorem ps_dputB {o i value : Expr} {pos' : Pos} {td ty tv : TE} (hu : X.A.units + 1 < cLine) (ho : PE X o td) (hi : PE X i ty) (hv : PE X value tv) (hs : swapsWith value (some (.Subscript o i pos')) pos.line X.env = pure false) :
    PS X (.Assign [.Subscript o i pos'] value pos) (fun D σ H => tv σ H fun v H1 => td σ H1 fun x H2 => ty σ H2 fun y H3 => ∃ a H4, x = .ref a ∧ (DPut H3 a y v H4 ∨ (H3 a = some (.dK []) ∧ DPut (upd H3 a (.dT [])) a y v H4) ∨ (H3 a = some (.dT []) ∧ DPut (upd H3 a (.dK [])) a y v H4)) ∧ D.nx σ H4) :=
  ⟨fun pins s σ H D I h => wpAny_Assign_Subscript (thn (hv.run pins s σ H _ I h) fun rv sa ⟨v, Ha, Ia, relv, qa⟩ => thn (ho.run pins sa σ Ha _ Ia qa) fun ru sb ⟨x, Hb, Ib, relx, qb⟩ => thn (hi.run pins sb σ Hb _ Ib qb) fun ri sc ⟨y, Hc, Ic, rely, a, Hd, ex, g, fin⟩ => by
    subst ex
    obtain rfl : ru = Value.ref a := relx
    rcases g with g | ⟨e0, g⟩ | ⟨e0, g⟩
    · exact d_setItem hu Ic g rely relv fun sd Id => ⟨σ, Hd, Id, fin⟩
    · exact d_setItem hu (inv_k2t Ic e0) g rely relv fun sd Id => ⟨σ, Hd, Id, fin⟩
    · exact d_setItem hu (inv_t2k Ic e0) g rely relv fun sd Id => ⟨σ, Hd, Id, fin⟩) hs⟩
theorem q_stM (i : Nat) {kr : Nat} {x : Str} {p1 pos' : Pos} {ke ve : Expr} {vv : ν → V} (hk : Ky ek) (hv : VlB ev vv) (xs : List (κ × ν × Unit)) {mv : M ν} {mk : M κ} (hr : Room kr X.A) (he : EJ X R Γ ve ev mv) (hke : EJ X R Γ ke ek mk) (hΓ : Γ[i]? = some (.ow (eM ek ev xs)) := by rfl) (hN : X.N[i]? = some x := by rfl)
    (hvis : Vis X.env.scope x := by first | exact Or.inl rfl | exact Or.inr (Or.inl rfl) | exact Or.inr (Or.inr rfl))
    (hd : (x == ("__debug__" : Str)) = false := by decide) (hcd : (x == ("__classdict__" : Str)) = false := by decide)
    (hs : swapsWith ve (some (.Subscript (.Name x p1) ke pos')) pos.line X.env = pure false := by rfl) :
    QJ X R Γ (.Assign [.Subscript (.Name x p1) ke pos'] ve pos) (fun ys => .nx (Γ.set i (.ow (eM ek ev ys)))) (bindM mv fun v => bindM mk fun k => putM xs k v) := by
  have hu := hr.units
  refine PS.weak (ps_dputB (by omega) (pe_var hN hvis hd hcd) hke he hs) fun D σ H ⟨O, H0, ow, st, z, st', rel, ok, e, q⟩ => ?_
  obtain ⟨v, s1, e1, e2⟩ := bind_some e
  obtain ⟨k, s2, e3, e4⟩ := bind_some e2
  obtain ⟨hl, rfl, rfl⟩ := if_some e4
  refine ⟨O, H0, ow, st, v, s1, rel, ok, e1, fun wv H1 k1 o1 r1 => ?_⟩
  have rel1 := rel.grow k1 (okZ o1)
  obtain ⟨hσ, ⟨o, hp, hdo⟩, nO, n0⟩ := rel1.how i _ hΓ
  refine ⟨_, hσ, O, H0, ow, s1, k, s2, rel1, o1, e3, fun wy H2 k2 o2 r2 => ?_⟩
  have rel2 := rel1.grow k2 (okZ o2)
  have hp2 : H2 (ow i) = some o := k2 _ _ (fun z => nO (rel1.zsub _ z)) hp
  rw [rp_val r1 (hv.enc v)]
  have fin : ∀ u, DicO u ((putL xs k v).map fun p => (ek p.1, ev p.2.1)) → D.nx σ (upd H2 (ow i) u) := fun u hu => by
    obtain ⟨r3, st3⟩ := rel2.updOwD hΓ hu
    exact q ow σ _ r3 (rel2.okUpd o2 hΓ) (st3.pre (rel.keepA (k1.trans k2)))
  cases hk with
  | T kk hk =>
    rw [hk.enc] at r2
    obtain ⟨c, rfl, nc, hc⟩ := rp_keyT r2
    have fin2 := fin _ (dicO_ofT hk hv (putL xs k v))
    unfold kvT at fin2
    rw [← put_map hk.inj k v xs] at fin2
    rcases dicO_T hk hv hdo with rfl | ⟨rfl, rfl⟩
    · exact ⟨ow i, _, rfl, .inl (DPut.t hp2 hc (by unfold kvT; rw [List.length_map]; exact hl)), fin2⟩
    · have hne : c ≠ ow i := fun z => by subst z; rw [hp2] at hc; cases hc
      have g := DPut.t (H := upd H2 (ow i) (.dT [])) (kvs := []) (k := kk k) (v := vv v) upd_same (by rw [upd_ne hne]; exact hc) hl
      rw [upd_upd] at g
      exact ⟨ow i, _, rfl, .inr (.inl ⟨hp2, g⟩), fin2⟩
  | K kk hk =>
    rw [hk.enc] at r2
    rw [rp_key r2]
    have fin2 := fin _ (dicO_ofK hk hv (putL xs k v))
    unfold kvK at fin2
    rw [← put_map hk.inj k v xs] at fin2
    rcases dicO_K hk hv hdo with rfl | ⟨rfl, rfl⟩
    · exact ⟨ow i, _, rfl, .inl (DPut.k hp2 (by unfold kvK; rw [List.length_map]; exact hl)), fin2⟩
    · have g := DPut.k (H := upd H2 (ow i) (.dK [])) (kvs := []) (k := kk k) (v := vv v) upd_same hl
      rw [upd_upd] at g
      exact ⟨ow i, _, rfl, .inr (.inr ⟨hp2, g⟩), fin2⟩
/-! ### len(d) -/
def rLenM (ek : κ → PyData) (ev : ν → PyData) : List V → Hp → VK → Prop := fun vs H Q => ∃ A x xs, vs = [x] ∧ Rp A H x (eM ek ev xs) ∧ Q (.int (xs.length : Int)) H
theorem call_lenM {vv : ν → V} (hk : Ky ek) (hv : VlB ev vv) : CallR X (.builtin "len") (rLenM ek ev) := fun pins s σ H zs us Q I r h => by
  obtain ⟨A, x, xs, rfl, hx, q⟩ := h
  cases hx with
  | @dic a o _ na ha hd =>
    have key : (∃ ks : List (L2.Key × V), o = .dK ks ∧ ks.length = xs.length) ∨ ∃ ks : List (List L2.Key × V), o = .dT ks ∧ ks.length = xs.length := by
      cases hk with
      | T kk hk =>
        rcases dicO_T hk hv hd with e | ⟨rfl, e⟩
        · exact .inr ⟨_, e, by unfold kvT; simp⟩
        · exact .inl ⟨_, e, rfl⟩
      | K kk hk =>
        rcases dicO_K hk hv hd with e | ⟨rfl, e⟩
        · exact .inl ⟨_, e, by unfold kvK; simp⟩
        · exact .inr ⟨_, e, rfl⟩
    rcases key with ⟨ks, rfl, hl⟩ | ⟨ks, rfl, hl⟩
    · exact call_lenD pins s σ H _ us Q I r ⟨a, ks, rfl, ha, by rw [hl]; exact q⟩
    · exact call_len_dT pins s σ H _ us Q I r ⟨a, ks, rfl, ha, by rw [hl]; exact q⟩
theorem v_lenM : VN (rLenM ek ev) (fun x : List (κ × ν × Unit) × Unit => [eM ek ev x.1]) eInt (fun x => some (x.1.length : Int)) := fun A H x vs Q z ad r e q => by
  cases e
  cases r with
  | cons r1 r2 =>
    cases r2
    exact ⟨A, _, _, rfl, r1, q _ H (Same.refl H) (.int _)⟩
end
end Pz

/-! own dicts, part three: dict(pairs), d.update(e), sorted(d) -/
namespace Pz
open PySem PySem.Spec PyProof.Rows L2
section
variable {ζ κ ν : Type} [DecidableEq ζ] [DecidableEq κ]
def mergeG (kvs more : List (ζ × V)) : List (ζ × V) := more.foldl (fun acc p => putK acc p.1 p.2) kvs
theorem mergeG_map {f : κ → ζ} (inj : ∀ x y, f x = f y → x = y) {g : ν → V} : ∀ (ys xs : List (κ × ν × Unit)), mergeG (xs.map fun p => (f p.1, g p.2.1)) (ys.map fun p => (f p.1, g p.2.1)) = (mergeL xs ys).map fun p => (f p.1, g p.2.1)
  | [], _ => rfl
  | y :: ys, xs => by
    show mergeG (putK (xs.map fun p => (f p.1, g p.2.1)) (f y.1) (g y.2.1)) (ys.map fun p => (f p.1, g p.2.1)) = (mergeL (putL xs y.1 y.2.1) ys).map fun p => (f p.1, g p.2.1)
    rw [put_map inj, mergeG_map inj ys]
end
theorem kt_merge {H : Hp} : ∀ {more : List (List L2.Key × V)} {rs : List (List L2.Key × Addr × Value)} {kvs : List (List L2.Key × V)} {xs : List (List L2.Key × Addr × Value)}, KT H more rs → KT H kvs xs → KT H (mergeG kvs more) (storedAllH xs rs)
  | _, _, _, _, .nil, b => b
  | _, _, kvs, xs, .cons (a := p) (b := q) h t, b => by
    obtain ⟨p1, p2⟩ := p
    obtain ⟨q1, q2, q3⟩ := q
    obtain ⟨h1, h2, h3⟩ := h
    cases h1
    have z := kt_merge t (b.put p1 h2 h3)
    exact z
theorem kt_are {P : Program} {w : World} {H : Hp} {h : Heap} (ok : HOk P w H h) : ∀ {l : List (List L2.Key × V)} {m : List (List L2.Key × Addr × Value)}, KT H l m → ∀ x ∈ m, (tupleKind (mixKind P w)).is h x.1 x.2.1
  | _, _, .nil, _, hx => nomatch hx
  | _, _, .cons (b := q) hq t, x, hx => by
    rcases List.mem_cons.mp hx with e | hx
    · subst e
      exact key_of ok (hq.1 ▸ hq.2.1)
    · exact kt_are ok t x hx
section
variable {α β γ δ κ ν ρ ι : Type} [DecidableEq κ] {ea : α → PyData} {eb : β → PyData} {ec : γ → PyData} {X : Cx} {R : Res} {Γ Γ' : List Slot} {e a b c : Expr} {pos : Pos} {ek : κ → PyData} {ev : ν → PyData}
abbrev ePr (ek : κ → PyData) (ev : ν → PyData) : κ × ν × Unit → PyData := eP (eC ek (eC ev eU))
theorem pr_at {A : Av} {H : Hp} {v : V} {y : κ × ν × Unit} (r : Rp A H v (ePr ek ev y)) : ∃ p x1 x2, v = .ref p ∧ H p = some (.tup [x1, x2]) ∧ Rp A H x1 (ek y.1) ∧ Rp A H x2 (ev y.2.1) := by
  cases r with
  | tup na h r =>
    cases r with
    | cons r1 r =>
      cases r with
      | cons r2 r => cases r; exact ⟨_, _, _, rfl, h, r1, r2⟩
theorem pairsT {pins : List (Addr × Obj)} {σ : L2.St} {H : Hp} {s : Shared} (I : Inv X pins σ H s) {A : Av} {kk : κ → List L2.Key} {vv : ν → V} (hk : KyT ek kk) (hv : VlB ev vv) : ∀ {vs : List V} {ys : List (κ × ν × Unit)}, RpAll A H vs (ys.map (ePr ek ev)) →
    ∃ (bs : List Addr) (prs : List (List L2.Key × Addr × Value)), vs = bs.map V.ref ∧ prs.length = bs.length ∧ KT H (kvT kk vv ys) prs ∧ ∀ (j : Nat) (q : List L2.Key × Addr × Value), prs[j]? = some q → ∃ b, bs[j]? = some b ∧ IsTup s.heap b #[.ref q.2.1, q.2.2]
  | _, [], r => by cases r; exact ⟨[], [], rfl, rfl, .nil, fun j q e => by simp at e⟩
  | _, y :: ys, r => by
    cases r with
    | cons r1 r2 =>
      obtain ⟨bs, prs, rfl, hl, kt, hp⟩ := pairsT I hk hv r2
      obtain ⟨p, x1, x2, rfl, hH, q1, q2⟩ := pr_at r1
      rw [hk.enc] at q1
      obtain ⟨c, rfl, _, hc⟩ := rp_keyT q1
      have := rp_val q2 (hv.enc y.2.1)
      subst this
      obtain ⟨its, rv, ht, _⟩ := I.tuple (SqT.of hH)
      obtain ⟨u, w, ei, ru, rw'⟩ := vals2 rv
      subst ei
      cases (show u = Value.ref c from ru)
      refine ⟨p :: bs, (kk y.1, c, w) :: prs, rfl, by simp [hl], .cons ⟨rfl, hc, rw'⟩ kt, fun j q e => ?_⟩
      cases j with
      | zero =>
        cases (show some (kk y.1, c, w) = some q from e)
        exact ⟨p, rfl, ht⟩
      | succ j => exact hp j q (by simpa using e)
theorem pairsK {K : PySem.W.Frag} {A : Av} {H : Hp} {kk : κ → L2.Key} {vv : ν → V} (hk : KyK ek kk) (hv : VlB ev vv) : ∀ {vs : List V} {ys : List (κ × ν × Unit)}, RpAll A H vs (ys.map (ePr ek ev)) →
    ∃ bs : List Addr, vs = bs.map V.ref ∧ Paired (fun p kv => SqT K H p [kV kv.1, kv.2]) bs (kvK kk vv ys)
  | _, [], r => by cases r; exact ⟨[], rfl, .nil⟩
  | _, y :: ys, r => by
    cases r with
    | cons r1 r2 =>
      obtain ⟨bs, rfl, kt⟩ := pairsK (K := K) hk hv r2
      obtain ⟨p, x1, x2, rfl, hH, q1, q2⟩ := pr_at r1
      rw [hk.enc] at q1
      rw [rp_key q1, rp_val q2 (hv.enc y.2.1)] at hH
      exact ⟨p :: bs, rfl, .cons (SqT.of hH) kt⟩
/-- dict(pairs) -/
def rDictM (ek : κ → PyData) (ev : ν → PyData) : List V → Hp → VK → Prop := fun vs H Q => ∃ A x ys, vs = [x] ∧ Rp A H x (eL (ePr ek ev) ys) ∧ ∀ p o, H p = none → DicO o ((mergeL [] ys).map fun p => (ek p.1, ev p.2.1)) → Q (.ref p) (upd H p o)
theorem call_dictM {vv : ν → V} (hk : Ky ek) (hv : VlB ev vv) (hc : X.calm = true) (hu : X.A.units + 64 < cLine) : CallR X (.type "dict") (rDictM ek ev) := fun pins s σ H zs us Q I r h => by
  obtain ⟨A, x, ys, rfl, hx, q⟩ := h
  cases hx with
  | @lst a vs _ na ha hr =>
    cases hk with
    | K kk hk =>
      obtain ⟨bs, rfl, kt⟩ := pairsK (K := X.K) hk hv hr
      refine call_dictP hc pins s σ H _ us Q I r ⟨a, bs, kvK kk vv ys, rfl, SqL.of ha, kt, fun p n => ?_⟩
      have e : mergeK [] (kvK kk vv ys) = kvK kk vv (mergeL [] ys) := mergeG_map (xs := []) hk.inj ys
      rw [e]
      exact q p _ n (dicO_ofK hk hv _)
    | T kk hk =>
      obtain ⟨u, rfl, rx⟩ := vals1 r
      cases rx
      obtain ⟨its, rv, pl, hz⟩ := I.list (SqL.of ha)
      obtain ⟨bs, prs, rfl, hl, kt, hp⟩ := pairsT I hk hv hr
      have ei := refs_at rv
      subst ei
      obtain ⟨o, n, ho, hcl, hd, hdat⟩ := pl
      have hln : (kvT kk vv ys).length = ys.length := by unfold kvT; simp
      have hly : prs.length = ys.length := by rw [← hln]; exact (Paired.length kt).symm
      rw [List.length_map] at hz
      refine call_dict_pairsH (knd := tupleKind (mixKind X.prog X.w)) (ps := prs) (PairArg.list a (bs.map Value.ref).toArray (fun j => bs.getD j 0) (prs.map fun t => (Value.ref t.2.1, t.2.2))) (I.ok.hd hc) (tupleKind_room_in1 (A := X.A.in1) (by show X.A.units + 1 + 1 < cLine; omega))
        ⟨⟨o, n, ho, hcl, hd, hdat⟩, by simp [hl], fun j k v e => ?_⟩ ⟨by simp, fun j k v e => ?_⟩ (fun h' hk' x hx => ?_) (by simp [hl]; exact hz) fun h' tk hd' kp => ?_
      · obtain ⟨t, e1, e2⟩ := Option.map_eq_some_iff.mp (by rw [← List.getElem?_map]; exact e)
        obtain ⟨b, e3, e4⟩ := hp j t e1
        cases e2
        refine ⟨by simp [e3, List.getD], .inl ?_⟩
        show s.heap.IsTuple (bs.getD j 0) _
        rw [show bs.getD j 0 = b by simp [List.getD, e3]]
        exact e4
      · obtain ⟨t, e1, e2⟩ := Option.map_eq_some_iff.mp (by rw [← List.getElem?_map]; exact e)
        cases e2
        exact ⟨t.1, t.2.1, e1, rfl⟩
      · exact tupleKind_stays.stays (fun b o vs m e1 _ => hk' b o (Nat.ne_of_lt (Heap.lt_size e1)) (by simp) e1) (kt_are I.hok kt x hx)
      · have hm : (s.heap.objs.size == sysModules) = false := beq_eq_false_iff_ne.mpr (Nat.ne_of_gt I.big)
        have fr : H s.heap.objs.size = none := I.hok.fresh (Nat.le_refl _)
        have em : mergeG [] (kvT kk vv ys) = kvT kk vv (mergeL [] ys) := mergeG_map (xs := []) hk.inj ys
        have km := kt_merge kt (kvs := []) (xs := []) .nil
        rw [em] at km
        obtain ⟨q', es, ep, hq, h2, h3, h4, _, h5⟩ := hd'
        refine ⟨.ref s.heap.objs.size, upd H s.heap.objs.size (.dT (kvT kk vv (mergeL [] ys))), I.laid (t' := tk) (fun b o e => kp b o (by simp) e) (Nat.le_refl _) (show ObjOk X.prog X.w _ _ _ (.dT (kvT kk vv (mergeL [] ys))) from ⟨?_, hm, _, km.keeps fun c zs ec => ?_, q', es, ep, hq, h2, h3, h4, h5⟩), rfl, q _ _ fr (dicO_ofT hk hv _)⟩
        · have := mergeL_len ys ([] : List (κ × ν × Unit))
          rw [show (kvT kk vv (mergeL [] ys)).length = (mergeL [] ys).length by unfold kvT; simp]
          simp at this
          omega
        · rw [upd_ne (ne_of_none ec fr)]; exact ec
theorem d_dict {x : Str} {p : Pos} {kr : Nat} {vv : ν → V} {m : M (List (κ × ν × Unit))} (hk : Ky ek) (hv : VlB ev vv) (hr : Room kr X.A) (hc : X.calm = true) (hm : X.mg x = none) (hvb : bootBuiltins x = some (.type "dict")) (ha : EJ X R Γ a (eL (ePr ek ev)) m)
    (hg : Gl X x := by rfl) (hn : x ≠ "__name__" := by decide) (hdb : (x == ("__debug__" : Str)) = false := by decide) (he : starEach [a] X.env = (false, eval a X.env) :: starEach [] X.env := by rfl) :
    DJ X R Γ (.Call (.Name x p) [a] [] pos) ek ev (bindM m fun ys => pureM (mergeL [] ys)) := by
  refine PE.weak (pe_callTy (pos := pos) (p := p) (call_dictM hk hv hc hr.units) hg hm hvb (pa_cons ha pa_nil he) hn hdb he rfl) fun σ H Q ⟨O, H0, ow, st, z, st', rel, ok, e, q⟩ => ?_
  obtain ⟨ys, s1, e1, e2⟩ := bind_some e
  obtain ⟨rfl, rfl⟩ := pure_some e2
  refine ⟨O, H0, ow, st, ys, s1, rel, ok, e1, fun v H1 k1 o1 r1 => ⟨_, v, ys, rfl, r1, fun p o n hd => ?_⟩⟩
  exact q p o _ (noneK k1 o1 n) (keepS k1 (same_new n)) (o1.same (same_new n)) upd_same hd
/-! ### update -/
theorem d_update {pins : List (Addr × Obj)} {σ : L2.St} {H : Hp} {s : Shared} {E : Value → Shared → Prop} {p b : Addr} {kvs more : List (List L2.Key × V)} {Q : Value → Shared → Prop} (hu : X.A.units + 1 < cLine) (I : Inv X pins σ H s) (hp : H p = some (.dT kvs)) (hb : H b = some (.dT more)) (hpb : p ≠ b)
    (hap : kvs ≠ [] ∨ more.length ≤ 1) (hz : kvs.length + more.length ≤ sizeLine) (hl : (mergeG kvs more).length ≤ kvs.length + more.length) (h : ∀ s', Inv X pins σ (upd H p (.dT (mergeG kvs more))) s' → Q .none s') :
    wpAny (model X.prog X.w) X.A (call (.builtin "dict.update") [.ref p, .ref b]) Q E s := by
  obtain ⟨z, hd, xs, rel, dd⟩ := dt_of I.hok hp
  obtain ⟨z2, hd2, ys, rel2, dd2⟩ := dt_of I.hok hb
  refine call_update_dictH (tupleKind_room_in1 hu) hpb hd2 dd dd2 ?_ (by rw [← Paired.length rel, ← Paired.length rel2]; exact hz) fun h' dd' dd2' hs => h _ ?_
  · rcases hap with q | q
    · exact .inl fun e => by subst e; cases rel; exact q rfl
    · refine .inr ⟨fun x hx => tupleKind_stays.tuple (kt_are I.hok rel2 x hx), ?_⟩
      have hly : ys.length ≤ 1 := by rw [← Paired.length rel2]; exact q
      match ys, hly with
      | [], _ => simp
      | [y], _ => simp
      | _ :: _ :: _, hy => simp at hy
  · obtain ⟨q, es, ep, hq, h2, h3, h4, _, h5⟩ := dd'
    refine d_write I (by rw [hp]; exact True.intro) hs ⟨q, hq⟩ ⟨by omega, hd, _, (kt_merge rel2 rel).keeps fun c ws ec => ?_, q, es, ep, hq, h2, h3, h4, h5⟩
    rw [upd_ne (ne_of ec hp (fun z => nomatch z))]
    exact ec
/-- a dict with tuple keys; an empty one may be of the other kind -/
def TDic (H : Hp) (p : Addr) (kvs : List (List L2.Key × V)) : Prop := H p = some (.dT kvs) ∨ (kvs = [] ∧ H p = some (.dK []))
theorem pe_dupd {o : Expr} {apos cpos : Pos} {td ty : TE} (hu : X.A.units + 1 < cLine) (ho : PE X o td) (he : PE X e ty) (m : M1 X o "update" apos e cpos) : PE X (.Call (.Attribute o "update" apos) [e] [] cpos) (fun σ H Q => td σ H fun x H1 => ∃ a, x = .ref a ∧ L2.IsD H1 a ∧
    ty σ H1 fun y H2 => ∃ b kvs more, y = .ref b ∧ a ≠ b ∧ TDic H2 a kvs ∧ TDic H2 b more ∧ (kvs ≠ [] ∨ more.length ≤ 1) ∧ kvs.length + more.length ≤ sizeLine ∧ (mergeG kvs more).length ≤ kvs.length + more.length ∧ Q .non (upd H2 a (.dT (mergeG kvs more)))) := by
  refine ⟨fun pins s σ H Q I h => ?_⟩
  refine wpAny_Call_method m.base m.few m.line PySem.F.plainAttrs_dict PySem.F.slot_dict_update PySem.F.type_dict_update (thn (ho.run pins s σ H _ I h) fun u s1 ⟨x, H1, I1, rx, a, ex, d, q1⟩ => ?_)
  subst ex
  obtain rfl : u = Value.ref a := rx
  obtain ⟨t1, t2, _⟩ := isD_at I1 d
  refine ⟨t1, t2, ?_⟩
  rw [m.trees]
  refine Calls.callWith_builtin rfl (Calls.evalArgs_plain (Calls.spliced_cons (thn (he.run pins s1 σ H1 _ I1 q1) fun iv s2 ⟨y, H2, I2, ry, b, kvs, more, ey, hab, ha, hb, hap, hz, hl, q2⟩ => Calls.spliced_nil ?_)))
  subst ey
  obtain rfl : iv = Value.ref b := ry
  have hba : b ≠ a := fun z => hab z.symm
  have fin : ∀ {H3 : Hp} {s' : Shared}, Inv X pins σ H3 s' → H3 = upd H2 a (.dT (mergeG kvs more)) → EP X pins σ Q .none s' := fun {H3 s'} I3 e3 => by
    subst e3
    exact ⟨.non, _, I3, rfl, q2⟩
  -- the second one as it is needed
  have second : ∀ {H3 : Hp}, Inv X pins σ H3 s2 → H3 a = some (.dT kvs) → (∀ u, upd H3 a u = upd H2 a u) → H3 b = H2 b → wpAny (model X.prog X.w) X.A (call (.builtin "dict.update") [.ref a, .ref b]) (EP X pins σ Q) X.xe s2 := fun {H3} I3 ha3 hup hb3 => by
    rcases hb with hb | ⟨hm, hb⟩
    · exact d_update hu I3 ha3 (hb3.trans hb) hab hap hz hl fun s' I4 => fin I4 (hup _)
    · subst hm
      have I4 := inv_k2t I3 (hb3.trans hb)
      refine d_update hu I4 (by rw [upd_ne hab]; exact ha3) upd_same hab hap hz hl fun s' I5 => ?_
      have I6 := inv_t2k I5 (a := b) (by rw [upd_ne hba]; exact upd_same)
      refine fin I6 ?_
      rw [← hup]
      funext c
      by_cases h1 : c = b
      · subst h1
        rw [upd_same, upd_ne hba, hb3, hb]
      · by_cases h2 : c = a
        · subst h2; rw [upd_ne h1, upd_same, upd_same]
        · rw [upd_ne h1, upd_ne h2, upd_ne h1, upd_ne h2]
  rcases ha with ha | ⟨hm, ha⟩
  · exact second I2 ha (fun _ => rfl) rfl
  · subst hm
    exact second (inv_k2t I2 ha) upd_same (fun _ => upd_upd) (upd_ne hba)
theorem tdic_of {kk : κ → List L2.Key} {vv : ν → V} (hk : KyT ek kk) (hv : VlB ev vv) {H : Hp} {p : Addr} {o : HO} {xs : List (κ × ν × Unit)} (h : H p = some o) (hd : DicO o (xs.map fun p => (ek p.1, ev p.2.1))) : TDic H p (kvT kk vv xs) := by
  rcases dicO_T hk hv hd with rfl | ⟨rfl, rfl⟩
  · exact .inl h
  · exact .inr ⟨rfl, h⟩
theorem isd_of {H : Hp} {p : Addr} {o : HO} {ds : List (PyData × PyData)} (h : H p = some o) (hd : DicO o ds) : L2.IsD H p := by
  cases o with
  | dK ks => exact .inl ⟨ks, .inl h⟩
  | dT ks => exact .inr ⟨ks, .inl h⟩
  | _ => exact hd.elim
theorem q_updM (i : Nat) {kr : Nat} {x : Str} {p1 p2 p3 : Pos} {kk : κ → List L2.Key} {vv : ν → V} (hk : KyT ek kk) (hv : VlB ev vv) (xs : List (κ × ν × Unit)) {m : M (List (κ × ν × Unit))} (hr : Room kr X.A) (he : EJ X R Γ e (eM ek ev) m) (hΓ : Γ[i]? = some (.ow (eM ek ev xs)) := by rfl) (hN : X.N[i]? = some x := by rfl)
    (hvis : Vis X.env.scope x := by first | exact Or.inl rfl | exact Or.inr (Or.inl rfl) | exact Or.inr (Or.inr rfl))
    (hd : (x == ("__debug__" : Str)) = false := by decide) (hcd : (x == ("__classdict__" : Str)) = false := by decide)
    (hm1 : M1 X (.Name x p1) "update" p2 e p3 := by exact ⟨rfl, rfl, rfl, rfl⟩)
    (hsw : swapsWith (.Call (.Attribute (.Name x p1) "update" p2) [e] [] p3) none pos.line X.env = pure false := by rfl) :
    QJ X R Γ (.Expr (.Call (.Attribute (.Name x p1) "update" p2) [e] [] p3) pos) (fun b => .nx (Γ.set i (.ow (eM ek ev b)))) (bindM m fun y => updM xs y) := by
  have hu := hr.units
  refine PS.weak (ps_expr (pe_dupd (by omega) (pe_var hN hvis hd hcd) he hm1) hsw) fun D σ H ⟨O, H0, ow, st, z, st', rel, ok, e, q⟩ => ?_
  obtain ⟨ys, s1, e1, e2⟩ := bind_some e
  obtain ⟨⟨hl1, hl2⟩, rfl, rfl⟩ := if_some e2
  obtain ⟨hσ, ⟨o, hp, hdo⟩, nO, n0⟩ := rel.how i _ hΓ
  refine ⟨_, hσ, ow i, rfl, isd_of hp hdo, O, H0, ow, st, ys, s1, rel, ok, e1, fun v H1 k o1 rp => ?_⟩
  have rel1 := rel.grow k (okZ o1)
  have hp1 : H1 (ow i) = some o := k _ _ (fun z => nO (rel.zsub _ z)) hp
  cases rp with
  | @dic b ob _ nb hb hdb =>
    have em : mergeG (kvT kk vv xs) (kvT kk vv ys) = kvT kk vv (mergeL xs ys) := mergeG_map hk.inj ys xs
    have ll : ∀ l : List (κ × ν × Unit), (kvT kk vv l).length = l.length := fun l => by unfold kvT; simp
    refine ⟨b, kvT kk vv xs, kvT kk vv ys, rfl, fun z => nb (.inr ⟨i, _, hΓ, z⟩), tdic_of hk hv hp1 hdo, tdic_of hk hv hb hdb, ?_, by rw [ll, ll]; exact hl2, by rw [em, ll, ll, ll]; have := mergeL_len ys xs; omega, ?_⟩
    · rcases hl1 with q | q
      · exact .inl fun z => q (by unfold kvT at z; simpa using z)
      · exact .inr (by rw [ll]; exact q)
    · rw [em]
      obtain ⟨r2, s2⟩ := rel1.updOwD hΓ (dicO_ofT hk hv (mergeL xs ys))
      exact q ow σ _ r2 (rel1.okUpd o1 hΓ) (s2.pre (rel.keepA k))
/-! ### sorted(d): the keys -/
def rSortM (ek : κ → PyData) (ev : ν → PyData) : List V → Hp → VK → Prop := fun vs H Q => ∃ A x xs, vs = [x] ∧ Rp A H x (eM ek ev xs) ∧ (∀ b zs, H b = some (.tup zs) → ¬ A b) ∧ ∀ q ws, H q = none → RpAll A H ws ((srt ek (xs.map fun p : κ × ν × Unit => p.1)).map ek) → Q (.ref q) (upd H q (.lst ws))
theorem prd_at {α β : Type} {P : α → β → Prop} : ∀ {as : List α} {bs : List β}, Paired P as bs → ∀ (j : Nat) {b : β}, bs[j]? = some b → ∃ a, as[j]? = some a ∧ P a b
  | _, _, .nil, j, b, e => by simp at e
  | _, _, .cons (a := a) h t, 0, b, e => by cases (show some _ = some b from e); exact ⟨a, rfl, h⟩
  | _, _, .cons h t, j + 1, b, e => prd_at t j (by simpa using e)
theorem prs_len {P : Program} {w : World} : ∀ {es : List DictEntry} {ks : List (L2.Key × Value)}, Pairs (mixKind P w) es ks → es.length = ks.length
  | _, _, .nil => rfl
  | _, _, .cons _ _ t => by rw [List.length_cons, List.length_cons, prs_len t]
theorem prs_at {P : Program} {w : World} : ∀ {es : List DictEntry} {ks : List (L2.Key × Value)}, Pairs (mixKind P w) es ks → ∀ (j : Nat) {en : DictEntry}, es[j]? = some en → ∃ k v, ks[j]? = some (k, v) ∧ keyIs k en.key = true
  | _, _, .nil, j, en, e => by simp at e
  | _, _, .cons h _ t, 0, en, e => by cases (show some _ = some en from e); exact ⟨_, _, rfl, h⟩
  | _, _, .cons h _ t, j + 1, en, e => by
    obtain ⟨k, v, e1, e2⟩ := prs_at t j (by simpa using e)
    exact ⟨k, v, by simpa using e1, e2⟩
theorem keyIs_rel {k : L2.Key} {v : Value} (h : keyIs k v = true) : RelV (kV k) v := by
  rcases keyIs_shape h with ⟨i, t, rfl, rfl⟩ | ⟨x, t, rfl, rfl⟩
  · exact ⟨t, rfl⟩
  · exact ⟨t, rfl⟩
theorem each_mk {β : Type} {P : Value → β → Prop} : ∀ {us : List Value} {bs : List β}, us.length = bs.length → (∀ (j : Nat) (u : Value) (b : β), us[j]? = some u → bs[j]? = some b → P u b) → PySem.W.EachIs P us bs
  | [], [], _, _ => .nil
  | u :: us, b :: bs, hl, h => .cons (h 0 u b rfl rfl) (each_mk (by simpa using hl) fun j u' b' e1 e2 => h (j + 1) u' b' (by simpa using e1) (by simpa using e2))
  | [], _ :: _, hl, _ => by simp at hl
  | _ :: _, [], hl, _ => by simp at hl
/-- the keys as they stand in the heap -/
theorem keys_each {vv : ν → V} (hk : Ky ek) (hv : VlB ev vv) {pins : List (Addr × Obj)} {σ : L2.St} {H : Hp} {s : Shared} (I : Inv X pins σ H s) {A : Av} {d : Addr} {ho : HO} {xs : List (κ × ν × Unit)} (hd : H d = some ho) (hdo : DicO ho (xs.map fun p => (ek p.1, ev p.2.1))) (hA : ∀ b zs, H b = some (.tup zs) → ¬ A b) :
    xs.length ≤ sizeLine ∧ ∃ o es ep, (d == sysModules) = false ∧ s.heap.get? d = some o ∧ o.ExactDict ∧ o.data = .dict es ep ∧ es.size = xs.length ∧ ∀ (us : List Value), us.length = es.size → (∀ (j : Nat) (u : Value), us[j]? = some u → ∃ en : DictEntry, es[j]? = some en ∧ u = en.key) →
      PySem.W.EachIs (fun v b => ∃ x, RelV x v ∧ Rp A H x (ek b)) us (xs.map fun p : κ × ν × Unit => p.1) := by
  have none : xs = [] → ∀ (us : List Value), us.length = 0 → PySem.W.EachIs (fun v b => ∃ x, RelV x v ∧ Rp A H x (ek b)) us (xs.map fun p : κ × ν × Unit => p.1) := fun e us hl => by
    subst e
    cases us with
    | nil => exact .nil
    | cons _ _ => simp at hl
  have caseT : ∀ {kvs : List (List L2.Key × V)}, H d = some (.dT kvs) → kvs.length ≤ sizeLine ∧ ∃ o es ep, (d == sysModules) = false ∧ s.heap.get? d = some o ∧ o.ExactDict ∧ o.data = .dict es ep ∧ es.size = kvs.length ∧ ∀ (j : Nat) (en : DictEntry), es[j]? = some en → ∃ p b, kvs[j]? = some p ∧ en.key = .ref b ∧ H b = some (.tup (p.1.map kV)) := fun {kvs} h => by
    obtain ⟨z, hs, ks, pr, o, es, ep, ho, hx, hdt, he, hn⟩ := (show ObjOk X.prog X.w H s.heap d (.dT kvs) from I.hok _ _ h)
    refine ⟨z, o, es, ep, hs, ho, hx, hdt, (size_of_entries he).trans (Paired.length pr).symm, fun j en e => ?_⟩
    have qe := entry_at he j
    rw [e] at qe
    obtain ⟨b, e1, e2⟩ := Option.map_eq_some_iff.mp qe.symm
    obtain ⟨p, e3, e4⟩ := prd_at pr j e1
    exact ⟨p, b.2.1, e3, by rw [← e2]; rfl, e4.2.1⟩
  have caseK : ∀ {kvs : List (L2.Key × V)}, H d = some (.dK kvs) → kvs.length ≤ sizeLine ∧ ∃ o es ep, (d == sysModules) = false ∧ s.heap.get? d = some o ∧ o.ExactDict ∧ o.data = .dict es ep ∧ es.size = kvs.length ∧ ∀ (j : Nat) (en : DictEntry), es[j]? = some en → ∃ p, kvs[j]? = some p ∧ RelV (kV p.1) en.key := fun {kvs} h => by
    obtain ⟨z, hs, ks, pr, o, es, ep, ho, hx, hdt, he, hp, hn⟩ := (show ObjOk X.prog X.w H s.heap d (.dK kvs) from I.hok _ _ h)
    refine ⟨z, o, es, ep, hs, ho, hx, hdt, ?_, fun j en e => ?_⟩
    · rw [← Array.length_toList, prs_len hp]; exact (Paired.length pr).symm
    · obtain ⟨k, v, e1, e2⟩ := prs_at hp j (by rw [Array.getElem?_toList]; exact e)
      obtain ⟨p, e3, e4⟩ := prd_at pr j e1
      refine ⟨p, e3, ?_⟩
      rw [show p.1 = k from e4.1]
      exact keyIs_rel e2
  cases hk with
  | T kk hk =>
    rcases dicO_T hk hv hdo with rfl | ⟨rfl, rfl⟩
    · obtain ⟨z, o, es, ep, h1, h2, h3, h4, h5, h6⟩ := caseT hd
      have ll : (kvT kk vv xs).length = xs.length := by unfold kvT; simp
      refine ⟨by omega, o, es, ep, h1, h2, h3, h4, by omega, fun us hl hus => each_mk (by rw [List.length_map]; omega) fun j u b e1 e2 => ?_⟩
      obtain ⟨en, e3, rfl⟩ := hus j u e1
      obtain ⟨p, c, e4, e5, e6⟩ := h6 j en e3
      obtain ⟨q, e7, e8⟩ := Option.map_eq_some_iff.mp (by rw [← List.getElem?_map]; exact e2)
      obtain ⟨q', e9, e10⟩ := Option.map_eq_some_iff.mp (show (xs[j]?).map _ = some p by rw [← List.getElem?_map]; exact e4)
      rw [e7] at e9
      cases e9
      subst e8 e10
      refine ⟨.ref c, e5, ?_⟩
      rw [hk.enc]
      exact .tup (hA _ _ e6) e6 (keys_rp _)
    · obtain ⟨z, o, es, ep, h1, h2, h3, h4, h5, h6⟩ := caseK hd
      exact ⟨Nat.zero_le _, o, es, ep, h1, h2, h3, h4, h5, fun us hl _ => none rfl us (hl.trans h5)⟩
  | K kk hk =>
    rcases dicO_K hk hv hdo with rfl | ⟨rfl, rfl⟩
    · obtain ⟨z, o, es, ep, h1, h2, h3, h4, h5, h6⟩ := caseK hd
      have ll : (kvK kk vv xs).length = xs.length := by unfold kvK; simp
      refine ⟨by omega, o, es, ep, h1, h2, h3, h4, by omega, fun us hl hus => each_mk (by rw [List.length_map]; omega) fun j u b e1 e2 => ?_⟩
      obtain ⟨en, e3, rfl⟩ := hus j u e1
      obtain ⟨p, e4, e5⟩ := h6 j en e3
      obtain ⟨q, e7, e8⟩ := Option.map_eq_some_iff.mp (by rw [← List.getElem?_map]; exact e2)
      obtain ⟨q', e9, e10⟩ := Option.map_eq_some_iff.mp (show (xs[j]?).map _ = some p by rw [← List.getElem?_map]; exact e4)
      rw [e7] at e9
      cases e9
      subst e8 e10
      refine ⟨_, e5, ?_⟩
      rw [hk.enc]
      cases kk q.1 with
      | inl i => exact .int i
      | inr x => exact .str x
    · obtain ⟨z, o, es, ep, h1, h2, h3, h4, h5, h6⟩ := caseT hd
      exact ⟨Nat.zero_le _, o, es, ep, h1, h2, h3, h4, h5, fun us hl _ => none rfl us (hl.trans h5)⟩
theorem call_sortM {vv : ν → V} (hk : Ky ek) (hv : VlB ev vv) (hs : SrtA ek) (hc : X.calm = true) (hu : X.A.units + 64 < cLine) : CallR X (.builtin "sorted") (rSortM ek ev) := fun pins s σ H zs us Q I r h => by
  obtain ⟨A, x, xs, rfl, hx, hA, q⟩ := h
  cases hx with
  | @dic d ho _ na hd hdo =>
    obtain ⟨u, rfl, ru⟩ := vals1 r
    cases ru
    obtain ⟨hz, o, es, ep, h1, h2, h3, h4, h5, h6⟩ := keys_each hk hv I hd hdo hA
    have coll : ∀ (E' : Value → Shared → Prop) (Q' : List Value → Shared → Prop), (∀ (h' : Heap) (tk : Nat), (∀ b o, s.heap.get? b = some o → h'.get? b = some o) → Q' (es.toList.map (·.key)) { s with heap := h', toks := tk }) → wpAny (model X.prog X.w) X.A.in1 (collect (.ref d)) Q' E' s :=
      fun E' Q' hq => PySem.W.kdu_collect (A := X.A.in1) (kdl_raw h1 h3 h4) (I.ok.hd hc) h2 (by omega) fun h' tk acc hk it => by
        have e : acc.toList = es.toList.map (·.key) := by
          apply List.ext_getElem?
          intro j
          rw [List.getElem?_map, Array.getElem?_toList, Array.getElem?_toList]
          cases hj : acc[j]? with
          | none =>
            have := Array.getElem?_eq_none_iff.mp hj
            rw [Array.getElem?_eq_none (by rw [it.1] at this; exact this)]
            rfl
          | some v =>
            obtain ⟨en, e1, rfl⟩ := it.2 j v hj
            rw [e1]
            rfl
        rw [e]
        exact hq h' tk hk
    refine sorted_fin hs hu I (h6 _ (by simp) fun j u e => ?_) (by simp; omega) coll q
    obtain ⟨en, e1, e2⟩ := Option.map_eq_some_iff.mp (by rw [← List.getElem?_map]; exact e)
    exact ⟨en, by rw [← Array.getElem?_toList]; exact e1, e2.symm⟩
theorem v_sortM : VNF (rSortM ek ev) (fun x : List (κ × ν × Unit) × Unit => [eM ek ev x.1]) ek (fun x => some (srt ek (x.1.map fun p => p.1))) := fun A H x vs Q z ad r e q => by
  cases e
  cases r with
  | cons r1 r2 =>
    cases r2
    exact ⟨A, _, _, rfl, r1, fun b zs hb hA => (ad b hA).2 zs hb, fun p ws n r => q p ws _ n (same_new n) upd_same (r.at n (Keep.of_same (same_new n)))⟩
end
end Pz

/-! list comprehensions over own dicts; dict comprehensions -/
namespace Pz
open PySem PySem.Spec PyProof.Rows L2
section
variable {α β γ δ κ ν ρ ι : Type} {ea : α → PyData} {eb : β → PyData} {ec : γ → PyData} {ei : ι → PyData} {X : Cx} {R : Res} {Γ Γ' : List Slot} {e a b c : Expr} {pos : Pos} {ek : κ → PyData} {ev : ν → PyData}
theorem lc_readW {set : List Slot → ι → List Slot} {is vs : List Nat} {wi : TI} {mc : ι → M Bool} {f : ι → M γ} {xs : List ι} {s1 st' : Src} {r : List γ} {O : Av} {H0 : Hp} {ow : Nat → Addr} (hset : ∀ Γ x (i : Nat) d, (set Γ x)[i]? = some (.ow d) → Γ[i]? = some (.ow d))
    (hsm : ∀ Γ x (i : Nat), i ∉ is → (set Γ x)[i]? = Γ[i]?) (his : ∀ i ∈ is, i ∈ vs) (hvs : ∀ i ∈ vs, ∀ d, Γ[i]? ≠ some (.ow d)) {σ : L2.St} {H : Hp} {Q : VK} (rel : Rel R O H0 ow Γ σ H) (ef0 : compM mc f xs s1 = some (r, st'))
    (q : ∀ p vs H', H p = none → Keep (Zr R) H H' → okR R st' H' → H' p = some (.lst vs) → RpAll (avp (avo O Γ ow) p) H' vs (r.map ec) → Q (.ref p) H')
    (prov : ∀ Rr : It → Hp → Prop, (∀ J H1, Keep (Zr R) H H1 → okR R s1 H1 → xs.length ≤ sizeLine → ItOk J (avo O Γ ow) H1 (xs.map ei) → Rr J H1) → wi σ H Rr) :
    tLc wi (tG set is ei) (fun σ H Q => ∃ x, tT R (set (wipeG Γ vs) x) (mc x) σ H Q) (fun σ H Q => ∃ x, tE R (set (wipeG Γ vs) x) ec (f x) σ H Q) vs σ H Q := by
  refine prov _ fun J H1 k1 o1 hlen it => fun D nD => ?_
  have rel1 := rel.grow k1 (okZ o1)
  obtain ⟨relw, av⟩ := rel1.wipe vs hvs
  obtain ⟨relD, n0⟩ := relw.addO nD (.lst []) (fun _ => by simp)
  have nZ : ¬ Zr R D := fun z => (okZ o1 D z).1 nD
  have nA : ¬ avo O Γ ow D := rel1.ad.fresh nD
  have avD : ∀ a, avo (avp O D) (wipeG Γ vs) ow a → avp (avo O Γ ow) D a := fun a z => by
    rcases z with (z | z) | z
    · exact .inl (.inl z)
    · exact .inr z
    · exact .inl (by rw [← av]; exact .inr z)
  have avL : ∀ a, avo O Γ ow a → avo (avp O D) (wipeG Γ vs) ow a := fun a z => by
    rw [← av] at z
    rcases z with z | z
    · exact .inl (.inl z)
    · exact .inr z
  refine ⟨fun i m H' => m = xs.length - i ∧ i ≤ xs.length ∧ ∃ u acc ys zs, Rel R (avp O D) H0 ow (wipeG Γ vs) (L2.wipe σ vs) H' ∧ okR R u H' ∧ H' D = some (.lst acc) ∧ RpAll (avo (avp O D) (wipeG Γ vs) ow) H' acc (ys.map ec) ∧
    compM mc f (xs.drop i) u = some (zs, st') ∧ r = ys ++ zs ∧ ys.length ≤ i ∧ Keep (Zr R) H1 H', ⟨_, rfl, Nat.zero_le _, s1, [], [], r, relD, o1.keep (fun a o z e => by rw [upd_ne (fun q => nZ (by rw [← q]; exact z))]; exact e), upd_same, .nil, ef0, rfl, Nat.le_refl _, fun a o _ e => by rw [upd_ne (ne_of_none e nD)]; exact e⟩, ?_⟩
  rintro i m H' ⟨rfl, hile, u, acc, ys, zs, rel', ok', hD, racc, ef, rfl, hys, k'⟩
  have kA : Keep (avo O Γ ow) H1 H' := rel1.keepA k'
  obtain ⟨stop, go⟩ := it H' i kA
  by_cases hlt : i < xs.length
  · have hx : xs[i]? = some xs[i] := List.getElem?_eq_getElem hlt
    obtain ⟨hgo, hy⟩ := go (ei xs[i]) (by rw [List.getElem?_map, hx]; rfl)
    rw [List.drop_eq_getElem_cons hlt, compM] at ef
    obtain ⟨b, u2, ef1, ef2⟩ := bind_some ef
    refine .inr ⟨hgo, fun H2 => ∃ u acc ys' zs', Rel R (avp O D) H0 ow (wipeG Γ vs) (L2.wipe σ vs) H2 ∧ okR R u H2 ∧ H2 D = some (.lst acc) ∧ RpAll (avo (avp O D) (wipeG Γ vs) ow) H2 acc (ys'.map ec) ∧
      compM mc f (xs.drop (i + 1)) u = some (zs', st') ∧ ys ++ zs = ys' ++ zs' ∧ ys'.length ≤ i + 1 ∧ Keep (Zr R) H1 H2, fun H2 ⟨u', acc', ys', zs', a1, a2, a3, a4, a5, a6, a7, a8⟩ => ⟨_, by omega, rfl, hlt, u', acc', ys', zs', a1, a2, a3, a4, a5, a6, a7, a8⟩, fun v H2 y => ?_⟩
    obtain ⟨same, rp⟩ := hy v H2 y
    have relg := rel'.grow (Keep.of_same same) (fun a z => (rel'.odom a (rel'.zsub a z)).same fun o h => same a o h)
    refine ⟨R, avp O D, H0, ow, wipeG Γ vs, xs[i], relg, rp _ (fun a o na ea z => ?_) rel'.ad, fun σ3 rel3 w3 => ⟨(w3 vs his).trans (wipe_idem σ vs), xs[i], avp O D, H0, ow, u, b, u2, rel3, ok'.same same, ef1, fun H3 k3 o3 => ?_⟩⟩
    · rcases avD a z with z | z
      · exact na z
      · rw [z, nD] at ea; cases ea
    have hD3 : H3 D = some (.lst acc) := k3 _ _ nZ (same _ _ hD)
    have rel3' := rel3.grow k3 (okZ o3)
    have relH3 := relg.grow k3 (okZ o3)
    have kH3 : Keep (Zr R) H1 H3 := (k'.trans (Keep.of_same same)).trans k3
    have racc3 := (racc.keep (Keep.of_same same)).keep (relg.keepA k3)
    cases b with
    | false => exact L2.iteF ⟨u2, acc, ys, zs, relH3, o3, hD3, racc3, ef2, rfl, by omega, kH3⟩
    | true =>
      refine L2.iteT ⟨xs[i], avp O D, H0, ow, u2, ?_⟩
      obtain ⟨y, u3, ef3, ef4⟩ := bind_some (show bindM (f xs[i]) (fun y => bindM (compM mc f (xs.drop (i + 1))) fun ys => pureM (y :: ys)) u2 = some (zs, st') from ef2)
      obtain ⟨zs', u4, ef5, ef6⟩ := bind_some ef4
      obtain ⟨rfl, rfl⟩ := pure_some ef6
      refine ⟨y, u3, rel3', o3, ef3, fun w H4 k4 o4 rp4 => ?_⟩
      have hD4 : H4 D = some (.lst acc) := k4 _ _ nZ hD3
      have hacc : acc.length = ys.length := by have := racc.length; simpa using this
      refine ⟨acc, hD4, by omega, u3, acc ++ [w], ys ++ [y], zs', (relH3.grow k4 (okZ o4)).updO (.inr rfl) n0 _ (fun _ => by simp), o4.keep (fun a o z e => by rw [upd_ne (fun q => nZ (by rw [← q]; exact z))]; exact e), upd_same, ?_, ef5, by simp, by simp; omega, fun a o nz e => ?_⟩
      · have kD : Keep (avo (avp O D) (wipeG Γ vs) ow) H4 (upd H4 D (.lst (acc ++ [w]))) := fun a o na e => by rw [upd_ne (fun z => na (.inl (.inr z)))]; exact e
        rw [List.map_append]
        refine (((racc3.keep (relH3.keepA k4)).keep kD)).append (.cons ((rp4.less fun a z => ?_).keep kD) .nil)
        rcases z with z | ⟨j, d, e3, e4⟩
        · exact .inl z
        · refine .inr ⟨j, d, ?_, e4⟩
          rw [hsm _ _ j fun hj => absurd (wipeG_in (his j hj) e3) (by simp)]
          exact e3
      · rw [upd_ne (ne_of_none e nD)]; exact k4 _ _ nz (kH3 _ _ nz e)
  · have hi' : i = xs.length := by omega
    subst hi'
    refine .inl ⟨stop (by simp), ?_⟩
    rw [List.drop_length] at ef
    obtain ⟨rfl, rfl⟩ := pure_some (show pureM [] u = some (zs, st') from ef)
    rw [List.append_nil] at q
    refine q D acc H' ?_ (k1.trans k') ok' hD (racc.less fun a z => ?_)
    · exact noneK k1 o1 nD
    · rcases z with z | z
      · exact avL a z
      · exact .inl (.inr z)
/-! ### an own dict is locked -/
theorem Rel.lockD {O : Av} {H0 H : Hp} {ow : Nat → Addr} {σ : L2.St} (r : Rel R O H0 ow Γ σ H) {i : Nat} {d0 : PyData} {od : Obj} {u : HO} (h : Γ[i]? = some (.ow d0)) : Rel R O H0 ow (Γ.set i .un) σ (upd H (ow i) (.frz od u)) := by
  have lo : ∀ (j : Nat) (d : PyData), (Γ.set i .un)[j]? = some (.ow d) → j ≠ i ∧ Γ[j]? = some (.ow d) := fun j d e => by
    by_cases hj : i = j
    · subst hj
      rw [List.getElem?_set_self', h] at e; cases e
    · rw [List.getElem?_set_ne hj] at e
      exact ⟨fun z => hj z.symm, e⟩
  have av : ∀ a, Pz.avo O (Γ.set i .un) ow a → Pz.avo O Γ ow a := fun a z => by
    rcases z with z | ⟨j, d, e, q⟩
    · exact .inl z
    · exact .inr ⟨j, d, (lo j d e).2, q⟩
  obtain ⟨_, _, nO, n0⟩ := r.how i d0 h
  have k : Keep (Pz.avo O Γ ow) H (upd H (ow i) (.frz od u)) := fun a o n e => by
    rw [upd_ne (fun z => n (.inr ⟨i, d0, h, z.symm⟩))]; exact e
  refine ⟨by rw [List.length_set]; exact r.len, fun j d e => ?_, fun j d e => ?_, fun j e => ?_, fun j k d1 d2 e1 e2 q => r.hinj j k _ _ (lo j _ e1).2 (lo k _ e2).2 q, fun a o z e => ?_, r.zsub, fun a z => ?_⟩
  · by_cases hj : i = j
    · subst hj
      rw [List.getElem?_set_self', h] at e; cases e
    · rw [List.getElem?_set_ne hj] at e
      obtain ⟨w, a, b⟩ := r.hfz j d e
      exact ⟨w, a, (b.keep k).less av⟩
  · obtain ⟨nj, e⟩ := lo j d e
    obtain ⟨a, b, c, f⟩ := r.how j d e
    have ne : ow j ≠ ow i := fun z => nj (r.hinj j i _ _ e h z)
    refine ⟨a, ?_, c, f⟩
    cases d with
    | list ds =>
      obtain ⟨vs, q1, q2⟩ := b
      exact ⟨vs, by rw [upd_ne ne]; exact q1, (q2.keep k).less av⟩
    | dict kvs =>
      obtain ⟨o, q1, q2⟩ := b
      exact ⟨o, by rw [upd_ne ne]; exact q1, q2⟩
    | _ => exact b.elim
  · by_cases hj : i = j
    · subst hj
      rw [List.getElem?_set_self', h] at e; cases e
    · rw [List.getElem?_set_ne hj] at e
      exact r.hsrc j e
  · have e1 := r.same a o z e
    rw [upd_ne (fun q => by rw [q, n0] at e; cases e)]; exact e1
  · by_cases q : a = ow i
    · rw [q, upd_same]; exact NT.of fun xs z => nomatch z
    · rw [upd_ne q]; exact r.odom a z
mutual
theorem Rp.moveZ {A A' : Av} {H H' : Hp} (h : ∀ a o, ¬ A a → H a = some o → (∀ od u, o ≠ .frz od u) → ¬ A' a ∧ H' a = some o) : ∀ (d : PyData) (v : V), Rp A H v d → Rp A' H' v d
  | .none, _, r => by cases r; exact .non
  | .bool b, _, r => by cases r; exact .bl b
  | .int i, _, r => by cases r; exact .int i
  | .str x, _, r => by cases r; exact .str x
  | .list ds, _, r => by
    cases r with
    | lst h1 h2 h3 => obtain ⟨a1, a2⟩ := h _ _ h1 h2 (fun _ _ z => nomatch z); exact .lst a1 a2 (RpAll.moveZ h ds _ h3)
  | .tuple ds, _, r => by
    cases r with
    | tup h1 h2 h3 => obtain ⟨a1, a2⟩ := h _ _ h1 h2 (fun _ _ z => nomatch z); exact .tup a1 a2 (RpAll.moveZ h ds _ h3)
  | .dict _, _, r => by
    cases r with
    | dic h1 h2 h3 => obtain ⟨a1, a2⟩ := h _ _ h1 h2 (fun _ _ z => by subst z; exact h3); exact .dic a1 a2 h3
theorem RpAll.moveZ {A A' : Av} {H H' : Hp} (h : ∀ a o, ¬ A a → H a = some o → (∀ od u, o ≠ .frz od u) → ¬ A' a ∧ H' a = some o) : ∀ (ds : List PyData) (vs : List V), RpAll A H vs ds → RpAll A' H' vs ds
  | [], _, r => by cases r; exact .nil
  | d :: ds, _, r => by
    cases r with
    | cons h1 h2 => exact .cons (Rp.moveZ h d _ h1) (RpAll.moveZ h ds _ h2)
end
theorem itok_keysT {A : Av} {H1 : Hp} {d : Addr} {od : Obj} {kk : κ → List L2.Key} {vv : ν → V} (hk : KyT ek kk) (xs : List (κ × ν × Unit)) (na : ¬ A d) (hd : H1 d = some (.frz od (.dT (kvT kk vv xs)))) : ItOk (Itkt d od (kvT kk vv xs)) A H1 ((xs.map fun p => p.1).map ek) := fun H i k => by
  have hH := k _ _ na hd
  have ll : (kvT kk vv xs).length = xs.length := by unfold kvT; simp
  refine ⟨fun hl => ⟨hH, by rw [ll]; simpa using hl⟩, fun dd hdd => ?_⟩
  rw [List.getElem?_map] at hdd
  obtain ⟨z, e1, rfl⟩ := Option.map_eq_some_iff.mp hdd
  rw [List.getElem?_map] at e1
  obtain ⟨p, e2, rfl⟩ := Option.map_eq_some_iff.mp e1
  refine ⟨⟨hH, by rw [ll]; exact (List.getElem?_eq_some_iff.mp e2).1⟩, fun v H' y => ?_⟩
  obtain ⟨rfl, k2, w, c, e3, rfl, e4⟩ := y
  refine ⟨Same.refl _, fun A' _ ad => ?_⟩
  have : k2 = kk p.1 := by
    unfold kvT at e3
    rw [List.getElem?_map, e2] at e3
    cases e3; rfl
  subst this
  rw [hk.enc]
  exact .tup (fun z => (ad _ z).2 _ e4) e4 (keys_rp _)
theorem itok_keysK {A : Av} {H1 : Hp} {d : Addr} {od : Obj} {kk : κ → L2.Key} {vv : ν → V} (hk : KyK ek kk) (xs : List (κ × ν × Unit)) (na : ¬ A d) (hd : H1 d = some (.frz od (.dK (kvK kk vv xs)))) : ItOk (Itk d od (kvK kk vv xs)) A H1 ((xs.map fun p => p.1).map ek) := fun H i k => by
  have hH := k _ _ na hd
  have ll : (kvK kk vv xs).length = xs.length := by unfold kvK; simp
  refine ⟨fun hl => ⟨hH, by rw [ll]; simpa using hl⟩, fun dd hdd => ?_⟩
  rw [List.getElem?_map] at hdd
  obtain ⟨z, e1, rfl⟩ := Option.map_eq_some_iff.mp hdd
  rw [List.getElem?_map] at e1
  obtain ⟨p, e2, rfl⟩ := Option.map_eq_some_iff.mp e1
  refine ⟨⟨hH, by rw [ll]; exact (List.getElem?_eq_some_iff.mp e2).1⟩, fun v H' y => ?_⟩
  obtain ⟨rfl, k2, w, e3, rfl⟩ := y
  refine ⟨Same.refl _, fun A' _ ad => ?_⟩
  have : k2 = kk p.1 := by
    unfold kvK at e3
    rw [List.getElem?_map, e2] at e3
    cases e3; rfl
  subst this
  rw [hk.enc]
  cases kk p.1 with
  | inl i => exact .int i
  | inr x => exact .str x
theorem ow_mut {o : HO} {ds : List (PyData × PyData)} (hd : DicO o ds) : L2.Mut (some o) := by
  cases o with
  | dK _ => exact True.intro
  | dT _ => exact True.intro
  | _ => exact hd.elim
/-- what walks the locked dict -/
theorem keys_prov {vv : ν → V} (hk : Ky ek) (hv : VlB ev vv) {i : Nat} {O : Av} {H0 H : Hp} {ow : Nat → Addr} {σ : L2.St} {od : Obj} {o : HO} {xs : List (κ × ν × Unit)} {s1 : Src} (hΓ : Γ[i]? = some (.ow (eM ek ev xs))) (rel : Rel R O H0 ow Γ σ H) (hdo : DicO o (xs.map fun p => (ek p.1, ev p.2.1)))
    (ok2 : okR R s1 (upd H (ow i) (.frz od o))) (hlen : xs.length ≤ sizeLine) (Rr : It → Hp → Prop)
    (h : ∀ J H1, Keep (Zr R) (upd H (ow i) (.frz od o)) H1 → okR R s1 H1 → (xs.map fun p => p.1).length ≤ sizeLine → ItOk J (avo O (Γ.set i .un) ow) H1 ((xs.map fun p => p.1).map ek) → Rr J H1) : iKeys (tVar i) σ (upd H (ow i) (.frz od o)) Rr := by
  obtain ⟨hσ, _, nO, n0⟩ := rel.how i _ hΓ
  have na : ¬ avo O (Γ.set i .un) ow (ow i) := fun z => by
    rcases z with z | ⟨j, d, e, q⟩
    · exact nO z
    · by_cases hj : i = j
      · subst hj
        rw [List.getElem?_set_self', hΓ] at e; cases e
      · rw [List.getElem?_set_ne hj] at e
        exact hj (rel.hinj j i _ _ e hΓ q).symm
  have hl : (xs.map fun p : κ × ν × Unit => p.1).length ≤ sizeLine := by rw [List.length_map]; exact hlen
  refine ⟨_, hσ, ow i, od, rfl, ?_⟩
  cases hk with
  | T kk hk =>
    rcases dicO_T hk hv hdo with rfl | ⟨rfl, rfl⟩
    · exact .inr ⟨_, upd_same, h _ _ (Keep.refl _) ok2 hl (itok_keysT hk xs na upd_same)⟩
    · refine .inl ⟨_, upd_same, h _ _ (Keep.refl _) ok2 hl fun H' j k => ⟨fun _ => ⟨k _ _ na upd_same, Nat.zero_le _⟩, fun dd e => by simp at e⟩⟩
  | K kk hk =>
    rcases dicO_K hk hv hdo with rfl | ⟨rfl, rfl⟩
    · exact .inl ⟨_, upd_same, h _ _ (Keep.refl _) ok2 hl (itok_keysK hk xs na upd_same)⟩
    · refine .inr ⟨_, upd_same, h _ _ (Keep.refl _) ok2 hl fun H' j k => ⟨fun _ => ⟨k _ _ na upd_same, Nat.zero_le _⟩, fun dd e => by simp at e⟩⟩
/-- the list that a walk of the locked dict leaves, behind the unlocking -/
theorem unlock_fin {i : Nat} {O : Av} {H0 H : Hp} {ow : Nat → Addr} {σ : L2.St} {od : Obj} {o : HO} {d0 : PyData} {st' : Src} (hΓ : Γ[i]? = some (.ow d0)) (rel : Rel R O H0 ow Γ σ H) (hp : H (ow i) = some o) {H' : Hp} (k : Keep (Zr R) (upd H (ow i) (.frz od o)) H') (ok : okR R st' H') :
    H' (ow i) = some (.frz od o) ∧ Keep (Zr R) H (upd H' (ow i) o) ∧ okR R st' (upd H' (ow i) o) ∧ ∀ (p : Addr) (ds : List PyData) (vs : List V), RpAll (avp (avo O (Γ.set i .un) ow) p) H' vs ds → RpAll (avp (avo O Γ ow) p) (upd H' (ow i) o) vs ds := by
  obtain ⟨hσ, _, nO, n0⟩ := rel.how i _ hΓ
  have nZ : ¬ Zr R (ow i) := fun z => nO (rel.zsub _ z)
  have hH' : H' (ow i) = some (.frz od o) := k _ _ nZ upd_same
  refine ⟨hH', fun a u z e => ?_, ok.keep fun a u z e => ?_, fun p ds vs r => RpAll.moveZ (fun a u na e nf => ?_) ds vs r⟩
  · by_cases q : a = ow i
    · subst q; rw [hp] at e; cases e; exact upd_same
    · rw [upd_ne q]; exact k a u z (by rw [upd_ne q]; exact e)
  · rw [upd_ne (fun q => nZ (by rw [← q]; exact z))]; exact e
  · have ne : a ≠ ow i := fun q => by
      subst q
      rw [hH'] at e
      cases e
      exact nf _ _ rfl
    refine ⟨fun z => na ?_, by rw [upd_ne ne]; exact e⟩
    rcases z with (z | ⟨j, d, e3, e4⟩) | z
    · exact .inl (.inl z)
    · refine .inl (.inr ⟨j, d, ?_, e4⟩)
      rw [List.getElem?_set_ne (fun q => ne (by rw [← e4, q]))]
      exact e3
    · exact .inr z
def DFits (H : Hp) : Prop := ∀ p o ds, H p = some o → DicO o ds → ds.length ≤ sizeLine
theorem PE.big {t : TE} (h : PE X e t) : PE X e (fun σ H Q => DFits H → t σ H Q) := ⟨fun pins s σ H Q I q => h.run pins s σ H Q I (q fun p o ds hp hd => by
  cases o with
  | dK ks =>
    have := (show ks.length ≤ sizeLine from (show ObjOk X.prog X.w H s.heap p (.dK ks) from I.hok _ _ hp).1)
    have l := congrArg List.length (show List.map _ ks = List.map _ ds from hd)
    simp at l; omega
  | dT ks =>
    have := (show ks.length ≤ sizeLine from (show ObjOk X.prog X.w H s.heap p (.dT ks) from I.hok _ _ hp).1)
    have l := congrArg List.length (show List.map _ ks = List.map _ ds from hd)
    simp at l; omega
  | _ => exact hd.elim)⟩
theorem f_lcK (i : Nat) {x : Str} {px : Pos} {vv : ν → V} (hk : Ky ek) (hv : VlB ev vv) (xs : List (κ × ν × Unit)) {set : List Slot → κ → List Slot} {is : List Nat} {elt tg : Expr} {ifs : List Expr} {scope : Scope} (own : List (Str × Nat)) (mc : κ → M Bool) (f : κ → M γ) (hc : X.calm = true) (hN : X.N.Nodup)
    (hΓ : Γ[i]? = some (.ow (eM ek ev xs))) (ok : BlkOk X.N X.env.scope scope own)
    (hg : ∀ (s : Shared) (H : Hp) (C : Addr) (cl : List (Str × Addr)) (fp : List Addr), GJ (X.blk s H scope (compEnvC scope cl C X.env) fp) tg set is ek)
    (ht : ∀ (s : Shared) (H : Hp) (C : Addr) (cl : List (Str × Addr)) (fp : List Addr) (x : κ), CJ (X.blk s H scope (compEnvC scope cl C X.env) fp) R (set (wipeG (Γ.set i .un) (own.map (·.2))) x) ifs (mc x))
    (he : ∀ (s : Shared) (H : Hp) (C : Addr) (cl : List (Str × Addr)) (fp : List Addr) (x : κ), EJ (X.blk s H scope (compEnvC scope cl C X.env) fp) R (set (wipeG (Γ.set i .un) (own.map (·.2))) x) elt ec (f x))
    (hset : ∀ Γ x (i : Nat) d, (set Γ x)[i]? = some (.ow d) → Γ[i]? = some (.ow d)) (hsm : ∀ Γ x (i : Nat), i ∉ is → (set Γ x)[i]? = Γ[i]?) (his : ∀ i ∈ is, i ∈ own.map (·.2)) (hvs : ∀ j ∈ own.map (·.2), ∀ d, Γ[j]? ≠ some (.ow d))
    (hNi : X.N[i]? = some x := by rfl) (hvis : Vis X.env.scope x := by first | exact Or.inl rfl | exact Or.inr (Or.inl rfl) | exact Or.inr (Or.inr rfl))
    (hd : (x == ("__debug__" : Str)) = false := by decide) (hcd : (x == ("__classdict__" : Str)) = false := by decide)
    (hs : ∀ y, foldedSetIterable (.Name x px) X.env y = pure y := by intro _; rfl) : EF X R Γ (.ListComp elt [⟨tg, .Name x px, ifs, 0⟩] scope pos) ec (compM mc f (xs.map fun p => p.1)) := by
  refine PE.weak (Pz.PE.big (pe_lock (pe_lc hc hN (pi_keys (pe_var hNi hvis hd hcd)) ok hg (fun s H C cl fp => PTs.ex fun x => ht s H C cl fp x) (fun s H C cl fp => PE.ex fun x => he s H C cl fp x) hs))) fun σ H Q ⟨O, H0, ow, st, z, st', rel, ok, e, q⟩ big => ?_
  obtain ⟨hσ, ⟨o, hp, hdo⟩, nO, n0⟩ := rel.how i _ hΓ
  have nZ : ¬ Zr R (ow i) := fun z => nO (rel.zsub _ z)
  refine ⟨ow i, o, hp, ow_mut hdo, fun od => ?_⟩
  have ok2 : okR R st (upd H (ow i) (.frz od o)) := ok.keep fun a u z e => by rw [upd_ne (fun q => nZ (by rw [← q]; exact z))]; exact e
  have hvs' : ∀ j ∈ own.map (·.2), ∀ d, (Γ.set i .un)[j]? ≠ some (.ow d) := fun j hj d e => by
    by_cases hij : i = j
    · subst hij
      rw [List.getElem?_set_self', hΓ] at e; cases e
    · rw [List.getElem?_set_ne hij] at e
      exact hvs j hj d e
  refine lc_readW hset hsm his hvs' (rel.lockD hΓ) e (fun p vs H' n k o' ep rp => ?_) (fun Rr h => keys_prov hk hv hΓ rel hdo ok2 (by have := big _ _ _ hp hdo; simpa using this) Rr h)
  obtain ⟨h1, h2, h3, h4⟩ := unlock_fin hΓ rel hp k o'
  have np : p ≠ ow i := fun z => by subst z; rw [upd_same] at n; cases n
  exact ⟨h1, q p vs _ (by rw [upd_ne np] at n; exact n) h2 h3 (by rw [upd_ne np]; exact ep) (h4 _ _ _ rp)⟩
end
end Pz


/-! dict comprehensions, keys of either kind -/
namespace Pz
open PySem PySem.Spec PyProof.Rows L2
section
variable {X : Cx}
/-- the place of one more entry in the dict under way -/
theorem dictSet_put {pins : List (Addr × Obj)} {σ : L2.St} {H H' : Hp} {s : Shared} {E : Value → Shared → Prop} {D : Addr} {y v : V} {u r : Value} {Q : Unit → Shared → Prop} (hu : X.A.units < cLine) (I : Inv X pins σ H s) (g : DPut H D y v H') (ry : RelV y u) (rv : RelV v r) (h : ∀ s', Inv X pins σ H' s' → Q () s') :
    wpAny (model X.prog X.w) X.A (dictSet D u r) Q E s := by
  rcases g with ⟨kvs, k, e, rfl, l, rfl⟩ | ⟨kvs, k, b, e, rfl, eb, l, rfl⟩
  · exact d_dictSet I e l ry rv h
  · obtain rfl : u = Value.ref b := ry
    obtain ⟨z, hd, ys, rel, dd⟩ := dt_of I.hok e
    have hl := length_putK kvs k v
    refine wpAny_dictSet_heap (knd := tupleKind (mixKind X.prog X.w)) (hsz := by rw [← Paired.length rel]; exact z) hu (key_of I.hok eb) dd fun h' dd' hs => h _ ?_
    obtain ⟨o, es, ep, a1, a2, a3, a4, _, a6⟩ := dd'
    exact d_write I (by rw [e]; exact True.intro) hs ⟨o, a1⟩ ⟨by omega, hd, _, (rel.put k eb rv).keeps fun c ys ec => by rw [upd_ne (ne_of ec e (fun z => nomatch z))]; exact ec, o, es, ep, a1, a2, a3, a4, a6⟩
def DcStep (J : It) (D : Addr) (g : TG) (tt : TT) (tk tv : TE) (vs : List Nat) (σ : L2.St) (W : Nat → Nat → Hp → Prop) (i m : Nat) (H : Hp) : Prop := J.go i H ∧ ∃ Nx : Hp → Prop, (∀ H', Nx H' → ∃ m', m' < m ∧ W (i + 1) m' H') ∧
  ∀ x H', J.yld i H x H' → g x (L2.wipe σ vs) H' fun σ2 H2 => L2.wipe σ2 vs = L2.wipe σ vs ∧
    tt σ2 H2 fun b H3 => if b = true then tk σ2 H3 fun y H4 => tv σ2 H4 fun z H5 => ∃ H6, DPut H5 D y z H6 ∧ Nx H6 else Nx H3
def tDcM (u0 : HO) (wi : TI) (g : TG) (tt : TT) (tk tv : TE) (vs : List Nat) : TE := fun σ H Q => wi σ H fun J H1 => ∀ D, H1 D = none →
  ∃ W : Nat → Nat → Hp → Prop, (∃ m, W 0 m (upd H1 D u0)) ∧ ∀ i m H, W i m H → (J.stop i H ∧ Q (.ref D) H) ∨ DcStep J D g tt tk tv vs σ W i m H
/-- what an empty dict of either kind is -/
theorem new_dict {u0 : HO} (h0 : u0 = .dK [] ∨ u0 = .dT []) {pins : List (Addr × Obj)} {σ : L2.St} {H : Hp} {s : Shared} {D : Addr} (I : Inv X pins σ H s) (hD : s.heap.objs.size = D) :
    Inv X pins σ (upd H D u0) { s with heap := s.heap.push { cls := .type "dict", data := .dict #[] } } := by
  refine I.laid (t' := s.toks) (fun b o e => Heap.get?_push_of_some _ e) (Nat.le_of_eq hD) ?_
  rw [← hD]
  rcases h0 with rfl | rfl
  · exact dk_empty s.heap I.big
  · exact dt_empty s.heap I.big
theorem dcm_core {pins : List (Addr × Obj)} {s : Shared} {σ : L2.St} {H : Hp} {Q : VK} {u0 : HO} {kx vx tg iter : Expr} {ifs : List Expr} {scope : Scope} {own : List (Str × Nat)} {pos pos' : Pos} {wi : TI} {g : TG} {tt : TT} {tk tv : TE} {use : Option (Value → Sem Unit)} {Qf : Value → Shared → Prop} (h0 : u0 = .dK [] ∨ u0 = .dT []) (hu : X.A.units + 64 < cLine) (hc : X.calm = true) (hN : X.N.Nodup)
    (I : Inv X pins σ H s) (hi : PI X tg iter wi) (ok : BlkOk X.N X.env.scope scope own)
    (hg : ∀ (s : Shared) (H : Hp) (C : Addr) (cl : List (Str × Addr)) (fp : List Addr), PG (X.blk s H scope (compEnvC scope cl C X.env) fp) tg g)
    (ht : ∀ (s : Shared) (H : Hp) (C : Addr) (cl : List (Str × Addr)) (fp : List Addr), PTs (X.blk s H scope (compEnvC scope cl C X.env) fp) ifs tt)
    (hk : ∀ (s : Shared) (H : Hp) (C : Addr) (cl : List (Str × Addr)) (fp : List Addr), PE (X.blk s H scope (compEnvC scope cl C X.env) fp) kx tk)
    (hv : ∀ (s : Shared) (H : Hp) (C : Addr) (cl : List (Str × Addr)) (fp : List Addr), PE (X.blk s H scope (compEnvC scope cl C X.env) fp) vx tv) (hs : ∀ x, foldedSetIterable iter X.env x = pure x)
    (h : tDcM u0 wi g tt tk tv (own.map (·.2)) σ H Q)
    (last : ∀ D C s' m H', Inv X pins σ H' s' → Q (.ref D) H' → s'.heap.Ns C m → FpOk X pins H' C → compPost (model X.prog X.w) X.A X.xe use Qf (.ref D) C (.ok .next) s') :
    wpAny (model X.prog X.w) X.A (comprehension (.DictComp kx vx [⟨tg, iter, ifs, 0⟩] scope pos) scope X.env pos' newDict false (eval iter X.env) use) Qf X.xe s := by
  refine wpAny_comprehension_free (use := use) rfl hs (closure_ok fun y hy e => (ok.free y hy e).elim (fun k => I.ok.has _ (.inl k)) fun k => I.ok.has _ (.inr k)) ok.kind (fun y hy e => by rw [ok.uniq y hy, e]) (thn (hi.run pins s σ H _ I h) fun _ _ h1 => thn h1 fun _ sa ⟨it, fp, tn, J, Ha, ea, Ia, T, sta, fa, q⟩ => ?_)
  subst ea
  refine wpAny_newObj_type (newEnv_comp ?_)
  generalize hD : sa.heap.objs.size = D
  obtain ⟨W, ⟨m0, w0⟩, turn⟩ := q D (Ia.hok.fresh (Nat.le_of_eq hD))
  have Ib := new_dict h0 Ia hD
  generalize hsb : ({ sa with heap := sa.heap.push { cls := .type "dict", data := .dict #[] } } : Shared) = sb at Ib
  have hpb : sb.heap = sa.heap.push { cls := .type "dict", data := .dict #[] } := by rw [← hsb]
  have fb : ∀ b ∈ fp, FpOk X pins (upd Ha D u0) b ∧ b < sb.heap.objs.size := fun b hb => by
    obtain ⟨o, e, _⟩ := T.obj _ _ sta b hb
    have lt := Heap.lt_size e
    exact ⟨⟨by rw [upd_ne (by rw [← hD]; exact Nat.ne_of_lt lt)]; exact (fa b hb).1, (fa b hb).2⟩, by rw [hpb, Heap.size_push]; exact Nat.lt_succ_of_lt lt⟩
  have stb : tn 0 sb.heap := T.keep _ _ _ sta fun b _ o e => by rw [hpb]; exact Heap.get?_push_of_some _ e
  have Ic := block_start Ib ok hN fb
  have G1 := hg sb (upd Ha D u0) sb.heap.objs.size (cellsFrom (sb.heap.objs.size + 1) scope.names (cloFrom X.env.cells scope.names [])) fp
  have G2 := ht sb (upd Ha D u0) sb.heap.objs.size (cellsFrom (sb.heap.objs.size + 1) scope.names (cloFrom X.env.cells scope.names [])) fp
  have G3 := hk sb (upd Ha D u0) sb.heap.objs.size (cellsFrom (sb.heap.objs.size + 1) scope.names (cloFrom X.env.cells scope.names [])) fp
  have G4 := hv sb (upd Ha D u0) sb.heap.objs.size (cellsFrom (sb.heap.objs.size + 1) scope.names (cloFrom X.env.cells scope.names [])) fp
  show codeAny _ _ (.compStart (.DictComp kx vx [⟨tg, iter, ifs, 0⟩] scope pos) 0 (.ref it) (.ref D) (compEnvC scope (cellsFrom (sb.heap.objs.size + 1) scope.names (cloFrom X.env.cells scope.names [])) sb.heap.objs.size X.env)) (compPost (model X.prog X.w) X.A X.xe use Qf (.ref D) sb.heap.objs.size) { sb with heap := pushCells (sb.heap.push { cls := .type "dict", data := .dict #[] }) scope.names }
  have free0 : ∀ b ∈ fp, (upd Ha D u0) b = none := fun b hb => (fb b hb).1.1
  generalize hce : compEnvC scope (cellsFrom (sb.heap.objs.size + 1) scope.names (cloFrom X.env.cells scope.names [])) sb.heap.objs.size X.env = ce at Ic G1 G2 G3 G4 ⊢
  have cL : ce.locals = sb.heap.objs.size := by subst hce; rfl
  generalize hHb : upd Ha D u0 = Hb at Ib Ic G1 G2 G3 G4 w0 free0 fb
  generalize hsc : ({ sb with heap := pushCells (sb.heap.push { cls := .type "dict", data := .dict #[] }) scope.names } : Shared) = sc at Ic ⊢
  have stc : tn 0 sc.heap := T.keep _ _ _ stb fun b _ o e => by rw [← hsc]; exact pushCells_keeps _ _ _ _ (Heap.get?_push_of_some _ e)
  have stat : ∀ {σ' : L2.St} {H' : Hp} {s' : Shared}, Inv (X.blk sb Hb scope ce fp) [] σ' H' s' → (∀ b ∈ fp, H' b = none) → ∀ b ∈ fp, FpOk (X.blk sb Hb scope ce fp) [] H' b := fun {σ' H' s'} I' hn b hb =>
    ⟨hn b hb, (I'.ok.exf b hb).1, I'.ok.exfs b hb, .inl hb, fun x c e => (I'.ok.exf b hb).2 x c e, fun p hp => absurd (show p ∈ ([] : List (Addr × Obj)) ++ [] from hp) (by simp)⟩
  have loop : codeAny (model X.prog X.w) X.A (.compLoop (.DictComp kx vx [⟨tg, iter, ifs, 0⟩] scope pos) 0 (.ref it) (.ref D) ce) (compPost (model X.prog X.w) X.A X.xe use Qf (.ref D) sb.heap.objs.size) sc := by
    refine compLoop_anyD (fun n s' => ∃ i H', Inv (X.blk sb Hb scope ce fp) [] (L2.wipe σ (own.map (·.2))) H' s' ∧ tn i s'.heap ∧ (∀ b ∈ fp, H' b = none) ∧ W i n H') ?_ m0 ⟨0, Hb, Ic, stc, free0, w0⟩
    rintro n sd ⟨i, Hd, Id, std, nd, wd⟩
    rcases turn i n Hd wd with ⟨stop, qq⟩ | ⟨go, Nx, hNx, step⟩
    · refine thnF (T.done (X.blk sb Hb scope ce fp) rfl rfl rfl hc i [] sd _ Hd (fun _ _ => False) Id (stat Id nd) std stop) fun r se ⟨hr, Ie⟩ => ?_
      subst hr
      have If : Inv X pins σ Hd se := Ib.call' (ch := fp) Ie.os Ie.base Ie.hok Ie.bare fun b hb => ⟨(fb b hb).1.2.2.2.1, (fb b hb).1.2.1, (fb b hb).1.2.2.2.2.1, (fb b hb).1.2.2.2.2.2⟩
      have nC : Hd sb.heap.objs.size = none := by rw [← cL]; exact Ie.free
      obtain ⟨mm, hn, _⟩ := Ie.loc
      rw [show (X.blk sb Hb scope ce fp).env.locals = sb.heap.objs.size from cL] at hn
      exact last D sb.heap.objs.size se mm Hd If qq hn (Ib.fpOk (Nat.le_refl _) nC)
    · refine thnF (T.item (X.blk sb Hb scope ce fp) rfl rfl rfl hc i [] sd _ Hd (fun _ _ => False) Id (stat Id nd) std go) fun r se ⟨u, hr, h6⟩ => ?_
      subst hr
      refine thnF h6 fun _ sf ⟨x, Hf, If, rf, yf, stf, nf⟩ => ?_
      have If' := If.pinned (stat If nf) (T.obj _ _ stf)
      refine thnF (G1.run _ sf _ Hf x u _ If' rf (step x Hf yf)) fun _ sg ⟨σg, Hg, Ig, hw, qg⟩ => thnF (G2.run _ sg σg Hg _ Ig qg) fun b sh ⟨Hh, Ih, qh⟩ => ?_
      have fin : ∀ {s' : Shared} {H' : Hp}, Inv (X.blk sb Hb scope ce fp) ([] ++ pinsAt fp sf.heap) σg H' s' → Nx H' → ∃ m, m < n ∧ ∃ i H', Inv (X.blk sb Hb scope ce fp) [] (L2.wipe σ (own.map (·.2))) H' s' ∧ tn i s'.heap ∧ (∀ b ∈ fp, H' b = none) ∧ W i m H' := fun {s' H'} I' nx => by
        obtain ⟨m', hm, w'⟩ := hNx H' nx
        have pin' : ∀ b ∈ fp, ∀ o, sf.heap.get? b = some o → s'.heap.get? b = some o ∧ H' b = none := fun b hb o e => by
          have z := I'.pin (b, o) (List.mem_append_right _ (List.mem_append_right _ (mem_pinsAt hb e)))
          exact ⟨z.1, z.2.1⟩
        refine ⟨m', hm, i + 1, H', (I'.unpinned (pins := [])).weak (by rw [← hw, wipe_length]) (fun j v e => (wipe_some (by rw [← hw] at e; exact e)).1), T.keep _ _ _ stf fun b hb o e => (pin' b hb o e).1, fun b hb => ?_, w'⟩
        obtain ⟨o, e, _⟩ := T.obj _ _ stf b hb
        exact (pin' b hb o e).2
      cases b with
      | false =>
        rw [if_neg (by simp)] at qh ⊢
        exact fin Ih qh
      | true =>
        rw [if_pos rfl] at qh ⊢
        refine thnF (G3.run _ sh σg Hh _ Ih qh) fun z1 si ⟨yk, Hi, Ii, ri, qi⟩ => thnF (G4.run _ si σg Hi _ Ii qi) fun z2 sj ⟨yv, Hj, Ij, rj, H6, put, nx⟩ => ?_
        exact dictSet_put (X := X.blk sb Hb scope ce fp) (by show X.A.units < cLine; omega) Ij put ri rj fun sk Ik => fin Ik nx
  exact codeAny_compStart_dict loop (T.self X.A 0 _ _ _ stc loop)
theorem pe_dcM {u0 : HO} {kx vx tg iter : Expr} {ifs : List Expr} {scope : Scope} {own : List (Str × Nat)} {pos : Pos} {wi : TI} {g : TG} {tt : TT} {tk tv : TE} (h0 : u0 = .dK [] ∨ u0 = .dT []) (hu : X.A.units + 64 < cLine) (hc : X.calm = true) (hN : X.N.Nodup) (hi : PI X tg iter wi) (ok : BlkOk X.N X.env.scope scope own)
    (hg : ∀ (s : Shared) (H : Hp) (C : Addr) (cl : List (Str × Addr)) (fp : List Addr), PG (X.blk s H scope (compEnvC scope cl C X.env) fp) tg g)
    (ht : ∀ (s : Shared) (H : Hp) (C : Addr) (cl : List (Str × Addr)) (fp : List Addr), PTs (X.blk s H scope (compEnvC scope cl C X.env) fp) ifs tt)
    (hk : ∀ (s : Shared) (H : Hp) (C : Addr) (cl : List (Str × Addr)) (fp : List Addr), PE (X.blk s H scope (compEnvC scope cl C X.env) fp) kx tk)
    (hv : ∀ (s : Shared) (H : Hp) (C : Addr) (cl : List (Str × Addr)) (fp : List Addr), PE (X.blk s H scope (compEnvC scope cl C X.env) fp) vx tv) (hs : ∀ x, foldedSetIterable iter X.env x = pure x := by intro _; rfl) :
    PE X (.DictComp kx vx [⟨tg, iter, ifs, 0⟩] scope pos) (tDcM u0 wi g tt tk tv (own.map (·.2))) := by
  refine ⟨fun pins s σ H Q I h => ?_⟩
  rw [arm_eval_DictComp]
  refine dcm_core h0 hu hc hN I hi ok hg ht hk hv hs h fun D C s' m H' I' q hn f => ⟨m, hn, fun h'' sb => ?_⟩
  exact ⟨.ref D, H', I'.turned (t' := s'.toks) (fun b o hb e => (sb.2 b hb).trans e) f.1 f.2.1 f.2.2.2.1 f.2.2.2.2.1 f.2.2.2.2.2, rfl, q⟩
/-- name = {..} on one line, the name a local -/
theorem ps_setDcM {u0 : HO} {i : Nat} {y : Str} {py spos : Pos} {kx vx tg iter : Expr} {ifs : List Expr} {scope : Scope} {own : List (Str × Nat)} {pos : Pos} {wi : TI} {g : TG} {tt : TT} {tk tv : TE} (h0 : u0 = .dK [] ∨ u0 = .dT []) (hu : X.A.units + 64 < cLine) (hc : X.calm = true) (hN : X.N.Nodup) (hy : X.N[i]? = some y) (hyl : X.env.scope.names.lookup y = some .local)
    (hsw : swapsWith (.DictComp kx vx [⟨tg, iter, ifs, 0⟩] scope pos) (some (.Name y py)) spos.line X.env = pure true) (hi : PI X tg iter wi) (ok : BlkOk X.N X.env.scope scope own)
    (hg : ∀ (s : Shared) (H : Hp) (C : Addr) (cl : List (Str × Addr)) (fp : List Addr), PG (X.blk s H scope (compEnvC scope cl C X.env) fp) tg g)
    (ht : ∀ (s : Shared) (H : Hp) (C : Addr) (cl : List (Str × Addr)) (fp : List Addr), PTs (X.blk s H scope (compEnvC scope cl C X.env) fp) ifs tt)
    (hk : ∀ (s : Shared) (H : Hp) (C : Addr) (cl : List (Str × Addr)) (fp : List Addr), PE (X.blk s H scope (compEnvC scope cl C X.env) fp) kx tk)
    (hv : ∀ (s : Shared) (H : Hp) (C : Addr) (cl : List (Str × Addr)) (fp : List Addr), PE (X.blk s H scope (compEnvC scope cl C X.env) fp) vx tv) (hs : ∀ x, foldedSetIterable iter X.env x = pure x := by intro _; rfl) :
    PS X (.Assign [.Name y py] (.DictComp kx vx [⟨tg, iter, ifs, 0⟩] scope pos) spos) (tAsg (tDcM u0 wi g tt tk tv (own.map (·.2))) (gName i)) := by
  refine ⟨fun pins s σ H F I h => ?_⟩
  rw [exec_Assign_Name_used _ _ _ _ hsw]
  refine wpAny_bind (wpAny_standAt (wpAny_bind ?_))
  show wpAny _ X.A (do let _ ← comprehension (.DictComp kx vx [⟨tg, iter, ifs, 0⟩] scope pos) scope X.env (firstIterPos [⟨tg, iter, ifs, 0⟩] pos) newDict false (eval iter X.env) (some (assign (.Name y py) X.env))) _ _ s
  have h' : tDcM u0 wi g tt tk tv (own.map (·.2)) σ H (fun x H1 => gName i x σ H1 F.nx) := h
  refine wpAny_bind (thn (dcm_core (Qf := fun _ s' => SP X pins F .next s') h0 hu hc hN I hi ok hg ht hk hv hs h' fun D C s' m H' I' q hn f => ?_) fun _ _ hq => wpAny_pure (wpAny_pure hq))
  show wpAny _ _ (assign (.Name y py) X.env (.ref D)) _ _ _
  refine wpAny_assign_Name (store_ok2 (v := V.ref D) I' hN hy (.inl hyl) rfl (fun s2 I2 ⟨a, sb, ha⟩ => ?_) (.inr hyl))
  have neq : C ≠ a := ha.elim (fun z => by rw [z]; exact f.2.1) fun z e => f.2.2.2.2.1 y a z e.symm
  exact ⟨m, hn.sameBut sb neq, fun h3 sb3 => ⟨_, H', I2.turned (t' := s2.toks) (fun b o hb e => (sb3.2 b hb).trans e) f.1 f.2.1 f.2.2.2.1 f.2.2.2.2.1 f.2.2.2.2.2, q⟩⟩
theorem sw_trueD {kx vx : Expr} {gs : List Comprehension} {scope : Scope} {pos py : Pos} {y : Str} {l : Nat} {env : Env} (hk : env.scope.kind = .function) (hy : env.scope.names.lookup y = some .local) (hl : (py.line == pos.line) = true)
    (ha : (scope.names.any fun (n, k) => n == y && (k == .local || k == .cell)) = false) : swapsWith (.DictComp kx vx gs scope pos) (some (.Name y py)) l env = pure true := by
  have k1 : env.kindOf y = some .local := hy
  have k2 : env.blockKind = .function := by unfold Env.blockKind; rw [hk]; rfl
  have k3 : (py.line == (Expr.DictComp kx vx gs scope pos).pos.line) = true := hl
  unfold swapsWith
  simp only [k1, k2, k3, ha]
  rfl
end
end Pz

/-! dict comprehensions: the judgement -/
namespace Pz
open PySem PySem.Spec PyProof.Rows L2
section
variable {α β γ δ κ ν ρ ι : Type} [DecidableEq κ] {ea : α → PyData} {eb : β → PyData} {ec : γ → PyData} {ei : ι → PyData} {X : Cx} {R : Res} {Γ Γ' : List Slot} {e a b c : Expr} {pos : Pos} {ek : κ → PyData} {ev : ν → PyData}
/-- how a dict of such keys stands, from the empty one on -/
structure KyO (ek : κ → PyData) (ev : ν → PyData) (vv : ν → V) (mk : List (κ × ν × Unit) → HO) : Prop where
  dic : ∀ xs, DicO (mk xs) (xs.map fun p => (ek p.1, ev p.2.1))
  zero : mk [] = .dK [] ∨ mk [] = .dT []
  put : ∀ {A : Av} {H : Hp} {D : Addr} {y : V} {k : κ} {v : ν} {xs : List (κ × ν × Unit)}, Rp A H y (ek k) → H D = some (mk xs) → xs.length < sizeLine → DPut H D y (vv v) (upd H D (mk (putL xs k v)))
theorem Ky.how {vv : ν → V} (hk : Ky ek) (hv : VlB ev vv) : ∃ mk, KyO ek ev vv mk := by
  cases hk with
  | T kk hk =>
    refine ⟨fun xs => .dT (kvT kk vv xs), dicO_ofT hk hv, .inr rfl, fun {A H D y k v xs} r hD hl => ?_⟩
    rw [hk.enc] at r
    obtain ⟨c, rfl, _, hc⟩ := rp_keyT r
    rw [show kvT kk vv (putL xs k v) = putK (kvT kk vv xs) (kk k) (vv v) from (put_map hk.inj k v xs).symm]
    exact DPut.t hD hc (by unfold kvT; rw [List.length_map]; exact hl)
  | K kk hk =>
    refine ⟨fun xs => .dK (kvK kk vv xs), dicO_ofK hk hv, .inl rfl, fun {A H D y k v xs} r hD hl => ?_⟩
    rw [hk.enc] at r
    rw [rp_key r]
    rw [show kvK kk vv (putL xs k v) = putK (kvK kk vv xs) (kk k) (vv v) from (put_map hk.inj k v xs).symm]
    exact DPut.k hD (by unfold kvK; rw [List.length_map]; exact hl)
theorem dic_nt {o : HO} {ds : List (PyData × PyData)} (h : DicO o ds) : ∀ zs, o ≠ .tup zs := fun zs z => by subst z; exact h
def dcM (c : ι → M Bool) (fk : ι → M κ) (fv : ι → M ν) : List ι → List (κ × ν × Unit) → M (List (κ × ν × Unit))
  | [], acc => pureM acc
  | x :: xs, acc => bindM (c x) fun b => if b then bindM (fk x) fun k => bindM (fv x) fun v => dcM c fk fv xs (putL acc k v) else dcM c fk fv xs acc
theorem dc_readW {set : List Slot → ι → List Slot} {is vs : List Nat} {wi : TI} {mc : ι → M Bool} {fk : ι → M κ} {fv : ι → M ν} {vv : ν → V} {mk : List (κ × ν × Unit) → HO} {xs : List ι} {s1 st' : Src} {r : List (κ × ν × Unit)} {O : Av} {H0 : Hp} {ow : Nat → Addr} (hv : VlB ev vv) (ho : KyO ek ev vv mk)
    (hset : ∀ Γ x (i : Nat) d, (set Γ x)[i]? = some (.ow d) → Γ[i]? = some (.ow d)) (his : ∀ i ∈ is, i ∈ vs) (hvs : ∀ i ∈ vs, ∀ d, Γ[i]? ≠ some (.ow d)) {σ : L2.St} {H : Hp} {Q : VK} (rel : Rel R O H0 ow Γ σ H) (ef0 : dcM mc fk fv xs [] s1 = some (r, st'))
    (q : ∀ p H', H p = none → Keep (Zr R) H H' → okR R st' H' → H' p = some (mk r) → Q (.ref p) H')
    (prov : ∀ Rr : It → Hp → Prop, (∀ J H1, Keep (Zr R) H H1 → okR R s1 H1 → xs.length ≤ sizeLine → ItOk J (avo O Γ ow) H1 (xs.map ei) → Rr J H1) → wi σ H Rr) :
    tDcM (mk []) wi (tG set is ei) (fun σ H Q => ∃ x, tT R (set (wipeG Γ vs) x) (mc x) σ H Q) (fun σ H Q => ∃ x, tE R (set (wipeG Γ vs) x) ek (fk x) σ H Q) (fun σ H Q => ∃ x, tE R (set (wipeG Γ vs) x) ev (fv x) σ H Q) vs σ H Q := by
  refine prov _ fun J H1 k1 o1 hlen it => fun D nD => ?_
  have rel1 := rel.grow k1 (okZ o1)
  obtain ⟨relw, av⟩ := rel1.wipe vs hvs
  obtain ⟨relD, n0⟩ := relw.addO nD (mk []) (dic_nt (ho.dic []))
  have nZ : ¬ Zr R D := fun z => (okZ o1 D z).1 nD
  have avD : ∀ a, avo (avp O D) (wipeG Γ vs) ow a → avp (avo O Γ ow) D a := fun a z => by
    rcases z with (z | z) | z
    · exact .inl (.inl z)
    · exact .inr z
    · exact .inl (by rw [← av]; exact .inr z)
  refine ⟨fun i m H' => m = xs.length - i ∧ i ≤ xs.length ∧ ∃ u acc, Rel R (avp O D) H0 ow (wipeG Γ vs) (L2.wipe σ vs) H' ∧ okR R u H' ∧ H' D = some (mk acc) ∧ dcM mc fk fv (xs.drop i) acc u = some (r, st') ∧ acc.length ≤ i ∧ Keep (Zr R) H1 H',
    ⟨_, rfl, Nat.zero_le _, s1, [], relD, o1.keep (fun a o z e => by rw [upd_ne (fun q => nZ (by rw [← q]; exact z))]; exact e), upd_same, ef0, Nat.le_refl _, fun a o _ e => by rw [upd_ne (ne_of_none e nD)]; exact e⟩, ?_⟩
  rintro i m H' ⟨rfl, hile, u, acc, rel', ok', hD, ef, hacc, k'⟩
  have kA : Keep (avo O Γ ow) H1 H' := rel1.keepA k'
  obtain ⟨stop, go⟩ := it H' i kA
  by_cases hlt : i < xs.length
  · have hx : xs[i]? = some xs[i] := List.getElem?_eq_getElem hlt
    obtain ⟨hgo, hy⟩ := go (ei xs[i]) (by rw [List.getElem?_map, hx]; rfl)
    rw [List.drop_eq_getElem_cons hlt, dcM] at ef
    obtain ⟨b, u2, ef1, ef2⟩ := bind_some ef
    refine .inr ⟨hgo, fun H2 => ∃ u acc, Rel R (avp O D) H0 ow (wipeG Γ vs) (L2.wipe σ vs) H2 ∧ okR R u H2 ∧ H2 D = some (mk acc) ∧ dcM mc fk fv (xs.drop (i + 1)) acc u = some (r, st') ∧ acc.length ≤ i + 1 ∧ Keep (Zr R) H1 H2,
      fun H2 ⟨u', acc', a1, a2, a3, a4, a5, a6⟩ => ⟨_, by omega, rfl, hlt, u', acc', a1, a2, a3, a4, a5, a6⟩, fun v H2 y => ?_⟩
    obtain ⟨same, rp⟩ := hy v H2 y
    have relg := rel'.grow (Keep.of_same same) (fun a z => (rel'.odom a (rel'.zsub a z)).same fun o h => same a o h)
    refine ⟨R, avp O D, H0, ow, wipeG Γ vs, xs[i], relg, rp _ (fun a o na ea z => ?_) rel'.ad, fun σ3 rel3 w3 => ⟨(w3 vs his).trans (wipe_idem σ vs), xs[i], avp O D, H0, ow, u, b, u2, rel3, ok'.same same, ef1, fun H3 k3 o3 => ?_⟩⟩
    · rcases avD a z with z | z
      · exact na z
      · rw [z, nD] at ea; cases ea
    have hD3 : H3 D = some (mk acc) := k3 _ _ nZ (same _ _ hD)
    have rel3' := rel3.grow k3 (okZ o3)
    have relH3 := relg.grow k3 (okZ o3)
    have kH3 : Keep (Zr R) H1 H3 := (k'.trans (Keep.of_same same)).trans k3
    cases b with
    | false => exact L2.iteF ⟨u2, acc, relH3, o3, hD3, ef2, by omega, kH3⟩
    | true =>
      obtain ⟨k, u3, ef3, ef4⟩ := bind_some (show bindM (fk xs[i]) (fun k => bindM (fv xs[i]) fun v => dcM mc fk fv (xs.drop (i + 1)) (putL acc k v)) u2 = some (r, st') from ef2)
      obtain ⟨w, u4, ef5, ef6⟩ := bind_some ef4
      refine L2.iteT ⟨xs[i], avp O D, H0, ow, u2, k, u3, rel3', o3, ef3, fun wy H4 k4 o4 rp4 => ⟨xs[i], avp O D, H0, ow, u3, w, u4, rel3'.grow k4 (okZ o4), o4, ef5, fun wv H5 k5 o5 rp5 => ?_⟩⟩
      have hD5 : H5 D = some (mk acc) := k5 _ _ nZ (k4 _ _ nZ hD3)
      have relH5 := (relH3.grow k4 (okZ o4)).grow k5 (okZ o5)
      rw [rp_val rp5 (hv.enc w)]
      refine ⟨_, ho.put (rp4.keep (((rel3'.grow k4 (okZ o4))).keepA k5)) hD5 (by omega), u4, putL acc k w, relH5.updO (.inr rfl) n0 _ (dic_nt (ho.dic _)), o5.keep (fun a o z e => by rw [upd_ne (fun q => nZ (by rw [← q]; exact z))]; exact e), upd_same, ef6, ?_, fun a o nz e => ?_⟩
      · have := putL_len acc k w; omega
      · rw [upd_ne (ne_of_none e nD)]; exact k5 _ _ nz (k4 _ _ nz (kH3 _ _ nz e))
  · have hi' : i = xs.length := by omega
    subst hi'
    refine .inl ⟨stop (by simp), ?_⟩
    rw [List.drop_length] at ef
    obtain ⟨rfl, rfl⟩ := pure_some (show pureM acc u = some (r, st') from ef)
    exact q D H' (noneK k1 o1 nD) (k1.trans k') ok' hD
theorem d_dc {vv : ν → V} {kr : Nat} (hk : Ky ek) (hv : VlB ev vv) (hr : Room kr X.A) {set : List Slot → ι → List Slot} {is : List Nat} {mi : M (List ι)} {kx vx tg iter : Expr} {ifs : List Expr} {scope : Scope} (own : List (Str × Nat)) (mc : ι → M Bool) (fk : ι → M κ) (fv : ι → M ν) (hc : X.calm = true) (hN : X.N.Nodup)
    (hi : IJ X R Γ iter tg ei mi) (ok : BlkOk X.N X.env.scope scope own)
    (hg : ∀ (s : Shared) (H : Hp) (C : Addr) (cl : List (Str × Addr)) (fp : List Addr), GJ (X.blk s H scope (compEnvC scope cl C X.env) fp) tg set is ei)
    (ht : ∀ (s : Shared) (H : Hp) (C : Addr) (cl : List (Str × Addr)) (fp : List Addr) (x : ι), CJ (X.blk s H scope (compEnvC scope cl C X.env) fp) R (set (wipeG Γ (own.map (·.2))) x) ifs (mc x))
    (hek : ∀ (s : Shared) (H : Hp) (C : Addr) (cl : List (Str × Addr)) (fp : List Addr) (x : ι), EJ (X.blk s H scope (compEnvC scope cl C X.env) fp) R (set (wipeG Γ (own.map (·.2))) x) kx ek (fk x))
    (hev : ∀ (s : Shared) (H : Hp) (C : Addr) (cl : List (Str × Addr)) (fp : List Addr) (x : ι), EJ (X.blk s H scope (compEnvC scope cl C X.env) fp) R (set (wipeG Γ (own.map (·.2))) x) vx ev (fv x))
    (hset : ∀ Γ x (i : Nat) d, (set Γ x)[i]? = some (.ow d) → Γ[i]? = some (.ow d)) (his : ∀ i ∈ is, i ∈ own.map (·.2)) (hvs : ∀ i ∈ own.map (·.2), ∀ d, Γ[i]? ≠ some (.ow d))
    (hs : ∀ x, foldedSetIterable iter X.env x = pure x := by intro _; rfl) : DJ X R Γ (.DictComp kx vx [⟨tg, iter, ifs, 0⟩] scope pos) ek ev (bindM mi fun xs => dcM mc fk fv xs []) := by
  obtain ⟨mk, ho⟩ := hk.how hv
  refine PE.weak (pe_dcM ho.zero hr.units hc hN hi ok hg (fun s H C cl fp => PTs.ex fun x => ht s H C cl fp x) (fun s H C cl fp => PE.ex fun x => hek s H C cl fp x) (fun s H C cl fp => PE.ex fun x => hev s H C cl fp x) hs) fun σ H Q ⟨O, H0, ow, st, z, st', rel, ok, e, q⟩ => ?_
  obtain ⟨xs, s1, e1, e2⟩ := bind_some e
  exact dc_readW hv ho hset his hvs rel e2 (fun p H' n k o ep => q p _ H' n k o ep (ho.dic _)) (fun Rr h => ⟨O, H0, ow, st, xs, s1, rel, ok, e1, h⟩)
theorem d_dcK (i : Nat) {x : Str} {px : Pos} {μ : Type} {em : μ → PyData} {vv : ν → V} {vm : μ → V} {kr : Nat} {ι : Type} {ei : ι → PyData} (hki : Ky ei) (hm : VlB em vm) (xs : List (ι × μ × Unit)) (hk : Ky ek) (hv : VlB ev vv) (hr : Room kr X.A) {set : List Slot → ι → List Slot} {is : List Nat} {kx vx tg : Expr} {ifs : List Expr} {scope : Scope} (own : List (Str × Nat)) (mc : ι → M Bool) (fk : ι → M κ) (fv : ι → M ν) (hc : X.calm = true) (hN : X.N.Nodup)
    (hΓ : Γ[i]? = some (.ow (eM ei em xs))) (ok : BlkOk X.N X.env.scope scope own)
    (hg : ∀ (s : Shared) (H : Hp) (C : Addr) (cl : List (Str × Addr)) (fp : List Addr), GJ (X.blk s H scope (compEnvC scope cl C X.env) fp) tg set is ei)
    (ht : ∀ (s : Shared) (H : Hp) (C : Addr) (cl : List (Str × Addr)) (fp : List Addr) (x : ι), CJ (X.blk s H scope (compEnvC scope cl C X.env) fp) R (set (wipeG (Γ.set i .un) (own.map (·.2))) x) ifs (mc x))
    (hek : ∀ (s : Shared) (H : Hp) (C : Addr) (cl : List (Str × Addr)) (fp : List Addr) (x : ι), EJ (X.blk s H scope (compEnvC scope cl C X.env) fp) R (set (wipeG (Γ.set i .un) (own.map (·.2))) x) kx ek (fk x))
    (hev : ∀ (s : Shared) (H : Hp) (C : Addr) (cl : List (Str × Addr)) (fp : List Addr) (x : ι), EJ (X.blk s H scope (compEnvC scope cl C X.env) fp) R (set (wipeG (Γ.set i .un) (own.map (·.2))) x) vx ev (fv x))
    (hset : ∀ Γ x (i : Nat) d, (set Γ x)[i]? = some (.ow d) → Γ[i]? = some (.ow d)) (his : ∀ i ∈ is, i ∈ own.map (·.2)) (hvs : ∀ j ∈ own.map (·.2), ∀ d, Γ[j]? ≠ some (.ow d))
    (hNi : X.N[i]? = some x := by rfl) (hvis : Vis X.env.scope x := by first | exact Or.inl rfl | exact Or.inr (Or.inl rfl) | exact Or.inr (Or.inr rfl))
    (hd : (x == ("__debug__" : Str)) = false := by decide) (hcd : (x == ("__classdict__" : Str)) = false := by decide)
    (hs : ∀ y, foldedSetIterable (.Name x px) X.env y = pure y := by intro _; rfl) : DJ X R Γ (.DictComp kx vx [⟨tg, .Name x px, ifs, 0⟩] scope pos) ek ev (dcM mc fk fv (xs.map fun p => p.1) []) := by
  obtain ⟨mk, ho⟩ := hk.how hv
  refine PE.weak (Pz.PE.big (pe_lock (pe_dcM ho.zero hr.units hc hN (pi_keys (pe_var hNi hvis hd hcd)) ok hg (fun s H C cl fp => PTs.ex fun x => ht s H C cl fp x) (fun s H C cl fp => PE.ex fun x => hek s H C cl fp x) (fun s H C cl fp => PE.ex fun x => hev s H C cl fp x) hs))) fun σ H Q ⟨O, H0, ow, st, z, st', rel, ok, e, q⟩ big => ?_
  obtain ⟨hσ, ⟨o, hp, hdo⟩, nO, n0⟩ := rel.how i _ hΓ
  have nZ : ¬ Zr R (ow i) := fun z => nO (rel.zsub _ z)
  refine ⟨ow i, o, hp, ow_mut hdo, fun od => ?_⟩
  have ok2 : okR R st (upd H (ow i) (.frz od o)) := ok.keep fun a u z e => by rw [upd_ne (fun q => nZ (by rw [← q]; exact z))]; exact e
  have hvs' : ∀ j ∈ own.map (·.2), ∀ d, (Γ.set i .un)[j]? ≠ some (.ow d) := fun j hj d e => by
    by_cases hij : i = j
    · subst hij
      rw [List.getElem?_set_self', hΓ] at e; cases e
    · rw [List.getElem?_set_ne hij] at e
      exact hvs j hj d e
  refine dc_readW hv ho hset his hvs' (rel.lockD hΓ) e (fun p H' n k o' ep => ?_) (fun Rr h => keys_prov hki hm hΓ rel hdo ok2 (by have := big _ _ _ hp hdo; simpa using this) Rr h)
  obtain ⟨h1, h2, h3, h4⟩ := unlock_fin hΓ rel hp k o'
  have np : p ≠ ow i := fun z => by subst z; rw [upd_same] at n; cases n
  exact ⟨h1, q p _ _ (by rw [upd_ne np] at n; exact n) h2 h3 (by rw [upd_ne np]; exact ep) (ho.dic _)⟩
theorem PS.big {st : Stmt} {t : TS} (h : PS X st t) : PS X st (fun D σ H => DFits H → t D σ H) := ⟨fun pins s σ H D I q => h.run pins s σ H D I (q fun p o ds hp hd => by
  cases o with
  | dK ks =>
    have := (show ks.length ≤ sizeLine from (show ObjOk X.prog X.w H s.heap p (.dK ks) from I.hok _ _ hp).1)
    have l := congrArg List.length (show List.map _ ks = List.map _ ds from hd)
    simp at l; omega
  | dT ks =>
    have := (show ks.length ≤ sizeLine from (show ObjOk X.prog X.w H s.heap p (.dT ks) from I.hok _ _ hp).1)
    have l := congrArg List.length (show List.map _ ks = List.map _ ds from hd)
    simp at l; omega
  | _ => exact hd.elim)⟩
theorem q_setDc (j : Nat) {y : Str} {py spos : Pos} {vv : ν → V} {kr : Nat} (hk : Ky ek) (hv : VlB ev vv) (hr : Room kr X.A) {set : List Slot → ι → List Slot} {is : List Nat} {mi : M (List ι)} {kx vx tg iter : Expr} {ifs : List Expr} {scope : Scope} (own : List (Str × Nat)) (mc : ι → M Bool) (fk : ι → M κ) (fv : ι → M ν) (hc : X.calm = true) (hN : X.N.Nodup)
    (hsw : swapsWith (.DictComp kx vx [⟨tg, iter, ifs, 0⟩] scope pos) (some (.Name y py)) spos.line X.env = pure true) (hi : IJ X R Γ iter tg ei mi)
    (ok : BlkOk X.N X.env.scope scope own)
    (hg : ∀ (s : Shared) (H : Hp) (C : Addr) (cl : List (Str × Addr)) (fp : List Addr), GJ (X.blk s H scope (compEnvC scope cl C X.env) fp) tg set is ei)
    (ht : ∀ (s : Shared) (H : Hp) (C : Addr) (cl : List (Str × Addr)) (fp : List Addr) (x : ι), CJ (X.blk s H scope (compEnvC scope cl C X.env) fp) R (set (wipeG Γ (own.map (·.2))) x) ifs (mc x))
    (hek : ∀ (s : Shared) (H : Hp) (C : Addr) (cl : List (Str × Addr)) (fp : List Addr) (x : ι), EJ (X.blk s H scope (compEnvC scope cl C X.env) fp) R (set (wipeG Γ (own.map (·.2))) x) kx ek (fk x))
    (hev : ∀ (s : Shared) (H : Hp) (C : Addr) (cl : List (Str × Addr)) (fp : List Addr) (x : ι), EJ (X.blk s H scope (compEnvC scope cl C X.env) fp) R (set (wipeG Γ (own.map (·.2))) x) vx ev (fv x))
    (hset : ∀ Γ x (i : Nat) d, (set Γ x)[i]? = some (.ow d) → Γ[i]? = some (.ow d)) (his : ∀ i ∈ is, i ∈ own.map (·.2)) (hvs : ∀ j ∈ own.map (·.2), ∀ d, Γ[j]? ≠ some (.ow d))
    (hy : X.N[j]? = some y := by rfl) (hyl : X.env.scope.names.lookup y = some .local := by rfl) (hs : ∀ x, foldedSetIterable iter X.env x = pure x := by intro _; rfl) :
    QJ X R Γ (.Assign [.Name y py] (.DictComp kx vx [⟨tg, iter, ifs, 0⟩] scope pos) spos) (fun r => .nx (Γ.set j (.ow (eM ek ev r)))) (bindM mi fun xs => dcM mc fk fv xs []) := by
  obtain ⟨mk, ho⟩ := hk.how hv
  refine PS.weak (ps_setDcM ho.zero hr.units hc hN hy hyl hsw hi ok hg (fun s H C cl fp => PTs.ex fun x => ht s H C cl fp x) (fun s H C cl fp => PE.ex fun x => hek s H C cl fp x) (fun s H C cl fp => PE.ex fun x => hev s H C cl fp x) hs) fun D σ H ⟨O, H0, ow, st, z, st', rel, ok, e, q⟩ => ?_
  obtain ⟨xs, s1, e1, e2⟩ := bind_some e
  refine dc_readW hv ho hset his hvs rel e2 (fun p H' n k o ep => ?_) (fun Rr h => ⟨O, H0, ow, st, xs, s1, rel, ok, e1, h⟩)
  obtain ⟨r1, s1⟩ := rel.setOwD j n k (okZ o) ep (ho.dic _)
  exact q _ _ H' r1 o s1
theorem q_setDcE (j : Nat) {y : Str} {py spos : Pos} {vv : ν → V} {kr : Nat} (hk : Ky ek) (hv : VlB ev vv) (hr : Room kr X.A) {set : List Slot → ι → List Slot} {is : List Nat} {mi : M (List ι)} {kx vx tg iter : Expr} {ifs : List Expr} {scope : Scope} (own : List (Str × Nat)) (mc : ι → M Bool) (fk : ι → M κ) (fv : ι → M ν) (hc : X.calm = true) (hN : X.N.Nodup)
    (hsw : swapsWith (.DictComp kx vx [⟨tg, iter, ifs, 0⟩] scope pos) (some (.Name y py)) spos.line X.env = pure true) (hi : IJ X R Γ iter tg ei mi)
    (ok : BlkOk X.N X.env.scope scope own)
    (hg : ∀ (s : Shared) (H : Hp) (C : Addr) (cl : List (Str × Addr)) (fp : List Addr), GJ (X.blk s H scope (compEnvC scope cl C X.env) fp) tg set is ei)
    (ht : ∀ (s : Shared) (H : Hp) (C : Addr) (cl : List (Str × Addr)) (fp : List Addr) (x : ι), CJ (X.blk s H scope (compEnvC scope cl C X.env) fp) R (set (wipeG Γ (own.map (·.2))) x) ifs (mc x))
    (hek : ∀ (s : Shared) (H : Hp) (C : Addr) (cl : List (Str × Addr)) (fp : List Addr) (x : ι), EJ (X.blk s H scope (compEnvC scope cl C X.env) fp) R (set (wipeG Γ (own.map (·.2))) x) kx ek (fk x))
    (hev : ∀ (s : Shared) (H : Hp) (C : Addr) (cl : List (Str × Addr)) (fp : List Addr) (x : ι), EJ (X.blk s H scope (compEnvC scope cl C X.env) fp) R (set (wipeG Γ (own.map (·.2))) x) vx ev (fv x))
    (hset : ∀ Γ x (i : Nat) d, (set Γ x)[i]? = some (.ow d) → Γ[i]? = some (.ow d)) (his : ∀ i ∈ is, i ∈ own.map (·.2)) (hvs : ∀ j ∈ own.map (·.2), ∀ d, Γ[j]? ≠ some (.ow d))
    (hy : X.N[j]? = some y := by rfl) (hyl : X.env.scope.names.lookup y = some .local := by rfl) (hs : ∀ x, foldedSetIterable iter X.env x = pure x := by intro _; rfl) :
    QJ X R Γ (.Assign [.Name y py] (.DictComp kx vx [⟨tg, iter, ifs, 0⟩] scope pos) spos) (fun r => .nx (Γ.set j (.fz (eM ek ev r)))) (bindM mi fun xs => dcM mc fk fv xs []) := by
  obtain ⟨mk, ho⟩ := hk.how hv
  refine PS.weak (ps_setDcM ho.zero hr.units hc hN hy hyl hsw hi ok hg (fun s H C cl fp => PTs.ex fun x => ht s H C cl fp x) (fun s H C cl fp => PE.ex fun x => hek s H C cl fp x) (fun s H C cl fp => PE.ex fun x => hev s H C cl fp x) hs) fun D σ H ⟨O, H0, ow, st, z, st', rel, ok, e, q⟩ => ?_
  obtain ⟨xs, s1, e1, e2⟩ := bind_some e
  refine dc_readW hv ho hset his hvs rel e2 (fun p H' n k o ep => ?_) (fun Rr h => ⟨O, H0, ow, st, xs, s1, rel, ok, e1, h⟩)
  exact q ow _ H' ((rel.grow k (okZ o)).setFz j (.dic (rel.ad.fresh n) ep (ho.dic _))) o (Step.setFz j _ (rel.keepA k))
theorem q_setDcK (j i : Nat) {y : Str} {py spos : Pos} {x : Str} {px : Pos} {μ : Type} {em : μ → PyData} {vv : ν → V} {vm : μ → V} {kr : Nat} {ι : Type} {ei : ι → PyData} (hki : Ky ei) (hm : VlB em vm) (xs : List (ι × μ × Unit)) (hk : Ky ek) (hv : VlB ev vv) (hr : Room kr X.A) {set : List Slot → ι → List Slot} {is : List Nat} {kx vx tg : Expr} {ifs : List Expr} {scope : Scope} (own : List (Str × Nat)) (mc : ι → M Bool) (fk : ι → M κ) (fv : ι → M ν) (hc : X.calm = true) (hN : X.N.Nodup)
    (hsw : swapsWith (.DictComp kx vx [⟨tg, .Name x px, ifs, 0⟩] scope pos) (some (.Name y py)) spos.line X.env = pure true) (hΓ : Γ[i]? = some (.ow (eM ei em xs)))
    (ok : BlkOk X.N X.env.scope scope own)
    (hg : ∀ (s : Shared) (H : Hp) (C : Addr) (cl : List (Str × Addr)) (fp : List Addr), GJ (X.blk s H scope (compEnvC scope cl C X.env) fp) tg set is ei)
    (ht : ∀ (s : Shared) (H : Hp) (C : Addr) (cl : List (Str × Addr)) (fp : List Addr) (x : ι), CJ (X.blk s H scope (compEnvC scope cl C X.env) fp) R (set (wipeG (Γ.set i .un) (own.map (·.2))) x) ifs (mc x))
    (hek : ∀ (s : Shared) (H : Hp) (C : Addr) (cl : List (Str × Addr)) (fp : List Addr) (x : ι), EJ (X.blk s H scope (compEnvC scope cl C X.env) fp) R (set (wipeG (Γ.set i .un) (own.map (·.2))) x) kx ek (fk x))
    (hev : ∀ (s : Shared) (H : Hp) (C : Addr) (cl : List (Str × Addr)) (fp : List Addr) (x : ι), EJ (X.blk s H scope (compEnvC scope cl C X.env) fp) R (set (wipeG (Γ.set i .un) (own.map (·.2))) x) vx ev (fv x))
    (hset : ∀ Γ x (i : Nat) d, (set Γ x)[i]? = some (.ow d) → Γ[i]? = some (.ow d)) (his : ∀ i ∈ is, i ∈ own.map (·.2)) (hvs : ∀ j ∈ own.map (·.2), ∀ d, Γ[j]? ≠ some (.ow d))
    (hy : X.N[j]? = some y := by rfl) (hyl : X.env.scope.names.lookup y = some .local := by rfl)
    (hNi : X.N[i]? = some x := by rfl) (hvis : Vis X.env.scope x := by first | exact Or.inl rfl | exact Or.inr (Or.inl rfl) | exact Or.inr (Or.inr rfl))
    (hd : (x == ("__debug__" : Str)) = false := by decide) (hcd : (x == ("__classdict__" : Str)) = false := by decide)
    (hs : ∀ y, foldedSetIterable (.Name x px) X.env y = pure y := by intro _; rfl) :
    QJ X R Γ (.Assign [.Name y py] (.DictComp kx vx [⟨tg, .Name x px, ifs, 0⟩] scope pos) spos) (fun r => .nx (Γ.set j (.ow (eM ek ev r)))) (dcM mc fk fv (xs.map fun p => p.1) []) := by
  obtain ⟨mk, ho⟩ := hk.how hv
  refine PS.weak (Pz.PS.big (ps_lock (ps_setDcM ho.zero hr.units hc hN hy hyl hsw (pi_keys (pe_var hNi hvis hd hcd)) ok hg (fun s H C cl fp => PTs.ex fun x => ht s H C cl fp x) (fun s H C cl fp => PE.ex fun x => hek s H C cl fp x) (fun s H C cl fp => PE.ex fun x => hev s H C cl fp x) hs))) fun D σ H ⟨O, H0, ow, st, z, st', rel, ok, e, q⟩ big => ?_
  obtain ⟨hσ, ⟨o, hp, hdo⟩, nO, n0⟩ := rel.how i _ hΓ
  have nZ : ¬ Zr R (ow i) := fun z => nO (rel.zsub _ z)
  refine ⟨ow i, o, hp, ow_mut hdo, fun od => ?_⟩
  have ok2 : okR R st (upd H (ow i) (.frz od o)) := ok.keep fun a u z e => by rw [upd_ne (fun q => nZ (by rw [← q]; exact z))]; exact e
  have hvs' : ∀ j ∈ own.map (·.2), ∀ d, (Γ.set i .un)[j]? ≠ some (.ow d) := fun j hj d e => by
    by_cases hij : i = j
    · subst hij
      rw [List.getElem?_set_self', hΓ] at e; cases e
    · rw [List.getElem?_set_ne hij] at e
      exact hvs j hj d e
  refine dc_readW hv ho hset his hvs' (rel.lockD hΓ) e (fun p H' n k o' ep => ?_) (fun Rr h => keys_prov hki hm hΓ rel hdo ok2 (by have := big _ _ _ hp hdo; simpa using this) Rr h)
  obtain ⟨h1, h2, h3, h4⟩ := unlock_fin hΓ rel hp k o'
  have np : p ≠ ow i := fun z => by subst z; rw [upd_same] at n; cases n
  have np2 : H p = none := by rw [upd_ne np] at n; exact n
  obtain ⟨r1, s1⟩ := rel.setOwD j np2 h2 (okZ h3) (by rw [upd_ne np]; exact ep) (ho.dic _)
  exact ⟨h1, q _ _ _ r1 h3 s1⟩
theorem q_setDcKE (j i : Nat) {y : Str} {py spos : Pos} {x : Str} {px : Pos} {μ : Type} {em : μ → PyData} {vv : ν → V} {vm : μ → V} {kr : Nat} {ι : Type} {ei : ι → PyData} (hki : Ky ei) (hm : VlB em vm) (xs : List (ι × μ × Unit)) (hk : Ky ek) (hv : VlB ev vv) (hr : Room kr X.A) {set : List Slot → ι → List Slot} {is : List Nat} {kx vx tg : Expr} {ifs : List Expr} {scope : Scope} (own : List (Str × Nat)) (mc : ι → M Bool) (fk : ι → M κ) (fv : ι → M ν) (hc : X.calm = true) (hN : X.N.Nodup)
    (hsw : swapsWith (.DictComp kx vx [⟨tg, .Name x px, ifs, 0⟩] scope pos) (some (.Name y py)) spos.line X.env = pure true) (hΓ : Γ[i]? = some (.ow (eM ei em xs)))
    (ok : BlkOk X.N X.env.scope scope own)
    (hg : ∀ (s : Shared) (H : Hp) (C : Addr) (cl : List (Str × Addr)) (fp : List Addr), GJ (X.blk s H scope (compEnvC scope cl C X.env) fp) tg set is ei)
    (ht : ∀ (s : Shared) (H : Hp) (C : Addr) (cl : List (Str × Addr)) (fp : List Addr) (x : ι), CJ (X.blk s H scope (compEnvC scope cl C X.env) fp) R (set (wipeG (Γ.set i .un) (own.map (·.2))) x) ifs (mc x))
    (hek : ∀ (s : Shared) (H : Hp) (C : Addr) (cl : List (Str × Addr)) (fp : List Addr) (x : ι), EJ (X.blk s H scope (compEnvC scope cl C X.env) fp) R (set (wipeG (Γ.set i .un) (own.map (·.2))) x) kx ek (fk x))
    (hev : ∀ (s : Shared) (H : Hp) (C : Addr) (cl : List (Str × Addr)) (fp : List Addr) (x : ι), EJ (X.blk s H scope (compEnvC scope cl C X.env) fp) R (set (wipeG (Γ.set i .un) (own.map (·.2))) x) vx ev (fv x))
    (hset : ∀ Γ x (i : Nat) d, (set Γ x)[i]? = some (.ow d) → Γ[i]? = some (.ow d)) (his : ∀ i ∈ is, i ∈ own.map (·.2)) (hvs : ∀ j ∈ own.map (·.2), ∀ d, Γ[j]? ≠ some (.ow d))
    (hy : X.N[j]? = some y := by rfl) (hyl : X.env.scope.names.lookup y = some .local := by rfl)
    (hNi : X.N[i]? = some x := by rfl) (hvis : Vis X.env.scope x := by first | exact Or.inl rfl | exact Or.inr (Or.inl rfl) | exact Or.inr (Or.inr rfl))
    (hd : (x == ("__debug__" : Str)) = false := by decide) (hcd : (x == ("__classdict__" : Str)) = false := by decide)
    (hs : ∀ y, foldedSetIterable (.Name x px) X.env y = pure y := by intro _; rfl) :
    QJ X R Γ (.Assign [.Name y py] (.DictComp kx vx [⟨tg, .Name x px, ifs, 0⟩] scope pos) spos) (fun r => .nx (Γ.set j (.fz (eM ek ev r)))) (dcM mc fk fv (xs.map fun p => p.1) []) := by
  obtain ⟨mk, ho⟩ := hk.how hv
  refine PS.weak (Pz.PS.big (ps_lock (ps_setDcM ho.zero hr.units hc hN hy hyl hsw (pi_keys (pe_var hNi hvis hd hcd)) ok hg (fun s H C cl fp => PTs.ex fun x => ht s H C cl fp x) (fun s H C cl fp => PE.ex fun x => hek s H C cl fp x) (fun s H C cl fp => PE.ex fun x => hev s H C cl fp x) hs))) fun D σ H ⟨O, H0, ow, st, z, st', rel, ok, e, q⟩ big => ?_
  obtain ⟨hσ, ⟨o, hp, hdo⟩, nO, n0⟩ := rel.how i _ hΓ
  have nZ : ¬ Zr R (ow i) := fun z => nO (rel.zsub _ z)
  refine ⟨ow i, o, hp, ow_mut hdo, fun od => ?_⟩
  have ok2 : okR R st (upd H (ow i) (.frz od o)) := ok.keep fun a u z e => by rw [upd_ne (fun q => nZ (by rw [← q]; exact z))]; exact e
  have hvs' : ∀ j ∈ own.map (·.2), ∀ d, (Γ.set i .un)[j]? ≠ some (.ow d) := fun j hj d e => by
    by_cases hij : i = j
    · subst hij
      rw [List.getElem?_set_self', hΓ] at e; cases e
    · rw [List.getElem?_set_ne hij] at e
      exact hvs j hj d e
  refine dc_readW hv ho hset his hvs' (rel.lockD hΓ) e (fun p H' n k o' ep => ?_) (fun Rr h => keys_prov hki hm hΓ rel hdo ok2 (by have := big _ _ _ hp hdo; simpa using this) Rr h)
  obtain ⟨h1, h2, h3, h4⟩ := unlock_fin hΓ rel hp k o'
  have np : p ≠ ow i := fun z => by subst z; rw [upd_same] at n; cases n
  have np2 : H p = none := by rw [upd_ne np] at n; exact n
  exact ⟨h1, q ow _ _ ((rel.grow h2 (okZ h3)).setFz j (.dic (rel.ad.fresh np2) (by rw [upd_ne np]; exact ep) (ho.dic _))) h3 (Step.setFz j _ (rel.keepA h2))⟩
end
end Pz

/-! list comprehensions with two fors -/
namespace Pz
open PySem PySem.Spec PyProof.Rows L2
section
variable {α β γ δ κ ν ρ ι : Type} {ea : α → PyData} {eb : β → PyData} {ec : γ → PyData} {ei : ι → PyData} {ek : κ → PyData} {X : Cx} {R : Res} {Γ Γ' : List Slot} {e a b c : Expr} {pos : Pos}
/-- in, for a list of any type: with the instance that the rules have -/
abbrev memB {α : Type} [DecidableEq α] (x : α) (xs : List α) : Bool := decide (x ∈ xs)
def c2in (c1 : κ → M Bool) (f : κ → M γ) : List κ → List γ → M (List γ)
  | [], acc => pureM acc
  | y :: ys, acc => bindM (c1 y) fun b => if b then bindM (f y) fun z => bindM (appM acc z) fun acc' => c2in c1 f ys acc' else c2in c1 f ys acc
def c2M (c : ι → M Bool) (mi1 : ι → M (List κ)) (c1 : ι → κ → M Bool) (f : ι → κ → M γ) : List ι → List γ → M (List γ)
  | [], acc => pureM acc
  | x :: xs, acc => bindM (c x) fun b => if b then bindM (mi1 x) fun ys => bindM (c2in (c1 x) (f x) ys acc) fun acc' => c2M c mi1 c1 f xs acc' else c2M c mi1 c1 f xs acc
theorem lc2_read {set : List Slot → ι → List Slot} {set1 : List Slot → κ → List Slot} {is is1 vs vs1 : List Nat} {mi : M (List ι)} {mc : ι → M Bool} {mi1 : ι → M (List κ)} {mc1 : ι → κ → M Bool} {f : ι → κ → M γ}
    (hset : ∀ Γ x (i : Nat) d, (set Γ x)[i]? = some (.ow d) → Γ[i]? = some (.ow d)) (hsm : ∀ Γ x (i : Nat), i ∉ is → (set Γ x)[i]? = Γ[i]?) (his : ∀ i ∈ is, i ∈ vs) (hvs : ∀ i ∈ vs, ∀ d, Γ[i]? ≠ some (.ow d))
    (hsm1 : ∀ Γ x (i : Nat), i ∉ is1 → (set1 Γ x)[i]? = Γ[i]?) (his1 : ∀ i ∈ is1, i ∈ vs1) (hv1 : ∀ i ∈ vs1, i ∈ vs) {σ : L2.St} {H : Hp} {Q : VK} (h : tF R Γ ec (bindM mi fun xs => c2M mc mi1 mc1 f xs []) σ H Q) :
    tLc2 (tI R Γ ei mi) (tG set is ei) (fun σ H Q => ∃ x, tT R (set (wipeG Γ vs) x) (mc x) σ H Q) (fun σ H Rr => ∃ x, tI R (set (wipeG Γ vs) x) ek (mi1 x) σ H Rr) (tG set1 is1 ek)
      (fun σ H Q => ∃ p : ι × κ, tT R (set1 (wipeG (set (wipeG Γ vs) p.1) vs1) p.2) (mc1 p.1 p.2) σ H Q) (fun σ H Q => ∃ p : ι × κ, tE R (set1 (wipeG (set (wipeG Γ vs) p.1) vs1) p.2) ec (f p.1 p.2) σ H Q) vs vs1 σ H Q := by
  obtain ⟨O, H0, ow, st, r, st', rel, ok, e, q⟩ := h
  obtain ⟨xs, s1, e1, e2⟩ := bind_some e
  refine ⟨O, H0, ow, st, xs, s1, rel, ok, e1, fun J H1 k1 o1 hlen it => fun D nD => ?_⟩
  have rel1 := rel.grow k1 (okZ o1)
  obtain ⟨relw, av⟩ := rel1.wipe vs hvs
  obtain ⟨relD, n0⟩ := relw.addO nD (.lst []) (fun _ => by simp)
  have nZ : ¬ Zr R D := fun z => (okZ o1 D z).1 nD
  have avD : ∀ a, avo (avp O D) (wipeG Γ vs) ow a → avp (avo O Γ ow) D a := fun a z => by
    rcases z with (z | z) | z
    · exact .inl (.inl z)
    · exact .inr z
    · exact .inl (by rw [← av]; exact .inr z)
  have avL : ∀ a, avo O Γ ow a → avo (avp O D) (wipeG Γ vs) ow a := fun a z => by
    rw [← av] at z
    exact z.elim (fun z => .inl (.inl z)) .inr
  have offD : ∀ {u : Src} {H : Hp} {o : HO}, okR R u H → okR R u (upd H D o) := fun {u H o} ok => ok.keep (fun a o' z e => by rw [upd_ne (fun q => nZ (by rw [← q]; exact z))]; exact e)
  refine ⟨fun i m H' => m = xs.length - i ∧ i ≤ xs.length ∧ ∃ u acc zs, Rel R (avp O D) H0 ow (wipeG Γ vs) (L2.wipe σ vs) H' ∧ okR R u H' ∧ H' D = some (.lst acc) ∧ RpAll (avo (avp O D) (wipeG Γ vs) ow) H' acc (zs.map ec) ∧ c2M mc mi1 mc1 f (xs.drop i) zs u = some (r, st') ∧ Keep (Zr R) H1 H',
    ⟨_, rfl, Nat.zero_le _, s1, [], [], relD, offD o1, upd_same, .nil, e2, fun a o _ e => by rw [upd_ne (ne_of_none e nD)]; exact e⟩, ?_⟩
  rintro i m H' ⟨rfl, hile, u, acc, zs, rel', ok', hD, racc, ef, k'⟩
  have kA : Keep (avo O Γ ow) H1 H' := rel1.keepA k'
  obtain ⟨stop, go⟩ := it H' i kA
  by_cases hlt : i < xs.length
  · have hx : xs[i]? = some xs[i] := List.getElem?_eq_getElem hlt
    obtain ⟨hgo, hy⟩ := go (ei xs[i]) (by rw [List.getElem?_map, hx]; rfl)
    rw [List.drop_eq_getElem_cons hlt, c2M] at ef
    obtain ⟨b, u2, ef1, ef2⟩ := bind_some ef
    refine .inr ⟨hgo, fun H2 => ∃ u acc zs, Rel R (avp O D) H0 ow (wipeG Γ vs) (L2.wipe σ vs) H2 ∧ okR R u H2 ∧ H2 D = some (.lst acc) ∧ RpAll (avo (avp O D) (wipeG Γ vs) ow) H2 acc (zs.map ec) ∧ c2M mc mi1 mc1 f (xs.drop (i + 1)) zs u = some (r, st') ∧ Keep (Zr R) H1 H2,
      fun H2 ⟨u', acc', zs', a1, a2, a3, a4, a5, a6⟩ => ⟨_, by omega, rfl, hlt, u', acc', zs', a1, a2, a3, a4, a5, a6⟩, fun v H2 y => ?_⟩
    obtain ⟨same, rp⟩ := hy v H2 y
    have relg := rel'.grow (Keep.of_same same) (fun a z => (rel'.odom a (rel'.zsub a z)).same fun o h => same a o h)
    refine ⟨R, avp O D, H0, ow, wipeG Γ vs, xs[i], relg, rp _ (fun a o na ea z => ?_) rel'.ad, fun σ3 rel3 w3 => ⟨(w3 vs his).trans (wipe_idem σ vs), xs[i], avp O D, H0, ow, u, b, u2, rel3, ok'.same same, ef1, fun H3 k3 o3 => ?_⟩⟩
    · rcases avD a z with z | z
      · exact na z
      · rw [z, nD] at ea; cases ea
    have hD3 : H3 D = some (.lst acc) := k3 _ _ nZ (same _ _ hD)
    have rel3' := rel3.grow k3 (okZ o3)
    have relH3 := relg.grow k3 (okZ o3)
    have kH3 : Keep (Zr R) H1 H3 := (k'.trans (Keep.of_same same)).trans k3
    have racc3 := (racc.keep (Keep.of_same same)).keep (relg.keepA k3)
    cases b with
    | false => exact L2.iteF ⟨u2, acc, zs, relH3, o3, hD3, racc3, ef2, kH3⟩
    | true =>
      obtain ⟨ys, u3, ef3, ef4⟩ := bind_some (show bindM (mi1 xs[i]) (fun ys => bindM (c2in (mc1 xs[i]) (f xs[i]) ys zs) fun acc' => c2M mc mi1 mc1 f (xs.drop (i + 1)) acc') u2 = some (r, st') from ef2)
      obtain ⟨zs', u4, ef5, ef6⟩ := bind_some ef4
      have hvs1 : ∀ j ∈ vs1, ∀ d, (set (wipeG Γ vs) xs[i])[j]? ≠ some (.ow d) := fun j hj d e => absurd (wipeG_in (hv1 j hj) (hset _ _ _ _ e)) (by simp)
      refine L2.iteT ⟨xs[i], avp O D, H0, ow, u2, ys, u3, rel3', o3, ef3, fun J1 H4 k4 o4 hlen1 it1 => ?_⟩
      have rel4 := rel3'.grow k4 (okZ o4)
      have relO4 := relH3.grow k4 (okZ o4)
      obtain ⟨relw1, av1⟩ := rel4.wipe vs1 hvs1
      -- what an element may not touch
      have less : ∀ (y : κ) a, avo (avp O D) (wipeG Γ vs) ow a → avo (avp O D) (set1 (wipeG (set (wipeG Γ vs) xs[i]) vs1) y) ow a := fun y a z => by
        rcases z with z | ⟨j, d, e3, e4⟩
        · exact .inl z
        · have jv : j ∉ vs := fun hj => absurd (wipeG_in hj e3) (by simp)
          refine .inr ⟨j, d, ?_, e4⟩
          rw [hsm1 _ _ j fun hj => jv (hv1 j (his1 j hj)), wipeG_at (fun hj => jv (hv1 j hj)), hsm _ _ j fun hj => jv (his j hj)]
          exact e3
      refine ⟨fun j k H' => k = ys.length - j ∧ j ≤ ys.length ∧ ∃ u acc zs, Rel R (avp O D) H0 ow (wipeG (set (wipeG Γ vs) xs[i]) vs1) (L2.wipe σ3 vs1) H' ∧ Rel R (avp O D) H0 ow (wipeG Γ vs) (L2.wipe σ vs) H' ∧ okR R u H' ∧ H' D = some (.lst acc) ∧ RpAll (avo (avp O D) (wipeG Γ vs) ow) H' acc (zs.map ec) ∧
        c2in (mc1 xs[i]) (f xs[i]) (ys.drop j) zs u = some (zs', u4) ∧ Keep (Zr R) H1 H' ∧ Keep (avo (avp O D) (set (wipeG Γ vs) xs[i]) ow) H4 H', ⟨_, rfl, Nat.zero_le _, u3, acc, zs, relw1, relO4, o4, k4 _ _ nZ hD3, racc3.keep (relH3.keepA k4), ef5, kH3.trans k4, Keep.refl _⟩, ?_⟩
      rintro j k H5 ⟨rfl, hjle, u5, acc5, zs5, relA, relB, ok5, hD5, racc5, eg, kB, kC⟩
      obtain ⟨stop1, go1⟩ := it1 H5 j kC
      by_cases hlt1 : j < ys.length
      · have hx1 : ys[j]? = some ys[j] := List.getElem?_eq_getElem hlt1
        obtain ⟨hgo1, hy1⟩ := go1 (ek ys[j]) (by rw [List.getElem?_map, hx1]; rfl)
        rw [List.drop_eq_getElem_cons hlt1, c2in] at eg
        obtain ⟨b1, u6, eg1, eg2⟩ := bind_some eg
        refine .inr ⟨hgo1, fun H' => ∃ u acc zs, Rel R (avp O D) H0 ow (wipeG (set (wipeG Γ vs) xs[i]) vs1) (L2.wipe σ3 vs1) H' ∧ Rel R (avp O D) H0 ow (wipeG Γ vs) (L2.wipe σ vs) H' ∧ okR R u H' ∧ H' D = some (.lst acc) ∧ RpAll (avo (avp O D) (wipeG Γ vs) ow) H' acc (zs.map ec) ∧
          c2in (mc1 xs[i]) (f xs[i]) (ys.drop (j + 1)) zs u = some (zs', u4) ∧ Keep (Zr R) H1 H' ∧ Keep (avo (avp O D) (set (wipeG Γ vs) xs[i]) ow) H4 H', fun H' ⟨u', acc', zs'', a1, a2, a3, a4, a5, a6, a7, a8⟩ => ⟨_, by omega, rfl, hlt1, u', acc', zs'', a1, a2, a3, a4, a5, a6, a7, a8⟩, fun v1 H6 y1 => ?_⟩
        obtain ⟨same1, rp1⟩ := hy1 v1 H6 y1
        have relA6 := relA.grow (Keep.of_same same1) (fun a z => (relA.odom a (relA.zsub a z)).same fun o h => same1 a o h)
        have relB6 := relB.grow (Keep.of_same same1) (fun a z => (relB.odom a (relB.zsub a z)).same fun o h => same1 a o h)
        refine ⟨R, avp O D, H0, ow, _, ys[j], relA6, rp1 _ (fun a o na ea z => na (by rw [← av1]; exact z)) relA.ad, fun σ4 rel6 w4 => ⟨(w4 vs1 his1).trans (wipe_idem σ3 vs1), (xs[i], ys[j]), avp O D, H0, ow, u5, b1, u6, rel6, ok5.same same1, eg1, fun H7 k7 o7 => ?_⟩⟩
        have hD7 : H7 D = some (.lst acc5) := k7 _ _ nZ (same1 _ _ hD5)
        have relA7 := relA6.grow k7 (okZ o7)
        have relB7 := relB6.grow k7 (okZ o7)
        have racc7 := (racc5.keep (Keep.of_same same1)).keep (relB6.keepA k7)
        have kB7 : Keep (Zr R) H1 H7 := (kB.trans (Keep.of_same same1)).trans k7
        have kC7 : Keep (avo (avp O D) (set (wipeG Γ vs) xs[i]) ow) H4 H7 := (kC.trans (Keep.of_same same1)).trans (by rw [← av1]; exact relA6.keepA k7)
        cases b1 with
        | false => exact L2.iteF ⟨u6, acc5, zs5, relA7, relB7, o7, hD7, racc7, eg2, kB7, kC7⟩
        | true =>
          obtain ⟨w, u7, eg3, eg4⟩ := bind_some (show bindM (f xs[i] ys[j]) (fun z => bindM (appM zs5 z) fun acc' => c2in (mc1 xs[i]) (f xs[i]) (ys.drop (j + 1)) acc') u6 = some (zs', u4) from eg2)
          obtain ⟨zs8, u8, eg5, eg6⟩ := bind_some eg4
          obtain ⟨hl8, rfl, rfl⟩ := if_some eg5
          refine L2.iteT ⟨(xs[i], ys[j]), avp O D, H0, ow, u6, w, u7, rel6.grow k7 (okZ o7), o7, eg3, fun wv H8 k8 o8 rp8 => ?_⟩
          have hD8 : H8 D = some (.lst acc5) := k8 _ _ nZ hD7
          have hacc : acc5.length = zs5.length := by have := racc7.length; simpa using this
          refine ⟨acc5, hD8, by omega, u7, acc5 ++ [wv], zs5 ++ [w], (relA7.grow k8 (okZ o8)).updO (.inr rfl) n0 _ (fun _ => by simp), (relB7.grow k8 (okZ o8)).updO (.inr rfl) n0 _ (fun _ => by simp), offD o8, upd_same, ?_, eg6, fun a o nz e => ?_, ?_⟩
          · have kD : Keep (avo (avp O D) (wipeG Γ vs) ow) H8 (upd H8 D (.lst (acc5 ++ [wv]))) := fun a o na e => by rw [upd_ne (fun z => na (.inl (.inr z)))]; exact e
            rw [List.map_append]
            exact (((racc7.keep (relB7.keepA k8)).keep kD)).append (.cons ((rp8.less (less ys[j])).keep kD) .nil)
          · rw [upd_ne (ne_of_none e nD)]; exact k8 _ _ nz (kB7 _ _ nz e)
          · refine (kC7.trans (by rw [← av1]; exact relA7.keepA k8)).trans fun a o na e => ?_
            rw [upd_ne (fun z => na (.inl (.inr z)))]; exact e
      · have hj' : j = ys.length := by omega
        subst hj'
        refine .inl ⟨stop1 (by simp), ?_⟩
        rw [List.drop_length] at eg
        obtain ⟨rfl, rfl⟩ := pure_some (show pureM zs5 u5 = some (zs', u4) from eg)
        exact ⟨u5, acc5, zs5, relB, ok5, hD5, racc5, ef6, kB⟩
  · have hi' : i = xs.length := by omega
    subst hi'
    refine .inl ⟨stop (by simp), ?_⟩
    rw [List.drop_length] at ef
    obtain ⟨rfl, rfl⟩ := pure_some (show pureM zs u = some (r, st') from ef)
    refine q D acc H' (noneK k1 o1 nD) (k1.trans k') ok' hD (racc.less fun a z => ?_)
    exact z.elim (fun z => avL a z) fun z => .inl (.inr z)
theorem PI.ex {ι : Type} {tg e : Expr} {t : ι → TI} (h : ∀ x, PI X tg e (t x)) : PI X tg e (fun σ H Rr => ∃ x, t x σ H Rr) := ⟨fun pins s σ H Rr I ⟨x, q⟩ => (h x).run pins s σ H Rr I q⟩
theorem f_lc2 {set : List Slot → ι → List Slot} {set1 : List Slot → κ → List Slot} {is is1 vs1 : List Nat} {mi : M (List ι)} {elt tg iter tg1 iter1 : Expr} {ifs ifs1 : List Expr} {scope : Scope} (own : List (Str × Nat)) (mc : ι → M Bool) (mi1 : ι → M (List κ)) (mc1 : ι → κ → M Bool) (f : ι → κ → M γ) (hc : X.calm = true) (hN : X.N.Nodup)
    (hi : IJ X R Γ iter tg ei mi) (ok : BlkOk X.N X.env.scope scope own)
    (hg : ∀ (s : Shared) (H : Hp) (C : Addr) (cl : List (Str × Addr)) (fp : List Addr), GJ (X.blk s H scope (compEnvC scope cl C X.env) fp) tg set is ei)
    (ht : ∀ (s : Shared) (H : Hp) (C : Addr) (cl : List (Str × Addr)) (fp : List Addr) (x : ι), CJ (X.blk s H scope (compEnvC scope cl C X.env) fp) R (set (wipeG Γ (own.map (·.2))) x) ifs (mc x))
    (hi1 : ∀ (s : Shared) (H : Hp) (C : Addr) (cl : List (Str × Addr)) (fp : List Addr) (x : ι), IJ (X.blk s H scope (compEnvC scope cl C X.env) fp) R (set (wipeG Γ (own.map (·.2))) x) iter1 tg1 ek (mi1 x))
    (hg1 : ∀ (s : Shared) (H : Hp) (C : Addr) (cl : List (Str × Addr)) (fp : List Addr), GJ (X.blk s H scope (compEnvC scope cl C X.env) fp) tg1 set1 is1 ek)
    (ht1 : ∀ (s : Shared) (H : Hp) (C : Addr) (cl : List (Str × Addr)) (fp : List Addr) (p : ι × κ), CJ (X.blk s H scope (compEnvC scope cl C X.env) fp) R (set1 (wipeG (set (wipeG Γ (own.map (·.2))) p.1) vs1) p.2) ifs1 (mc1 p.1 p.2))
    (he : ∀ (s : Shared) (H : Hp) (C : Addr) (cl : List (Str × Addr)) (fp : List Addr) (p : ι × κ), EJ (X.blk s H scope (compEnvC scope cl C X.env) fp) R (set1 (wipeG (set (wipeG Γ (own.map (·.2))) p.1) vs1) p.2) elt ec (f p.1 p.2))
    (hset : ∀ Γ x (i : Nat) d, (set Γ x)[i]? = some (.ow d) → Γ[i]? = some (.ow d)) (hsm : ∀ Γ x (i : Nat), i ∉ is → (set Γ x)[i]? = Γ[i]?) (his : ∀ i ∈ is, i ∈ own.map (·.2)) (hvs : ∀ i ∈ own.map (·.2), ∀ d, Γ[i]? ≠ some (.ow d))
    (hsm1 : ∀ Γ x (i : Nat), i ∉ is1 → (set1 Γ x)[i]? = Γ[i]?) (his1 : ∀ i ∈ is1, i ∈ vs1) (hv1 : ∀ i ∈ vs1, i ∈ own.map (·.2))
    (hs : ∀ x, foldedSetIterable iter X.env x = pure x := by intro _; rfl) (hs1 : ∀ env x, foldedSetIterable iter1 env x = pure x := by intro _ _; rfl) : EF X R Γ (.ListComp elt [⟨tg, iter, ifs, 0⟩, ⟨tg1, iter1, ifs1, 0⟩] scope pos) ec (bindM mi fun xs => c2M mc mi1 mc1 f xs []) :=
  PE.weak (pe_lc2 hc hN hi ok hv1 hg (fun s H C cl fp => PTs.ex fun x => ht s H C cl fp x) (fun s H C cl fp => PI.ex fun x => hi1 s H C cl fp x) hg1 (fun s H C cl fp => PTs.ex fun p => ht1 s H C cl fp p) (fun s H C cl fp => PE.ex fun p => he s H C cl fp p) hs hs1) fun σ H Q h => lc2_read hset hsm his hvs hsm1 his1 hv1 h
end
end Pz

/-! the plain side, part four: rows as sets, unions, dicts as lists of keys, closing under unions -/
namespace Pz
open PySem PySem.Spec PyProof.Rows L2
theorem row_ext {a b : List Int} (ha : a.Pairwise (· < ·)) (hb : b.Pairwise (· < ·)) (h : ∀ x, x ∈ a ↔ x ∈ b) : a = b := by
  have na : a.Nodup := ha.imp fun h e => by omega
  have nb : b.Nodup := hb.imp fun h e => by omega
  exact ((List.perm_ext_iff_of_nodup na nb).mpr h).eq_of_pairwise (fun x y _ _ h1 h2 => absurd h1 (by omega)) ha hb
theorem Lot.ext {n : Int} {a b : List Int} (ha : Lot n a) (hb : Lot n b) (h : ∀ x, x ∈ a ↔ x ∈ b) : a = b := row_ext ha.1 hb.1 h
theorem mem_srtI {xs : List Int} {x : Int} : x ∈ srt eInt xs ↔ x ∈ xs := (List.mergeSort_perm _ _).mem_iff
theorem srtI_row {xs : List Int} (hn : xs.Nodup) : (srt eInt xs).Pairwise (· < ·) := by
  have h1 : (srt eInt xs).Pairwise fun p q => (decide (p ≤ q)) = true := by
    rw [srt_ints]
    exact List.pairwise_mergeSort (le := fun p q : Int => decide (p ≤ q)) (fun a b c h1 h2 => by simp only [decide_eq_true_eq] at h1 h2 ⊢; omega) (fun a b => by simp only [Bool.or_eq_true, decide_eq_true_eq]; omega) xs
  have h2 : (srt eInt xs).Nodup := (List.mergeSort_perm _ _).nodup_iff.mpr hn
  exact (List.pairwise_and_iff.mpr ⟨h1, h2⟩).imp fun h => by
    have := h.1
    have h3 := h.2
    simp only [decide_eq_true_eq] at this
    omega
theorem mem_srtT {xs : List (List Int)} {x : List Int} : x ∈ srt (eT eInt) xs ↔ x ∈ xs := (List.mergeSort_perm _ _).mem_iff
theorem srtT_len (xs : List (List Int)) : (srt (eT eInt) xs).length = xs.length := by rw [srt_rows, List.length_mergeSort]
theorem srtT_nodup {xs : List (List Int)} (h : xs.Nodup) : (srt (eT eInt) xs).Nodup := (List.mergeSort_perm _ _).nodup_iff.mpr h
theorem srtT_lt {xs : List (List Int)} (h : xs.Nodup) : (srt (eT eInt) xs).Pairwise (· < ·) := by
  exact (List.pairwise_and_iff.mpr ⟨srt_sorted xs, srtT_nodup h⟩).imp fun {a b} h => by
    by_cases q : a < b
    · exact q
    · exact absurd (rows_anti a b h.1 (show b ≤ a from q)) h.2
/-! ### unions -/
def uni (a b : List Int) : List Int := srt eInt (a ++ b.filter fun x => !memB x a)
theorem mem_uni {a b : List Int} {x : Int} : x ∈ uni a b ↔ x ∈ a ∨ x ∈ b := by
  unfold uni
  rw [mem_srtI, List.mem_append, List.mem_filter]
  simp
  by_cases h : x ∈ a <;> simp [h]
theorem uni_lot {n : Int} {a b : List Int} (ha : Lot n a) (hb : Lot n b) : Lot n (uni a b) := by
  refine ⟨srtI_row ?_, fun x hx => ?_⟩
  · rw [List.nodup_append]
    refine ⟨ha.nodup, hb.nodup.filter _, fun x hx y hy e => ?_⟩
    subst e
    have := (List.mem_filter.mp hy).2
    simp at this
    exact this hx
  · rcases mem_uni.mp hx with h | h
    · exact ha.2 x h
    · exact hb.2 x h
theorem uni_comm {n : Int} {a b : List Int} (ha : Lot n a) (hb : Lot n b) : uni a b = uni b a := (uni_lot ha hb).ext (uni_lot hb ha) fun x => by rw [mem_uni, mem_uni]; exact Or.comm
theorem uni_self {n : Int} {a : List Int} (ha : Lot n a) : uni a a = a := (uni_lot ha ha).ext ha fun x => by rw [mem_uni]; simp
theorem lot_nil {n : Int} : Lot n [] := ⟨.nil, by simp⟩
def united (ls : List (List Int)) : List Int := ls.foldl uni []
theorem united_from {n : Int} : ∀ {ls : List (List Int)} {b : List Int}, Lot n b → (∀ l ∈ ls, Lot n l) → Lot n (ls.foldl uni b) ∧ ∀ x, x ∈ ls.foldl uni b ↔ x ∈ b ∨ ∃ l ∈ ls, x ∈ l
  | [], b, hb, _ => ⟨hb, fun x => by simp⟩
  | l :: ls, b, hb, h => by
    obtain ⟨h1, h2⟩ := united_from (uni_lot hb (h l List.mem_cons_self)) (fun q hq => h q (List.mem_cons_of_mem _ hq)) (ls := ls)
    refine ⟨h1, fun x => ?_⟩
    rw [List.foldl_cons, h2, mem_uni]
    simp [or_assoc]
theorem united_lot {n : Int} {ls : List (List Int)} (h : ∀ l ∈ ls, Lot n l) : Lot n (united ls) := (united_from lot_nil h).1
theorem mem_united {n : Int} {ls : List (List Int)} (h : ∀ l ∈ ls, Lot n l) {x : Int} : x ∈ united ls ↔ ∃ l ∈ ls, x ∈ l := by
  rw [show (x ∈ united ls ↔ _) from (united_from lot_nil h).2 x]
  simp
/-! ### dicts as lists of keys -/
section
variable {κ ν ι : Type} [DecidableEq κ]
def keysM (xs : List (κ × ν × Unit)) : List κ := xs.map fun p => p.1
def putS (ks : List κ) (k : κ) : List κ := if memB k ks = true then ks else ks ++ [k]
def mergeS (ks ys : List κ) : List κ := ys.foldl putS ks
theorem hasM_keys (xs : List (κ × ν × Unit)) (k : κ) : hasM xs k = memB k (keysM xs) := by
  unfold hasM keysM
  rw [Bool.eq_iff_iff, List.any_eq_true]
  simp
theorem keys_put (xs : List (κ × ν × Unit)) (k : κ) (v : ν) : keysM (putL xs k v) = putS (keysM xs) k := by
  unfold putL putS
  rw [hasM_keys]
  by_cases h : memB k (keysM xs) = true
  · rw [if_pos h, if_pos h]
    unfold keysM
    rw [List.map_map]
    refine List.map_congr_left fun p _ => ?_
    simp only [Function.comp]
    split <;> rfl
  · rw [if_neg h, if_neg h]
    unfold keysM
    rw [List.map_append]
    rfl
theorem keys_merge : ∀ (ys xs : List (κ × ν × Unit)), keysM (mergeL xs ys) = mergeS (keysM xs) (keysM ys)
  | [], xs => rfl
  | y :: ys, xs => by
    show keysM (mergeL (putL xs y.1 y.2.1) ys) = mergeS (putS (keysM xs) y.1) (keysM ys)
    rw [keys_merge ys, keys_put]
theorem mem_putS {ks : List κ} {k x : κ} : x ∈ putS ks k ↔ x ∈ ks ∨ x = k := by
  unfold putS
  by_cases h : memB k ks = true
  · rw [if_pos h]
    simp at h
    exact ⟨.inl, fun z => z.elim id fun e => e ▸ h⟩
  · rw [if_neg h, List.mem_append, List.mem_singleton]
theorem nodup_putS {ks : List κ} {k : κ} (h : ks.Nodup) : (putS ks k).Nodup := by
  unfold putS
  by_cases q : memB k ks = true
  · rw [if_pos q]; exact h
  · rw [if_neg q, List.nodup_append]
    simp at q
    exact ⟨h, by simp, fun a ha b hb e => by rw [List.mem_singleton] at hb; subst hb; subst e; exact q ha⟩
theorem len_putS (ks : List κ) (k : κ) : (putS ks k).length ≤ ks.length + 1 := by
  unfold putS
  split <;> simp
theorem mem_mergeS : ∀ {ys ks : List κ} {x : κ}, x ∈ mergeS ks ys ↔ x ∈ ks ∨ x ∈ ys
  | [], ks, x => by simp [mergeS]
  | y :: ys, ks, x => by
    show x ∈ mergeS (putS ks y) ys ↔ _
    rw [mem_mergeS, mem_putS, List.mem_cons, or_assoc]
theorem nodup_mergeS : ∀ {ys ks : List κ}, ks.Nodup → (mergeS ks ys).Nodup
  | [], _, h => h
  | y :: ys, ks, h => nodup_mergeS (ys := ys) (nodup_putS h)
theorem len_mergeS : ∀ (ys ks : List κ), (mergeS ks ys).length ≤ ks.length + ys.length
  | [], ks => by simp [mergeS]
  | y :: ys, ks => by
    have h1 := len_mergeS ys (putS ks y)
    have h2 := len_putS ks y
    show (mergeS (putS ks y) ys).length ≤ _
    simp only [List.length_cons]
    omega
theorem keys_len (xs : List (κ × ν × Unit)) : (keysM xs).length = xs.length := by unfold keysM; simp
theorem dcM_pure {fk : ι → M κ} {fv : ι → M ν} (kk : ι → κ) (vv : ι → ν) : ∀ {xs : List ι} {acc : List (κ × ν × Unit)}, (∀ x ∈ xs, fk x = pureM (kk x)) → (∀ x ∈ xs, fv x = pureM (vv x)) → dcM (fun _ => pureM true) fk fv xs acc = pureM (mergeL acc (xs.map fun x => (kk x, vv x, ())))
  | [], acc, _, _ => rfl
  | x :: xs, acc, h1, h2 => by
    unfold dcM
    rw [bp, if_pos rfl, h1 x List.mem_cons_self, bp, h2 x List.mem_cons_self, bp, dcM_pure kk vv (fun y hy => h1 y (List.mem_cons_of_mem _ hy)) (fun y hy => h2 y (List.mem_cons_of_mem _ hy))]
    rfl
theorem putM_ok {xs : List (κ × ν × Unit)} {k : κ} {v : ν} (h : xs.length < sizeLine) : putM xs k v = pureM (putL xs k v) := by unfold putM; rw [if_pos h]
theorem updM_ok {xs ys : List (κ × ν × Unit)} (h : xs ≠ [] ∨ ys.length ≤ 1) (h2 : xs.length + ys.length ≤ sizeLine) : updM xs ys = pureM (mergeL xs ys) := by unfold updM; rw [if_pos ⟨h, h2⟩]
theorem c2M_pure {γ κ' : Type} {mi1 : ι → M (List κ')} {f : ι → κ' → M γ} (mm : ι → List κ') (ff : ι → κ' → γ) : ∀ {xs : List ι} {acc : List γ}, (∀ x ∈ xs, mi1 x = pureM (mm x)) → (∀ x ∈ xs, ∀ y ∈ mm x, f x y = pureM (ff x y)) → acc.length + (xs.flatMap fun x => (mm x).map (ff x)).length ≤ sizeLine →
    c2M (fun _ => pureM true) mi1 (fun _ _ => pureM true) f xs acc = pureM (acc ++ xs.flatMap fun x => (mm x).map (ff x)) := by
  have inner : ∀ {g : κ' → M γ} (gg : κ' → γ) {ys : List κ'} {acc : List γ}, (∀ y ∈ ys, g y = pureM (gg y)) → acc.length + ys.length ≤ sizeLine → c2in (fun _ => pureM true) g ys acc = pureM (acc ++ ys.map gg) := by
    intro g gg ys
    induction ys with
    | nil => intro acc _ _; unfold c2in; simp
    | cons y ys ih =>
      intro acc h hl
      simp only [List.length_cons] at hl
      unfold c2in
      rw [bp, if_pos rfl, h y List.mem_cons_self, bp, appM_ok (by omega), bp, ih (fun z hz => h z (List.mem_cons_of_mem _ hz)) (by simp; omega)]
      simp
  intro xs
  induction xs with
  | nil => intro acc _ _ _; unfold c2M; simp
  | cons x xs ih =>
    intro acc h1 h2 hl
    simp only [List.flatMap_cons, List.length_append, List.length_map] at hl
    unfold c2M
    rw [bp, if_pos rfl, h1 x List.mem_cons_self, bp, inner (ff x) (fun y hy => h2 x List.mem_cons_self y hy) (by omega), bp, ih (fun y hy => h1 y (List.mem_cons_of_mem _ hy)) (fun y hy => h2 y (List.mem_cons_of_mem _ hy)) (by simp only [List.length_append, List.length_map]; omega)]
    simp [List.flatMap_cons, List.append_assoc]
end
/-! ### closing under unions -/
def stepS (ks : List (List Int)) (lot : List Int) : List (List Int) := putS (mergeS ks (mergeS [] (ks.map (uni lot)))) lot
def closeS (lots : List (List Int)) : List (List Int) := lots.foldl stepS []
theorem mem_stepS {ks : List (List Int)} {lot x : List Int} : x ∈ stepS ks lot ↔ x ∈ ks ∨ (∃ k ∈ ks, uni lot k = x) ∨ x = lot := by
  unfold stepS
  rw [mem_putS, mem_mergeS, mem_mergeS, List.mem_map]
  simp [or_assoc]
theorem len_stepS (ks : List (List Int)) (lot : List Int) : (stepS ks lot).length ≤ 2 * ks.length + 1 := by
  unfold stepS
  have h1 := len_putS (mergeS ks (mergeS [] (ks.map (uni lot)))) lot
  have h2 := len_mergeS (mergeS [] (ks.map (uni lot))) ks
  have h3 := len_mergeS (ks.map (uni lot)) []
  simp at h3
  omega
structure Clo (n : Int) (given ks : List (List Int)) : Prop where
  lot : ∀ l ∈ ks, Lot n l
  nodup : ks.Nodup
  closed : ∀ a ∈ ks, ∀ b ∈ ks, uni a b ∈ ks
  has : ∀ g ∈ given, g ∈ ks
  from_ : ∀ l ∈ ks, ∀ x ∈ l, ∃ g ∈ given, x ∈ g ∧ ∀ y ∈ g, y ∈ l
theorem Clo.nil {n : Int} : Clo n [] [] := ⟨by simp, by simp, by simp, by simp, by simp⟩
theorem Clo.step {n : Int} {given ks : List (List Int)} {lot : List Int} (c : Clo n given ks) (hl : Lot n lot) : Clo n (given ++ [lot]) (stepS ks lot) := by
  have lots : ∀ l ∈ stepS ks lot, Lot n l := fun l h => by
    rcases mem_stepS.mp h with h | ⟨k, hk, rfl⟩ | rfl
    · exact c.lot l h
    · exact uni_lot hl (c.lot k hk)
    · exact hl
  have eq : ∀ {a b : List Int}, Lot n a → Lot n b → (∀ x, x ∈ a ↔ x ∈ b) → a = b := fun ha hb h => ha.ext hb h
  refine ⟨lots, nodup_putS (nodup_mergeS c.nodup), fun a ha b hb => ?_, fun g hg => ?_, fun l h x hx => ?_⟩
  · have la := lots a ha
    have lb := lots b hb
    have lab := uni_lot la lb
    rw [mem_stepS]
    rcases mem_stepS.mp ha with ia | ⟨k, hk, rfl⟩ | rfl <;> rcases mem_stepS.mp hb with ib | ⟨q, hq, rfl⟩ | rfl
    · exact .inl (c.closed a ia b ib)
    · exact .inr (.inl ⟨uni a q, c.closed a ia q hq, eq (uni_lot hl (uni_lot la (c.lot q hq))) lab fun x => by simp only [mem_uni]; exact ⟨fun h => by rcases h with h | h | h <;> simp [h], fun h => by rcases h with h | h | h <;> simp [h]⟩⟩)
    · exact .inr (.inl ⟨a, ia, eq (uni_lot lb la) lab fun x => by simp only [mem_uni]; exact Or.comm⟩)
    · exact .inr (.inl ⟨uni k b, c.closed k hk b ib, eq (uni_lot hl (uni_lot (c.lot k hk) lb)) lab fun x => by simp only [mem_uni]; exact or_assoc.symm⟩)
    · exact .inr (.inl ⟨uni k q, c.closed k hk q hq, eq (uni_lot hl (uni_lot (c.lot k hk) (c.lot q hq))) lab fun x => by simp only [mem_uni]; exact ⟨fun h => by rcases h with h | h | h <;> simp [h], fun h => by rcases h with (h | h) | h | h <;> simp [h]⟩⟩)
    · exact .inr (.inl ⟨k, hk, eq (uni_lot hl (c.lot k hk)) lab fun x => by simp only [mem_uni]; exact ⟨fun h => by rcases h with h | h <;> simp [h], fun h => by rcases h with (h | h) | h <;> simp [h]⟩⟩)
    · exact .inr (.inl ⟨b, ib, eq (uni_lot hl lb) lab fun x => Iff.rfl⟩)
    · exact .inr (.inl ⟨q, hq, eq (uni_lot hl (c.lot q hq)) lab fun x => by simp only [mem_uni]; exact ⟨fun h => by rcases h with h | h <;> simp [h], fun h => by rcases h with h | h | h <;> simp [h]⟩⟩)
    · exact .inr (.inr (uni_self hl))
  · rw [mem_stepS]
    rcases List.mem_append.mp hg with h | h
    · exact .inl (c.has g h)
    · rw [List.mem_singleton] at h; exact .inr (.inr h)
  · have up : ∀ {l : List Int} {x : Int}, l ∈ ks → x ∈ l → ∃ g ∈ given ++ [lot], x ∈ g ∧ ∀ y ∈ g, y ∈ l := fun h hx => by
      obtain ⟨g, h1, h2, h3⟩ := c.from_ _ h _ hx
      exact ⟨g, List.mem_append_left _ h1, h2, h3⟩
    rcases mem_stepS.mp h with h | ⟨k, hk, rfl⟩ | rfl
    · exact up h hx
    · rcases mem_uni.mp hx with q | q
      · exact ⟨lot, by simp, q, fun y hy => mem_uni.mpr (.inl hy)⟩
      · obtain ⟨g, h1, h2, h3⟩ := up hk q
        exact ⟨g, h1, h2, fun y hy => mem_uni.mpr (.inr (h3 y hy))⟩
    · exact ⟨l, by simp, hx, fun y hy => hy⟩
theorem clo_from {n : Int} : ∀ {lots given ks : List (List Int)}, Clo n given ks → (∀ l ∈ lots, Lot n l) → Clo n (given ++ lots) (lots.foldl stepS ks)
  | [], given, ks, c, _ => by simpa using c
  | l :: lots, given, ks, c, h => by
    have := clo_from (lots := lots) (c.step (h l List.mem_cons_self)) fun q hq => h q (List.mem_cons_of_mem _ hq)
    simpa using this
theorem clo_close {n : Int} {lots : List (List Int)} (h : ∀ l ∈ lots, Lot n l) : Clo n lots (closeS lots) := by
  have := clo_from Clo.nil h
  unfold closeS
  simpa using this
theorem len_from : ∀ (lots ks : List (List Int)), (lots.foldl stepS ks).length + 1 ≤ 2 ^ lots.length * (ks.length + 1)
  | [], ks => by simp
  | l :: lots, ks => by
    have h1 := len_from lots (stepS ks l)
    have h2 := len_stepS ks l
    rw [List.foldl_cons]
    refine Nat.le_trans h1 ?_
    rw [List.length_cons, Nat.pow_succ, Nat.mul_assoc]
    exact Nat.mul_le_mul_left _ (by omega)
theorem len_close (lots : List (List Int)) : (closeS lots).length < 2 ^ lots.length := by
  have := len_from lots []
  unfold closeS
  simp at this
  omega
/-- what a union-closed family holds: every union of some of its lots, but that of none -/
theorem Clo.united {n : Int} {given ks : List (List Int)} (c : Clo n given ks) : ∀ {ls : List (List Int)}, ls ≠ [] → (∀ l ∈ ls, l ∈ ks) → ∀ {l : List Int}, Lot n l → (∀ x, x ∈ l ↔ ∃ q ∈ ls, x ∈ q) → l ∈ ks
  | [], h, _, _, _, _ => absurd rfl h
  | [q], _, hk, l, hl, he => by
    have := hl.ext (c.lot q (hk q (by simp))) fun x => by rw [he]; simp
    rw [this]; exact hk q (by simp)
  | q :: r :: ls, _, hk, l, hl, he => by
    have hr : ∀ p ∈ r :: ls, p ∈ ks := fun p hp => hk p (List.mem_cons_of_mem _ hp)
    have hlr : ∀ p ∈ r :: ls, Lot n p := fun p hp => c.lot p (hr p hp)
    have ih := Clo.united c (ls := r :: ls) (by simp) hr (united_lot hlr) fun x => mem_united hlr
    have := c.closed q (hk q (by simp)) _ ih
    rwa [(uni_lot (c.lot q (hk q (by simp))) (united_lot hlr)).ext hl fun x => by rw [mem_uni, mem_united hlr, he]; simp] at this
end Pz

/-! sorted: rows of rows -/
namespace Pz
open PySem PySem.Spec PyProof.Rows L2
theorem SrtA.tup {α : Type} {ea : α → PyData} (h : SrtA ea) (hd : ∀ x, (ea x).depth ≤ 50) : SrtA (eT ea) := ⟨fun x y => by
  simp only [eT, PySem.W.alike]
  exact alikeAll_of h.alike x y, .inl fun x => ⟨_, rfl⟩, fun x => by
    have := depthAll_of (ea := ea) (n := 50) hd x
    simp only [eT, PyData.depth]; omega⟩
theorem SrtA.rowss : SrtA (eT (eT eInt)) := SrtA.rows.tup fun x => by
  have := depthAll_of (ea := eInt) (n := 0) (fun x => by simp [eInt, PyData.depth]) x
  simp only [eT, PyData.depth]; omega
/-! sum of a tuple of ints -/
section
variable {X : Cx}
def rSumT (K : PySem.W.Frag) : List V → Hp → VK → Prop := fun vs H Q => ∃ (p : Addr) (ks : List Int), vs = [V.ref p] ∧ SqT K H p (ks.map V.int) ∧ Q (.int ks.sum) H
theorem cr_sumT (hc : X.calm = true) : CallR X (.builtin "sum") (rSumT X.K) := fun pins s σ H vs us Q I r h => by
  obtain ⟨p, ks, rfl, hs, q⟩ := h
  obtain ⟨its, rv, hl, _⟩ := I.tuple hs
  rw [Vals.ref1 r]
  have hi : IntsAre its ks := rv.ints
  obtain ⟨xs, hx⟩ := hi.allInts.items
  have hn : numsOf its.toArray.toList = ks := by rw [show its.toArray.toList = its from rfl, hi.numsOf]
  rw [hx] at hl hn
  rw [nums_intItems] at hn
  refine PySem.W.ktm_sumG (I.ok.hd hc) hl fun h' tk t' hk => ?_
  have e : preSum (numAt xs) xs.size = ks.sum := by rw [preSum_eq, List.take_of_length_le (by simp), hn]
  rw [e]
  exact ⟨.int _, H, I.kept hk, ⟨_, rfl⟩, q⟩
theorem v_sumT {K : PySem.W.Frag} : VN (rSumT K) (fun x : List Int × Unit => [eT eInt x.1]) eInt (fun x => some x.1.sum) := fun A H x vs Q z ad r e q => by
  cases e
  cases r with
  | cons r1 r2 =>
    cases r2
    cases r1 with
    | tup na ha hr =>
      have := ints_rp hr
      subst this
      exact ⟨_, _, rfl, SqT.of ha, q _ H (Same.refl H) (.int _)⟩
end
end Pz

/-! zip of a list and a tuple -/
namespace Pz
open PySem PySem.Spec PyProof.Rows L2
/-- the list at a and the tuple at b, the items in new pairs -/
def ItzM (K : PySem.W.Frag) (a b : Addr) : It :=
  ⟨fun i H => ∃ (xs ys : List V) (x y : V), SqL K H a xs ∧ SqT K H b ys ∧ xs[i]? = some x ∧ ys[i]? = some y,
    fun i H v H2 => ∃ T x y, v = .ref T ∧ H T = none ∧ H2 = upd H T (.tup [x, y]) ∧ (∀ xs, SqL K H a xs → xs[i]? = some x) ∧ ∀ ys, SqT K H b ys → ys[i]? = some y, fun i H => ∃ xs ys : List V, SqL K H a xs ∧ SqT K H b ys ∧ (xs.length ≤ i ∨ ys.length ≤ i)⟩
/-- what an iterator of a list draws, seen from its turn i on -/
theorem draws_l {prog : Program} {w : World} {A : Around} (hh : A.handled = none) (it l : Addr) (hne : l ≠ it) (its : Array Value) (i : Nat) {h : Heap} (h1 : h.IsListIter it l i) (h2 : h.IsList l its) :
    ∃ n P St, Draws prog w A it [it, l] n P St ∧ St i h ∧ ((its.size ≤ i ∧ n = i) ∨ (i < its.size ∧ n = its.size)) := by
  by_cases q : i < its.size
  · exact ⟨_, _, _, Draws.list hh it l hne its, ⟨h1, h2⟩, .inr ⟨q, rfl⟩⟩
  · exact ⟨i, fun _ _ => True, fun j h => j = i ∧ h.IsListIter it l i ∧ h.IsList l its,
      { live := fun _ _ q => let ⟨o, ho, _⟩ := q.2.1; ⟨o, ho⟩
        frame := fun _ _ _ q hk => ⟨q.1, q.2.1.at fun o e => hk it (by simp) o e, q.2.2.at fun o e => hk l (by simp) o e⟩
        item := fun j s Q E hj q _ => absurd q.1 (Nat.ne_of_lt hj)
        done := fun s Q E q' hE => wpAny_nextOf_list_end hh q'.2.1 q'.2.2 (by simp; omega) hE }, ⟨rfl, h1, h2⟩, .inl ⟨by omega, rfl⟩⟩
theorem draws_t {prog : Program} {w : World} {A : Around} (hh : A.handled = none) (it l : Addr) (hne : l ≠ it) (its : Array Value) (i : Nat) {h : Heap} (h1 : h.IsTupleIter it l i) (h2 : h.IsTuple l its) :
    ∃ n P St, Draws prog w A it [it, l] n P St ∧ St i h ∧ ((its.size ≤ i ∧ n = i) ∨ (i < its.size ∧ n = its.size)) := by
  by_cases q : i < its.size
  · exact ⟨_, _, _, Draws.tuple hh it l hne its, ⟨h1, h2⟩, .inr ⟨q, rfl⟩⟩
  · exact ⟨i, fun _ _ => True, fun j h => j = i ∧ h.IsTupleIter it l i ∧ h.IsTuple l its,
      { live := fun _ _ q => let ⟨o, ho, _⟩ := q.2.1; ⟨o, ho⟩
        frame := fun _ _ _ q hk => ⟨q.1, q.2.1.at fun o e => hk it (by simp) o e, q.2.2.at fun o e => hk l (by simp) o e⟩
        item := fun j s Q E hj q _ => absurd q.1 (Nat.ne_of_lt hj)
        done := fun s Q E q' hE => wpAny_nextOf_tuple_end hh q'.2.1 q'.2.2 (by simp; omega) hE }, ⟨rfl, h1, h2⟩, .inl ⟨by omega, rfl⟩⟩
theorem sep_of {z TI TO i1 i2 a b : Addr} (D : ZipApart z TI TO i1 i2 a b) : ZipSep2 z TI TO i1 i2 [i1, a] [i2, b] where
  TIz := D.TIz
  TOz := D.TOz
  TITO := D.TITO
  TIi1 := D.TIi1
  mem1 := by simp
  zf1 := by simp [D.i1z.symm, D.l1z.symm]
  Tf1 := by simp [D.TOi1, D.l1TO.symm]
  TIi2 := D.TIi2
  mem2 := by simp
  zf2 := by simp [D.i2z.symm, D.l2z.symm]
  Tf2 := by simp [D.TOi2, D.l2TO.symm]
  sep1_2 := by simp [D.i12, D.l2i1.symm]
  sep2_1 := by simp [D.i12.symm, D.l1i2.symm]
theorem turn_zipM {P : Program} {w : World} {K : PySem.W.Frag} {elts : List Expr} {kk : Nat} {tpos : Pos} {a b z TI TO i1 i2 : Addr} (D : ZipApart z TI TO i1 i2 a b) :
    Turn P w K (.Tuple elts kk tpos) (ItzM K a b) [z, TI, TO, i1, i2] z (fun i h => IsZip h z TI TO .none ∧ IsPair h TI (.ref i1) (.ref i2) ∧ (∃ x y, IsPair h TO x y) ∧ h.IsListIter i1 a i ∧ h.IsTupleIter i2 b i) where
  mem := by simp
  obj := fun i h stt c hc => by
    obtain ⟨hz, hTI, ⟨x, y, hTO⟩, ⟨o1, e1, _, d1⟩, ⟨o2, e2, _, d2⟩⟩ := stt
    rcases (show c = z ∨ c = TI ∨ c = TO ∨ c = i1 ∨ c = i2 by simpa using hc) with q | q | q | q | q <;> rw [q]
    · exact ⟨_, hz, fun v q => nomatch q⟩
    · exact ⟨_, hTI, fun v q => nomatch q⟩
    · exact ⟨_, hTO, fun v q => nomatch q⟩
    · exact ⟨o1, e1, fun v q => by rw [d1] at q; cases q⟩
    · exact ⟨o2, e2, fun v q => by rw [d2] at q; cases q⟩
  keep := fun i h h2 ⟨hz, hTI, ⟨x, y, hTO⟩, h1, hh2⟩ k => ⟨k z (by simp) _ hz, k TI (by simp) _ hTI, ⟨x, y, k TO (by simp) _ hTO⟩, h1.at fun o q => k i1 (by simp) o q, hh2.at fun o q => k i2 (by simp) o q⟩
  item := by
    intro X hP hw hK hc i pins s σ H E I hf stt hg
    subst hP hw hK
    obtain ⟨hz, hTI, hTO, h1, h2⟩ := stt
    obtain ⟨xs, ys, x, y, hqx, hqy, hx, hy⟩ := hg
    obtain ⟨its, rv, pl, _⟩ := I.list hqx
    obtain ⟨its2, rv2, p2, _⟩ := I.tuple hqy
    obtain ⟨u, hu, ru⟩ := rv.get hx
    obtain ⟨u2, hu2, ru2⟩ := rv2.get hy
    have W := WalksT.zipD2 (A := X.A) (sep_of D) (Draws.list (prog := X.prog) (w := X.w) (A := X.A.in1) (I.ok.hd hc) i1 a D.l1i1 its.toArray) (Draws.tuple (prog := X.prog) (w := X.w) (A := X.A.in1) (I.ok.hd hc) i2 b D.l2i2 its2.toArray)
    have l1 : i < its.toArray.size := by have := (List.getElem?_eq_some_iff.mp hu).1; simpa using this
    have l2 : i < its2.toArray.size := by have := (List.getElem?_eq_some_iff.mp hu2).1; simpa using this
    refine W.item i s _ _ (by omega) ⟨hz, hTI, hTO, ⟨h1, pl.isList⟩, ⟨h2, p2⟩⟩ fun T vals h' tk hv hT hTup mid hk => ⟨_, rfl, W.go elts kk tpos i T { s with heap := h', toks := tk } _ _ mid fun h'' st2 hk2 => ?_⟩
    obtain ⟨v1, v2, g1, g2, rfl⟩ := hv
    obtain rfl : u = v1 := by
      have g : its.toArray[i]? = some v1 := g1
      rw [List.getElem?_toArray, hu] at g; exact Option.some.inj g
    obtain rfl : u2 = v2 := by
      have g : its2.toArray[i]? = some v2 := g2
      rw [List.getElem?_toArray, hu2] at g; exact Option.some.inj g
    have nT := W.apart i T h' mid
    have hT3 : h''.IsTuple T #[u, u2] := hTup.at fun o e => hk2 T o nT e
    have fresh : ObjOk X.prog X.w (upd H T (.tup [x, y])) h'' T (.tup [x, y]) := ⟨by show 2 ≤ sizeLine; decide, [u, u2], .cons ru (.cons ru2 .nil), hT3⟩
    have sub : ∀ c, c ∈ [z, TO, i1, i2] → c ∈ [z, TI, TO, i1, i2] := fun c hc => by simp at hc ⊢; rcases hc with q | q | q | q <;> simp [q]
    have I3 : Inv X pins σ (upd H T (.tup [x, y])) { s with heap := h'', toks := tk } :=
      I.turnedNew (ch := [z, TI, TO, i1, i2]) (fun c o nc q => hk2 c o (fun z => nc (sub c z)) (hk c o (fun z => nc (sub c z)) q)) hf hT fresh
    refine ⟨.ref T, _, I3, rfl, ⟨_, x, y, rfl, I.hok.fresh hT, rfl, fun l hl => by rw [I.list_inj hl hqx]; exact hx, fun l hl => by rw [I.tuple_inj hl hqy]; exact hy⟩, ⟨st2.1, st2.2.1, st2.2.2.1, st2.2.2.2.1.1, st2.2.2.2.2.1⟩, fun c hcm => ?_⟩
    have ltc : c < s.heap.objs.size := by
      rcases (show c = z ∨ c = TI ∨ c = TO ∨ c = i1 ∨ c = i2 by simpa using hcm) with q | q | q | q | q <;> rw [q]
      · exact Heap.lt_size hz
      · exact Heap.lt_size hTI
      · obtain ⟨_, _, e⟩ := hTO; exact Heap.lt_size e
      · obtain ⟨_, e1, _⟩ := h1; exact Heap.lt_size e1
      · obtain ⟨_, e2, _⟩ := h2; exact Heap.lt_size e2
    rw [upd_ne (Nat.ne_of_lt (Nat.lt_of_lt_of_le ltc hT))]
    exact (hf c hcm).1
  done := by
    intro X hP hw hK hc i pins s σ H E I hf stt hg
    subst hP hw hK
    obtain ⟨hz, hTI, hTO, h1, h2⟩ := stt
    obtain ⟨xs, ys, hqx, hqy, hend⟩ := hg
    obtain ⟨its, rv, pl, _⟩ := I.list hqx
    obtain ⟨its2, rv2, p2, _⟩ := I.tuple hqy
    have l1 := rv.length
    have l2 := rv2.length
    obtain ⟨n1, P1, S1, D1, s1, c1⟩ := draws_l (prog := X.prog) (w := X.w) (A := X.A.in1) (I.ok.hd hc) i1 a D.l1i1 its.toArray i h1 pl.isList
    obtain ⟨n2, P2, S2, D2, s2, c2⟩ := draws_t (prog := X.prog) (w := X.w) (A := X.A.in1) (I.ok.hd hc) i2 b D.l2i2 its2.toArray i h2 p2
    have W := WalksT.zipD2 (A := X.A) (sep_of D) D1 D2
    have hmin : min n1 n2 = i := by
      simp only [List.size_toArray] at c1 c2
      omega
    have sub : ∀ c, c ∈ [z, TO, i1, i2] → c ∈ [z, TI, TO, i1, i2] := fun c hc => by simp at hc ⊢; rcases hc with q | q | q | q <;> simp [q]
    refine W.done s _ _ (by rw [hmin]; exact ⟨hz, hTI, hTO, s1, s2⟩) fun h' tk hk => ⟨rfl, I.turnedL (t' := tk) (ch := [z, TI, TO, i1, i2]) (fun c o nc q => hk c o (fun z => nc (sub c z)) q) hf⟩
  self := fun A i s Q E stt h => wpAny_pyIter_zip stt.1 h
def iZipM (K : PySem.W.Frag) (ta : TA) : TI := fun σ H R => ta σ H fun vs H1 => ∃ a b xs ys, vs = [.ref a, .ref b] ∧ SqL K H1 a xs ∧ SqT K H1 b ys ∧ R (ItzM K a b) H1
theorem pi_zipM {X : Cx} {e e2 : Expr} {ta : TA} {p pos tpos : Pos} {elts : List Expr} {kk : Nat} (hg : Gl X "zip") (hm : X.mg "zip" = none) (ha : PA X [e, e2] ta)
    (hs : starEach [e, e2] X.env = (false, eval e X.env) :: starEach [e2] X.env := by rfl) (hpl : (backTo pos (starEach [e2] X.env)).any (·.1) = false := by rfl) :
    PI X (.Tuple elts kk tpos) (.Call (.Name "zip" p) [e, e2] [] pos) (iZipM X.K ta) := by
  refine ⟨fun pins s σ H R I want => ?_⟩
  refine Call_ (ld_blt I hg hm PyProof.Rows.boot_zip (PyProof.Rows.callWith_type1 (thn (ha.run pos pins s σ H _ I want) fun us sa ⟨vs, Ha, Ia, ra, qa⟩ => ?_) hs hpl))
  obtain ⟨a, b, xs, ys, rfl, hqx, hqy, q⟩ := qa
  cases ra with
  | cons r rr =>
    cases rr with
    | cons r2 rr =>
      cases rr
      cases r
      cases r2
      obtain ⟨its, rv, pl, _⟩ := Ia.list hqx
      obtain ⟨its2, rv2, p2, _⟩ := Ia.tuple hqy
      obtain ⟨o2, ho2, _⟩ := id p2
      refine zip_begins2 (begins_list a its.toArray) (begins_tuple b its2.toArray) pl.isList (show sa.heap.IsTuple b its2.toArray from p2) fun h' hz hTI hTO g1 g2 hsz hk => wpAny_pyIter_zip hz ?_
      have Ib : Inv X pins σ Ha { sa with heap := h' } := Ia.kept (t' := sa.toks) hk
      refine ⟨sa.heap.objs.size + 4, [sa.heap.objs.size + 4, sa.heap.objs.size + 2, sa.heap.objs.size + 3, sa.heap.objs.size, sa.heap.objs.size + 1], _, _, Ha, rfl, Ib, turn_zipM (PySem.W.ktu_apart sa.heap.objs.size a b pl.lt (Heap.lt_size ho2)), ⟨hz, hTI, ⟨_, _, hTO⟩, ⟨_, g1, rfl, rfl⟩, ⟨_, g2, rfl, rfl⟩⟩, fun c hcm => ?_, q⟩
      have le1 : sa.heap.objs.size ≤ c := by
        rcases (show c = sa.heap.objs.size + 4 ∨ c = sa.heap.objs.size + 2 ∨ c = sa.heap.objs.size + 3 ∨ c = sa.heap.objs.size ∨ c = sa.heap.objs.size + 1 by simpa using hcm) with z | z | z | z | z <;> rw [z]
        · exact Nat.le_add_right _ _
        · exact Nat.le_add_right _ _
        · exact Nat.le_add_right _ _
        · exact Nat.le_refl _
        · exact Nat.le_add_right _ _
      exact Ia.fpOk le1 (Ia.hok.fresh le1)
end Pz

/-! zip of a list and a tuple: the reading -/
namespace Pz
open PySem PySem.Spec PyProof.Rows L2
section
variable {X : Cx} {R : Res} {Γ : List Slot} {α β : Type} {ea : α → PyData} {eb : β → PyData}
theorem itok_zipM {K : PySem.W.Frag} {A : Av} {H1 : Hp} {p q : Addr} {vs ws : List V} {xs : List α} {ys : List β} (na : ¬ A p) (ha : H1 p = some (.lst vs)) (r : RpAll A H1 vs (xs.map ea)) (nb : ¬ A q) (hb : H1 q = some (.tup ws)) (r2 : RpAll A H1 ws (ys.map eb)) :
    ItOk (ItzM K p q) A H1 ((zipL xs ys).map (eP (eC ea (eC eb eU)))) := fun H i k => by
  have hH := k _ _ na ha
  have hH2 := k _ _ nb hb
  have hl := r.length
  have hl2 := r2.length
  rw [List.length_map] at hl hl2
  refine ⟨fun h => ⟨vs, ws, SqL.of hH, SqT.of hH2, ?_⟩, fun d hd => ?_⟩
  · rw [List.length_map] at h
    unfold zipL at h
    rw [List.length_zipWith] at h
    omega
  · rw [List.getElem?_map, zipL_get] at hd
    cases hx : xs[i]? with
    | none => rw [hx] at hd; cases hd
    | some x =>
      cases hy : ys[i]? with
      | none => rw [hx, hy] at hd; cases hd
      | some y =>
        rw [hx, hy] at hd
        obtain ⟨v, hv, rv⟩ := r.get (show (xs.map ea)[i]? = some (ea x) by rw [List.getElem?_map, hx]; rfl)
        obtain ⟨v2, hv2, rv2⟩ := r2.get (show (ys.map eb)[i]? = some (eb y) by rw [List.getElem?_map, hy]; rfl)
        refine ⟨⟨vs, ws, v, v2, SqL.of hH, SqT.of hH2, hv, hv2⟩, fun w H' yl => ?_⟩
        obtain ⟨T, a', b', rfl, nT, rfl, ha', hb'⟩ := yl
        have e1 := ha' vs (SqL.of hH)
        rw [hv] at e1
        obtain rfl : v = a' := Option.some.inj e1
        have e2 := hb' ws (SqT.of hH2)
        rw [hv2] at e2
        obtain rfl : v2 = b' := Option.some.inj e2
        refine ⟨same_new nT, fun A' h1 h2 => ?_⟩
        have hd' : PyData.tuple [ea x, eb y] = d := Option.some.inj hd
        subst hd'
        exact pair_rp (fun z => (h2 T z).1 nT) ((Rp.move (fun b o nb e => ⟨h1 b o nb e, k b o nb e⟩) _ _ rv).keep (Keep.of_same (same_new nT))) ((Rp.move (fun b o nb e => ⟨h1 b o nb e, k b o nb e⟩) _ _ rv2).keep (Keep.of_same (same_new nT))) upd_same
theorem i_zipLT {a b : Expr} {pos : Pos} {elts : List Expr} {k : Nat} {tpos p : Pos} {ma : M (List α)} {mb : M (List β)} (hm : X.mg "zip" = none) (ha : EJ X R Γ a (eL ea) ma) (hb : EJ X R Γ b (eT eb) mb) (hg : Gl X "zip" := by rfl)
    (hs : starEach [a, b] X.env = (false, eval a X.env) :: starEach [b] X.env := by rfl) (hs2 : starEach [b] X.env = (false, eval b X.env) :: starEach [] X.env := by rfl) :
    IJ X R Γ (.Call (.Name "zip" p) [a, b] [] pos) (.Tuple elts k tpos) (eP (eC ea (eC eb eU))) (bindM ma fun x => bindM mb fun y => pureM (zipL x y)) := by
  refine PI.weak (PI.fits (pi_zipM hg hm (pa_cons ha (pa_cons hb pa_nil hs2) hs) hs (by rw [hs2]; rfl))) fun σ H Rr ⟨O, H0, ow, st, z, st', rel, ok, e, q⟩ => ?_
  obtain ⟨x, s1, e1, e2⟩ := bind_some e
  obtain ⟨y, s2, e3, e4⟩ := bind_some e2
  obtain ⟨rfl, rfl⟩ := pure_some e4
  refine ⟨O, H0, ow, st, x, s1, rel, ok, e1, fun v H1 k1 o1 rp => ?_⟩
  have rel1 := rel.grow k1 (okZ o1)
  refine ⟨O, H0, ow, s1, y, s2, rel1, o1, e3, fun v2 H2 k2 o2 rp2 => ?_⟩
  have rpk := rp.keep (rel1.keepA k2)
  cases rpk with
  | @lst p0 vs _ na h0 ra =>
    cases rp2 with
    | @tup p1 ws _ nb h1 rb =>
      exact ⟨p0, p1, vs, ws, rfl, SqL.of h0, SqT.of h1, fun fit => q _ H2 (k1.trans k2) o2 (by have := fit p0 vs (.inl h0); rw [ra.length, List.length_map] at this; simp [zipL]; omega) (itok_zipM na h0 ra nb h1 rb)⟩
end
end Pz

/-! tuple(zip(a, b)): the pairs that a zip hands out one behind the other, kept -/
namespace Pz
open PySem PySem.Spec PyProof.Rows L2
theorem zip_len0 : typeLookup (.type "zip") "__len__" = pure none := by rw [typeLookup_type]; rw [builtinLookup_eq_fast]; kernel_rfl
theorem zip_hint0 : typeLookup (.type "zip") "__length_hint__" = pure none := by rw [typeLookup_type]; rw [builtinLookup_eq_fast]; kernel_rfl
section
variable {prog : Program} {w : World} {A : Around} {E : Value → Shared → Prop} {s : Shared} {z TI TO T j1 j2 : Addr} {f1 f2 : List Addr} {m1 m2 k : Nat} {R1 R2 : Nat → Value → Prop} {S1 S2 : Nat → Heap → Prop} {out : Bool} {oT : Obj}
/-- the next pair, an earlier one still kept -/
theorem zipK_item {Q : Option Value → Shared → Prop} (Z : ZipSep2 z TI TO j1 j2 f1 f2) (D : Draws prog w A.in1 j1 f1 m1 R1 S1) (D' : Draws prog w A.in1 j2 f2 m2 R2 S2) (hz : IsZipHeld s.heap z TI TO T out) (hT : s.heap.get? T = some oT)
    (hI : IsTupOf2 s.heap TI (.ref j1) (.ref j2)) (st : S1 k s.heap) (st' : S2 k s.heap) (lt : k < m1) (lt' : k < m2)
    (hQ : ∀ x y g tk, R1 k x → R2 k y → IsZipHeld g z TI TO T true → S1 (k + 1) g → S2 (k + 1) g → IsTupOf2 g s.heap.objs.size x y → g.objs.size = s.heap.objs.size + 1 →
      (∀ c o, c ≠ z → c ≠ j1 → c ≠ j2 → s.heap.get? c = some o → g.get? c = some o) → Q (some (.ref s.heap.objs.size)) { s with heap := g, toks := tk }) : wpAny (model prog w) A (pyNext (.ref z)) Q E s := by
  obtain ⟨hp, gn, dn, tk0, osn⟩ := s
  have isz : Shared.TypeIs ⟨hp, gn, dn, tk0, osn⟩ (.ref z) "zip" := ⟨_, hz, rfl⟩
  unfold pyNext
  refine wpAny_bind (wpAny_attempt (wpAny_callSpecial?_slot (name := Str.ofString "__next__") isz F.slot_zip_next (wpAny_call_entry F.slot_zip_next isz F.entry_zip_next ?_ (F.args_zip_next_1 _))))
  show wpAny _ _ (field (.ref z) 2 >>= _) _ _ _; refine wpAny_bind (wpAny_field hz rfl (x := .bool false) rfl ?_)
  show wpAny _ _ (field (.ref z) 3 >>= _) _ _ _; refine wpAny_bind (wpAny_field hz rfl (x := .ref TI) rfl ?_)
  refine wpAny_bind (wpAny_seqItems hI rfl ?_); show wpAny _ _ (Builtin.SmallTypes.ownedTupleIsFree (.ref z) >>= _) _ _ _
  refine wpAny_bind (wpAny_tupleHeld_zip hz hT fun g0 hz0 sb0 => ?_)
  replace sb0 : Heap.SameBut z hp g0 := sb0
  simp only [Bool.false_eq_true, if_false]; refine wpAny_bind ?_; rw [← Array.forIn_toList]; simp only [List.forIn_cons, List.forIn_nil]
  refine wpAny_bind (wpAny_bind (wpAny_holding ?_)); show wpAny _ _ (Builtin.SmallTypes.nextOf (.ref j1) >>= _) _ _ ⟨g0, gn, dn, tk0, osn⟩
  refine wpAny_bind (D.item k _ _ _ lt (D.over st sb0 Z.zf1) fun x ga ta hx sa sba => wpAny_pure ?_); refine wpAny_pure ?_
  replace sba : Heap.SameBut j1 g0 ga := sba
  refine wpAny_bind (wpAny_bind (wpAny_holding ?_)); show wpAny _ _ (Builtin.SmallTypes.nextOf (.ref j2) >>= _) _ _ ⟨ga, gn, dn, ta, osn⟩
  refine wpAny_bind (D'.item k _ _ _ lt' (D'.over (D'.over st' sb0 Z.zf2) sba Z.sep1_2) fun y gb tb hy sb' sbb => wpAny_pure ?_); refine wpAny_pure (wpAny_pure ?_)
  replace sbb : Heap.SameBut j2 ga gb := sbb
  show wpAny _ _ (newTuple [x, y] >>= _) _ _ _; refine wpAny_bind (wpAny_newTuple ?_)
  have same_size : gb.objs.size = hp.objs.size := by rw [sbb.1, sba.1, sb0.1]
  have zb : IsZipHeld gb z TI TO T true := sbb.extBut _ _ Z.zi2 (sba.extBut _ _ Z.zi1 hz0)
  have kb : ∀ c o, c ≠ z → c ≠ j1 → c ≠ j2 → hp.get? c = some o → gb.get? c = some o := fun c o c1 c2 c3 e => sbb.extBut _ _ c3 (sba.extBut _ _ c2 (sb0.extBut _ _ c1 e))
  refine wpAny_pure ⟨_, rfl, ?_⟩; refine wpAny_pure ?_
  have pr : IsTupOf2 (gb.push { cls := .type "tuple", data := .seq #[x, y] }) gb.objs.size x y := Heap.get?_push_size _ rfl
  have sz : (gb.push { cls := .type "tuple", data := .seq #[x, y] }).objs.size = gb.objs.size + 1 := Heap.size_push ..
  have up : ∀ c o, gb.get? c = some o → (gb.push { cls := .type "tuple", data := .seq #[x, y] }).get? c = some o := fun c o e => Heap.get?_push_of_some _ e
  have fin := hQ x y (gb.push { cls := .type "tuple", data := .seq #[x, y] }) tb hx hy (up _ _ zb) (D.frame _ _ _ (D.over sa sbb Z.sep2_1) fun b _ o e => up b o e) (D'.frame _ _ _ sb' fun b _ o e => up b o e)
    (by rw [← same_size]; exact pr) (by rw [sz, same_size]) fun c o c1 c2 c3 e => up c o (kb c o c1 c2 c3 e)
  rw [← same_size] at fin; exact fin
/-- no more pairs -/
theorem zipK_end {Q : Option Value → Shared → Prop} (Z : ZipSep2 z TI TO j1 j2 f1 f2) (D : Draws prog w A.in1 j1 f1 m1 R1 S1) (D' : Draws prog w A.in1 j2 f2 m2 R2 S2) (hz : IsZipHeld s.heap z TI TO T out) (hT : s.heap.get? T = some oT)
    (hI : IsTupOf2 s.heap TI (.ref j1) (.ref j2)) (st : S1 k s.heap) (st' : S2 k s.heap) (le : k ≤ m1) (le' : k ≤ m2) (hend : k = m1 ∨ k = m2)
    (hQ : ∀ g tk, (∀ c o, c ≠ z → c ≠ j1 → c ≠ j2 → s.heap.get? c = some o → g.get? c = some o) → Q none { s with heap := g, toks := tk }) : wpAny (model prog w) A (pyNext (.ref z)) Q E s := by
  obtain ⟨hp, gn, dn, tk0, osn⟩ := s
  have isz : Shared.TypeIs ⟨hp, gn, dn, tk0, osn⟩ (.ref z) "zip" := ⟨_, hz, rfl⟩
  have stop : ∀ (g : Heap) (tk : Nat) (e : Addr), (∀ c o, c ≠ z → c ≠ j1 → c ≠ j2 → hp.get? c = some o → g.get? c = some o) → (∃ o, g.get? e = some o ∧ o.cls = .type "StopIteration") →
      wpAny (model prog w) A (isInstance (.ref e) (.type "StopIteration") >>= fun b => if b = true then pure none else throw (.ref e)) Q E ⟨g, gn, dn, tk, osn⟩ := fun g tk e hk ⟨o, ho, hc⟩ => by
    refine wpAny_bind (wpAny_isInstance (T := "StopIteration") (b := true) ⟨o, ho, hc⟩ isSubtype_stop ?_)
    exact wpAny_pure (hQ _ _ hk)
  unfold pyNext
  refine wpAny_bind (wpAny_attempt (wpAny_callSpecial?_slot (name := Str.ofString "__next__") isz F.slot_zip_next (wpAny_call_entry F.slot_zip_next isz F.entry_zip_next ?_ (F.args_zip_next_1 _))))
  show wpAny _ _ (field (.ref z) 2 >>= _) _ _ _; refine wpAny_bind (wpAny_field hz rfl (x := .bool false) rfl ?_)
  show wpAny _ _ (field (.ref z) 3 >>= _) _ _ _; refine wpAny_bind (wpAny_field hz rfl (x := .ref TI) rfl ?_)
  refine wpAny_bind (wpAny_seqItems hI rfl ?_); show wpAny _ _ (Builtin.SmallTypes.ownedTupleIsFree (.ref z) >>= _) _ _ _
  refine wpAny_bind (wpAny_tupleHeld_zip hz hT fun g0 hz0 sb0 => ?_)
  replace sb0 : Heap.SameBut z hp g0 := sb0
  simp only [Bool.false_eq_true, if_false]; refine wpAny_bind ?_; rw [← Array.forIn_toList]; simp only [List.forIn_cons, List.forIn_nil]
  refine wpAny_bind (wpAny_bind (wpAny_holding ?_)); show wpAny _ _ (Builtin.SmallTypes.nextOf (.ref j1) >>= _) _ _ ⟨g0, gn, dn, tk0, osn⟩
  by_cases lt : k < m1
  · refine wpAny_bind (D.item k _ _ _ lt (D.over st sb0 Z.zf1) fun x ga ta hx sa sba => wpAny_pure ?_); refine wpAny_pure ?_
    replace sba : Heap.SameBut j1 g0 ga := sba
    have k2 : k = m2 := by omega
    refine wpAny_bind (wpAny_bind (wpAny_holding ?_)); show wpAny _ _ (Builtin.SmallTypes.nextOf (.ref j2) >>= _) _ _ ⟨ga, gn, dn, ta, osn⟩
    refine wpAny_bind (D'.done ⟨ga, gn, dn, ta, osn⟩ _ _ (by rw [← k2]; exact D'.over (D'.over st' sb0 Z.zf2) sba Z.sep1_2) fun q e hq he => ?_)
    replace hq : Heap.ExtBut j2 ga q := hq
    exact stop q ta e (fun c o c1 c2 c3 x => hq _ _ c3 (sba.extBut _ _ c2 (sb0.extBut _ _ c1 x))) he
  · have k1 : k = m1 := by omega
    refine wpAny_bind (D.done ⟨g0, gn, dn, tk0, osn⟩ _ _ (by rw [← k1]; exact D.over st sb0 Z.zf1) fun q e hq he => ?_)
    replace hq : Heap.ExtBut j1 g0 q := hq
    exact stop q tk0 e (fun c o c1 c2 c3 x => hq _ _ c2 (sb0.extBut _ _ c1 x)) he
end
end Pz

/-! tuple(zip(a, b)): all pairs gathered, one tuple laid around them -/
namespace Pz
open PySem PySem.Spec PyProof.Rows L2
/-- where a zip stands while its pairs are gathered in the list at L -/
def ZSt (z TI TO j1 j2 L : Addr) (S1 S2 : Nat → Heap → Prop) (k : Nat) (g : Heap) : Prop :=
  IsTupOf2 g TI (.ref j1) (.ref j2) ∧ S1 k g ∧ S2 k g ∧ (∃ o, g.get? TO = some o) ∧ ((IsZip g z TI TO .none ∧ ∃ x y, IsTupOf2 g TO x y) ∨ ∃ T out oT, IsZipHeld g z TI TO T out ∧ g.get? T = some oT ∧ T ≠ z ∧ T ≠ j1 ∧ T ≠ j2 ∧ T ≠ L)
/-- the pairs so far: new objects, one behind the other -/
structure Prs (z TO j1 j2 L base : Addr) (R1 R2 : Nat → Value → Prop) (g : Heap) (acc : Array Value) (k : Nat) (Ts : List Addr) : Prop where
  acc : acc.toList = Ts.map Value.ref
  len : Ts.length = k
  up : Ts.Pairwise (· < ·)
  bnd : ∀ T ∈ Ts, base ≤ T ∧ T < g.objs.size ∧ T ≠ z ∧ T ≠ TO ∧ T ≠ j1 ∧ T ≠ j2 ∧ T ≠ L
  con : ∀ (j : Nat) (T : Addr), Ts[j]? = some T → ∃ x y, IsTupOf2 g T x y ∧ R1 j x ∧ R2 j y
section
variable {prog : Program} {w : World} {A : Around} {E : Value → Shared → Prop} {z TI TO j1 j2 L base : Addr} {f1 f2 : List Addr} {m1 m2 : Nat} {R1 R2 : Nat → Value → Prop} {S1 S2 : Nat → Heap → Prop}
theorem Prs.nil {g : Heap} : Prs z TO j1 j2 L base R1 R2 g #[] 0 [] := ⟨rfl, rfl, .nil, by simp, by simp⟩
theorem Prs.push {g g2 : Heap} {acc : Array Value} {k : Nat} {Ts : List Addr} (p : Prs z TO j1 j2 L base R1 R2 g acc k Ts) {x y : Value} (hb : base ≤ g.objs.size) (hs : g2.objs.size = g.objs.size + 1) (hx : R1 k x) (hy : R2 k y)
    (hT : IsTupOf2 g2 g.objs.size x y) (hk : ∀ c o, c ≠ z → c ≠ TO → c ≠ j1 → c ≠ j2 → c ≠ L → g.get? c = some o → g2.get? c = some o)
    (nz : g.objs.size ≠ z) (nT : g.objs.size ≠ TO) (n1 : g.objs.size ≠ j1) (n2 : g.objs.size ≠ j2) (nL : g.objs.size ≠ L) : Prs z TO j1 j2 L base R1 R2 g2 (acc.push (.ref g.objs.size)) (k + 1) (Ts ++ [g.objs.size]) where
  acc := by rw [Array.toList_push, p.acc, List.map_append]; rfl
  len := by rw [List.length_append, p.len]; rfl
  up := List.pairwise_append.mpr ⟨p.up, by simp, fun a ha b hb => by rw [List.mem_singleton] at hb; subst hb; exact (p.bnd a ha).2.1⟩
  bnd := fun T hT => by
    rcases List.mem_append.mp hT with h | h
    · have := p.bnd T h
      exact ⟨this.1, Nat.lt_of_lt_of_le this.2.1 (by rw [hs]; exact Nat.le_succ _), this.2.2⟩
    · rw [List.mem_singleton] at h; subst h
      exact ⟨hb, by rw [hs]; exact Nat.lt_succ_self _, nz, nT, n1, n2, nL⟩
  con := fun j T e => by
    by_cases hj : j < Ts.length
    · rw [List.getElem?_append_left hj] at e
      obtain ⟨x, y, a, b, c⟩ := p.con j T e
      have := p.bnd T (List.mem_of_getElem? e)
      exact ⟨x, y, hk T _ this.2.2.1 this.2.2.2.1 this.2.2.2.2.1 this.2.2.2.2.2.1 this.2.2.2.2.2.2 a, b, c⟩
    · have : j = k := by
        have h := (List.getElem?_eq_some_iff.mp e).1
        rw [List.length_append, List.length_singleton] at h
        have := p.len
        omega
      subst this
      rw [List.getElem?_append_right (by rw [p.len]; exact Nat.le_refl _), p.len, Nat.sub_self] at e
      cases e
      exact ⟨x, y, hT, hx, hy⟩
theorem Prs.over {g g2 : Heap} {acc : Array Value} {k : Nat} {Ts : List Addr} (p : Prs z TO j1 j2 L base R1 R2 g acc k Ts) (hs : g.objs.size ≤ g2.objs.size) (hk : ∀ c o, c ≠ z → c ≠ TO → c ≠ j1 → c ≠ j2 → c ≠ L → g.get? c = some o → g2.get? c = some o) : Prs z TO j1 j2 L base R1 R2 g2 acc k Ts where
  acc := p.acc
  len := p.len
  up := p.up
  bnd := fun T hT => let q := p.bnd T hT; ⟨q.1, Nat.lt_of_lt_of_le q.2.1 hs, q.2.2⟩
  con := fun j T e => let ⟨x, y, a, b, c⟩ := p.con j T e; let q := (p.bnd T (List.mem_of_getElem? e)).2.2; ⟨x, y, hk T _ q.1 q.2.1 q.2.2.1 q.2.2.2.1 q.2.2.2.2 a, b, c⟩
theorem zip_gather {R : Result → Shared → Prop} (Z : ZipSep2 z TI TO j1 j2 f1 f2) (D : Draws prog w A.in1.in1 j1 f1 m1 R1 S1) (D' : Draws prog w A.in1.in1 j2 f2 m2 R2 S2) (hm : min m1 m2 ≤ sizeLine) (res : Value)
    (Lz : L ≠ z) (LTI : L ≠ TI) (LTO : L ≠ TO) (L1 : L ∉ f1) (L2 : L ∉ f2) :
    ∀ (r k : Nat) (s : Shared) (acc : Array Value) (c : Nat) (Ts : List Addr), min m1 m2 - k = r → k ≤ min m1 m2 → base ≤ s.heap.objs.size → ZSt z TI TO j1 j2 L S1 S2 k s.heap → s.heap.get? L = some { cls := .type "list", dict := none, data := .seq acc c, slots := #[] } → Prs z TO j1 j2 L base R1 R2 s.heap acc k Ts →
    (∀ g tk acc' c' Ts', (∀ b o, b ≠ z → b ≠ TO → b ≠ j1 → b ≠ j2 → b ≠ L → s.heap.get? b = some o → g.get? b = some o) → g.get? L = some { cls := .type "list", dict := none, data := .seq acc' c', slots := #[] } → Prs z TO j1 j2 L base R1 R2 g acc' (min m1 m2) Ts' → R (.ok (.ret res)) { s with heap := g, toks := tk }) →
    codeAny (model prog w) A (.builtin "list.extend.loop" ⟨[.ref L, .ref z, res], []⟩) R s := by
  have Lj1 : L ≠ j1 := fun e => L1 (e ▸ Z.mem1)
  have Lj2 : L ≠ j2 := fun e => L2 (e ▸ Z.mem2)
  intro r
  induction r with
  | zero =>
    intro k s acc c Ts hr hk hb hz hL hp hR
    have hkm : k = min m1 m2 := by omega
    subst hkm
    refine codeAny_builtin F.entry_extend_loop ?_; rw [Around.under_plainId F.plain_extend_loop _]; show wpAny _ A.in1 (pyNext (.ref z) >>= _) _ _ s
    obtain ⟨hTI, st, st', ⟨oTO, eTO⟩, h | ⟨T, out, oT, h, hT, t1, t2, t3, t4⟩⟩ := hz
    · obtain ⟨hz, x, y, hTO⟩ := h
      refine wpAny_bind (wpAny_pyNext_zipD2_end Z D D' hz hTI hTO st st' (Nat.min_le_left ..) (Nat.min_le_right ..) (by omega) fun g tk hg => wpAny_pure ?_)
      have ls : ∀ b o, b ≠ z → b ≠ TO → b ≠ j1 → b ≠ j2 → b ≠ L → s.heap.get? b = some o → g.get? b = some o := fun b o c1 c2 c3 c4 _ e => hg b o c1 c2 c3 c4 e
      exact hR g tk acc c Ts ls (hg L _ Lz LTO Lj1 Lj2 hL) ⟨hp.acc, hp.len, hp.up, fun T hT => ⟨(hp.bnd T hT).1, by
        obtain ⟨j, hj⟩ := List.getElem?_of_mem hT
        obtain ⟨x, y, a, _⟩ := hp.con j T hj
        have q := (hp.bnd T hT).2.2
        exact Heap.lt_size (ls T _ q.1 q.2.1 q.2.2.1 q.2.2.2.1 q.2.2.2.2 a), (hp.bnd T hT).2.2⟩, fun j T e => let ⟨x, y, a, b⟩ := hp.con j T e; let q := (hp.bnd T (List.mem_of_getElem? e)).2.2; ⟨x, y, ls T _ q.1 q.2.1 q.2.2.1 q.2.2.2.1 q.2.2.2.2 a, b⟩⟩
    · refine wpAny_bind (zipK_end Z D D' h hT hTI st st' (Nat.min_le_left ..) (Nat.min_le_right ..) (by omega) fun g tk hg => wpAny_pure ?_)
      have ls : ∀ b o, b ≠ z → b ≠ TO → b ≠ j1 → b ≠ j2 → b ≠ L → s.heap.get? b = some o → g.get? b = some o := fun b o c1 _ c3 c4 _ e => hg b o c1 c3 c4 e
      exact hR g tk acc c Ts ls (hg L _ Lz Lj1 Lj2 hL) ⟨hp.acc, hp.len, hp.up, fun T hT => ⟨(hp.bnd T hT).1, by
        obtain ⟨j, hj⟩ := List.getElem?_of_mem hT
        obtain ⟨x, y, a, _⟩ := hp.con j T hj
        have q := (hp.bnd T hT).2.2
        exact Heap.lt_size (ls T _ q.1 q.2.1 q.2.2.1 q.2.2.2.1 q.2.2.2.2 a), (hp.bnd T hT).2.2⟩, fun j T e => let ⟨x, y, a, b⟩ := hp.con j T e; let q := (hp.bnd T (List.mem_of_getElem? e)).2.2; ⟨x, y, ls T _ q.1 q.2.1 q.2.2.1 q.2.2.2.1 q.2.2.2.2 a, b⟩⟩
  | succ r ih =>
    intro k s acc c Ts hr hk hb hz hL hp hR
    have hlt : k < min m1 m2 := by omega
    have lt1 : k < m1 := by omega
    have lt2 : k < m2 := by omega
    have accl : acc.size = k := by rw [← Array.length_toList, hp.acc, List.length_map, hp.len]
    have LS : s.heap.objs.size ≠ L := Nat.ne_of_gt (Heap.lt_size hL)
    -- what follows one pair
    have next : ∀ (x y : Value) (g : Heap) (tk : Nat), R1 k x → R2 k y → ((IsZip g z TI TO (rawInt s.heap.objs.size)) ∨ ∃ T oT, IsZipHeld g z TI TO T true ∧ g.get? T = some oT ∧ T ≠ z ∧ T ≠ j1 ∧ T ≠ j2 ∧ T ≠ L) → (∃ o, g.get? TO = some o) → IsTupOf2 g TI (.ref j1) (.ref j2) → S1 (k + 1) g → S2 (k + 1) g → IsTupOf2 g s.heap.objs.size x y → g.objs.size = s.heap.objs.size + 1 →
        s.heap.objs.size ≠ z → s.heap.objs.size ≠ TO → s.heap.objs.size ≠ j1 → s.heap.objs.size ≠ j2 → (∀ c o, c ≠ z → c ≠ TO → c ≠ j1 → c ≠ j2 → s.heap.get? c = some o → g.get? c = some o) →
        wpAny (model prog w) A.in1 (updateSeq L (·.push (.ref s.heap.objs.size)) >>= fun _ => again (.builtin "list.extend.loop" ⟨[.ref L, .ref z, res], []⟩)) (fun fin s2 => match fin with | .done f => R (.ok f) s2 | .again c2 => c2.quiet = true ∧ codeAny (model prog w) A c2 R s2) (fun e s2 => R (.error e) s2) { s with heap := g, toks := tk } := by
      intro x y g tk hx hy hz2 hTO2 hTI2 s1 s2 hT2 hsz nz nT n1 n2 hg
      have gL : g.get? L = some { cls := .type "list", dict := none, data := .seq acc c, slots := #[] } := hg L _ Lz LTO Lj1 Lj2 hL
      have oth : ∀ b o, b ≠ L → g.get? b = some o → (g.update L (Obj.mapSeq (·.push (.ref s.heap.objs.size)))).get? b = some o := fun b o hb e => (Heap.get?_update_other _ _ (Ne.symm hb)).trans e
      have usz : (g.update L (Obj.mapSeq (·.push (.ref s.heap.objs.size)))).objs.size = g.objs.size := (Heap.SameBut.update (h := g) (a := L) (f := Obj.mapSeq (·.push (.ref s.heap.objs.size)))).1
      refine wpAny_bind ?_
      refine wpAny_updateSeq (s := { s with heap := g, toks := tk }) gL rfl (wpAny_pure ⟨plainId_quiet F.plain_extend_loop _, ih (k + 1) _ (acc.push (.ref s.heap.objs.size)) _ (Ts ++ [s.heap.objs.size]) (by omega) hlt (by show base ≤ (g.update L _).objs.size; rw [usz, hsz]; exact Nat.le_succ_of_le hb) ?_ (Heap.get?_update_self _ gL rfl) ?_ fun g2 tk2 acc2 c2 Ts2 k2 l2 p2 => ?_⟩)
        (by rw [accl]; omega) (by show (acc.push _).size ≤ sizeLine + 1; rw [Array.size_push, accl]; omega)
      · obtain ⟨oo, eoo⟩ := hTO2
        refine ⟨oth _ _ (Ne.symm LTI) hTI2, D.frame _ _ _ s1 fun b hb o e => oth b o (fun q => L1 (q ▸ hb)) e, D'.frame _ _ _ s2 fun b hb o e => oth b o (fun q => L2 (q ▸ hb)) e, ⟨oo, oth _ _ (Ne.symm LTO) eoo⟩, ?_⟩
        rcases hz2 with q | ⟨T, oT, q1, q2, q3, q4, q5, q6⟩
        · exact .inr ⟨s.heap.objs.size, false, _, oth _ _ (Ne.symm Lz) q, oth _ _ LS hT2, nz, n1, n2, LS⟩
        · exact .inr ⟨T, true, oT, oth _ _ (Ne.symm Lz) q1, oth _ _ q6 q2, q3, q4, q5, q6⟩
      · exact hp.push hb (by rw [usz, hsz]) hx hy (oth _ _ LS hT2) (fun b o c1 c2 c3 c4 c5 e => oth b o c5 (hg b o c1 c2 c3 c4 e)) nz nT n1 n2 LS
      · exact hR g2 tk2 acc2 c2 Ts2 (fun b o c1 c2 c3 c4 c5 e => k2 b o c1 c2 c3 c4 c5 (oth b o c5 (hg b o c1 c2 c3 c4 e))) l2 p2
    refine codeAny_builtin F.entry_extend_loop ?_; rw [Around.under_plainId F.plain_extend_loop _]; show wpAny _ A.in1 (pyNext (.ref z) >>= _) _ _ s
    obtain ⟨hTI, st, st', ⟨oTO, eTO⟩, h | ⟨T, out, oT, h, hT, t1, t2, t3, t4⟩⟩ := hz
    · obtain ⟨hz, x, y, hTO⟩ := h
      have ne : ∀ {c o}, s.heap.get? c = some o → s.heap.objs.size ≠ c := fun e => Nat.ne_of_gt (Heap.lt_size e)
      obtain ⟨_, e1⟩ := D.live _ _ st
      obtain ⟨_, e2⟩ := D'.live _ _ st'
      refine wpAny_bind (wpAny_pyNext_zipD2_item Z D D' hz hTI hTO st st' lt1 lt2 fun x y g tk hx hy z2 to2 s1 s2 hT2 hsz hg => ?_)
      exact next x y g tk hx hy (.inl z2) ⟨_, to2⟩ (hg _ _ Z.TIz Z.TITO Z.TIi1 Z.TIi2 hTI) s1 s2 hT2 hsz (ne hz) (ne hTO) (ne e1) (ne e2) hg
    · have ne : ∀ {c o}, s.heap.get? c = some o → s.heap.objs.size ≠ c := fun e => Nat.ne_of_gt (Heap.lt_size e)
      obtain ⟨_, e1⟩ := D.live _ _ st
      obtain ⟨_, e2⟩ := D'.live _ _ st'
      refine wpAny_bind (zipK_item Z D D' h hT hTI st st' lt1 lt2 fun x y g tk hx hy z2 s1 s2 hT2 hsz hg => ?_)
      exact next x y g tk hx hy (.inr ⟨T, oT, z2, hg _ _ t1 t2 t3 hT, t1, t2, t3, t4⟩) ⟨_, hg _ _ Z.TOz Z.Ti1 Z.Ti2 eTO⟩ (hg _ _ Z.TIz Z.TIi1 Z.TIi2 hTI) s1 s2 hT2 hsz (ne h) (ne eTO) (ne e1) (ne e2) fun c o c1 _ c3 c4 e => hg c o c1 c3 c4 e
end
end Pz

/-! tuple(zip(a, b)): the call -/
namespace Pz
open PySem PySem.Spec PyProof.Rows L2
section
variable {prog : Program} {w : World} {A : Around} {E : Value → Shared → Prop} {s : Shared} {z TI TO j1 j2 : Addr} {f1 f2 : List Addr} {m1 m2 : Nat} {R1 R2 : Nat → Value → Prop} {S1 S2 : Nat → Heap → Prop}
/-- a zip that has just been made -/
structure ZNew (z TI TO j1 j2 : Addr) (f1 f2 : List Addr) (S1 S2 : Nat → Heap → Prop) (g : Heap) : Prop where
  zip : IsZip g z TI TO .none
  own : ∃ x y, IsTupOf2 g TO x y
  its : IsTupOf2 g TI (.ref j1) (.ref j2)
  st1 : S1 0 g
  st2 : S2 0 g
  in1 : ∀ b ∈ f1, b < g.objs.size
  in2 : ∀ b ∈ f2, b < g.objs.size
theorem gather_zip {Q : List Value → Shared → Prop} (hh : A.handled = none) (Z : ZipSep2 z TI TO j1 j2 f1 f2) (D : ∀ B : Around, B.handled = none → Draws prog w B j1 f1 m1 R1 S1) (D' : ∀ B : Around, B.handled = none → Draws prog w B j2 f2 m2 R2 S2) (hm : min m1 m2 ≤ sizeLine)
    (N : ZNew z TI TO j1 j2 f1 f2 S1 S2 s.heap)
    (hQ : ∀ (g : Heap) (tk : Nat) (acc : Array Value) (Ts : List Addr), (∀ b o, b ≠ z → b ≠ TO → b ≠ j1 → b ≠ j2 → s.heap.get? b = some o → g.get? b = some o) → Prs z TO j1 j2 s.heap.objs.size (s.heap.objs.size + 1) R1 R2 g acc (min m1 m2) Ts → Q acc.toList { s with heap := g, toks := tk }) :
    wpAny (model prog w) A (collect (.ref z)) Q E s := by
  have Lz : s.heap.objs.size ≠ z := Nat.ne_of_gt (Heap.lt_size N.zip)
  have LTI : s.heap.objs.size ≠ TI := Nat.ne_of_gt (Heap.lt_size N.its)
  have LTO : s.heap.objs.size ≠ TO := let ⟨_, _, e⟩ := N.own; Nat.ne_of_gt (Heap.lt_size e)
  have L1 : s.heap.objs.size ∉ f1 := fun h => Nat.lt_irrefl _ (N.in1 _ h)
  have L2 : s.heap.objs.size ∉ f2 := fun h => Nat.lt_irrefl _ (N.in2 _ h)
  unfold collect; refine wpAny_bind (wpAny_runValue (codeAny_builtin F.entry_proto_collect ?_)); rw [Around.under_plainId F.plain_proto_collect _]
  show wpAny _ A.in1 (newList [] >>= fun q => again (.builtin "list.__iadd__" ⟨[q, .ref z], []⟩)) _ _ s
  refine wpAny_bind (wpAny_newObj_type ?_); refine wpAny_pure ⟨plainId_quiet F.plain_list_iadd _, codeAny_builtin F.entry_list_iadd ?_⟩; rw [Around.under_plainId F.plain_list_iadd _]
  generalize hg0 : s.heap.push { cls := .type "list", data := .seq ([] : List Value).toArray } = g0
  have up0 : ∀ b o, s.heap.get? b = some o → g0.get? b = some o := fun b o e => by rw [← hg0]; exact Heap.get?_push_of_some _ e
  have s0 : g0.objs.size = s.heap.objs.size + 1 := by rw [← hg0]; exact Heap.size_push ..
  have l0 : g0.get? s.heap.objs.size = some { cls := .type "list", data := .seq ([] : List Value).toArray } := by rw [← hg0]; exact Heap.get?_push_size _ rfl
  have isz : ({ s with heap := g0 } : Shared).TypeIs (.ref z) "zip" := ⟨_, up0 _ _ N.zip, rfl⟩
  show wpAny _ A.in1 (Builtin.List.listExtendWith (.ref s.heap.objs.size) (.ref z) (.ref s.heap.objs.size)) _ _ { s with heap := g0 }
  unfold Builtin.List.listExtendWith; refine wpAny_bind (wpAny_typeOf isz ?_)
  have n1 : Builtin.List.listSameRef (.ref s.heap.objs.size) (.ref z) = false := by simp [Builtin.List.listSameRef, Lz]
  simp only [n1, show (Value.type "zip" == Value.type "list") = false by decide, show (Value.type "zip" == Value.type "tuple") = false by decide, Bool.or_false, Bool.false_eq_true, if_false]
  refine wpAny_bind (wpAny_pyIter_zip (s := { s with heap := g0 }) (up0 _ _ N.zip) ?_); refine wpAny_bind (wpAny_holding ?_)
  unfold Builtin.List.listLengthHint; refine wpAny_bind (wpAny_specialOf isz zip_len0 ?_)
  show wpAny _ A.in1 (specialOf (Value.ref z) (Str.ofString "__length_hint__") >>= _) _ _ _; refine wpAny_bind (wpAny_specialOf isz zip_hint0 ?_); refine wpAny_pure ?_
  show wpAny _ A.in1 (rule "list.extend.makes-room" >>= fun _ => Builtin.List.listTouch (.ref s.heap.objs.size) >>= fun _ => again (.builtin "list.extend.loop" ⟨[.ref s.heap.objs.size, .ref z, .ref s.heap.objs.size], []⟩)) _ _ _
  refine wpAny_bind (wpAny_rule ?_); refine wpAny_bind ?_
  show wpAny _ A.in1 (updateSeq s.heap.objs.size (·.push .none) >>= fun _ => updateSeq s.heap.objs.size (·.pop)) _ _ _
  refine wpAny_bind (wpAny_updateSeq (s := { s with heap := g0 }) l0 rfl ?_)
  have l1 := Heap.get?_update_self (Obj.mapSeq (·.push Value.none)) l0 rfl
  refine wpAny_updateSeq (s := { s with heap := g0.update s.heap.objs.size (Obj.mapSeq (·.push Value.none)) }) l1 rfl ?_
  have l2 := Heap.get?_update_self (Obj.mapSeq (·.pop)) l1 rfl
  have sb1 := Heap.SameBut.update (h := g0) (a := s.heap.objs.size) (f := Obj.mapSeq (·.push Value.none))
  have sb2 := Heap.SameBut.update (h := g0.update s.heap.objs.size (Obj.mapSeq (·.push Value.none))) (a := s.heap.objs.size) (f := Obj.mapSeq (·.pop))
  generalize (g0.update s.heap.objs.size (Obj.mapSeq (·.push Value.none))).update s.heap.objs.size (Obj.mapSeq (·.pop)) = g2 at l2 sb2 ⊢
  have up2 : ∀ b o, s.heap.get? b = some o → g2.get? b = some o := fun b o e => sb2.extBut _ _ (Nat.ne_of_lt (Heap.lt_size e)) (sb1.extBut _ _ (Nat.ne_of_lt (Heap.lt_size e)) (up0 b o e))
  have s2 : g2.objs.size = s.heap.objs.size + 1 := by rw [sb2.1, sb1.1, s0]
  obtain ⟨xo, yo, eo⟩ := N.own
  refine wpAny_pure ⟨plainId_quiet F.plain_extend_loop _, zip_gather (base := s.heap.objs.size + 1) Z (D A.in1.in1 hh) (D' A.in1.in1 hh) hm _ Lz LTI LTO L1 L2 (min m1 m2) 0 { s with heap := g2 } #[] _ [] (by omega) (Nat.zero_le _) (by show _ ≤ g2.objs.size; rw [s2]; exact Nat.le_refl _)
    ⟨up2 _ _ N.its, (D A.in1 hh).frame _ _ _ N.st1 fun b _ o e => up2 b o e, (D' A.in1 hh).frame _ _ _ N.st2 fun b _ o e => up2 b o e, ⟨_, up2 _ _ eo⟩, .inl ⟨up2 _ _ N.zip, xo, yo, up2 _ _ eo⟩⟩ l2 Prs.nil fun g tk acc c Ts kg lg pg => ?_⟩
  show wpAny _ A (load s.heap.objs.size >>= _) _ _ _
  refine wpAny_bind (wpAny_load (s := { s with heap := g, toks := tk }) lg ?_); refine wpAny_pure ?_
  exact hQ g tk acc Ts (fun b o c1 c2 c3 c4 e => kg b o c1 c2 c3 c4 (Nat.ne_of_lt (Heap.lt_size e)) (up2 b o e)) pg
theorem new_tuple_zip {Q : Value → Shared → Prop} (hh : A.handled = none) (Z : ZipSep2 z TI TO j1 j2 f1 f2) (D : ∀ B : Around, B.handled = none → Draws prog w B j1 f1 m1 R1 S1) (D' : ∀ B : Around, B.handled = none → Draws prog w B j2 f2 m2 R2 S2) (hm : min m1 m2 ≤ sizeLine)
    (N : ZNew z TI TO j1 j2 f1 f2 S1 S2 s.heap)
    (hQ : ∀ (g : Heap) (tk : Nat) (acc : Array Value) (Ts : List Addr), (∀ b o, b ≠ z → b ≠ TO → b ≠ j1 → b ≠ j2 → s.heap.get? b = some o → g.get? b = some o) → Prs z TO j1 j2 s.heap.objs.size (s.heap.objs.size + 1) R1 R2 g acc (min m1 m2) Ts →
      Q (.ref g.objs.size) { s with heap := g.push { cls := .type "tuple", data := .seq acc }, toks := tk }) :
    codeAny (model prog w) A (.call (.builtin "tuple.__new__") ⟨[.type "tuple", .ref z], []⟩) (wants Q E) s := by
  refine codeAny_of_tree ?_; show wpAny _ A.in1 (do checkBuiltinCall "tuple.__new__" ⟨[.type "tuple", .ref z], []⟩; again (.builtin "tuple.__new__" ⟨[.type "tuple", .ref z], []⟩)) _ _ s
  refine wpAny_bind (wpAny_of_eq (F.newCall_tuple_1 _) (wpAny_pure ⟨plainId_quiet F.plain_tuple_new _, codeAny_builtin F.entry_tuple_new ?_⟩)); rw [Around.under_plainId F.plain_tuple_new _]
  have w1 := sub_tuple_self
  have w2 := init_tuple_lookup
  have w3 := madeHere_tuple
  have isz : s.TypeIs (.ref z) "zip" := ⟨_, N.zip, rfl⟩
  have hA : A.in1.handled = none := hh
  wp_walk using wpAny_typeOf isz, gather_zip (A := A.in1) hA Z D D' hm N
  intro g tk acc Ts kg pg
  have accs : acc.size ≤ sizeLine := by rw [← Array.length_toList, pg.acc, List.length_map, pg.len]; exact hm
  show wpAny _ _ (Builtin.Tuple.tupleExact acc.toList.toArray >>= fun v => ret v) _ _ _
  unfold Builtin.Tuple.tupleExact; refine wpAny_bind (wpAny_newObj_type ?_ (by show acc.toList.toArray.size ≤ sizeLine; simpa using accs)); refine wpAny_pure ?_
  have e : acc.toList.toArray = acc := by simp
  rw [e]; exact hQ g tk acc Ts kg pg
theorem call_tuple_zip {Q : Value → Shared → Prop} (hh : A.handled = none) (Z : ZipSep2 z TI TO j1 j2 f1 f2) (D : ∀ B : Around, B.handled = none → Draws prog w B j1 f1 m1 R1 S1) (D' : ∀ B : Around, B.handled = none → Draws prog w B j2 f2 m2 R2 S2) (hm : min m1 m2 ≤ sizeLine)
    (N : ZNew z TI TO j1 j2 f1 f2 S1 S2 s.heap)
    (hQ : ∀ (g : Heap) (tk : Nat) (acc : Array Value) (Ts : List Addr), (∀ b o, b ≠ z → b ≠ TO → b ≠ j1 → b ≠ j2 → s.heap.get? b = some o → g.get? b = some o) → Prs z TO j1 j2 s.heap.objs.size (s.heap.objs.size + 1) R1 R2 g acc (min m1 m2) Ts →
      Q (.ref g.objs.size) { s with heap := g.push { cls := .type "tuple", data := .seq acc }, toks := tk }) :
    wpAny (model prog w) A (call (.type "tuple") [.ref z]) Q E s := by
  refine callType_codes (Q₁ := fun v u => u.TypeIs v "tuple" ∧ Q v u) F.called_tuple (F.typeCall_tuple_1 _) F.entry_object_init (new_tuple_zip (A := A.in1) hh Z D D' hm N fun g tk acc Ts kg pg => ⟨⟨_, Heap.get?_push_size _ rfl, rfl⟩, hQ g tk acc Ts kg pg⟩) fun v u h => ?_
  exact ⟨h.1, F.args_object_init_2 v _, object_init_meets F.called_tuple.init.lookup F.called_tuple.made (by decide) prog w A.in1 _ u ⟨h.1, rfl, h.2⟩⟩
end
end Pz

/-! tuple(zip(a, b)): the reading -/
namespace Pz
open PySem PySem.Spec PyProof.Rows L2
def layZ : Hp → List (Addr × V × V) → Hp
  | H, [] => H
  | H, t :: ts => layZ (upd H t.1 (.tup [t.2.1, t.2.2])) ts
theorem layZ_ne : ∀ {ts : List (Addr × V × V)} {H : Hp} {c : Addr}, c ∉ ts.map (·.1) → layZ H ts c = H c
  | [], _, _, _ => rfl
  | t :: ts, H, c, h => by
    rw [List.map_cons, List.mem_cons, not_or] at h
    show layZ (upd H t.1 _) ts c = _
    rw [layZ_ne h.2, upd_ne h.1]
theorem layZ_at : ∀ {ts : List (Addr × V × V)} {H : Hp}, (ts.map (·.1)).Nodup → ∀ t ∈ ts, layZ H ts t.1 = some (.tup [t.2.1, t.2.2])
  | [], _, _, _, h => by cases h
  | t :: ts, H, hn, q, h => by
    rw [List.map_cons, List.nodup_cons] at hn
    show layZ (upd H t.1 _) ts q.1 = _
    rcases List.mem_cons.mp h with rfl | h
    · rw [layZ_ne hn.1, upd_same]
    · exact layZ_at hn.2 q h
theorem inv_lay {X : Cx} {pins : List (Addr × Obj)} {σ : L2.St} {s : Shared} {g : Heap} {tk : Nat} : ∀ (ts : List (Addr × V × V)) (G : Heap) (H : Hp), Inv X pins σ H { s with heap := G, toks := tk } → (∀ b u, G.get? b = some u → g.get? b = some u) →
    (∀ t ∈ ts, G.get? t.1 = none ∧ H t.1 = none ∧ ∃ u v, RelV t.2.1 u ∧ RelV t.2.2 v ∧ IsTupOf2 g t.1 u v) → (ts.map (·.1)).Nodup → Inv X pins σ (layZ H ts) { s with heap := g, toks := tk }
  | [], G, H, I, k, _, _ => I.kept (t' := tk) k
  | t :: ts, G, H, I, k, h, hn => by
    rw [List.map_cons, List.nodup_cons] at hn
    obtain ⟨hG, hH, u, v, ru, rv, ht⟩ := h t List.mem_cons_self
    obtain ⟨G1, g1, g2⟩ := restrict g fun b => (G.get? b).isSome || decide (b = t.1)
    have kG : ∀ b u, G.get? b = some u → G1.get? b = some u := fun b u e => by
      rw [g1 b (by rw [e]; rfl)]; exact k b u e
    have kg : ∀ b u, G1.get? b = some u → g.get? b = some u := fun b u e => by
      cases hb : (G.get? b).isSome || decide (b = t.1) with
      | true => rw [g1 b hb] at e; exact e
      | false => rw [g2 b hb] at e; cases e
    have ht1 : G1.get? t.1 = some { cls := .type "tuple", data := .seq #[u, v] } := by rw [g1 t.1 (by simp)]; exact ht
    have new : ObjOk X.prog X.w (upd H t.1 (.tup [t.2.1, t.2.2])) G1 t.1 (.tup [t.2.1, t.2.2]) := ⟨by show 2 ≤ sizeLine; decide, [u, v], .cons ru (.cons rv .nil), ⟨_, ht1, rfl, _, rfl⟩⟩
    refine inv_lay ts G1 _ (Inv.laidN (s := { s with heap := G, toks := tk }) (t' := tk) I kG hG hH new) kg (fun q hq => ?_) hn.2
    obtain ⟨a1, a2, a3⟩ := h q (List.mem_cons_of_mem _ hq)
    have ne : q.1 ≠ t.1 := fun e => hn.1 (e ▸ List.mem_map_of_mem hq)
    exact ⟨g2 q.1 (by simp [a1, ne]), by rw [upd_ne ne]; exact a2, a3⟩
theorem vals_refs : ∀ ts : List (Addr × V × V), Vals (ts.map fun t => V.ref t.1) (ts.map (Value.ref ∘ fun t => t.1))
  | [] => .nil
  | t :: ts => .cons rfl (vals_refs ts)
/-- what zip draws from -/
theorem seq_src {X : Cx} {pins : List (Addr × Obj)} {σ : L2.St} {H : Hp} {s : Shared} {a : Addr} {xs : List V} (I : Inv X pins σ H s) (hq : SqL X.K H a xs ∨ SqT X.K H a xs) :
    ∃ (its : List Value) (o : Obj) (Hh : Heap → Prop) (S : Addr → Nat → Heap → Prop), Vals xs its ∧ its.length ≤ sizeLine ∧ Begins (.ref a) o Hh ∧ Hh s.heap ∧ a < s.heap.objs.size ∧
      ∀ it, a ≠ it → (∀ B : Around, B.handled = none → Draws X.prog X.w B it [it, a] its.length (fun i x => its[i]? = some x) (S it)) ∧ ∀ h, Hh h → h.get? it = some o → S it 0 h := by
  rcases hq with hq | hq
  · obtain ⟨its, rv, pl, sz⟩ := I.list hq
    refine ⟨its, _, _, fun it i h => h.IsListIter it a i ∧ h.IsList a its.toArray, rv, by rw [← rv.length]; exact sz, begins_list a its.toArray, pl.isList, pl.lt, fun it hne => ⟨fun B hB => ?_, fun h hh e => ⟨⟨_, e, rfl, rfl⟩, hh⟩⟩⟩
    have := Draws.list (prog := X.prog) (w := X.w) hB it a hne its.toArray
    simpa using this
  · obtain ⟨its, rv, pt, sz⟩ := I.tuple hq
    obtain ⟨o, ho, _⟩ := id pt
    refine ⟨its, _, _, fun it i h => h.IsTupleIter it a i ∧ h.IsTuple a its.toArray, rv, by rw [← rv.length]; exact sz, begins_tuple a its.toArray, pt, Heap.lt_size ho, fun it hne => ⟨fun B hB => ?_, fun h hh e => ⟨⟨_, e, rfl, rfl⟩, hh⟩⟩⟩
    have := Draws.tuple (prog := X.prog) (w := X.w) hB it a hne its.toArray
    simpa using this
def tTZ (K : PySem.W.Frag) (ta : TA) : TE := fun σ H Q => ta σ H fun vs H1 => ∃ a b xs ys, vs = [.ref a, .ref b] ∧ (SqL K H1 a xs ∨ SqT K H1 a xs) ∧ (SqL K H1 b ys ∨ SqT K H1 b ys) ∧
  ∀ ts : List (Addr × V × V), ts.map (·.2) = xs.zip ys → (ts.map (·.1)).Nodup → (∀ t ∈ ts, H1 t.1 = none) → ∀ p, layZ H1 ts p = none → Q (.ref p) (upd (layZ H1 ts) p (.tup (ts.map fun t => .ref t.1)))
theorem pe_tupzip {X : Cx} {e e2 : Expr} {ta : TA} {p pos p0 pos0 : Pos} (hc : X.calm = true) (hg0 : Gl X "tuple") (hm0 : X.mg "tuple" = none) (hg : Gl X "zip") (hm : X.mg "zip" = none) (ha : PA X [e, e2] ta)
    (hs : starEach [e, e2] X.env = (false, eval e X.env) :: starEach [e2] X.env := by rfl) (hpl : (backTo pos (starEach [e2] X.env)).any (·.1) = false := by rfl)
    (hs0 : starEach [.Call (.Name "zip" p) [e, e2] [] pos] X.env = (false, eval (.Call (.Name "zip" p) [e, e2] [] pos) X.env) :: starEach [] X.env := by rfl) :
    PE X (.Call (.Name "tuple" p0) [.Call (.Name "zip" p) [e, e2] [] pos] [] pos0) (tTZ X.K ta) := by
  refine ⟨fun pins s σ H Q I h => ?_⟩
  refine Call_ (ld_blt I hg0 hm0 boot_tuple (PyProof.Rows.callWith_type1 ?_ hs0 rfl))
  rw [hs0]
  refine Calls.spliced_cons ?_
  refine Call_ (ld_blt I hg hm PyProof.Rows.boot_zip (PyProof.Rows.callWith_type1 (thn (ha.run pos pins s σ H _ I h) fun us sa ⟨vs, Ha, Ia, ra, qa⟩ => ?_) hs hpl))
  obtain ⟨a, b, xs, ys, rfl, hqa, hqb, q⟩ := qa
  cases ra with
  | cons r rr =>
    cases rr with
    | cons r2 rr =>
      cases rr
      cases r
      cases r2
      obtain ⟨its, o1, Hh, S1, rv, l1, B1, h1, lta, D1⟩ := seq_src Ia hqa
      obtain ⟨its2, o2, Hh2, S2, rv2, l2, B2, h2, ltb, D2⟩ := seq_src Ia hqb
      refine zip_begins2 B1 B2 h1 h2 fun h' hz hTI hTO g1 g2 hsz hk => ?_
      have sep := sep_of (PySem.W.ktu_apart sa.heap.objs.size a b lta ltb)
      have na : a ≠ sa.heap.objs.size := Nat.ne_of_lt lta
      have nb : b ≠ sa.heap.objs.size + 1 := Nat.ne_of_lt (Nat.lt_succ_of_lt ltb)
      have N : ZNew (sa.heap.objs.size + 4) (sa.heap.objs.size + 2) (sa.heap.objs.size + 3) sa.heap.objs.size (sa.heap.objs.size + 1) [sa.heap.objs.size, a] [sa.heap.objs.size + 1, b] (S1 sa.heap.objs.size) (S2 (sa.heap.objs.size + 1)) h' :=
        ⟨hz, ⟨_, _, hTO⟩, hTI, (D1 _ na).2 h' (B1.keeps _ _ h1 hk) g1, (D2 _ nb).2 h' (B2.keeps _ _ h2 hk) g2,
          fun c hc => by
            rw [hsz]
            rcases List.mem_cons.mp hc with e | e
            · rw [e]; exact Nat.lt_add_of_pos_right (by decide)
            · rw [List.mem_singleton.mp e]; exact Nat.lt_of_lt_of_le lta (Nat.le_add_right _ _),
          fun c hc => by
            rw [hsz]
            rcases List.mem_cons.mp hc with e | e
            · rw [e]; exact Nat.add_lt_add_left (by decide) _
            · rw [List.mem_singleton.mp e]; exact Nat.lt_of_lt_of_le ltb (Nat.le_add_right _ _)⟩
      refine Calls.spliced_nil (call_tuple_zip (s := { sa with heap := h' }) (I.ok.hd hc) sep (D1 _ na).1 (D2 _ nb).1 (Nat.le_trans (Nat.min_le_left ..) l1) N fun g tk acc Ts kg pg => ?_)
      have kb : ∀ c u, sa.heap.get? c = some u → g.get? c = some u := fun c u e => by
        have lt := Heap.lt_size e
        have ne : ∀ j, c ≠ sa.heap.objs.size + j := fun j => Nat.ne_of_lt (Nat.lt_of_lt_of_le lt (Nat.le_add_right _ _))
        exact kg c u (ne 4) (ne 3) (ne 0) (ne 1) (hk c u e)
      -- the pairs as they stand
      have hlen : Ts.length = (xs.zip ys).length := by rw [pg.len, List.length_zip, rv.length, rv2.length]
      obtain ⟨ts, hts⟩ : ∃ ts : List (Addr × V × V), ts = Ts.zip (xs.zip ys) := ⟨_, rfl⟩
      have t1 : ts.map (·.1) = Ts := by rw [hts]; exact List.map_fst_zip (by rw [hlen]; exact Nat.le_refl _)
      have t2 : ts.map (·.2) = xs.zip ys := by rw [hts]; exact List.map_snd_zip (by rw [hlen]; exact Nat.le_refl _)
      have nd : (ts.map (·.1)).Nodup := by rw [t1]; exact pg.up.imp fun h => Nat.ne_of_lt h
      have each : ∀ t ∈ ts, sa.heap.get? t.1 = none ∧ Ha t.1 = none ∧ ∃ u v, RelV t.2.1 u ∧ RelV t.2.2 v ∧ IsTupOf2 g t.1 u v := fun t ht => by
        obtain ⟨j, hj⟩ := List.getElem?_of_mem ht
        have e1 : Ts[j]? = some t.1 := by rw [← t1, List.getElem?_map, hj]; rfl
        have e2 : (xs.zip ys)[j]? = some t.2 := by rw [← t2, List.getElem?_map, hj]; rfl
        have le : sa.heap.objs.size ≤ t.1 := by
          have := (pg.bnd t.1 (List.mem_of_getElem? e1)).1
          exact Nat.le_trans (by show _ ≤ h'.objs.size + 1; rw [hsz]; exact Nat.le_trans (Nat.le_add_right _ 5) (Nat.le_succ _)) this
        obtain ⟨u, v, a1, a2, a3⟩ := pg.con j t.1 e1
        obtain ⟨x, y, e3⟩ : ∃ x y, t.2 = (x, y) := ⟨_, _, rfl⟩
        rw [e3, List.getElem?_zip_eq_some] at e2
        obtain ⟨u', hu, ru⟩ := rv.get e2.1
        obtain ⟨v', hv, rv'⟩ := rv2.get e2.2
        rw [hu] at a2
        rw [hv] at a3
        cases a2
        cases a3
        refine ⟨?_, Ia.hok.fresh le, u, v, by rw [e3]; exact ru, by rw [e3]; exact rv', a1⟩
        cases hc : sa.heap.get? t.1 with
        | none => rfl
        | some o => exact absurd (Heap.lt_size hc) (Nat.not_lt.mpr le)
      have I2 : Inv X pins σ (layZ Ha ts) { sa with heap := g, toks := tk } := inv_lay ts sa.heap Ha (Ia.kept (t' := tk) fun _ _ e => e) kb each nd
      have hp := I2.hok.fresh (Nat.le_refl g.objs.size)
      have new : ObjOk X.prog X.w (upd (layZ Ha ts) g.objs.size (.tup (ts.map fun t => .ref t.1))) (g.push { cls := .type "tuple", data := .seq acc }) g.objs.size (.tup (ts.map fun t => .ref t.1)) := by
        have lts : ts.length = Ts.length := (List.length_map (fun t : Addr × V × V => t.1)).symm.trans (congrArg List.length t1)
        have ea : acc = (Ts.map Value.ref).toArray := by rw [← pg.acc]
        refine ⟨by rw [List.length_map, lts, pg.len]; exact Nat.le_trans (Nat.min_le_left ..) l1, Ts.map Value.ref, ?_, ⟨_, Heap.get?_push_size _ rfl, rfl, 0, by rw [ea]⟩⟩
        rw [← t1, List.map_map]
        exact vals_refs ts
      exact ⟨.ref g.objs.size, _, I2.laid (t' := tk) (fun c u e => Heap.get?_push_of_some _ e) (Nat.le_refl _) new, rfl, q ts t2 nd (fun t ht => (each t ht).2.1) _ hp⟩
end Pz

/-! tuple(zip(a, b)): what it evaluates to -/
namespace Pz
open PySem PySem.Spec PyProof.Rows L2
section
variable {X : Cx} {R : Res} {Γ : List Slot} {α β : Type} {ea : α → PyData} {eb : β → PyData} {e1 : List α → PyData} {e2 : List β → PyData}
/-- a list or a tuple of items -/
def SeqE (e1 : List α → PyData) (ea : α → PyData) : Prop := ∀ (A : Av) (H : Hp) (v : V) (xs : List α), Rp A H v (e1 xs) → ∃ p vs, v = .ref p ∧ ¬ A p ∧ (H p = some (.lst vs) ∨ H p = some (.tup vs)) ∧ RpAll A H vs (xs.map ea)
theorem SeqE.L : SeqE (eL ea) ea := fun A H v xs r => by cases r with | lst n h q => exact ⟨_, _, rfl, n, .inl h, q⟩
theorem SeqE.T : SeqE (eT ea) ea := fun A H v xs r => by cases r with | tup n h q => exact ⟨_, _, rfl, n, .inr h, q⟩
theorem pairs_rp {A : Av} {H : Hp} : ∀ (ts : List (Addr × V × V)) (vs ws : List V) (xs : List α) (ys : List β), RpAll A H vs (xs.map ea) → RpAll A H ws (ys.map eb) → ts.map (·.2) = vs.zip ws → (∀ t ∈ ts, ¬ A t.1 ∧ H t.1 = some (.tup [t.2.1, t.2.2])) →
    RpAll A H (ts.map fun t => .ref t.1) ((zipL xs ys).map (eP (eC ea (eC eb eU))))
  | [], [], _, xs, ys, r1, r2, _, _ => by
    cases xs with
    | nil => exact .nil
    | cons => cases r1
  | [], v :: vs, [], xs, ys, r1, r2, _, _ => by
    cases ys with
    | nil => cases xs <;> exact .nil
    | cons => cases r2
  | [], _ :: _, _ :: _, _, _, _, _, h, _ => by cases h
  | t :: ts, [], _, _, _, _, _, h, _ => by cases h
  | t :: ts, _ :: _, [], _, _, _, _, h, _ => by cases h
  | t :: ts, v :: vs, w :: ws, [], _, r1, _, _, _ => by cases r1
  | t :: ts, v :: vs, w :: ws, _ :: _, [], _, r2, _, _ => by cases r2
  | t :: ts, v :: vs, w :: ws, x :: xs, y :: ys, r1, r2, h, k => by
    cases r1 with
    | cons a1 a2 =>
      cases r2 with
      | cons b1 b2 =>
        simp only [List.map_cons, List.zip_cons_cons, List.cons.injEq] at h
        obtain ⟨hA, hH⟩ := k t List.mem_cons_self
        rw [h.1] at hH
        exact .cons (.tup hA hH (.cons a1 (.cons b1 .nil))) (pairs_rp ts vs ws xs ys a2 b2 h.2 fun q hq => k q (List.mem_cons_of_mem _ hq))
theorem layZ_same {H : Hp} {ts : List (Addr × V × V)} (h : ∀ t ∈ ts, H t.1 = none) : Same H (layZ H ts) := fun c o e => by
  rw [layZ_ne (fun hc => ?_)]; · exact e
  obtain ⟨t, ht, rfl⟩ := List.mem_map.mp hc
  rw [h t ht] at e; cases e
theorem e_zipTup {a b : Expr} {pos pos0 p p0 : Pos} {ma : M (List α)} {mb : M (List β)} (s1 : SeqE e1 ea) (s2 : SeqE e2 eb) (hm0 : X.mg "tuple" = none) (hm : X.mg "zip" = none) (ha : EJ X R Γ a e1 ma) (hb : EJ X R Γ b e2 mb) (hc : X.calm = true := by rfl) (hg0 : Gl X "tuple" := by rfl) (hg : Gl X "zip" := by rfl)
    (hs : starEach [a, b] X.env = (false, eval a X.env) :: starEach [b] X.env := by rfl) (hs2 : starEach [b] X.env = (false, eval b X.env) :: starEach [] X.env := by rfl)
    (hs0 : starEach [.Call (.Name "zip" p) [a, b] [] pos] X.env = (false, eval (.Call (.Name "zip" p) [a, b] [] pos) X.env) :: starEach [] X.env := by rfl) :
    EJ X R Γ (.Call (.Name "tuple" p0) [.Call (.Name "zip" p) [a, b] [] pos] [] pos0) (eT (eP (eC ea (eC eb eU)))) (bindM ma fun x => bindM mb fun y => pureM (zipL x y)) := by
  refine PE.weak (pe_tupzip hc hg0 hm0 hg hm (pa_cons ha (pa_cons hb pa_nil hs2) hs) hs (by rw [hs2]; rfl) hs0) fun σ H Q ⟨O, H0, ow, st, z, st', rel, ok, e, q⟩ => ?_
  obtain ⟨x, u1, f1, f2⟩ := bind_some e
  obtain ⟨y, u2, f3, f4⟩ := bind_some f2
  obtain ⟨rfl, rfl⟩ := pure_some f4
  refine ⟨O, H0, ow, st, x, u1, rel, ok, f1, fun v H1 k1 o1 rp => ?_⟩
  have rel1 := rel.grow k1 (okZ o1)
  refine ⟨O, H0, ow, u1, y, u2, rel1, o1, f3, fun v2 H2 k2 o2 rp2 => ?_⟩
  have rel2 := rel1.grow k2 (okZ o2)
  obtain ⟨p1, vs, rfl, n1, h1, r1⟩ := s1 _ _ _ _ (rp.keep (rel1.keepA k2))
  obtain ⟨p2, ws, rfl, n2, h2, r2⟩ := s2 _ _ _ _ rp2
  refine ⟨p1, p2, vs, ws, rfl, h1.imp SqL.of SqT.of, h2.imp SqL.of SqT.of, fun ts t2 nd fr p np => ?_⟩
  have sm : Same H2 (upd (layZ H2 ts) p (.tup (ts.map fun t => .ref t.1))) := fun c o e => by
    have e2 := layZ_same fr c o e
    rw [upd_ne (ne_of_none e2 np)]; exact e2
  have out : ∀ {c : Addr}, H2 c = none → ¬ avo O Γ ow c := fun hn hA => (rel2.adom hA).1 hn
  have pne : ∀ t ∈ ts, t.1 ≠ p := fun t ht e => by
    have := layZ_at (H := H2) nd t ht
    rw [e, np] at this; cases this
  have h2p : H2 p = none := by
    cases e : H2 p with
    | none => rfl
    | some o => rw [layZ_same fr p o e] at np; cases np
  refine q _ _ ((k1.trans k2).trans (Keep.of_same sm)) (o2.same sm) (.tup (out h2p) upd_same ?_)
  refine pairs_rp ts vs ws x y (r1.keep (Keep.of_same sm)) (r2.keep (Keep.of_same sm)) t2 fun t ht => ⟨out (fr t ht), ?_⟩
  rw [upd_ne (pne t ht)]; exact layZ_at nd t ht
end
end Pz

/-! the plain side, part five -/
namespace Pz
open PySem PySem.Spec PyProof.Rows L2
theorem memB_iff {α : Type} [DecidableEq α] {x : α} {xs : List α} : memB x xs = true ↔ x ∈ xs := decide_eq_true_iff
theorem memB_not {α : Type} [DecidableEq α] {x : α} {xs : List α} : memB x xs = false ↔ x ∉ xs := decide_eq_false_iff_not
theorem ite_pure {α : Type} (c : Prop) [Decidable c] (a b : α) : (if decide c = true then pureM a else pureM b) = pureM (if c then a else b) := by by_cases h : c <;> simp [h]
theorem ite_pureB {α : Type} (c : Bool) (a b : α) : (if c = true then pureM a else pureM b) = pureM (if c = true then a else b) := by cases c <;> rfl
/-- a loop over the numbers below n, known turn by turn -/
theorem forM_upto {β : Type} {f : β → Int → M β} (g : Nat → β) (n : Nat) (h : ∀ k < n, f (g k) k = pureM (g (k + 1))) : forM' f (irange 0 n) (g 0) = pureM (g n) := by
  have key : ∀ m : Nat, m ≤ n → forM' f (irange 0 m) (g 0) = pureM (g m) := by
    intro m
    induction m with
    | zero => intro _; rfl
    | succ m ih =>
      intro hm
      rw [show ((m + 1 : Nat) : Int) = (m : Int) + 1 by omega, irange_succ, forM_append, ih (by omega), bp]
      show Pz.bindM (f (g m) m) (fun c => pureM c) = _
      rw [h m (by omega), bp]
  exact key n (Nat.le_refl n)
section
variable {κ ν : Type} [DecidableEq κ]
theorem merge_nodup : ∀ (ys xs : List (κ × ν × Unit)), ((xs ++ ys).map (·.1)).Nodup → mergeL xs ys = xs ++ ys
  | [], xs, _ => by simp [mergeL]
  | y :: ys, xs, h => by
    show mergeL (putL xs y.1 y.2.1) ys = _
    have e : putL xs y.1 y.2.1 = xs ++ [y] := by
      unfold putL
      rw [if_neg]
      · intro q
        rw [hasM_keys, memB_iff] at q
        rw [List.map_append, List.nodup_append] at h
        exact h.2.2 y.1 q y.1 (by simp) rfl
    rw [e, merge_nodup ys (xs ++ [y]) (by rw [List.append_assoc]; exact h), List.append_assoc]
    rfl
theorem merge_ones {ls : List κ} (h : ls.Nodup) (v : ν) : mergeL [] (ls.map fun x => (x, v, ())) = ls.map fun x => (x, v, ()) := by
  rw [merge_nodup _ _ (by rw [List.nil_append, List.map_map]; show (ls.map fun x => x).Nodup; rw [List.map_id']; exact h), List.nil_append]
end
theorem zip_keys {α β : Type} : ∀ (xs : List α) (ys : List β), xs.length = ys.length → (zipL xs ys).map (·.1) = xs
  | [], _, _ => by simp [zipL]
  | x :: xs, [], h => by cases h
  | x :: xs, y :: ys, h => by
    have := zip_keys xs ys (by simpa using h)
    unfold zipL at this ⊢
    simp [this]
theorem zip_vals {α β : Type} : ∀ (xs : List α) (ys : List β), xs.length = ys.length → (zipL xs ys).map (·.2.1) = ys
  | [], [], _ => by simp [zipL]
  | [], _ :: _, h => by cases h
  | x :: xs, [], h => by cases h
  | x :: xs, y :: ys, h => by
    have := zip_vals xs ys (by simpa using h)
    unfold zipL at this ⊢
    simp [this]
theorem zip_len {α β : Type} {xs : List α} {ys : List β} (h : xs.length = ys.length) : (zipL xs ys).length = xs.length := by unfold zipL; rw [List.length_zipWith]; omega
theorem zip_at {α β : Type} {xs : List α} {ys : List β} {i : Nat} {p : α × β × Unit} (h : (zipL xs ys)[i]? = some p) : xs[i]? = some p.1 ∧ ys[i]? = some p.2.1 := by
  rw [zipL_get] at h
  cases hx : xs[i]? with
  | none => rw [hx] at h; cases h
  | some x =>
    cases hy : ys[i]? with
    | none => rw [hx, hy] at h; cases h
    | some y => rw [hx, hy] at h; cases h; exact ⟨rfl, rfl⟩
theorem getD_is {α : Type} {xs : List α} {i : Nat} {d : α} (h : i < xs.length) : xs.getD i d = xs[i] := by simp [h]
theorem fold_none {ι : Type} (c : ι → Bool) : ∀ (xs : List ι) (b : Bool), xs.foldl (fun b x => if c x = true then false else b) b = (b && xs.all fun x => !c x)
  | [], b => by simp
  | x :: xs, b => by
    rw [List.foldl_cons, fold_none c xs]
    cases h : c x <;> simp [h]
end Pz

/-! products of very large numbers -/
namespace Pz
open PySem PySem.Spec PyProof.Rows L2
section
variable {X : Cx} {R : Res} {Γ : List Slot} {a b : Expr} {pos : Pos}
def mulW (x y : Int) : Option Int := if x.natAbs.log2 + y.natAbs.log2 < 1000000 then some (x * y) else none
theorem v_mulW : VOp (rI CMulW fun i j => .int (i * j)) eInt eInt eInt mulW := fun A H x y vx vy Q z ad r1 r2 e q => by
  cases r1; cases r2
  obtain ⟨h, rfl⟩ := oif e
  exact ⟨_, _, rfl, rfl, h, q _ H (Same.refl H) (.int _)⟩
theorem e_mulW {ma mb : M Int} (ha : EJ X R Γ a eInt ma) (hb : EJ X R Γ b eInt mb) : EJ X R Γ (.BinOp a .Mult b pos) eInt (bindM ma fun x => bindM mb fun y => optM (mulW x y)) := e_bin op_mulW v_mulW ha hb
theorem log2_of {n k : Nat} (h : n < 2 ^ k) : n.log2 ≤ k := by
  by_cases e : n = 0
  · subst e; simp
  · exact Nat.le_of_lt ((Nat.log2_lt e).mpr h)
theorem mulW_ok {x y : Int} {a b : Nat} (h1 : x.natAbs < 2 ^ a) (h2 : y.natAbs < 2 ^ b) (h : a + b < 1000000 := by decide) : mulW x y = some (x * y) := by
  unfold mulW
  rw [if_pos (Nat.lt_of_le_of_lt (Nat.add_le_add (log2_of h1) (log2_of h2)) h)]
/-- a, b, c = three values that are stored one by one -/
theorem q_par3 {α β γ : Type} {ea : α → PyData} {eb : β → PyData} {ec : γ → PyData} (i j l : Nat) {x y z : Str} {a b c : Expr} {px py pz pt : Pos} {kt k2 pt2} {ma : M α} {mb : M β} {mc : M γ} (ha : EJ X R Γ a ea ma) (hb : EJ X R Γ b eb mb) (hcc : EJ X R Γ c ec mc) (hc : X.calm = true) (hN : X.N.Nodup)
    (hi : X.N[i]? = some x := by rfl) (hj : X.N[j]? = some y := by rfl) (hl : X.N[l]? = some z := by rfl) (hij : i ≠ j := by decide) (hil : i ≠ l := by decide) (hjl : j ≠ l := by decide)
    (hx : X.env.scope.names.lookup x = some .local := by rfl) (hy : X.env.scope.names.lookup y = some .local := by rfl) (hz : X.env.scope.names.lookup z = some .local := by rfl)
    (hw : swappedStores [.Tuple [.Name x px, .Name y py, .Name z pz] kt pt] (.Tuple [a, b, c] k2 pt2) X.env = pure (some [x, y, z]) := by rfl)
    (hs : swapsWithSole [.Tuple [.Name x px, .Name y py, .Name z pz] kt pt] (.Tuple [a, b, c] k2 pt2) pos.line X.env = pure false := by rfl)
    (hs1 : starEach [a, b, c] X.env = (false, eval a X.env) :: starEach [b, c] X.env := by rfl) (hs2 : starEach [b, c] X.env = (false, eval b X.env) :: starEach [c] X.env := by rfl) (hs3 : starEach [c] X.env = (false, eval c X.env) :: starEach [] X.env := by rfl) :
    QJ X R Γ (.Assign [.Tuple [.Name x px, .Name y py, .Name z pz] kt pt] (.Tuple [a, b, c] k2 pt2) pos) (fun p : α × β × γ => .nx (((Γ.set i (.fz (ea p.1))).set j (.fz (eb p.2.1))).set l (.fz (ec p.2.2)))) (bindM ma fun u => bindM mb fun v => bindM mc fun w => pureM (u, v, w)) := by
  refine PS.weak (ps_par3 hc hN hi hj hl hij hil hjl hx hy hz (pa_cons ha (pa_cons hb (pa_cons hcc pa_nil hs3) hs2) hs1) hw hs) fun D σ H ⟨O, H0, ow, st, r, st', rel, ok, e, q⟩ => ?_
  obtain ⟨u, s1, e1, e2⟩ := bind_some e
  obtain ⟨v, s2, e3, e4⟩ := bind_some e2
  obtain ⟨w, s3, e5, e6⟩ := bind_some e4
  obtain ⟨rfl, rfl⟩ := pure_some e6
  refine ⟨O, H0, ow, st, u, s1, rel, ok, e1, fun vx H1 k1 o1 r1 => ?_⟩
  have rel1 := rel.grow k1 (okZ o1)
  refine ⟨O, H0, ow, s1, v, s2, rel1, o1, e3, fun vy H2 k2 o2 r2 => ?_⟩
  have rel2 := rel1.grow k2 (okZ o2)
  refine ⟨O, H0, ow, s2, w, s3, rel2, o2, e5, fun vz H3 k3 o3 r3 => ?_⟩
  have rel3 := rel2.grow k3 (okZ o3)
  have less : ∀ (n : Nat) (d : PyData) (Δ : List Slot) (b : Addr), avo O (Δ.set n (.fz d)) ow b → avo O Δ ow b := fun n d Δ b h => by
    rcases h with h | ⟨m, d', e7, e8⟩
    · exact .inl h
    · exact .inr ⟨m, d', set_noow _ _ e7, e8⟩
  refine ⟨vx, vy, vz, rfl, q ow _ H3 (((rel3.setFz i (r1.keep (rel1.keepA (k2.trans k3)))).setFz j ((r2.keep (rel2.keepA k3)).less (less _ _ _))).setFz l (r3.less fun b h => less _ _ _ b (less _ _ _ b h))) o3 ⟨rel.keepA ((k1.trans k2).trans k3), fun m d e7 => .inl (.inr ⟨m, d, set_noow _ _ (set_noow _ _ (set_noow _ _ e7)), rfl⟩)⟩⟩
end
end Pz

/-! min and max of rows, and of other data that go together -/
namespace Pz
open PySem PySem.Spec PyProof.Rows L2
section
variable {X : Cx} {α : Type} {ea : α → PyData}
theorem Vals.getB : ∀ {xs : List V} {us : List Value} {i : Nat} {u : Value}, Vals xs us → us[i]? = some u → ∃ x, xs[i]? = some x ∧ RelV x u
  | _, _, _, _, .nil, e => by simp at e
  | _, _, 0, _, .cons r _, e => by simp at e; subst e; exact ⟨_, rfl, r⟩
  | _, _, i + 1, _, .cons _ t, e => by simpa using Vals.getB t (by simpa using e)
theorem depths_le (h : ∀ c : α, (ea c).depth ≤ 60) : ∀ {bs : List α}, PyData.depthAll (bs.map ea) ≤ 60
  | [] => by simp [PyData.depthAll]
  | b :: bs => by
    have := h b
    have := depths_le h (bs := bs)
    simp only [List.map_cons, PyData.depthAll]
    omega
/-- min of a list or a tuple of alike data -/
def minA (e : α → PyData) : List α → Option α
  | [] => none
  | x :: xs => some (xs.foldl (fun a y => if PySem.W.dataLt (e y) (e a) then y else a) x)
theorem minA_data (e : α → PyData) : ∀ (xs : List α) (x : α), e (xs.foldl (fun a y => if PySem.W.dataLt (e y) (e a) then y else a) x) = PySem.W.minD (e x) (xs.map e)
  | [], _ => rfl
  | y :: xs, x => by
    rw [List.foldl_cons, minA_data e xs]
    unfold PySem.W.minD
    rw [List.map_cons, List.foldl_cons]
    congr 1
    split <;> rfl
def rMinA (ea : α → PyData) : List V → Hp → VK → Prop := fun xs H Q => ∃ A p vs bs r, xs = [.ref p] ∧ (H p = some (.lst vs) ∨ H p = some (.tup vs)) ∧ RpAll A H vs (bs.map ea) ∧ minA ea bs = some r ∧ ∀ w, Rp A H w (ea r) → Q w H
theorem call_minA (hs : SrtA ea) (hpl : ∀ x, (ea x).plain = true) (hc : X.calm = true) (hu : X.A.units + 64 < cLine) : CallR X (.builtin "min") (rMinA ea) := fun pins s σ H xs us Q I r h => by
  obtain ⟨A, p, vs, bs, z, rfl, hp, hr, hz, q⟩ := h
  obtain ⟨u, rfl, ru⟩ := vals1 r
  cases ru
  cases bs with
  | nil => cases hz
  | cons b bs =>
    cases hz
    have fin : ∀ (its : List Value), Vals vs its → ∀ (i : Nat) (v : Value) (h' : Heap) (tk : Nat) (as : List Addr), its[i]? = some v → Reads h' v (PySem.W.minD (ea b) (bs.map ea)) as → (∀ b o, s.heap.get? b = some o → h'.get? b = some o) →
        EP X pins σ Q v { s with heap := h', toks := tk } := fun its rv i v h' tk as hv rd hk => by
      obtain ⟨w, hw, rw⟩ := Vals.getB rv hv
      obtain ⟨d, hd, rp⟩ := hr.getV hw
      obtain ⟨as2, rd2, _⟩ := Rp.reads I _ _ _ rp rw
      have e1 : d.plain = true := by
        have := List.mem_of_getElem? hd
        obtain ⟨c, _, rfl⟩ := List.mem_map.mp this
        exact hpl c
      have e := same_data (.inl e1) (PyProof.Rows.Reads.keeps hk rd2) rd
      refine ⟨w, H, I.kept (t' := tk) hk, rw, q w ?_⟩
      rw [minA_data ea bs b, ← e]; exact rp
    have hal : PySem.W.AlikeAll ((b :: bs).map ea) := ⟨fun x hx y hy => by
      obtain ⟨c, _, rfl⟩ := List.mem_map.mp hx
      obtain ⟨d, _, rfl⟩ := List.mem_map.mp hy
      exact hs.alike c d, fun x hx e => by
      obtain ⟨c, _, rfl⟩ := List.mem_map.mp hx
      rcases hs.kind with k | k
      · obtain ⟨ds, k⟩ := k c
        rw [k] at e; cases e
      · exact (k c).1 e⟩
    have hdp : PyData.depthAll ((b :: bs).map ea) ≤ 60 := depths_le fun c => hs.depth c
    rcases hp with hp | hp
    · obtain ⟨its, rv, pl, hz⟩ := I.list (SqL.of hp)
      obtain ⟨as, rs, _⟩ := RpAll.reads I _ _ _ hr rv
      exact PySem.W.min_list_data (I.ok.hd hc) pl.isList rs hal (by show X.A.units + 1 + PyData.depthAll ((b :: bs).map ea) < cLine; omega) fun i v h' tk as2 hv rd hk => fin its rv i v h' tk as2 (by simpa using hv) rd hk
    · obtain ⟨its, rv, pt, hz⟩ := I.tuple (SqT.of hp)
      obtain ⟨as, rs, _⟩ := RpAll.reads I _ _ _ hr rv
      exact PySem.W.min_tuple_data (I.ok.hd hc) pt rs hal (by show X.A.units + 1 + PyData.depthAll ((b :: bs).map ea) < cLine; omega) fun i v h' tk as2 hv rd hk => fin its rv i v h' tk as2 (by simpa using hv) rd hk
theorem v_minAL : VN (rMinA ea) (fun x : List α × Unit => [eL ea x.1]) ea (fun x => minA ea x.1) := fun A H x vs Q z ad r e q => by
  cases r with
  | cons r1 r2 =>
    cases r2
    cases r1 with
    | lst na ha hr => exact ⟨A, _, _, _, z, rfl, .inl ha, hr, e, fun w rp => q w H (Same.refl H) rp⟩
theorem v_minAT : VN (rMinA ea) (fun x : List α × Unit => [eT ea x.1]) ea (fun x => minA ea x.1) := fun A H x vs Q z ad r e q => by
  cases r with
  | cons r1 r2 =>
    cases r2
    cases r1 with
    | tup na ha hr => exact ⟨A, _, _, _, z, rfl, .inr ha, hr, e, fun w rp => q w H (Same.refl H) rp⟩
/-- max of a list or a tuple of alike data -/
def maxA (e : α → PyData) : List α → Option α
  | [] => none
  | x :: xs => some (xs.foldl (fun a y => if PySem.W.dataLt (e a) (e y) then y else a) x)
theorem maxA_data (e : α → PyData) : ∀ (xs : List α) (x : α), e (xs.foldl (fun a y => if PySem.W.dataLt (e a) (e y) then y else a) x) = PySem.W.maxD (e x) (xs.map e)
  | [], _ => rfl
  | y :: xs, x => by
    rw [List.foldl_cons, maxA_data e xs]
    unfold PySem.W.maxD
    rw [List.map_cons, List.foldl_cons]
    congr 1
    split <;> rfl
def rMaxA (ea : α → PyData) : List V → Hp → VK → Prop := fun xs H Q => ∃ A p vs bs r, xs = [.ref p] ∧ (H p = some (.lst vs) ∨ H p = some (.tup vs)) ∧ RpAll A H vs (bs.map ea) ∧ maxA ea bs = some r ∧ ∀ w, Rp A H w (ea r) → Q w H
theorem call_maxA (hs : SrtA ea) (hpl : ∀ x, (ea x).plain = true) (hc : X.calm = true) (hu : X.A.units + 64 < cLine) : CallR X (.builtin "max") (rMaxA ea) := fun pins s σ H xs us Q I r h => by
  obtain ⟨A, p, vs, bs, z, rfl, hp, hr, hz, q⟩ := h
  obtain ⟨u, rfl, ru⟩ := vals1 r
  cases ru
  cases bs with
  | nil => cases hz
  | cons b bs =>
    cases hz
    have fin : ∀ (its : List Value), Vals vs its → ∀ (i : Nat) (v : Value) (h' : Heap) (tk : Nat) (as : List Addr), its[i]? = some v → Reads h' v (PySem.W.maxD (ea b) (bs.map ea)) as → (∀ b o, s.heap.get? b = some o → h'.get? b = some o) →
        EP X pins σ Q v { s with heap := h', toks := tk } := fun its rv i v h' tk as hv rd hk => by
      obtain ⟨w, hw, rw⟩ := Vals.getB rv hv
      obtain ⟨d, hd, rp⟩ := hr.getV hw
      obtain ⟨as2, rd2, _⟩ := Rp.reads I _ _ _ rp rw
      have e1 : d.plain = true := by
        have := List.mem_of_getElem? hd
        obtain ⟨c, _, rfl⟩ := List.mem_map.mp this
        exact hpl c
      have e := same_data (.inl e1) (PyProof.Rows.Reads.keeps hk rd2) rd
      refine ⟨w, H, I.kept (t' := tk) hk, rw, q w ?_⟩
      rw [maxA_data ea bs b, ← e]; exact rp
    have hal : PySem.W.AlikeAll ((b :: bs).map ea) := ⟨fun x hx y hy => by
      obtain ⟨c, _, rfl⟩ := List.mem_map.mp hx
      obtain ⟨d, _, rfl⟩ := List.mem_map.mp hy
      exact hs.alike c d, fun x hx e => by
      obtain ⟨c, _, rfl⟩ := List.mem_map.mp hx
      rcases hs.kind with k | k
      · obtain ⟨ds, k⟩ := k c
        rw [k] at e; cases e
      · exact (k c).1 e⟩
    have hdp : PyData.depthAll ((b :: bs).map ea) ≤ 60 := depths_le fun c => hs.depth c
    rcases hp with hp | hp
    · obtain ⟨its, rv, pl, hz⟩ := I.list (SqL.of hp)
      obtain ⟨as, rs, _⟩ := RpAll.reads I _ _ _ hr rv
      exact PySem.W.max_list_data (I.ok.hd hc) pl.isList rs hal (by show X.A.units + 1 + PyData.depthAll ((b :: bs).map ea) < cLine; omega) fun i v h' tk as2 hv rd hk => fin its rv i v h' tk as2 (by simpa using hv) rd hk
    · obtain ⟨its, rv, pt, hz⟩ := I.tuple (SqT.of hp)
      obtain ⟨as, rs, _⟩ := RpAll.reads I _ _ _ hr rv
      exact PySem.W.max_tuple_data (I.ok.hd hc) pt rs hal (by show X.A.units + 1 + PyData.depthAll ((b :: bs).map ea) < cLine; omega) fun i v h' tk as2 hv rd hk => fin its rv i v h' tk as2 (by simpa using hv) rd hk
theorem v_maxAL : VN (rMaxA ea) (fun x : List α × Unit => [eL ea x.1]) ea (fun x => maxA ea x.1) := fun A H x vs Q z ad r e q => by
  cases r with
  | cons r1 r2 =>
    cases r2
    cases r1 with
    | lst na ha hr => exact ⟨A, _, _, _, z, rfl, .inl ha, hr, e, fun w rp => q w H (Same.refl H) rp⟩
theorem v_maxAT : VN (rMaxA ea) (fun x : List α × Unit => [eT ea x.1]) ea (fun x => maxA ea x.1) := fun A H x vs Q z ad r e q => by
  cases r with
  | cons r1 r2 =>
    cases r2
    cases r1 with
    | tup na ha hr => exact ⟨A, _, _, _, z, rfl, .inr ha, hr, e, fun w rp => q w H (Same.refl H) rp⟩
end
end Pz

/-! xs[k] = v, xs an own list -/
namespace Pz
open PySem PySem.Spec PyProof.Rows L2
section
variable {X : Cx} {R : Res} {Γ : List Slot} {γ : Type} {ec : γ → PyData} {pos : Pos}
def setO (xs : List γ) (k : Int) (y : γ) : Option (List γ) := (L2.ixN xs.length k).map fun j => xs.set j y
theorem q_stL (i : Nat) {x : Str} {p1 pos' : Pos} {ke ve : Expr} (xs : List γ) {mv : M γ} {mk : M Int} (he : EJ X R Γ ve ec mv) (hke : EJ X R Γ ke eInt mk) (hΓ : Γ[i]? = some (.ow (eL ec xs)) := by rfl) (hN : X.N[i]? = some x := by rfl)
    (hvis : Vis X.env.scope x := by first | exact Or.inl rfl | exact Or.inr (Or.inl rfl) | exact Or.inr (Or.inr rfl))
    (hd : (x == ("__debug__" : Str)) = false := by decide) (hcd : (x == ("__classdict__" : Str)) = false := by decide)
    (hs : swapsWithSole [.Subscript (.Name x p1) ke pos'] ve pos.line X.env = pure false := by rfl) (hw : swappedStores [.Subscript (.Name x p1) ke pos'] ve X.env = pure none := by rfl)
    (h1 : (assignEach [.Subscript (.Name x p1) ke pos'] X.env).map (·.2) = [assign (.Subscript (.Name x p1) ke pos') X.env] := by rfl)
    (ha : ∀ u, assign (.Subscript (.Name x p1) ke pos') X.env u = (do let ov ← holding [u] (eval (.Name x p1) X.env); let iv ← holding [u, ov] (eval ke X.env); standAt pos'; holding [u, ov, iv] (setItem ov iv u); release [u, ov, iv] []) := by intro _; rfl) :
    QJ X R Γ (.Assign [.Subscript (.Name x p1) ke pos'] ve pos) (fun ys => .nx (Γ.set i (.ow (eL ec ys)))) (bindM mv fun y => bindM mk fun k => optM (setO xs k y)) := by
  refine PS.weak (ps_asg he (pg_sub (pe_var hN hvis hd hcd) hke set_list ha) hs hw h1) fun D σ H ⟨O, H0, ow, st, z, st', rel, ok, e, q⟩ => ?_
  obtain ⟨y, s1, e1, e2⟩ := bind_some e
  obtain ⟨k, s2, e3, e4⟩ := bind_some e2
  obtain ⟨e5, rfl⟩ := optM_inv e4
  refine ⟨O, H0, ow, st, y, s1, rel, ok, e1, fun wv H1 k1 o1 r1 => ?_⟩
  have rel1 := rel.grow k1 (okZ o1)
  obtain ⟨hσ, ⟨vs, hp, rv⟩, nO, n0⟩ := rel1.how i _ hΓ
  refine ⟨_, hσ, O, H0, ow, s1, k, s2, rel1, o1, e3, fun wy H2 k2 o2 r2 => ?_⟩
  have rel2 := rel1.grow k2 (okZ o2)
  have hp2 : H2 (ow i) = some (.lst vs) := k2 _ _ (fun z => nO (rel1.zsub _ z)) hp
  have hl : vs.length = xs.length := by rw [rv.length, List.length_map]
  unfold setO at e5
  cases hj : L2.ixN xs.length k with
  | none => rw [hj] at e5; cases e5
  | some j =>
    rw [hj] at e5
    cases e5
    cases r2
    refine ⟨ow i, vs, k, j, rfl, rfl, hp2, by rw [hl]; exact hj, ?_⟩
    have rv2 : RpAll (avo O Γ ow) H2 (vs.set j wv) ((xs.set j y).map ec) := by
      rw [List.map_set]; exact (rv.keep (rel1.keepA k2)).set j (r1.keep (rel1.keepA k2))
    obtain ⟨r3, st3⟩ := rel2.updOw hΓ rv2
    exact q ow σ _ r3 (rel2.okUpd o2 hΓ) (st3.pre (rel.keepA (k1.trans k2)))
end
end Pz

/-! tuple(range(..)), list(range(..)); pairs that are sorted -/
namespace Pz
open PySem PySem.Spec PyProof.Rows L2
section
variable {X : Cx} {R : Res} {Γ : List Slot} {a b : Expr} {p pos p0 pos0 : Pos}
theorem rp_rg {A : Av} {H : Hp} (lo hi : Int) : RpAll A H (rgV lo hi) ((irange lo hi).map eInt) := by
  unfold rgV irange
  rw [List.map_map]
  generalize List.range (hi - lo).toNat = xs
  induction xs with
  | nil => exact .nil
  | cons x xs ih => exact .cons (.int _) ih
theorem e_tupRg1 {m : M Int} (hm0 : X.mg "tuple" = none) (hm : X.mg "range" = none) (ha : EJ X R Γ a eInt m) (hc : X.calm = true := by rfl) (hg0 : Gl X "tuple" := by rfl) (hg : Gl X "range" := by rfl) (hs : starEach [a] X.env = (false, eval a X.env) :: starEach [] X.env := by rfl)
    (na : starEach [.Call (.Name "range" p) [a] [] pos] X.env = (false, eval (.Call (.Name "range" p) [a] [] pos) X.env) :: starEach [] X.env := by rfl) :
    EJ X R Γ (.Call (.Name "tuple" p0) [.Call (.Name "range" p) [a] [] pos] [] pos0) (eT eInt) (bindM m fun n => rangeM 0 n) := by
  refine PE.weak (pe_tupRg hc hg0 hm0 (prg_1 hg hm ha hs) na) fun σ H Q ⟨O, H0, ow, st, z, st', rel, ok, e, q⟩ => ?_
  obtain ⟨n, s1, e1, e2⟩ := bind_some e
  unfold rangeM at e2
  obtain ⟨⟨h1, h2, h3, h4, h5⟩, rfl, rfl⟩ := if_some e2
  have hz := sizeLine_eq
  refine ⟨O, H0, ow, st, n, s1, rel, ok, e1, fun v H1 k o rp => ?_⟩
  have rel1 := rel.grow k (okZ o)
  cases rp
  refine ⟨n, rfl, ⟨by omega, by omega, by omega, by omega, by omega⟩, fun c nc => q _ _ (k.trans (Keep.of_same (same_new nc))) (o.same (same_new nc)) (.tup (fun hA => (rel1.adom hA).1 nc) upd_same (rp_rg 0 n))⟩
theorem e_tupRg2 {ma mb : M Int} (hm0 : X.mg "tuple" = none) (hm : X.mg "range" = none) (ha : EJ X R Γ a eInt ma) (hb : EJ X R Γ b eInt mb) (hc : X.calm = true := by rfl) (hg0 : Gl X "tuple" := by rfl) (hg : Gl X "range" := by rfl)
    (hs : starEach [a, b] X.env = (false, eval a X.env) :: starEach [b] X.env := by rfl) (hs2 : starEach [b] X.env = (false, eval b X.env) :: starEach [] X.env := by rfl)
    (na : starEach [.Call (.Name "range" p) [a, b] [] pos] X.env = (false, eval (.Call (.Name "range" p) [a, b] [] pos) X.env) :: starEach [] X.env := by rfl) :
    EJ X R Γ (.Call (.Name "tuple" p0) [.Call (.Name "range" p) [a, b] [] pos] [] pos0) (eT eInt) (bindM ma fun lo => bindM mb fun hi => rangeM lo hi) := by
  refine PE.weak (pe_tupRg hc hg0 hm0 (prg_2 hg hm ha hb hs hs2 (hp := by rw [hs2]; rfl)) na) fun σ H Q ⟨O, H0, ow, st, z, st', rel, ok, e, q⟩ => ?_
  obtain ⟨lo, s1, e1, e'⟩ := bind_some e
  obtain ⟨hi, s2, e2, e3⟩ := bind_some e'
  unfold rangeM at e3
  obtain ⟨⟨h1, h2, h3, h4, h5⟩, rfl, rfl⟩ := if_some e3
  have hz := sizeLine_eq
  refine ⟨O, H0, ow, st, lo, s1, rel, ok, e1, fun v H1 k o rp => ?_⟩
  have rel1 := rel.grow k (okZ o)
  cases rp
  refine ⟨O, H0, ow, s1, hi, s2, rel1, o, e2, fun v H2 k2 o2 rp => ?_⟩
  have rel2 := rel1.grow k2 (okZ o2)
  cases rp
  refine ⟨lo, hi, rfl, rfl, ⟨by omega, by omega, by omega, by omega, by omega⟩, fun c nc => q _ _ ((k.trans k2).trans (Keep.of_same (same_new nc))) (o2.same (same_new nc)) (.tup (fun hA => (rel2.adom hA).1 nc) upd_same (rp_rg lo hi))⟩
theorem f_lstRg1 {m : M Int} (hm0 : X.mg "list" = none) (hm : X.mg "range" = none) (ha : EJ X R Γ a eInt m) (hc : X.calm = true := by rfl) (hg0 : Gl X "list" := by rfl) (hg : Gl X "range" := by rfl) (hs : starEach [a] X.env = (false, eval a X.env) :: starEach [] X.env := by rfl)
    (na : starEach [.Call (.Name "range" p) [a] [] pos] X.env = (false, eval (.Call (.Name "range" p) [a] [] pos) X.env) :: starEach [] X.env := by rfl) :
    EF X R Γ (.Call (.Name "list" p0) [.Call (.Name "range" p) [a] [] pos] [] pos0) eInt (bindM m fun n => rangeM 0 n) := by
  refine PE.weak (pe_listRg hc hg0 hm0 (prg_1 hg hm ha hs) na) fun σ H Q ⟨O, H0, ow, st, z, st', rel, ok, e, q⟩ => ?_
  obtain ⟨n, s1, e1, e2⟩ := bind_some e
  unfold rangeM at e2
  obtain ⟨⟨h1, h2, h3, h4, h5⟩, rfl, rfl⟩ := if_some e2
  have hz := sizeLine_eq
  refine ⟨O, H0, ow, st, n, s1, rel, ok, e1, fun v H1 k o rp => ?_⟩
  cases rp
  exact ⟨n, rfl, ⟨by omega, by omega, by omega, by omega, by omega⟩, fun c nc => q c _ _ (noneK k o nc) (k.trans (Keep.of_same (same_new nc))) (o.same (same_new nc)) upd_same (rp_rg 0 n)⟩
end
section
variable {α β : Type} {ea : α → PyData} {eb : β → PyData}
theorem SrtA.pair (h1 : ∀ x y, PySem.W.alike (ea x) (ea y) = true) (h2 : ∀ x y, PySem.W.alike (eb x) (eb y) = true) (d1 : ∀ x, (ea x).depth ≤ 50) (d2 : ∀ x, (eb x).depth ≤ 50) : SrtA (eP (eC ea (eC eb eU))) :=
  ⟨fun x y => by simp [eP, eC, eU, PySem.W.alike, PySem.W.alikeAll, h1, h2], .inl fun x => ⟨_, rfl⟩, fun x => by
    have := d1 x.1
    have := d2 x.2.1
    simp only [eP, eC, eU, PyData.depth, PyData.depthAll]
    omega⟩
theorem row_depth (x : List Int) : (eT eInt x).depth ≤ 50 := by
  have := depthAll_of (ea := eInt) (n := 0) (fun x => by simp [eInt, PyData.depth]) x
  simp only [eT, PyData.depth]
  omega
theorem int_depth (x : Int) : (eInt x).depth ≤ 50 := by simp [eInt, PyData.depth]
theorem SrtA.ir : SrtA (eP (eC eInt (eC (eT eInt) eU))) := SrtA.pair SrtA.ints.alike SrtA.rows.alike int_depth row_depth
theorem SrtA.rr : SrtA (eP (eC (eT eInt) (eC (eT eInt) eU))) := SrtA.pair SrtA.rows.alike SrtA.rows.alike row_depth row_depth
theorem SrtA.ii : SrtA (eP (eC eInt (eC eInt eU))) := SrtA.pair SrtA.ints.alike SrtA.ints.alike int_depth int_depth
end
end Pz

/-! a, d = value, a new own dict -/
namespace Pz
open PySem PySem.Spec PyProof.Rows L2
section
variable {X : Cx} {R : Res} {Γ : List Slot} {α κ ν : Type} {ea : α → PyData} {ek : κ → PyData} {ev : ν → PyData} {pos : Pos}
theorem q_par2d (i j : Nat) {x y : Str} {a b : Expr} {px py pt : Pos} {kt k2 pt2} {ma : M α} {mb : M (List (κ × ν × Unit))} (ha : EJ X R Γ a ea ma) (hb : DJ X R Γ b ek ev mb) (hc : X.calm = true) (hN : X.N.Nodup) (hi : X.N[i]? = some x := by rfl) (hj : X.N[j]? = some y := by rfl) (hij : i ≠ j := by decide)
    (hx : X.env.scope.names.lookup x = some .local := by rfl) (hy : X.env.scope.names.lookup y = some .local := by rfl)
    (hw : swappedStores [.Tuple [.Name x px, .Name y py] kt pt] (.Tuple [a, b] k2 pt2) X.env = pure (some [x, y]) := by rfl)
    (hs : swapsWithSole [.Tuple [.Name x px, .Name y py] kt pt] (.Tuple [a, b] k2 pt2) pos.line X.env = pure false := by rfl)
    (hs1 : starEach [a, b] X.env = (false, eval a X.env) :: starEach [b] X.env := by rfl) (hs2 : starEach [b] X.env = (false, eval b X.env) :: starEach [] X.env := by rfl) :
    QJ X R Γ (.Assign [.Tuple [.Name x px, .Name y py] kt pt] (.Tuple [a, b] k2 pt2) pos) (fun p : α × List (κ × ν × Unit) => .nx ((Γ.set i (.fz (ea p.1))).set j (.ow (eM ek ev p.2)))) (bindM ma fun u => bindM mb fun v => pureM (u, v)) := by
  refine PS.weak (ps_par hc hN hi hj hij hx hy (pa_cons ha (pa_cons hb pa_nil hs2) hs1) hw hs) fun D σ H ⟨O, H0, ow, st, z, st', rel, ok, e, q⟩ => ?_
  obtain ⟨u, s1, e1, e2⟩ := bind_some e
  obtain ⟨v, s2, e3, e4⟩ := bind_some e2
  obtain ⟨rfl, rfl⟩ := pure_some e4
  refine ⟨O, H0, ow, st, u, s1, rel, ok, e1, fun vx H1 k1 o1 r1 => ?_⟩
  have rel1 := rel.grow k1 (okZ o1)
  refine ⟨O, H0, ow, s1, v, s2, rel1, o1, e3, fun p w H2 n2 k2 o2 ep hd => ?_⟩
  have relx := rel1.setFz i r1
  have less : ∀ a, avo O (Γ.set i (.fz (ea u))) ow a → avo O Γ ow a := fun a z => by
    rcases z with z | ⟨l, d, e5, e6⟩
    · exact .inl z
    · exact .inr ⟨l, d, set_noow _ _ e5, e6⟩
  obtain ⟨rel2, stp⟩ := relx.setOwD j n2 k2 (okZ o2) ep hd
  refine ⟨vx, .ref p, rfl, q _ _ H2 rel2 o2 ⟨?_, fun l d e5 => ?_⟩⟩
  · exact rel.keepA (k1.trans k2)
  · rcases stp.sub l d e5 with z | z
    · exact .inl (less _ z)
    · by_cases na : avo O Γ ow ((fun l => if l = j then p else ow l) l)
      · exact .inl na
      · cases h : H ((fun l => if l = j then p else ow l) l) with
        | none => exact .inr rfl
        | some o =>
          have := rel.keepA k1 _ _ na h
          rw [this] at z; cases z
end
end Pz

/-! families that keep unions: lots led to lots, points in half -/
namespace Pz
open PySem PySem.Spec PyProof.Rows L2
section
variable {n : Int} {L : List (List Int)} (hL : ∀ A ∈ L, Lot n A) (hn : L.Nodup)
include hL hn
/-- lots apart from D, united with it -/
theorem led_len {D : List Int} (hD : Lot n D) (P Q : List Int → Bool) (h : ∀ A ∈ L, P A = true → uni A D ∈ L ∧ Q (uni A D) = true ∧ ∀ z ∈ A, z ∉ D) : (L.filter P).length ≤ (L.filter Q).length := by
  have e : ((L.filter P).map fun A => uni A D).length = (L.filter P).length := List.length_map _
  rw [← e]
  refine List.Nodup.length_le_of_subset ?_ fun B hB => ?_
  · rw [List.Nodup, List.pairwise_map]
    refine (hn.filter _).imp_of_mem fun {A B} hA hB ne q => ne ?_
    obtain ⟨a1, a2⟩ := List.mem_filter.mp hA
    obtain ⟨b1, b2⟩ := List.mem_filter.mp hB
    obtain ⟨_, _, ha⟩ := h A a1 a2
    obtain ⟨_, _, hb⟩ := h B b1 b2
    refine (hL A a1).ext (hL B b1) fun x => ?_
    have : x ∈ uni A D ↔ x ∈ uni B D := by rw [q]
    rw [mem_uni, mem_uni] at this
    by_cases d : x ∈ D
    · exact ⟨fun z => absurd d (ha x z), fun z => absurd d (hb x z)⟩
    · simpa [d] using this
  · obtain ⟨A, hA, rfl⟩ := List.mem_map.mp hB
    obtain ⟨a1, a2⟩ := List.mem_filter.mp hA
    obtain ⟨h1, h2, _⟩ := h A a1 a2
    exact List.mem_filter.mpr ⟨h1, h2⟩
end
theorem filter_parts {α : Type} (c : α → Bool) : ∀ L : List α, (L.filter c).length + (L.filter fun x => !c x).length = L.length
  | [] => rfl
  | x :: L => by
    have := filter_parts c L
    cases h : c x
    · rw [List.filter_cons_of_neg (by rw [h]; simp), List.filter_cons_of_pos (by rw [h]; rfl)]
      simp only [List.length_cons]; omega
    · rw [List.filter_cons_of_pos h, List.filter_cons_of_neg (by rw [h]; simp)]
      simp only [List.length_cons]; omega
def inN (x : Int) (L : List (List Int)) : Nat := (L.filter fun A => memB x A).length
section
variable {n : Int} {L : List (List Int)} (hL : ∀ A ∈ L, Lot n A) (hn : L.Nodup) (hu : ∀ a ∈ L, ∀ b ∈ L, uni a b ∈ L)
include hL hn hu
theorem half_apart {D : List Int} (hD : D ∈ L) {x : Int} (hx : x ∈ D) (h : ∀ A ∈ L, x ∉ A → ∀ z ∈ A, z ∉ D) : L.length ≤ 2 * inN x L := by
  have a := led_len hL hn (hL D hD) (fun A => !memB x A) (fun A => memB x A) fun A hA hP => by
    simp only [Bool.not_eq_true', memB_not] at hP
    exact ⟨hu A hA D hD, memB_iff.mpr (mem_uni.mpr (.inr hx)), h A hA hP⟩
  have b := filter_parts (fun A => memB x A) L
  unfold inN
  omega
/-- (a) -/
theorem half_one {x : Int} (h : [x] ∈ L) : L.length ≤ 2 * inN x L := half_apart hL hn hu h (by simp) fun A _ hx z hz e => by
  rw [List.mem_singleton.mp e] at hz; exact hx hz
/-- (b) -/
theorem half_two {x y : Int} (h : [x, y] ∈ L) : L.length ≤ 2 * inN x L ∨ L.length ≤ 2 * inN y L := by
  have a := led_len hL hn (hL _ h) (fun A => !memB x A && !memB y A) (fun A => memB x A && memB y A) fun A hA hP => by
    simp only [Bool.and_eq_true, Bool.not_eq_true', memB_not] at hP
    refine ⟨hu A hA _ h, by simp only [Bool.and_eq_true, memB_iff]; exact ⟨mem_uni.mpr (.inr (by simp)), mem_uni.mpr (.inr (by simp))⟩, fun z hz e => ?_⟩
    rcases List.mem_cons.mp e with q | q
    · rw [q] at hz; exact hP.1 hz
    · rw [List.mem_singleton.mp q] at hz; exact hP.2 hz
  have key : ∀ M : List (List Int), (M.filter fun A => memB x A).length + (M.filter fun A => memB y A).length + (M.filter fun A => !memB x A && !memB y A).length = M.length + (M.filter fun A => memB x A && memB y A).length := by
    intro M
    induction M with
    | nil => rfl
    | cons A M ih =>
      simp only [List.filter_cons]
      cases memB x A <;> cases memB y A <;> simp <;> omega
  have := key L
  unfold inN
  omega
end
theorem sum_inN {n : Int} : ∀ {L : List (List Int)}, (∀ A ∈ L, Lot n A) → ((irange 0 n).map fun x => inN x L).sum = (L.map List.length).sum
  | [], _ => by
    show ((irange 0 n).map fun x => 0).sum = 0
    generalize irange 0 n = xs
    induction xs with
    | nil => rfl
    | cons x xs ih => rw [List.map_cons, List.sum_cons, ih]; rfl
  | A :: L, h => by
    have ih := sum_inN fun B hB => h B (List.mem_cons_of_mem _ hB)
    rw [List.map_cons, List.sum_cons, ← ih]
    have e : ∀ xs : List Int, (xs.map fun x => inN x (A :: L)).sum = (xs.filter fun x => memB x A).length + (xs.map fun x => inN x L).sum := by
      intro xs
      induction xs with
      | nil => rfl
      | cons x xs ih =>
        rw [List.map_cons, List.sum_cons, ih, List.map_cons, List.sum_cons]
        unfold inN
        rw [List.filter_cons, List.filter_cons]
        cases memB x A <;> simp <;> omega
    rw [e]
    congr 2
    have hA := h A List.mem_cons_self
    exact ((lot_irange (n := n)).sub List.filter_sublist).ext hA fun x => by
      rw [List.mem_filter, mem_irange, memB_iff]
      exact ⟨fun h => h.2, fun h => ⟨hA.2 x h, h⟩⟩
/-- (c) -/
theorem half_sizes {n : Nat} {L : List (List Int)} (hL : ∀ A ∈ L, Lot n A) (h1 : 1 ≤ n) (h : L.length * n ≤ 2 * (L.map List.length).sum) : ∃ x : Int, 0 ≤ x ∧ x < n ∧ L.length ≤ 2 * inN x L := by
  rw [← sum_inN hL] at h
  by_cases q : ∃ x : Int, 0 ≤ x ∧ x < n ∧ L.length ≤ 2 * inN x L
  · exact q
  · exfalso
    have all : ∀ x ∈ irange 0 (n : Int), 2 * inN x L + 1 ≤ L.length := fun x hx => by
      rw [mem_irange] at hx
      by_cases z : L.length ≤ 2 * inN x L
      · exact absurd ⟨x, hx.1, hx.2, z⟩ q
      · omega
    have : ∀ xs : List Int, (∀ x ∈ xs, 2 * inN x L + 1 ≤ L.length) → 2 * (xs.map fun x => inN x L).sum + xs.length ≤ xs.length * L.length := by
      intro xs
      induction xs with
      | nil => intro _; simp
      | cons x xs ih =>
        intro hx
        have a := ih fun y hy => hx y (List.mem_cons_of_mem _ hy)
        have b := hx x List.mem_cons_self
        rw [List.map_cons, List.sum_cons, List.length_cons, Nat.add_mul, Nat.one_mul]
        omega
    have := this _ all
    rw [length_irange] at this
    have e : ((n : Int) - 0).toNat = n := by omega
    rw [e] at this
    have := Nat.mul_comm n L.length
    omega
end Pz

/-! closing by common parts and unions, lap by lap: six laps are enough for five points -/
namespace Pz
open PySem PySem.Spec PyProof.Rows L2
def both (a b : List Int) : List Int := a.filter fun x => memB x b
theorem mem_both {a b : List Int} {x : Int} : x ∈ both a b ↔ x ∈ a ∧ x ∈ b := by
  unfold both
  rw [List.mem_filter, memB_iff]
theorem both_lot {n : Int} {a b : List Int} (ha : Lot n a) : Lot n (both a b) := ha.sub List.filter_sublist
structure Laps (n : Int) (F : List (List Int)) (K : Nat → List Int → Prop) : Prop where
  zero : ∀ X, K 0 X ↔ X ∈ F
  mono : ∀ t X, K t X → K (t + 1) X
  meet : ∀ t X Y, K t X → K t Y → K (t + 1) (both X Y)
  join : ∀ t X Y, K t X → K t Y → K (t + 1) (uni X Y)
  from_ : ∀ t X, K (t + 1) X → K t X ∨ ∃ a b, K t a ∧ K t b ∧ (X = both a b ∨ X = uni a b)
section
variable {n : Int} {F : List (List Int)} {K : Nat → List Int → Prop} (P : Laps n F K) (hF : ∀ A ∈ F, Lot n A) (n5 : n ≤ 5)
include P hF
theorem laps_lot : ∀ t X, K t X → Lot n X
  | 0, X, h => hF X ((P.zero X).mp h)
  | t + 1, X, h => by
    rcases P.from_ t X h with q | ⟨a, b, ha, hb, q | q⟩
    · exact laps_lot t X q
    · rw [q]; exact both_lot (laps_lot t a ha)
    · rw [q]; exact uni_lot (laps_lot t a ha) (laps_lot t b hb)
/-- the least set with x -/
def least (F : List (List Int)) (x y : Int) : Prop := ∀ A ∈ F, x ∈ A → y ∈ A
/-- what all laps keep -/
def Keeps (F : List (List Int)) (X : List Int) : Prop := (∀ x ∈ X, (∃ A ∈ F, x ∈ A) ∧ ∀ y, least F x y → y ∈ X) ∧ (X = [] → ∀ y, ∃ A ∈ F, y ∉ A)
omit P hF in
theorem keeps_both {X Y : List Int} (hX : Keeps F X) (hY : Keeps F Y) : Keeps F (both X Y) := by
  refine ⟨fun x hx => ?_, fun e y => ?_⟩
  · obtain ⟨h1, h2⟩ := mem_both.mp hx
    exact ⟨(hX.1 x h1).1, fun y hy => mem_both.mpr ⟨(hX.1 x h1).2 y hy, (hY.1 x h2).2 y hy⟩⟩
  · by_cases q : ∃ A ∈ F, y ∉ A
    · exact q
    · exfalso
      have all : ∀ A ∈ F, y ∈ A := fun A hA => by
        by_cases z : y ∈ A
        · exact z
        · exact absurd ⟨A, hA, z⟩ q
      have none : ∀ z, z ∈ both X Y → False := fun z hz => by rw [e] at hz; cases hz
      cases X with
      | nil => obtain ⟨A, hA, z⟩ := hX.2 rfl y; exact z (all A hA)
      | cons x X =>
        cases Y with
        | nil => obtain ⟨A, hA, z⟩ := hY.2 rfl y; exact z (all A hA)
        | cons w Y =>
          exact none y (mem_both.mpr ⟨(hX.1 x List.mem_cons_self).2 y fun A hA _ => all A hA, (hY.1 w List.mem_cons_self).2 y fun A hA _ => all A hA⟩)
omit P hF in
theorem keeps_uni {X Y : List Int} (hX : Keeps F X) (hY : Keeps F Y) : Keeps F (uni X Y) := by
  refine ⟨fun x hx => ?_, fun e y => ?_⟩
  · rcases mem_uni.mp hx with h | h
    · exact ⟨(hX.1 x h).1, fun y hy => mem_uni.mpr (.inl ((hX.1 x h).2 y hy))⟩
    · exact ⟨(hY.1 x h).1, fun y hy => mem_uni.mpr (.inr ((hY.1 x h).2 y hy))⟩
  · refine hX.2 ?_ y
    cases X with
    | nil => rfl
    | cons x X =>
      have : x ∈ uni (x :: X) Y := mem_uni.mpr (.inl List.mem_cons_self)
      rw [e] at this; cases this
theorem laps_keep : ∀ t X, K t X → Keeps F X
  | 0, X, h => by
    have hX := (P.zero X).mp h
    exact ⟨fun x hx => ⟨⟨X, hX, hx⟩, fun y hy => hy X hX hx⟩, fun e y => ⟨X, hX, by rw [e]; simp⟩⟩
  | t + 1, X, h => by
    rcases P.from_ t X h with q | ⟨a, b, ha, hb, q | q⟩
    · exact laps_keep t X q
    · rw [q]; exact keeps_both (laps_keep t a ha) (laps_keep t b hb)
    · rw [q]; exact keeps_uni (laps_keep t a ha) (laps_keep t b hb)
theorem five_meet {t : Nat} {f : Int → List Int} (h : ∀ y, 0 ≤ y → y < 5 → K t (f y)) : ∃ X, K (t + 3) X ∧ ∀ z, z ∈ X ↔ ∀ y, 0 ≤ y → y < 5 → z ∈ f y := by
  have a := P.meet t _ _ (h 0 (by decide) (by decide)) (h 1 (by decide) (by decide))
  have b := P.meet t _ _ (h 2 (by decide) (by decide)) (h 3 (by decide) (by decide))
  have c := P.meet _ _ _ a b
  have d := P.meet _ _ _ c (P.mono _ _ (P.mono _ _ (h 4 (by decide) (by decide))))
  refine ⟨_, d, fun z => ?_⟩
  simp only [mem_both]
  constructor
  · rintro ⟨⟨⟨h0, h1⟩, h2, h3⟩, h4⟩ y y0 y5
    obtain rfl | rfl | rfl | rfl | rfl : y = 0 ∨ y = 1 ∨ y = 2 ∨ y = 3 ∨ y = 4 := by omega
    · exact h0
    · exact h1
    · exact h2
    · exact h3
    · exact h4
  · intro q
    exact ⟨⟨⟨q 0 (by decide) (by decide), q 1 (by decide) (by decide)⟩, q 2 (by decide) (by decide), q 3 (by decide) (by decide)⟩, q 4 (by decide) (by decide)⟩
theorem five_join {t : Nat} {f : Int → List Int} (h : ∀ y, 0 ≤ y → y < 5 → K t (f y)) : ∃ X, K (t + 3) X ∧ ∀ z, z ∈ X ↔ ∃ y, 0 ≤ y ∧ y < 5 ∧ z ∈ f y := by
  have a := P.join t _ _ (h 0 (by decide) (by decide)) (h 1 (by decide) (by decide))
  have b := P.join t _ _ (h 2 (by decide) (by decide)) (h 3 (by decide) (by decide))
  have c := P.join _ _ _ a b
  have d := P.join _ _ _ c (P.mono _ _ (P.mono _ _ (h 4 (by decide) (by decide))))
  refine ⟨_, d, fun z => ?_⟩
  simp only [mem_uni]
  constructor
  · rintro (((q | q) | q | q) | q)
    · exact ⟨0, by decide, by decide, q⟩
    · exact ⟨1, by decide, by decide, q⟩
    · exact ⟨2, by decide, by decide, q⟩
    · exact ⟨3, by decide, by decide, q⟩
    · exact ⟨4, by decide, by decide, q⟩
  · rintro ⟨y, y0, y5, q⟩
    obtain rfl | rfl | rfl | rfl | rfl : y = 0 ∨ y = 1 ∨ y = 2 ∨ y = 3 ∨ y = 4 := by omega
    · exact .inl (.inl (.inl q))
    · exact .inl (.inl (.inr q))
    · exact .inl (.inr (.inl q))
    · exact .inl (.inr (.inr q))
    · exact .inr q
include n5
theorem least_there {x : Int} (h : ∃ A ∈ F, x ∈ A) : ∃ X, K 3 X ∧ ∀ z, z ∈ X ↔ least F x z := by
  have pick : ∀ y : Int, ∃ A ∈ F, x ∈ A ∧ (y ∈ A → least F x y) := fun y => by
    by_cases q : ∃ A ∈ F, x ∈ A ∧ y ∉ A
    · obtain ⟨A, a1, a2, a3⟩ := q
      exact ⟨A, a1, a2, fun z => absurd z a3⟩
    · obtain ⟨A, a1, a2⟩ := h
      refine ⟨A, a1, a2, fun _ B hB hx => ?_⟩
      by_cases z : y ∈ B
      · exact z
      · exact absurd ⟨B, hB, hx, z⟩ q
  have ⟨f, hf⟩ := Classical.axiomOfChoice pick
  obtain ⟨X, hX, hz⟩ := five_meet P hF (t := 0) (f := f) fun y _ _ => (P.zero _).mpr (hf y).1
  refine ⟨X, hX, fun z => ?_⟩
  rw [hz]
  constructor
  · intro q
    have z5 : 0 ≤ z ∧ z < 5 := by
      have := q 0 (by decide) (by decide)
      have := (hF _ (hf 0).1).2 z this
      omega
    exact (hf z).2.2 (q z z5.1 z5.2)
  · intro q y _ _
    exact q _ (hf y).1 (hf y).2.1
theorem keeps_there {X : List Int} (hX : Lot n X) (h : Keeps F X) : K 6 X := by
  have up : ∀ {X}, K 3 X → K 6 X := fun q => P.mono _ _ (P.mono _ _ (P.mono _ _ q))
  cases X with
  | nil =>
    have ⟨f, hf⟩ := Classical.axiomOfChoice (h.2 rfl)
    obtain ⟨Y, hY, hz⟩ := five_meet P hF (t := 0) (f := f) fun y _ _ => (P.zero _).mpr (hf y).1
    have : Y = [] := by
      cases Y with
      | nil => rfl
      | cons z Y =>
        exfalso
        have q := (hz z).mp List.mem_cons_self
        have z5 : 0 ≤ z ∧ z < 5 := by
          have := (hF _ (hf 0).1).2 z (q 0 (by decide) (by decide))
          omega
        exact (hf z).2 (q z z5.1 z5.2)
    rw [this] at hY
    exact up hY
  | cons x0 X =>
    have pick : ∀ y : Int, ∃ M, K 3 M ∧ (∀ z ∈ M, z ∈ x0 :: X) ∧ (y ∈ x0 :: X → y ∈ M) := fun y => by
      by_cases q : y ∈ x0 :: X
      · obtain ⟨h1, h2⟩ := h.1 y q
        obtain ⟨M, m1, m2⟩ := least_there P hF n5 h1
        exact ⟨M, m1, fun z hz => h2 z ((m2 z).mp hz), fun _ => (m2 y).mpr fun A _ hy => hy⟩
      · obtain ⟨h1, h2⟩ := h.1 x0 List.mem_cons_self
        obtain ⟨M, m1, m2⟩ := least_there P hF n5 h1
        exact ⟨M, m1, fun z hz => h2 z ((m2 z).mp hz), fun z => absurd z q⟩
    have ⟨f, hf⟩ := Classical.axiomOfChoice pick
    obtain ⟨Y, hY, hz⟩ := five_join P hF (t := 3) (f := f) fun y _ _ => (hf y).1
    have e : Y = x0 :: X := (laps_lot P hF _ _ hY).ext hX fun z => by
      rw [hz]
      constructor
      · rintro ⟨y, _, _, q⟩; exact (hf y).2.1 z q
      · intro q
        have := hX.2 z q
        exact ⟨z, this.1, by omega, (hf z).2.2 q⟩
    rw [← e]
    exact hY
theorem laps_closed {a b : List Int} (ha : K 6 a) (hb : K 6 b) : K 6 (both a b) ∧ K 6 (uni a b) := by
  have la := laps_lot P hF _ _ ha
  have lb := laps_lot P hF _ _ hb
  have ka := laps_keep P hF _ _ ha
  have kb := laps_keep P hF _ _ hb
  exact ⟨keeps_there P hF n5 (both_lot la) (keeps_both ka kb), keeps_there P hF n5 (uni_lot la lb) (keeps_uni ka kb)⟩
end
end Pz

namespace Lw
open PySem PySem.Spec PyProof.Rows L2 Pz
def topS (i : Nat) : Stmt := PySem.Challenge.pw_lotsoflots_k92_whole_points_in_half.main.body.getD i (.Pass ⟨0, 0, 0, 0⟩)
abbrev sSource : Stmt := topS 23
abbrev sPick : Stmt := topS 24
theorem scPick : FnScope ["source", "most", "cells", "others", "lap", "stirred"] ["source", "most"] (defScope sPick) := ⟨rfl, rfl, rfl, by decide +kernel, rfl, by decide +kernel, by decide +kernel⟩
section
variable {P : Program} {w : World} {K : PySem.W.Frag} {mg : Str → Option Value} {base : Heap}
theorem ok_pick {f : Addr} {fd : FuncData} (F : Fun K "_law_pick" "_law_pick" sPick f fd) (mlen : mg "len" = none) (mint : mg "int" = none) :
    FnG P w K mg base 1 f fd ["source", "most"] (SpM (fun p : Int × Unit => [.src, .fz (eInt p.1)]) eInt (fun p => pickM p.1)) := by
  refine g_def F scPick (fun vs H Q E ⟨R, O, a, st, r, st', _, _, _, h, _⟩ => by rw [h.length]; rfl) (fun cdv A above s H vs Q E hG hr h => ?_)
  obtain ⟨R, O, ⟨most, u⟩, st, r, st', hz, hd, ok, hl, e, q⟩ := h
  have hu := hu_of hr
  cases hl with
  | cons h1 h2 =>
  cases h2 with
  | cons h2 h3 =>
  cases h3
  obtain ⟨a, c, rfl, rfl⟩ := h1
  cases (show Rp O H _ (.int most) from h2)
  have nac : a ≠ c := (show SrcAt a c st H from ok).ne
  have done : ∀ z v H', pickM most st = some (z, v) → okR (some (a, c)) v H' → Keep (Zr (some (a, c))) H H' → Q (.int z) H' := fun z v H' e1 o1 k1 => by
    have e2 : some (z, v) = some (r, st') := e1.symm.trans e
    cases e2
    exact q _ H' k1 o1 (.int _)
  refine ⟨_, pss_cons (ps_if (pt_cmpR op_lt (pv 1) pe_int (nomark _)) (pss_one (ps_ret pe_int)) pss_nil)
    (pss_cons (ps_set (i := 2) scPick.nd rfl (.inl rfl) (pe_dget hu (pv 0) pe_str (fun _ _ => rfl)))
    (pss_cons (ps_while PassesOwn.never (PW.pt (pw_and (pt_cmpR op_lt (pe_dget hu (pv 0) pe_str (fun _ _ => rfl)) pe_int (nomark _)) (pw_and1 (pt_cmpR op_gt (pe_callB call_len_seq (by rfl) mlen PySem.boot_len (pa_cons (pv 2) pa_nil)) pe_int (nomark _)))))
      (pss_one (ps_dput hu (pv 0) pe_str (pe_bm0 PySem.F.plainAttrs_list PySem.F.slot_list_pop PySem.F.type_list_pop mt_pop (pv 2)) rfl)))
    (PSs.weak (t' := if 2 ≤ most ∧ most < 1073741824 then tDrawn a c most st H Q else fun _ _ _ => False) (pss_cons (ps_set (i := 3) scPick.nd rfl (.inl rfl) (pe_dget hu (pv 0) pe_str (fun _ _ => rfl)))
    (pss_cons (ps_if (pt_cmpR op_gt (pv 3) pe_int (nomark _)) (pss_cons (ps_dput hu (pv 0) pe_str (pe_op op_fdivN (pv 3) (pv 1)) rfl)
        (pss_one (ps_ret (pe_op op_modN (pe_callTy call_int1 (by rfl) mint (by decide +kernel) (pa_cons (pv 3) pa_nil)) (pv 1))))) pss_nil)
    (pss_cons (ps_dput hu (pv 0) pe_str (pe_op op_add (pe_dget hu (pv 0) pe_str (fun _ _ => rfl)) pe_int) rfl)
    (pss_cons (ps_set (i := 4) scPick.nd rfl (.inl rfl) (pe_dget hu (pv 0) pe_str (fun _ _ => rfl)))
    (pss_cons (ps_set (i := 5) scPick.nd rfl (.inl rfl) (pe_op op_modN (pe_callTy call_int1 (by rfl) mint (by decide +kernel) (pa_cons (pe_op op_add (pe_dget hu (pv 0) pe_str (fun _ _ => rfl)) (pe_op op_mul (pv 4) pe_int)) pa_nil)) pe_int))
    (pss_cons (ps_set (i := 5) scPick.nd rfl (.inl rfl) (pe_op op_modN (pe_callTy call_int1 (by rfl) mint (by decide +kernel) (pa_cons (pe_op op_add (pe_op op_mul (pv 5) (pv 5)) (pe_op op_mul (pv 4) pe_int)) pa_nil)) pe_int))
    (pss_one (ps_ret (pe_op op_modN (pe_callTy call_int1 (by rfl) mint (by decide +kernel) (pa_cons (pe_op op_fdivN (pv 5) pe_int) pa_nil)) (pv 1)))))))))) (fun D σ H' hT => ?tail)))), ?_⟩
  case tail =>
    by_cases hm : 2 ≤ most ∧ most < 1073741824
    · rw [if_pos hm] at hT
      obtain ⟨cs, l, rfl, hS, hC, hdr, kH, back⟩ := hT
      have hp : pickM most st = (if 1 < l then some (l.fmod most, ⟨cs, l.fdiv most, st.mixed, st.turn⟩) else
          some (((((((st.mixed + (st.turn + 1) * 104729).fmod 998244353) * ((st.mixed + (st.turn + 1) * 104729).fmod 998244353) + (st.turn + 1) * 17).fmod 2147483647).fdiv 16).fmod most), ⟨cs, l, st.mixed, st.turn + 1⟩)) := by
        unfold pickM
        rw [if_neg (by omega), if_neg (by omega), hdr]
      have kA : ∀ (H1 : Hp) (o : HO), Keep (Zr (some (a, c))) H H1 → Keep (Zr (some (a, c))) H (upd H1 a o) := fun H1 o k b u n e => by rw [upd_ne (fun z => n (.inl z))]; exact k b u n e
      refine ⟨_, rfl, a, .int l, rfl, DGet.k (k := .inr "left") hS, ?_⟩
      refine ⟨_, rfl, _, _, rfl, rfl, _, rfl, ?_⟩
      by_cases h1 : 1 < l
      · rw [decide_eq_true h1]
        rw [if_pos h1] at hp
        refine iteT ⟨_, rfl, _, rfl, _, _, rfl, rfl, ⟨by omega, by omega⟩, _, rfl, a, _, rfl, DPut.k (k := .inr "left") hS (srcKv_few _ _ _ _), ?_⟩
        refine ⟨_, rfl, .inl ⟨_, rfl, _, rfl, _, _, rfl, rfl, by omega, back _ _ (done _ _ _ hp ?_ (kA _ _ kH))⟩⟩
        show SrcAt a c _ _
        exact ⟨by rw [upd_same]; rfl, by rw [upd_ne nac.symm]; exact hC, nac⟩
      · rw [decide_eq_false h1]
        rw [if_neg h1] at hp
        refine iteF ⟨_, rfl, a, _, rfl, DGet.k (k := .inr "turn") hS, _, _, rfl, rfl, _, rfl, a, _, rfl, DPut.k (k := .inr "turn") hS (srcKv_few _ _ _ _), ?_⟩
        have hS2 : (upd H' a (.dK (putK (srcKv c l st.mixed st.turn) (.inr "turn") (.int (st.turn + 1))))) a = some (.dK (srcKv c l st.mixed (st.turn + 1))) := by rw [upd_same]; rfl
        refine ⟨_, rfl, a, _, rfl, DGet.k (k := .inr "turn") hS2, ?_⟩
        refine ⟨_, rfl, a, _, rfl, DGet.k (k := .inr "mixed") hS2, _, rfl, _, _, rfl, rfl, .inr ⟨by decide, by decide⟩, _, _, rfl, rfl, .inl ⟨_, rfl, _, _, rfl, rfl, (by decide : (998244353 : Int) ≠ 0), ?_⟩⟩
        have b1 := Int.fmod_nonneg_of_pos (st.mixed + (st.turn + 1) * 104729) (b := 998244353) (by decide)
        have b2 := Int.fmod_lt_of_pos (st.mixed + (st.turn + 1) * 104729) (b := 998244353) (by decide)
        refine ⟨_, rfl, _, rfl, _, _, rfl, rfl, .inl ⟨by omega, by omega⟩, _, rfl, _, _, rfl, rfl, .inr ⟨by decide, by decide⟩, _, _, rfl, rfl, .inl ⟨_, rfl, _, _, rfl, rfl, (by decide : (2147483647 : Int) ≠ 0), ?_⟩⟩
        refine ⟨_, rfl, _, _, rfl, rfl, ⟨by decide, by decide⟩, .inl ⟨_, rfl, _, rfl, _, _, rfl, rfl, by omega, back _ _ (done _ _ _ hp ?_ (kA _ _ kH))⟩⟩
        show SrcAt a c _ _
        exact ⟨hS2, by rw [upd_ne nac.symm]; exact hC, nac⟩
    · rw [if_neg hm] at hT
      exact hT.elim
  have S0 : SrcAt a c st H := ok
  -- if most < 2
  refine ⟨_, rfl, _, _, rfl, rfl, _, rfl, ?_⟩
  by_cases h2 : most < 2
  · rw [decide_eq_true h2]
    exact iteT (done 0 st H (by unfold pickM; rw [if_pos h2]) ok (Keep.refl H))
  have hm : 2 ≤ most ∧ most < 1073741824 := by
    refine ⟨by omega, ?_⟩
    have e' : pickM most st = some (r, st') := e
    unfold pickM at e'
    rw [if_neg h2] at e'
    by_cases h3 : 1073741824 ≤ most
    · rw [if_pos h3] at e'; cases e'
    · omega
  rw [decide_eq_false h2]
  refine iteF ?_
  refine ⟨_, rfl, a, .ref c, rfl, DGet.k (k := .inr "cells") S0.dic, ?_⟩
  -- the loop
  have kA : ∀ (H1 : Hp) (o : HO), Keep (Zr (some (a, c))) H H1 → Keep (Zr (some (a, c))) H (upd H1 a o) := fun H1 o k b u n e => by rw [upd_ne (fun z => n (.inl z))]; exact k b u n e
  have kC : ∀ (H1 : Hp) (o : HO), Keep (Zr (some (a, c))) H H1 → Keep (Zr (some (a, c))) H (upd H1 c o) := fun H1 o k b u n e => by rw [upd_ne (fun z => n (.inr z))]; exact k b u n e
  refine ⟨fun m σ' H' => ∃ cs l, m = cs.length ∧ σ' = [some (.ref a), some (.int most), some (.ref c), none, none, none] ∧ H' a = some (.dK (srcKv c l st.mixed st.turn)) ∧ H' c = some (.lst (cs.map V.int)) ∧ drawC cs.length cs l = drawC st.cells.length st.cells st.left ∧ Keep (Zr (some (a, c))) H H',
    ⟨_, st.cells, st.left, rfl, rfl, S0.dic, S0.cel, rfl, Keep.refl H⟩, ?_⟩
  rintro m σ' H' ⟨cs, l, rfl, rfl, hS, hC, hdr, kH⟩
  refine ⟨_, rfl, a, .int l, rfl, DGet.k (k := .inr "left") hS, _, _, rfl, rfl, _, rfl, ?_⟩
  by_cases hl : l < 2
  · rw [decide_eq_true hl]
    refine iteT ⟨_, rfl, c, _, rfl, .inl (SqL.of hC), _, _, rfl, rfl, _, rfl, ?_⟩
    rcases List.eq_nil_or_concat cs with rfl | ⟨ini, y, rfl⟩
    · refine iteF ?_
      rw [if_pos hm]
      exact ⟨[], l, rfl, hS, hC, by rw [← hdr]; exact drawC_nil _ _, kH, fun _ _ q => q⟩
    · rw [List.concat_eq_append] at *
      rw [show decide ((0 : Int) < (((ini ++ [y]).map V.int).length : Int)) = true from decide_eq_true (by simp)]
      refine iteT ⟨fun σ2 H2 => σ2 = [some (.ref a), some (.int most), some (.ref c), none, none, none] ∧ H2 a = some (.dK (srcKv c y st.mixed st.turn)) ∧ H2 c = some (.lst (ini.map V.int)) ∧ drawC ini.length ini y = drawC st.cells.length st.cells st.left ∧ Keep (Zr (some (a, c))) H H2, ?_, ?_⟩
      · rintro σ2 H2 ⟨rfl, g1, g2, g3, g4⟩
        exact ⟨ini.length, by simp, ini, y, rfl, rfl, g1, g2, g3, g4⟩
      · refine ⟨_, rfl, tyL hC, c, _, .int y, rfl, rfl, hC, by simp, _, rfl, a, _, rfl, DPut.k (k := .inr "left") (by rw [upd_ne nac]; exact hS) (srcKv_few _ _ _ _), rfl, ?_, ?_, ?_, ?_⟩
        · rw [upd_same]; rfl
        · rw [upd_ne nac.symm, upd_same]; simp
        · rw [← hdr, drawC_snoc _ _ _ hl]
        · exact kA _ _ (kC _ _ kH)
  · rw [decide_eq_false hl]
    refine iteF (iteF ?_)
    rw [if_pos hm]
    exact ⟨cs, l, rfl, hS, hC, by rw [← hdr]; exact drawC_stop _ _ _ hl, kH, fun _ _ q => q⟩
end
end Lw

namespace Lw
open PySem PySem.Spec PyProof.Rows L2 Pz
theorem scSource : FnScope ["script", "stirred", "cell", "cells"] ["script"] (defScope sSource) := ⟨rfl, rfl, rfl, by decide +kernel, rfl, by decide +kernel, by decide +kernel⟩
section
variable {P : Program} {w : World} {K : PySem.W.Frag} {mg : Str → Option Value} {base : Heap}
theorem ok_source {f : Addr} {fd : FuncData} (F : Fun K "_law_open_cells" "_law_open_cells" sSource f fd) (mabs : mg "abs" = none) (mint : mg "int" = none) :
    FnG P w K mg base 1 f fd ["script"] (spSource K) := by
  refine g_def F scSource (fun vs H Q E ⟨a, ns, e, _⟩ => by rw [e]; rfl) (fun cdv A above s H vs Q E hG hr h => ?_)
  obtain ⟨a, ns, rfl, hS, hlen, q⟩ := h
  refine ⟨_, pss_cons (ps_set (i := 1) scSource.nd rfl (.inl rfl) pe_int)
    (pss_cons (ps_for PassesOwn.never rfl (pi_list (pv 0)) (pg_name (i := 2) scSource.nd rfl (.inl rfl)) (pss_one (ps_set (i := 1) scSource.nd rfl (.inl rfl)
      (pe_op op_modN (pe_callTy call_int1 (by rfl) mint (by decide +kernel) (pa_cons (pe_op op_add (pe_op op_add (pe_op op_mul (pv 1) pe_int) (pe_op op_mul (pv 2) pe_int)) pe_int) pa_nil)) pe_int))))
    (pss_cons (ps_setLc (i := 3) (own := [("cell", 2)]) (g := gName 2) (tt := tYes) rfl scSource.nd rfl rfl (sw_true rfl rfl rfl (by decide +kernel)) (pi_list (pv 0)) (blkOk_by (N := ["script", "stirred", "cell", "cells"]) (sc := defScope sSource) (by decide +kernel)) (fun _ _ _ _ _ => pg_name (i := 2) scSource.nd rfl (Or.inl rfl)) (fun _ _ _ _ _ => pts_nil)
      (fun _ _ _ _ _ => pe_callB call_abs (by rfl) mabs (by decide +kernel) (pa_cons (pv 2) pa_nil)))
    (pss_one (ps_ret (pe_disp (pps_cons pe_str (pe_revL (pv 3)) (pps_cons pe_str pe_int (pps_cons pe_str (pv 1) (pps_cons pe_str pe_int pps_nil)))) (by rfl) (by rfl) (fun z => by cases z) (by decide)))))), ?_⟩
  refine ⟨_, rfl, a, rfl, ⟨_, hS⟩, for_list (xs := ns.map V.int) (fun i σ' H' => H' = H ∧ ∃ z y, σ' = [some (.ref a), some (.int z), y, none]) ⟨rfl, 11, none, rfl⟩ (fun i σ' H' _ h => by rw [h.1]; exact hS) ?_ ?_⟩
  · rintro i x σ' H' hx ⟨rfl, z, y, rfl⟩
    obtain ⟨n, _, rfl⟩ : ∃ n, ns[i]? = some n ∧ V.int n = x := by simpa using hx
    exact ⟨_, rfl, _, _, rfl, rfl, .inr ⟨by decide, by decide⟩, _, rfl, _, _, rfl, rfl, .inr ⟨by decide, by decide⟩, _, _, rfl, rfl, _, _, rfl, rfl, .inl ⟨_, rfl, _, _, rfl, rfl, (by decide : (2147483629 : Int) ≠ 0), rfl, _, _, rfl⟩⟩
  · rintro σ' H' ⟨rfl, z, y, rfl⟩
    refine ⟨_, rfl, a, rfl, ⟨_, hS⟩, fun D hD => lc_list (K := K) (a := a) (xs := ns.map V.int) (fun i H2 => Same H' H2 ∧ ∃ acc : List Int, H2 D = some (.lst (acc.map V.int)) ∧ acc.length = i) ⟨same_new hD, [], upd_same, rfl⟩ (fun i H2 _ h => h.1.seq hS) ?_ ?_⟩
    · rintro i x H2 hx ⟨sm, acc, hacc, rfl⟩
      obtain ⟨n, hn, rfl⟩ : ∃ n, ns[acc.length]? = some n ∧ V.int n = x := by simpa using hx
      have hi := (List.getElem?_eq_some_iff.mp hn).1
      refine ⟨rfl, ?_⟩
      show tYes _ H2 _
      unfold tYes
      refine iteT ?_
      refine ⟨_, rfl, n, rfl, _, hacc, by rw [List.length_map]; exact Nat.lt_of_lt_of_le hi (Nat.le_trans hlen (by decide)), fun b o e => ?_, acc ++ [if n < 0 then -n else n], ?_, by simp⟩
      · rw [upd_ne (ne_of_none e hD)]; exact sm b o e
      · rw [upd_same]; simp
    · rintro H2 ⟨sm, acc, hacc, _⟩
      intro p np
      have npD : D ≠ p := ne_of_none hacc np
      refine ⟨_, rfl, D, _, rfl, .inl (.inl (by rw [upd_ne npD]; exact hacc)), fun c nc => ?_⟩
      have ncp : c ≠ p := fun z => by rw [z, upd_same] at nc; cases nc
      have ncD : c ≠ D := fun z => by rw [z, upd_ne npD, hacc] at nc; cases nc
      have hc0 : H2 c = none := by rw [upd_ne ncp] at nc; exact nc
      refine ⟨.int z, rfl, by rw [upd_ne ncp.symm, upd_same], srcKv c 1 z 0, rfl, (by show 4 ≤ 15; decide), ?_⟩
      have back : ∀ (x : Addr), H2 x = none → H' x = none := fun x n => by
        cases e : H' x with
        | none => rfl
        | some o => rw [sm x o e] at n; cases n
      refine q p c ⟨acc.reverse, 1, z, 0⟩ _ (back p np) (back c hc0) ⟨by rw [upd_same]; rfl, by rw [upd_ne ncp, upd_same, List.map_reverse], ncp.symm⟩ fun b o e => ?_
      have e2 := sm b o e
      rw [upd_ne (ne_of_none e2 np), upd_ne (ne_of_none e2 hc0), upd_ne (ne_of_none e2 np)]
      exact e2
end
end Lw



namespace Lw
open PySem PySem.Spec PyProof.Rows L2 Pz
abbrev m__law_pick := pickM
section
variable {P : Program} {w : World} {K : PySem.W.Frag} {mg : Str → Option Value} {base : Heap}

abbrev s_in_both : Stmt := topS 1
def N_in_both : List Str := ["one", "other", "x"]
theorem sc_in_both : FnScope N_in_both ["one", "other"] (defScope s_in_both) := ⟨rfl, rfl, rfl, by decide +kernel, rfl, by decide +kernel, by decide +kernel⟩
def m_in_both (v_one : (List Int)) (v_other : (List Int)) : M (List Int) := (Pz.bindM (Pz.bindM (pureM v_one) fun (x4 : (List Int)) => compM (fun (y1 : Int) => (Pz.bindM (pureM y1) fun (x2 : Int) => (Pz.bindM (pureM v_other) fun (x3 : (List Int)) => pureM (memB x2 x3)))) (fun (y1 : Int) => (pureM y1)) x4) fun (x5 : (List Int)) => optM (some x5))
theorem ok_in_both {f : Addr} {fd : FuncData} (F : Fun K "in_both" "in_both" s_in_both f fd) (B : Bl mg) :
    FnG P w K mg base 1 f fd ["one", "other"] (SpM (fun p : (List Int) × (List Int) × Unit => [.fz ((eT eInt) p.1), .fz ((eT eInt) p.2.1)]) (eT eInt) (fun p : (List Int) × (List Int) × Unit => m_in_both p.1 p.2.1)) := by
  refine g_ok F sc_in_both (fun p : (List Int) × (List Int) × Unit => [.fz ((eT eInt) p.1), .fz ((eT eInt) p.2.1)]) (eT eInt) (fun p : (List Int) × (List Int) × Unit => m_in_both p.1 p.2.1) (fun p => [.fz ((eT eInt) p.1), .fz ((eT eInt) p.2.1), .un]) (fun _ => rfl) (fun _ => rfl) ?_
  intro cdv A above s H E R p hG hr
  obtain ⟨v_one, v_other, uu⟩ := p
  have sc := sc_in_both
  exact (s_ret0 (e_t1 (ea := (eL eInt)) (ec := (eT eInt)) (f := fun x => some x) call_tuple_of v_tupL B.b_tuple bt_tuple (f_e (f_lc (set := (st1 2 eInt)) (is := [2]) [("x", 2)] (fun (y1 : Int) => (Pz.bindM (pureM y1) fun (x2 : Int) => (Pz.bindM (pureM v_other) fun (x3 : (List Int)) => pureM (memB x2 x3)))) (fun (y1 : Int) => (pureM y1)) rfl sc.nd (i_tup (e_var 0 (eT eInt) v_one)) (blkOk_by (N := N_in_both) (sc := (defScope s_in_both)) (by decide +kernel)) (fun _ _ _ _ _ => (g1 2 eInt sc.nd)) (fun _ _ _ _ _ (y1 : Int) => (c_one (t_inT (n := 0) hr Dc.int (e_var 2 eInt y1) (e_var 1 (eT eInt) v_other)))) (fun _ _ _ _ _ (y1 : Int) => (e_var 2 eInt y1)) noow1 sm1 (fun _ h => h) (noOw rfl)))))

abbrev s_in_either : Stmt := topS 2
def N_in_either : List Str := ["one", "other", "x"]
theorem sc_in_either : FnScope N_in_either ["one", "other"] (defScope s_in_either) := ⟨rfl, rfl, rfl, by decide +kernel, rfl, by decide +kernel, by decide +kernel⟩
def m_in_either (v_one : (List Int)) (v_other : (List Int)) : M (List Int) := (Pz.bindM (Pz.bindM (smallM (Pz.bindM (pureM v_one) fun (x11 : (List Int)) => (Pz.bindM (Pz.bindM (Pz.bindM (pureM v_other) fun (x8 : (List Int)) => compM (fun (y5 : Int) => (Pz.bindM (pureM y5) fun (x6 : Int) => (Pz.bindM (pureM v_one) fun (x7 : (List Int)) => pureM (!memB x6 x7)))) (fun (y5 : Int) => (pureM y5)) x8) fun (x9 : (List Int)) => (Pz.bindM (pureM ([] : List Int)) fun (x10 : (List Int)) => pureM (x9 ++ x10))) fun (x12 : (List Int)) => pureM (x11 ++ x12)))) fun (x13 : (List Int)) => optM (some (srt eInt x13))) fun (x14 : (List Int)) => optM (some x14))
theorem ok_in_either {f : Addr} {fd : FuncData} (F : Fun K "in_either" "in_either" s_in_either f fd) (B : Bl mg) :
    FnG P w K mg base 1 f fd ["one", "other"] (SpM (fun p : (List Int) × (List Int) × Unit => [.fz ((eT eInt) p.1), .fz ((eT eInt) p.2.1)]) (eT eInt) (fun p : (List Int) × (List Int) × Unit => m_in_either p.1 p.2.1)) := by
  refine g_ok F sc_in_either (fun p : (List Int) × (List Int) × Unit => [.fz ((eT eInt) p.1), .fz ((eT eInt) p.2.1)]) (eT eInt) (fun p : (List Int) × (List Int) × Unit => m_in_either p.1 p.2.1) (fun p => [.fz ((eT eInt) p.1), .fz ((eT eInt) p.2.1), .un]) (fun _ => rfl) (fun _ => rfl) ?_
  intro cdv A above s H E R p hG hr
  obtain ⟨v_one, v_other, uu⟩ := p
  have sc := sc_in_either
  exact (s_ret0 (e_t1 (ea := (eL eInt)) (ec := (eT eInt)) (f := fun x => some x) call_tuple_of v_tupL B.b_tuple bt_tuple (f_e (f_b1 (ea := (eL eInt)) (ec := eInt) (f := fun x => some (srt eInt x)) (call_sortA SrtA.ints hr.units) v_sortAL B.b_sorted bt_sorted (f_e (f_list (l_starT (e_var 0 (eT eInt) v_one) (l_starL (f_e (f_lc (set := (st1 2 eInt)) (is := [2]) [("x", 2)] (fun (y5 : Int) => (Pz.bindM (pureM y5) fun (x6 : Int) => (Pz.bindM (pureM v_one) fun (x7 : (List Int)) => pureM (!memB x6 x7)))) (fun (y5 : Int) => (pureM y5)) rfl sc.nd (i_tup (e_var 1 (eT eInt) v_other)) (blkOk_by (N := N_in_either) (sc := (defScope s_in_either)) (by decide +kernel)) (fun _ _ _ _ _ => (g1 2 eInt sc.nd)) (fun _ _ _ _ _ (y5 : Int) => (c_one (t_ninT (n := 0) hr Dc.int (e_var 2 eInt y5) (e_var 0 (eT eInt) v_one)))) (fun _ _ _ _ _ (y5 : Int) => (e_var 2 eInt y5)) noow1 sm1 (fun _ h => h) (noOw rfl))) l_nil))))))))

abbrev s_keeps_meets : Stmt := topS 4
def N_keeps_meets : List Str := ["family", "known", "lot", "one", "other"]
theorem sc_keeps_meets : FnScope N_keeps_meets ["family"] (defScope s_keeps_meets) := ⟨rfl, rfl, rfl, by decide +kernel, rfl, by decide +kernel, by decide +kernel⟩
def m_keeps_meets (v_family : (Int × (List (List Int)) × Unit)) : M Bool := (Pz.bindM (Pz.bindM (Pz.bindM (pureM v_family) fun (x2 : (Int × (List (List Int)) × Unit)) => pureM (x2.2.1)) fun (x4 : (List (List Int))) => dcM (fun (y3 : (List Int)) => (pureM true)) (fun (y3 : (List Int)) => (pureM y3)) (fun (y3 : (List Int)) => (pureM true)) x4 []) fun (r1 : (List ((List Int) × Bool × Unit))) => (Pz.bindM (Pz.bindM (Pz.bindM (pureM v_family) fun (x5 : (Int × (List (List Int)) × Unit)) => pureM (x5.2.1)) fun (x16 : (List (List Int))) => c2M (fun (u6 : (List Int)) => (pureM true)) (fun (u6 : (List Int)) => (Pz.bindM (pureM v_family) fun (x11 : (Int × (List (List Int)) × Unit)) => pureM (x11.2.1))) (fun (u6 : (List Int)) (u7 : (List Int)) => (pureM true)) (fun (u6 : (List Int)) (u7 : (List Int)) => (Pz.bindM (Pz.bindM (pureM u6) fun (x12 : (List Int)) => (Pz.bindM (pureM u7) fun (x13 : (List Int)) => m_in_both x12 x13)) fun (x14 : (List Int)) => (Pz.bindM (pureM r1) fun (x15 : (List ((List Int) × Bool × Unit))) => pureM (hasM x15 x14)))) x16 []) fun (x17 : (List Bool)) => optM (some (x17.all id))))
theorem ok_keeps_meets {f : Addr} {fd : FuncData} (F : Fun K "keeps_meets" "keeps_meets" s_keeps_meets f fd) (B : Bl mg)
    {f_in_both : Addr} {d_in_both : FuncData} (C_in_both : Cal K mg "in_both" f_in_both d_in_both ["one", "other"]) (F_in_both : FnG P w K mg base 1 f_in_both d_in_both ["one", "other"] (SpM (fun p : (List Int) × (List Int) × Unit => [.fz ((eT eInt) p.1), .fz ((eT eInt) p.2.1)]) (eT eInt) (fun p : (List Int) × (List Int) × Unit => m_in_both p.1 p.2.1))) :
    FnG P w K mg base 2 f fd ["family"] (SpM (fun p : (Int × (List (List Int)) × Unit) × Unit => [.fz ((eP (eC eInt (eC (eT (eT eInt)) eU))) p.1)]) eBool (fun p : (Int × (List (List Int)) × Unit) × Unit => m_keeps_meets p.1)) := by
  refine g_ok F sc_keeps_meets (fun p : (Int × (List (List Int)) × Unit) × Unit => [.fz ((eP (eC eInt (eC (eT (eT eInt)) eU))) p.1)]) eBool (fun p : (Int × (List (List Int)) × Unit) × Unit => m_keeps_meets p.1) (fun p => [.fz ((eP (eC eInt (eC (eT (eT eInt)) eU))) p.1), .un, .un, .un, .un]) (fun _ => rfl) (fun _ => rfl) ?_
  intro cdv A above s H E R p hG hr
  obtain ⟨v_family, uu⟩ := p
  have sc := sc_keeps_meets
  exact (s_step (Γ1 := fun (r1 : (List ((List Int) × Bool × Unit))) => [.fz ((eP (eC eInt (eC (eT (eT eInt)) eU))) v_family), .fz ((eM (eT eInt) eBool) r1), .un, .un, .un]) (q_set 1 (d_e (d_dc (ek := (eT eInt)) (ev := eBool) (set := (st1 2 (eT eInt))) (is := [2]) Ky.rows VlB.bool hr [("lot", 2)] (fun (y3 : (List Int)) => (pureM true)) (fun (y3 : (List Int)) => (pureM y3)) (fun (y3 : (List Int)) => (pureM true)) rfl sc.nd (i_tup (e_ixP (ec := (eT (eT eInt))) (f := (eC eInt (eC (eT (eT eInt)) eU))) (fun p => p.2.1) 1 (ha := (e_var 0 (eP (eC eInt (eC (eT (eT eInt)) eU))) v_family)))) (blkOk_by (N := N_keeps_meets) (sc := (defScope s_keeps_meets)) (by decide +kernel)) (fun _ _ _ _ _ => (g1 2 (eT eInt) sc.nd)) (fun _ _ _ _ _ (y3 : (List Int)) => c_nil) (fun _ _ _ _ _ (y3 : (List Int)) => (e_var 2 (eT eInt) y3)) (fun _ _ _ _ _ (y3 : (List Int)) => e_bool) noow1 (fun _ h => h) (noOw rfl))) sc.nd) (fun (r1 : (List ((List Int) × Bool × Unit))) => (s_ret0 (e_b1 (ea := (eL eBool)) (ec := eBool) (f := fun x => some (x.all id)) (cr_all rfl) v_all B.b_all bt_all (f_e (f_lc2 (set := (st1 3 (eT eInt))) (set1 := (st1 4 (eT eInt))) (is := [3]) (is1 := [4]) (vs1 := [4]) [("one", 3), ("other", 4)] (fun (u6 : (List Int)) => (pureM true)) (fun (u6 : (List Int)) => (Pz.bindM (pureM v_family) fun (x11 : (Int × (List (List Int)) × Unit)) => pureM (x11.2.1))) (fun (u6 : (List Int)) (u7 : (List Int)) => (pureM true)) (fun (u6 : (List Int)) (u7 : (List Int)) => (Pz.bindM (Pz.bindM (pureM u6) fun (x12 : (List Int)) => (Pz.bindM (pureM u7) fun (x13 : (List Int)) => m_in_both x12 x13)) fun (x14 : (List Int)) => (Pz.bindM (pureM r1) fun (x15 : (List ((List Int) × Bool × Unit))) => pureM (hasM x15 x14)))) rfl sc.nd (i_tup (e_ixP (ec := (eT (eT eInt))) (f := (eC eInt (eC (eT (eT eInt)) eU))) (fun p => p.2.1) 1 (ha := (e_var 0 (eP (eC eInt (eC (eT (eT eInt)) eU))) v_family)))) (blkOk_by (N := N_keeps_meets) (sc := (defScope s_keeps_meets)) (by decide +kernel)) (fun _ _ _ _ _ => (g1 3 (eT eInt) sc.nd)) (fun _ _ _ _ _ (u6 : (List Int)) => c_nil) (fun _ _ _ _ _ (u6 : (List Int)) => (i_tup (e_ixP (ec := (eT (eT eInt))) (f := (eC eInt (eC (eT (eT eInt)) eU))) (fun p => p.2.1) 1 (ha := (e_var 0 (eP (eC eInt (eC (eT (eT eInt)) eU))) v_family))))) (fun _ _ _ _ _ => (g1 4 (eT eInt) sc.nd)) (fun _ _ _ _ _ (u8 : (List Int) × (List Int)) => c_nil) (fun _ _ _ _ _ (u8 : (List Int) × (List Int)) => (e_inM Ky.rows VlB.bool hr (e_c2 (F_in_both.mono (by decide)) hG hr C_in_both.mg C_in_both.kp C_in_both.bd (e_var 3 (eT eInt) u8.1) (e_var 4 (eT eInt) u8.2)) (e_var 1 (eM (eT eInt) eBool) r1))) noow1 sm1 (by decide) (noOw rfl) sm1 (by decide) (by decide)))))))

abbrev s_lots_at : Stmt := topS 5
def N_lots_at : List Str := ["family", "i", "lot"]
theorem sc_lots_at : FnScope N_lots_at ["family", "i"] (defScope s_lots_at) := ⟨rfl, rfl, rfl, by decide +kernel, rfl, by decide +kernel, by decide +kernel⟩
def m_lots_at (v_family : (Int × (List (List Int)) × Unit)) (v_i : Int) : M Int := (Pz.bindM (Pz.bindM (Pz.bindM (pureM v_family) fun (x1 : (Int × (List (List Int)) × Unit)) => pureM (x1.2.1)) fun (x5 : (List (List Int))) => compM (fun (y2 : (List Int)) => (Pz.bindM (pureM v_i) fun (x3 : Int) => (Pz.bindM (pureM y2) fun (x4 : (List Int)) => pureM (memB x3 x4)))) (fun (y2 : (List Int)) => (pureM y2)) x5) fun (x6 : (List (List Int))) => pureM (x6.length : Int))
theorem ok_lots_at {f : Addr} {fd : FuncData} (F : Fun K "lots_at" "lots_at" s_lots_at f fd) (B : Bl mg) :
    FnG P w K mg base 1 f fd ["family", "i"] (SpM (fun p : (Int × (List (List Int)) × Unit) × Int × Unit => [.fz ((eP (eC eInt (eC (eT (eT eInt)) eU))) p.1), .fz (eInt p.2.1)]) eInt (fun p : (Int × (List (List Int)) × Unit) × Int × Unit => m_lots_at p.1 p.2.1)) := by
  refine g_ok F sc_lots_at (fun p : (Int × (List (List Int)) × Unit) × Int × Unit => [.fz ((eP (eC eInt (eC (eT (eT eInt)) eU))) p.1), .fz (eInt p.2.1)]) eInt (fun p : (Int × (List (List Int)) × Unit) × Int × Unit => m_lots_at p.1 p.2.1) (fun p => [.fz ((eP (eC eInt (eC (eT (eT eInt)) eU))) p.1), .fz (eInt p.2.1), .un]) (fun _ => rfl) (fun _ => rfl) ?_
  intro cdv A above s H E R p hG hr
  obtain ⟨v_family, v_i, uu⟩ := p
  have sc := sc_lots_at
  exact (s_ret0 (e_len B.b_len bt_len (f_e (f_lc (set := (st1 2 (eT eInt))) (is := [2]) [("lot", 2)] (fun (y2 : (List Int)) => (Pz.bindM (pureM v_i) fun (x3 : Int) => (Pz.bindM (pureM y2) fun (x4 : (List Int)) => pureM (memB x3 x4)))) (fun (y2 : (List Int)) => (pureM y2)) rfl sc.nd (i_tup (e_ixP (ec := (eT (eT eInt))) (f := (eC eInt (eC (eT (eT eInt)) eU))) (fun p => p.2.1) 1 (ha := (e_var 0 (eP (eC eInt (eC (eT (eT eInt)) eU))) v_family)))) (blkOk_by (N := N_lots_at) (sc := (defScope s_lots_at)) (by decide +kernel)) (fun _ _ _ _ _ => (g1 2 (eT eInt) sc.nd)) (fun _ _ _ _ _ (y2 : (List Int)) => (c_one (t_inT (n := 0) hr Dc.int (e_var 1 eInt v_i) (e_var 2 (eT eInt) y2)))) (fun _ _ _ _ _ (y2 : (List Int)) => (e_var 2 (eT eInt) y2)) noow1 sm1 (fun _ h => h) (noOw rfl)))))

abbrev s_points_in_half : Stmt := topS 6
def N_points_in_half : List Str := ["family", "i"]
theorem sc_points_in_half : FnScope N_points_in_half ["family"] (defScope s_points_in_half) := ⟨rfl, rfl, rfl, by decide +kernel, rfl, by decide +kernel, by decide +kernel⟩
def m_points_in_half (v_family : (Int × (List (List Int)) × Unit)) : M (List Int) := (Pz.bindM (Pz.bindM (Pz.bindM (Pz.bindM (pureM v_family) fun (x1 : (Int × (List (List Int)) × Unit)) => pureM (x1.1)) fun (x2 : Int) => rangeM 0 x2) fun (x12 : (List Int)) => compM (fun (y3 : Int) => (Pz.bindM (Pz.bindM (pureM (2 : Int)) fun (x6 : Int) => (Pz.bindM (Pz.bindM (pureM v_family) fun (x4 : (Int × (List (List Int)) × Unit)) => (Pz.bindM (pureM y3) fun (x5 : Int) => m_lots_at x4 x5)) fun (x7 : Int) => optM (mulO x6 x7))) fun (x10 : Int) => (Pz.bindM (Pz.bindM (Pz.bindM (pureM v_family) fun (x8 : (Int × (List (List Int)) × Unit)) => pureM (x8.2.1)) fun (x9 : (List (List Int))) => pureM (x9.length : Int)) fun (x11 : Int) => pureM (decide (x11 ≤ x10))))) (fun (y3 : Int) => (pureM y3)) x12) fun (x13 : (List Int)) => optM (some x13))
theorem ok_points_in_half {f : Addr} {fd : FuncData} (F : Fun K "points_in_half" "points_in_half" s_points_in_half f fd) (B : Bl mg)
    {f_lots_at : Addr} {d_lots_at : FuncData} (C_lots_at : Cal K mg "lots_at" f_lots_at d_lots_at ["family", "i"]) (F_lots_at : FnG P w K mg base 1 f_lots_at d_lots_at ["family", "i"] (SpM (fun p : (Int × (List (List Int)) × Unit) × Int × Unit => [.fz ((eP (eC eInt (eC (eT (eT eInt)) eU))) p.1), .fz (eInt p.2.1)]) eInt (fun p : (Int × (List (List Int)) × Unit) × Int × Unit => m_lots_at p.1 p.2.1))) :
    FnG P w K mg base 2 f fd ["family"] (SpM (fun p : (Int × (List (List Int)) × Unit) × Unit => [.fz ((eP (eC eInt (eC (eT (eT eInt)) eU))) p.1)]) (eT eInt) (fun p : (Int × (List (List Int)) × Unit) × Unit => m_points_in_half p.1)) := by
  refine g_ok F sc_points_in_half (fun p : (Int × (List (List Int)) × Unit) × Unit => [.fz ((eP (eC eInt (eC (eT (eT eInt)) eU))) p.1)]) (eT eInt) (fun p : (Int × (List (List Int)) × Unit) × Unit => m_points_in_half p.1) (fun p => [.fz ((eP (eC eInt (eC (eT (eT eInt)) eU))) p.1), .un]) (fun _ => rfl) (fun _ => rfl) ?_
  intro cdv A above s H E R p hG hr
  obtain ⟨v_family, uu⟩ := p
  have sc := sc_points_in_half
  exact (s_ret0 (e_t1 (ea := (eL eInt)) (ec := (eT eInt)) (f := fun x => some x) call_tuple_of v_tupL B.b_tuple bt_tuple (f_e (f_lc (set := (st1 1 eInt)) (is := [1]) [("i", 1)] (fun (y3 : Int) => (Pz.bindM (Pz.bindM (pureM (2 : Int)) fun (x6 : Int) => (Pz.bindM (Pz.bindM (pureM v_family) fun (x4 : (Int × (List (List Int)) × Unit)) => (Pz.bindM (pureM y3) fun (x5 : Int) => m_lots_at x4 x5)) fun (x7 : Int) => optM (mulO x6 x7))) fun (x10 : Int) => (Pz.bindM (Pz.bindM (Pz.bindM (pureM v_family) fun (x8 : (Int × (List (List Int)) × Unit)) => pureM (x8.2.1)) fun (x9 : (List (List Int))) => pureM (x9.length : Int)) fun (x11 : Int) => pureM (decide (x11 ≤ x10))))) (fun (y3 : Int) => (pureM y3)) rfl sc.nd (i_range1 B.b_range (e_ixP (ec := eInt) (f := (eC eInt (eC (eT (eT eInt)) eU))) (fun p => p.1) 0 (ha := (e_var 0 (eP (eC eInt (eC (eT (eT eInt)) eU))) v_family)))) (blkOk_by (N := N_points_in_half) (sc := (defScope s_points_in_half)) (by decide +kernel)) (fun _ _ _ _ _ => (g1 1 eInt sc.nd)) (fun _ _ _ _ _ (y3 : Int) => (c_one (t_ge (e_mul e_int (e_c2 (F_lots_at.mono (by decide)) hG hr C_lots_at.mg C_lots_at.kp C_lots_at.bd (e_var 0 (eP (eC eInt (eC (eT (eT eInt)) eU))) v_family) (e_var 1 eInt y3))) (e_lenT B.b_len bt_len (e_ixP (ec := (eT (eT eInt))) (f := (eC eInt (eC (eT (eT eInt)) eU))) (fun p => p.2.1) 1 (ha := (e_var 0 (eP (eC eInt (eC (eT (eT eInt)) eU))) v_family))))))) (fun _ _ _ _ _ (y3 : Int) => (e_var 1 eInt y3)) noow1 sm1 (fun _ h => h) (noOw rfl)))))

abbrev s_sizes_added : Stmt := topS 7
def N_sizes_added : List Str := ["family", "lot"]
theorem sc_sizes_added : FnScope N_sizes_added ["family"] (defScope s_sizes_added) := ⟨rfl, rfl, rfl, by decide +kernel, rfl, by decide +kernel, by decide +kernel⟩
def m_sizes_added (v_family : (Int × (List (List Int)) × Unit)) : M Int := (Pz.bindM (Pz.bindM (Pz.bindM (pureM v_family) fun (x1 : (Int × (List (List Int)) × Unit)) => pureM (x1.2.1)) fun (x4 : (List (List Int))) => compM (fun (y2 : (List Int)) => (pureM true)) (fun (y2 : (List Int)) => (Pz.bindM (pureM y2) fun (x3 : (List Int)) => pureM (x3.length : Int))) x4) fun (x5 : (List Int)) => optM (some x5.sum))
theorem ok_sizes_added {f : Addr} {fd : FuncData} (F : Fun K "sizes_added" "sizes_added" s_sizes_added f fd) (B : Bl mg) :
    FnG P w K mg base 1 f fd ["family"] (SpM (fun p : (Int × (List (List Int)) × Unit) × Unit => [.fz ((eP (eC eInt (eC (eT (eT eInt)) eU))) p.1)]) eInt (fun p : (Int × (List (List Int)) × Unit) × Unit => m_sizes_added p.1)) := by
  refine g_ok F sc_sizes_added (fun p : (Int × (List (List Int)) × Unit) × Unit => [.fz ((eP (eC eInt (eC (eT (eT eInt)) eU))) p.1)]) eInt (fun p : (Int × (List (List Int)) × Unit) × Unit => m_sizes_added p.1) (fun p => [.fz ((eP (eC eInt (eC (eT (eT eInt)) eU))) p.1), .un]) (fun _ => rfl) (fun _ => rfl) ?_
  intro cdv A above s H E R p hG hr
  obtain ⟨v_family, uu⟩ := p
  have sc := sc_sizes_added
  exact (s_ret0 (e_b1 (ea := (eL eInt)) (ec := eInt) (f := fun x => some x.sum) (cr_sum rfl) v_sumL B.b_sum bt_sum (f_e (f_lc (set := (st1 1 (eT eInt))) (is := [1]) [("lot", 1)] (fun (y2 : (List Int)) => (pureM true)) (fun (y2 : (List Int)) => (Pz.bindM (pureM y2) fun (x3 : (List Int)) => pureM (x3.length : Int))) rfl sc.nd (i_tup (e_ixP (ec := (eT (eT eInt))) (f := (eC eInt (eC (eT (eT eInt)) eU))) (fun p => p.2.1) 1 (ha := (e_var 0 (eP (eC eInt (eC (eT (eT eInt)) eU))) v_family)))) (blkOk_by (N := N_sizes_added) (sc := (defScope s_sizes_added)) (by decide +kernel)) (fun _ _ _ _ _ => (g1 1 (eT eInt) sc.nd)) (fun _ _ _ _ _ (y2 : (List Int)) => c_nil) (fun _ _ _ _ _ (y2 : (List Int)) => (e_lenT B.b_len bt_len (e_var 1 (eT eInt) y2))) noow1 sm1 (fun _ h => h) (noOw rfl)))))

abbrev s_lots_so_great : Stmt := topS 9
def N_lots_so_great : List Str := ["family", "k", "lot"]
theorem sc_lots_so_great : FnScope N_lots_so_great ["family", "k"] (defScope s_lots_so_great) := ⟨rfl, rfl, rfl, by decide +kernel, rfl, by decide +kernel, by decide +kernel⟩
def m_lots_so_great (v_family : (Int × (List (List Int)) × Unit)) (v_k : Int) : M (List (List Int)) := (Pz.bindM (Pz.bindM (pureM v_family) fun (x1 : (Int × (List (List Int)) × Unit)) => pureM (x1.2.1)) fun (x6 : (List (List Int))) => compM (fun (y2 : (List Int)) => (Pz.bindM (Pz.bindM (pureM y2) fun (x3 : (List Int)) => pureM (x3.length : Int)) fun (x4 : Int) => (Pz.bindM (pureM v_k) fun (x5 : Int) => pureM (decide (x4 = x5))))) (fun (y2 : (List Int)) => (pureM y2)) x6)
theorem ok_lots_so_great {f : Addr} {fd : FuncData} (F : Fun K "lots_so_great" "lots_so_great" s_lots_so_great f fd) (B : Bl mg) :
    FnG P w K mg base 1 f fd ["family", "k"] (SpM (fun p : (Int × (List (List Int)) × Unit) × Int × Unit => [.fz ((eP (eC eInt (eC (eT (eT eInt)) eU))) p.1), .fz (eInt p.2.1)]) (eL (eT eInt)) (fun p : (Int × (List (List Int)) × Unit) × Int × Unit => m_lots_so_great p.1 p.2.1)) := by
  refine g_ok F sc_lots_so_great (fun p : (Int × (List (List Int)) × Unit) × Int × Unit => [.fz ((eP (eC eInt (eC (eT (eT eInt)) eU))) p.1), .fz (eInt p.2.1)]) (eL (eT eInt)) (fun p : (Int × (List (List Int)) × Unit) × Int × Unit => m_lots_so_great p.1 p.2.1) (fun p => [.fz ((eP (eC eInt (eC (eT (eT eInt)) eU))) p.1), .fz (eInt p.2.1), .un]) (fun _ => rfl) (fun _ => rfl) ?_
  intro cdv A above s H E R p hG hr
  obtain ⟨v_family, v_k, uu⟩ := p
  have sc := sc_lots_so_great
  exact (s_ret0 (f_e (f_lc (set := (st1 2 (eT eInt))) (is := [2]) [("lot", 2)] (fun (y2 : (List Int)) => (Pz.bindM (Pz.bindM (pureM y2) fun (x3 : (List Int)) => pureM (x3.length : Int)) fun (x4 : Int) => (Pz.bindM (pureM v_k) fun (x5 : Int) => pureM (decide (x4 = x5))))) (fun (y2 : (List Int)) => (pureM y2)) rfl sc.nd (i_tup (e_ixP (ec := (eT (eT eInt))) (f := (eC eInt (eC (eT (eT eInt)) eU))) (fun p => p.2.1) 1 (ha := (e_var 0 (eP (eC eInt (eC (eT (eT eInt)) eU))) v_family)))) (blkOk_by (N := N_lots_so_great) (sc := (defScope s_lots_so_great)) (by decide +kernel)) (fun _ _ _ _ _ => (g1 2 (eT eInt) sc.nd)) (fun _ _ _ _ _ (y2 : (List Int)) => (c_one (t_eqI (e_lenT B.b_len bt_len (e_var 2 (eT eInt) y2)) (e_var 1 eInt v_k)))) (fun _ _ _ _ _ (y2 : (List Int)) => (e_var 2 (eT eInt) y2)) noow1 sm1 (fun _ h => h) (noOw rfl))))

abbrev s_least_but_none : Stmt := topS 10
def N_least_but_none : List Str := ["family", "some", "lot"]
theorem sc_least_but_none : FnScope N_least_but_none ["family"] (defScope s_least_but_none) := ⟨rfl, rfl, rfl, by decide +kernel, rfl, by decide +kernel, by decide +kernel⟩
def m_least_but_none (v_family : (Int × (List (List Int)) × Unit)) : M (Option (List Int)) := (Pz.bindM (Pz.bindM (Pz.bindM (pureM v_family) fun (x2 : (Int × (List (List Int)) × Unit)) => pureM (x2.2.1)) fun (x11 : (List (List Int))) => compM (fun (y3 : (List Int)) => (Pz.bindM (pureM y3) fun (x4 : (List Int)) => (Pz.bindM (smallM (pureM ([] : List Int))) fun (x5 : (List Int)) => pureM (!decide (x4 = x5))))) (fun (y3 : (List Int)) => (Pz.bindM (Pz.bindM (pureM y3) fun (x6 : (List Int)) => pureM (x6.length : Int)) fun (x9 : Int) => (Pz.bindM (Pz.bindM (pureM y3) fun (x7 : (List Int)) => (Pz.bindM (pureM ()) fun (x8 : Unit) => pureM (x7, x8))) fun (x10 : ((List Int) × Unit)) => pureM (x9, x10)))) x11) fun (r1 : (List (Int × (List Int) × Unit))) => (Pz.bindM (Pz.bindM (pureM r1) fun (x12 : (List (Int × (List Int) × Unit))) => (Pz.bindM (smallM (pureM ([] : List (Int × (List Int) × Unit)))) fun (x13 : (List (Int × (List Int) × Unit))) => pureM (!decide (x12 = x13)))) fun (x18 : Bool) => if x18 then (Pz.bindM (Pz.bindM (Pz.bindM (pureM r1) fun (x14 : (List (Int × (List Int) × Unit))) => optM (minA (eP (eC eInt (eC (eT eInt) eU))) x14)) fun (x15 : (Int × (List Int) × Unit)) => pureM (x15.2.1)) fun (x16 : (List Int)) => pureM (some x16)) else (Pz.bindM (pureM ()) fun (x17 : Unit) => pureM (none : (Option (List Int))))))
theorem ok_least_but_none {f : Addr} {fd : FuncData} (F : Fun K "least_but_none" "least_but_none" s_least_but_none f fd) (B : Bl mg) :
    FnG P w K mg base 1 f fd ["family"] (SpM (fun p : (Int × (List (List Int)) × Unit) × Unit => [.fz ((eP (eC eInt (eC (eT (eT eInt)) eU))) p.1)]) (eO (eT eInt)) (fun p : (Int × (List (List Int)) × Unit) × Unit => m_least_but_none p.1)) := by
  refine g_ok F sc_least_but_none (fun p : (Int × (List (List Int)) × Unit) × Unit => [.fz ((eP (eC eInt (eC (eT (eT eInt)) eU))) p.1)]) (eO (eT eInt)) (fun p : (Int × (List (List Int)) × Unit) × Unit => m_least_but_none p.1) (fun p => [.fz ((eP (eC eInt (eC (eT (eT eInt)) eU))) p.1), .un, .un]) (fun _ => rfl) (fun _ => rfl) ?_
  intro cdv A above s H E R p hG hr
  obtain ⟨v_family, uu⟩ := p
  have sc := sc_least_but_none
  exact (s_step (Γ1 := fun (r1 : (List (Int × (List Int) × Unit))) => [.fz ((eP (eC eInt (eC (eT (eT eInt)) eU))) v_family), .fz ((eL (eP (eC eInt (eC (eT eInt) eU)))) r1), .un]) (q_setLcE 1 (set := (st1 2 (eT eInt))) (is := [2]) [("lot", 2)] (fun (y3 : (List Int)) => (Pz.bindM (pureM y3) fun (x4 : (List Int)) => (Pz.bindM (smallM (pureM ([] : List Int))) fun (x5 : (List Int)) => pureM (!decide (x4 = x5))))) (fun (y3 : (List Int)) => (Pz.bindM (Pz.bindM (pureM y3) fun (x6 : (List Int)) => pureM (x6.length : Int)) fun (x9 : Int) => (Pz.bindM (Pz.bindM (pureM y3) fun (x7 : (List Int)) => (Pz.bindM (pureM ()) fun (x8 : Unit) => pureM (x7, x8))) fun (x10 : ((List Int) × Unit)) => pureM (x9, x10)))) rfl sc.nd (sw_true rfl rfl rfl (by decide +kernel)) (i_tup (e_ixP (ec := (eT (eT eInt))) (f := (eC eInt (eC (eT (eT eInt)) eU))) (fun p => p.2.1) 1 (ha := (e_var 0 (eP (eC eInt (eC (eT (eT eInt)) eU))) v_family)))) (blkOk_by (N := N_least_but_none) (sc := (defScope s_least_but_none)) (by decide +kernel)) (fun _ _ _ _ _ => (g1 2 (eT eInt) sc.nd)) (fun _ _ _ _ _ (y3 : (List Int)) => (c_one (t_neP (n := 1) hr (Dc.tup Dc.int) (e_var 2 (eT eInt) y3) (e_tupl l_nil)))) (fun _ _ _ _ _ (y3 : (List Int)) => (e_tup (eC eInt (eC (eT eInt) eU)) (a_cons (e_lenT B.b_len bt_len (e_var 2 (eT eInt) y3)) (a_cons (e_var 2 (eT eInt) y3) a_nil)) (hl := fun _ => (by decide : 2 ≤ sizeLine)))) noow1 sm1 (fun _ h => h) (noOw rfl)) (fun (r1 : (List (Int × (List Int) × Unit))) => (s_ret0 (e_if (t_neP (n := 3) hr (Dc.lst (Dc.pr (Dcs.cons Dc.int (Dcs.cons (Dc.tup Dc.int) Dcs.nil)))) (e_var 1 (eL (eP (eC eInt (eC (eT eInt) eU)))) r1) (f_e (f_list l_nil))) (e_enc (eb := (eO (eT eInt))) some (e_ixP (ec := (eT eInt)) (f := (eC eInt (eC (eT eInt) eU))) (fun p => p.2.1) 1 (ha := (e_b1 (ea := (eL (eP (eC eInt (eC (eT eInt) eU))))) (ec := (eP (eC eInt (eC (eT eInt) eU)))) (f := fun x => minA (eP (eC eInt (eC (eT eInt) eU))) x) (call_minA SrtA.ir (fun x => ((Dc.pr (Dcs.cons Dc.int (Dcs.cons (Dc.tup Dc.int) Dcs.nil))) : Dc 8 _).plain x) rfl hr.units) v_minAL B.b_min bt_min (e_var 1 (eL (eP (eC eInt (eC (eT eInt) eU)))) r1)))) (fun _ => rfl)) (e_enc (eb := (eO (eT eInt))) (fun _ => (none : (Option (List Int)))) e_non (fun _ => rfl))))))

abbrev s_half_sort : Stmt := topS 11
def N_half_sort : List Str := ["kept", "k", "word", "some", "lot"]
theorem sc_half_sort : FnScope N_half_sort ["kept"] (defScope s_half_sort) := ⟨rfl, rfl, rfl, by decide +kernel, rfl, by decide +kernel, by decide +kernel⟩
def m_half_sort (v_kept : (Int × (List (List Int)) × Unit)) : M (Option (List PyData)) := (Pz.bindM (Pz.bindM (Pz.bindM (Pz.bindM (Pz.bindM (pureM (1 : Int)) fun (x3 : Int) => (Pz.bindM (Pz.bindM (pureM ("one" : Str)) fun (x1 : Str) => (Pz.bindM (pureM ()) fun (x2 : Unit) => pureM (x1, x2))) fun (x4 : (Str × Unit)) => pureM (x3, x4))) fun (x11 : (Int × Str × Unit)) => (Pz.bindM (Pz.bindM (Pz.bindM (pureM (2 : Int)) fun (x7 : Int) => (Pz.bindM (Pz.bindM (pureM ("two" : Str)) fun (x5 : Str) => (Pz.bindM (pureM ()) fun (x6 : Unit) => pureM (x5, x6))) fun (x8 : (Str × Unit)) => pureM (x7, x8))) fun (x9 : (Int × Str × Unit)) => (Pz.bindM (pureM ()) fun (x10 : Unit) => pureM (x9, x10))) fun (x12 : ((Int × Str × Unit) × Unit)) => pureM (x11, x12))) fun (x13 : ((Int × Str × Unit) × (Int × Str × Unit) × Unit)) => pureM ((fun p : ((Int × Str × Unit) × (Int × Str × Unit) × Unit) => [p.1, p.2.1]) x13)) fun (x34 : (List (Int × Str × Unit))) => forO (fun (b15 : Unit) (y14 : (Int × Str × Unit)) => (Pz.bindM (Pz.bindM (pureM v_kept) fun (x17 : (Int × (List (List Int)) × Unit)) => (Pz.bindM (pureM y14.1) fun (x18 : Int) => m_lots_so_great x17 x18)) fun (r16 : (List (List Int))) => (Pz.bindM (Pz.bindM (pureM r16) fun (x19 : (List (List Int))) => (Pz.bindM (smallM (pureM ([] : List (List Int)))) fun (x20 : (List (List Int))) => pureM (!decide (x19 = x20)))) fun (x21 : Bool) => if x21 then Pz.bindM (Pz.bindM (smallM (Pz.bindM (Pz.bindM (pureM y14.2.1) fun (x29 : Str) => pureM (eStr x29)) fun (x30 : PyData) => (Pz.bindM (Pz.bindM (Pz.bindM (Pz.bindM (pureM r16) fun (x24 : (List (List Int))) => (Pz.bindM (pureM (0 : Int)) fun (x25 : Int) => optM (atI x24 x25))) fun (x26 : (List Int)) => pureM ((List.map eInt) x26)) fun (x27 : (List PyData)) => (Pz.bindM (pureM ([] : List PyData)) fun (x28 : (List PyData)) => pureM (x27 ++ x28))) fun (x31 : (List PyData)) => pureM (x30 :: x31)))) fun (x32 : (List PyData)) => pureM (some x32)) (fun (x33 : (Option (List PyData))) => pureM (Out.rt x33)) else (pureM (Out.nx ()))))) x34 ()) fun o => caseO o (fun (r35 : Unit) => (Pz.bindM (Pz.bindM (Pz.bindM (Pz.bindM (pureM v_kept) fun (x36 : (Int × (List (List Int)) × Unit)) => pureM (x36.1)) fun (x37 : Int) => (Pz.bindM (pureM (0 : Int)) fun (x38 : Int) => pureM (decide (x38 < x37)))) fun (x49 : Bool) => if x49 then (Pz.bindM (Pz.bindM (pureM (2 : Int)) fun (x40 : Int) => (Pz.bindM (Pz.bindM (pureM v_kept) fun (x39 : (Int × (List (List Int)) × Unit)) => m_sizes_added x39) fun (x41 : Int) => optM (mulO x40 x41))) fun (x47 : Int) => (Pz.bindM (Pz.bindM (Pz.bindM (pureM v_kept) fun (x42 : (Int × (List (List Int)) × Unit)) => pureM (x42.1)) fun (x45 : Int) => (Pz.bindM (Pz.bindM (Pz.bindM (pureM v_kept) fun (x43 : (Int × (List (List Int)) × Unit)) => pureM (x43.2.1)) fun (x44 : (List (List Int))) => pureM (x44.length : Int)) fun (x46 : Int) => optM (mulO x45 x46))) fun (x48 : Int) => pureM (decide (x48 ≤ x47)))) else pureM false) fun (x50 : Bool) => if x50 then (Pz.bindM (Pz.bindM (Pz.bindM (pureM ("sizes" : Str)) fun (x51 : Str) => (Pz.bindM (pureM ()) fun (x52 : Unit) => pureM (x51, x52))) fun (x53 : (Str × Unit)) => pureM ((fun p : (Str × Unit) => [eStr p.1]) x53)) fun (x54 : (List PyData)) => pureM (some x54)) else (Pz.bindM (Pz.bindM (pureM v_kept) fun (x56 : (Int × (List (List Int)) × Unit)) => m_least_but_none x56) fun (r55 : (Option (List Int))) => (Pz.bindM (Pz.bindM (Pz.bindM (pureM r55) fun (x57 : (Option (List Int))) => pureM x57.isSome) fun (x59 : Bool) => if x59 then (Pz.bindM (pureM v_kept) fun (x58 : (Int × (List (List Int)) × Unit)) => m_keeps_meets x58) else pureM false) fun (x67 : Bool) => if x67 then (Pz.bindM (Pz.bindM (Pz.bindM (pureM ("meets" : Str)) fun (x62 : Str) => (Pz.bindM (Pz.bindM (pureM r55) fun (x60 : (Option (List Int))) => (Pz.bindM (pureM ()) fun (x61 : Unit) => pureM (x60, x61))) fun (x63 : ((Option (List Int)) × Unit)) => pureM (x62, x63))) fun (x64 : (Str × (Option (List Int)) × Unit)) => pureM ((fun p : (Str × (Option (List Int)) × Unit) => [eStr p.1, (eO (eT eInt)) p.2.1]) x64)) fun (x65 : (List PyData)) => pureM (some x65)) else (Pz.bindM (pureM ()) fun (x66 : Unit) => pureM (none : (Option (List PyData)))))))) pureM)
theorem ok_half_sort {f : Addr} {fd : FuncData} (F : Fun K "half_sort" "half_sort" s_half_sort f fd) (B : Bl mg)
    {f_lots_so_great : Addr} {d_lots_so_great : FuncData} (C_lots_so_great : Cal K mg "lots_so_great" f_lots_so_great d_lots_so_great ["family", "k"]) (F_lots_so_great : FnG P w K mg base 1 f_lots_so_great d_lots_so_great ["family", "k"] (SpM (fun p : (Int × (List (List Int)) × Unit) × Int × Unit => [.fz ((eP (eC eInt (eC (eT (eT eInt)) eU))) p.1), .fz (eInt p.2.1)]) (eL (eT eInt)) (fun p : (Int × (List (List Int)) × Unit) × Int × Unit => m_lots_so_great p.1 p.2.1)))
    {f_sizes_added : Addr} {d_sizes_added : FuncData} (C_sizes_added : Cal K mg "sizes_added" f_sizes_added d_sizes_added ["family"]) (F_sizes_added : FnG P w K mg base 1 f_sizes_added d_sizes_added ["family"] (SpM (fun p : (Int × (List (List Int)) × Unit) × Unit => [.fz ((eP (eC eInt (eC (eT (eT eInt)) eU))) p.1)]) eInt (fun p : (Int × (List (List Int)) × Unit) × Unit => m_sizes_added p.1)))
    {f_least_but_none : Addr} {d_least_but_none : FuncData} (C_least_but_none : Cal K mg "least_but_none" f_least_but_none d_least_but_none ["family"]) (F_least_but_none : FnG P w K mg base 1 f_least_but_none d_least_but_none ["family"] (SpM (fun p : (Int × (List (List Int)) × Unit) × Unit => [.fz ((eP (eC eInt (eC (eT (eT eInt)) eU))) p.1)]) (eO (eT eInt)) (fun p : (Int × (List (List Int)) × Unit) × Unit => m_least_but_none p.1)))
    {f_keeps_meets : Addr} {d_keeps_meets : FuncData} (C_keeps_meets : Cal K mg "keeps_meets" f_keeps_meets d_keeps_meets ["family"]) (F_keeps_meets : FnG P w K mg base 2 f_keeps_meets d_keeps_meets ["family"] (SpM (fun p : (Int × (List (List Int)) × Unit) × Unit => [.fz ((eP (eC eInt (eC (eT (eT eInt)) eU))) p.1)]) eBool (fun p : (Int × (List (List Int)) × Unit) × Unit => m_keeps_meets p.1))) :
    FnG P w K mg base 3 f fd ["kept"] (SpM (fun p : (Int × (List (List Int)) × Unit) × Unit => [.fz ((eP (eC eInt (eC (eT (eT eInt)) eU))) p.1)]) (eO (eT eD)) (fun p : (Int × (List (List Int)) × Unit) × Unit => m_half_sort p.1)) := by
  refine g_ok F sc_half_sort (fun p : (Int × (List (List Int)) × Unit) × Unit => [.fz ((eP (eC eInt (eC (eT (eT eInt)) eU))) p.1)]) (eO (eT eD)) (fun p : (Int × (List (List Int)) × Unit) × Unit => m_half_sort p.1) (fun p => [.fz ((eP (eC eInt (eC (eT (eT eInt)) eU))) p.1), .un, .un, .un, .un]) (fun _ => rfl) (fun _ => rfl) ?_
  intro cdv A above s H E R p hG hr
  obtain ⟨v_kept, uu⟩ := p
  have sc := sc_half_sort
  exact (s_step1 (er := (eO (eT eD))) (Γ1 := (fun (b : Unit) => [.fz ((eP (eC eInt (eC (eT (eT eInt)) eU))) v_kept), .un, .un, .un, .un])) (q_forO (er := (eO (eT eD))) (set := (st2 1 eInt 2 eStr)) (is := [1, 2]) (fun (b : Unit) => [.fz ((eP (eC eInt (eC (eT (eT eInt)) eU))) v_kept), .un, .un, .un, .un]) () _ PassesOwn.never rfl (i_tup (e_enc (eb := (eT (eP (eC eInt (eC eStr eU))))) (fun p : ((Int × Str × Unit) × (Int × Str × Unit) × Unit) => [p.1, p.2.1]) (e_tup (eC (eP (eC eInt (eC eStr eU))) (eC (eP (eC eInt (eC eStr eU))) eU)) (a_cons (e_tup (eC eInt (eC eStr eU)) (a_cons e_int (a_cons e_str a_nil)) (hl := fun _ => (by decide : 2 ≤ sizeLine))) (a_cons (e_tup (eC eInt (eC eStr eU)) (a_cons e_int (a_cons e_str a_nil)) (hl := fun _ => (by decide : 2 ≤ sizeLine))) a_nil)) (hl := fun _ => (by decide : 2 ≤ sizeLine))) (fun _ => rfl))) (g2 1 2 eInt eStr rfl sc.nd) noow2 (.eq (.un (.un (.un (.un .nil))))) (fun (b15 : Unit) (y14 : (Int × Str × Unit)) => (s_step (Γ1 := fun (r16 : (List (List Int))) => [.fz ((eP (eC eInt (eC (eT (eT eInt)) eU))) v_kept), .fz (eInt y14.1), .fz (eStr y14.2.1), .fz ((eL (eT eInt)) r16), .un]) (q_set 3 (e_c2 (F_lots_so_great.mono (by decide)) hG hr C_lots_so_great.mg C_lots_so_great.kp C_lots_so_great.bd (e_var 0 (eP (eC eInt (eC (eT (eT eInt)) eU))) v_kept) (e_var 1 eInt y14.1)) sc.nd) (fun (r16 : (List (List Int))) => (s_ifret2 (Γb := (fun (b : Unit) => [.fz ((eP (eC eInt (eC (eT (eT eInt)) eU))) v_kept), .un, .un, .un, .un])) (t_neP (n := 2) hr (Dc.lst (Dc.tup Dc.int)) (e_var 3 (eL (eT eInt)) r16) (f_e (f_list l_nil))) (s_ret0 (e_enc (eb := (eO (eT eD))) some (e_tupl (l_cons (e_enc (eb := eD) (fun x => eStr x) (e_var 2 eStr y14.2.1) (fun _ => rfl)) (l_starT (e_enc (eb := (eT eD)) (List.map eInt) (e_ixL (e_var 3 (eL (eT eInt)) r16) e_int) (fun x => by simp [eT, eD])) l_nil))) (fun _ => rfl))) (s_nilO (Γb := (fun (b : Unit) => [.fz ((eP (eC eInt (eC (eT (eT eInt)) eU))) v_kept), .un, .un, .un, .un])) () (.eq (.un (.un (.un (.un .nil))))))))))) (fun (r35 : Unit) => (s_ifret1 (w_t (w_and (t_gt (e_ixP (ec := eInt) (f := (eC eInt (eC (eT (eT eInt)) eU))) (fun p => p.1) 0 (ha := (e_var 0 (eP (eC eInt (eC (eT (eT eInt)) eU))) v_kept))) e_int) (w_and1 (t_ge (e_mul e_int (e_c1 (F_sizes_added.mono (by decide)) hG hr C_sizes_added.mg C_sizes_added.kp C_sizes_added.bd (e_var 0 (eP (eC eInt (eC (eT (eT eInt)) eU))) v_kept))) (e_mul (e_ixP (ec := eInt) (f := (eC eInt (eC (eT (eT eInt)) eU))) (fun p => p.1) 0 (ha := (e_var 0 (eP (eC eInt (eC (eT (eT eInt)) eU))) v_kept))) (e_lenT B.b_len bt_len (e_ixP (ec := (eT (eT eInt))) (f := (eC eInt (eC (eT (eT eInt)) eU))) (fun p => p.2.1) 1 (ha := (e_var 0 (eP (eC eInt (eC (eT (eT eInt)) eU))) v_kept))))))))) (s_ret0 (e_enc (eb := (eO (eT eD))) some (e_enc (eb := (eT eD)) (fun p : (Str × Unit) => [eStr p.1]) (e_tup (eC eStr eU) (a_cons e_str a_nil) (hl := fun _ => (by decide : 1 ≤ sizeLine))) (fun _ => rfl)) (fun _ => rfl))) (s_step (Γ1 := fun (r55 : (Option (List Int))) => [.fz ((eP (eC eInt (eC (eT (eT eInt)) eU))) v_kept), .un, .un, .un, .fz ((eO (eT eInt)) r55)]) (q_set 4 (e_c1 (F_least_but_none.mono (by decide)) hG hr C_least_but_none.mg C_least_but_none.kp C_least_but_none.bd (e_var 0 (eP (eC eInt (eC (eT (eT eInt)) eU))) v_kept)) sc.nd) (fun (r55 : (Option (List Int))) => (s_ret0 (e_if (w_t (w_and (t_notN NN.tup (e_var 4 (eO (eT eInt)) r55)) (w_and1 (t_val (e_c1 (F_keeps_meets.mono (by decide)) hG hr C_keeps_meets.mg C_keeps_meets.kp C_keeps_meets.bd (e_var 0 (eP (eC eInt (eC (eT (eT eInt)) eU))) v_kept)))))) (e_enc (eb := (eO (eT eD))) some (e_enc (eb := (eT eD)) (fun p : (Str × (Option (List Int)) × Unit) => [eStr p.1, (eO (eT eInt)) p.2.1]) (e_tup (eC eStr (eC (eO (eT eInt)) eU)) (a_cons e_str (a_cons (e_var 4 (eO (eT eInt)) r55) a_nil)) (hl := fun _ => (by decide : 2 ≤ sizeLine))) (fun _ => rfl)) (fun _ => rfl)) (e_enc (eb := (eO (eT eD))) (fun _ => (none : (Option (List PyData)))) e_non (fun _ => rfl)))))))))

abbrev s_named_points : Stmt := topS 12
def N_named_points : List Str := ["kept", "sort"]
theorem sc_named_points : FnScope N_named_points ["kept"] (defScope s_named_points) := ⟨rfl, rfl, rfl, by decide +kernel, rfl, by decide +kernel, by decide +kernel⟩
def m_named_points (v_kept : (Int × (List (List Int)) × Unit)) : M (List Int) := (Pz.bindM (Pz.bindM (pureM v_kept) fun (x2 : (Int × (List (List Int)) × Unit)) => m_half_sort x2) fun (r1 : (Option (List PyData))) => (Pz.bindM (Pz.bindM (Pz.bindM (Pz.bindM (pureM r1) fun (x3 : (Option (List PyData))) => optM x3) fun (x4 : (List PyData)) => (Pz.bindM (pureM (0 : Int)) fun (x5 : Int) => optM (atI x4 x5))) fun (x6 : PyData) => (Pz.bindM (pureM ("sizes" : Str)) fun (x7 : Str) => optM (eqZ (eD x6) (eStr x7)))) fun (x8 : Bool) => if x8 then (Pz.bindM (Pz.bindM (pureM v_kept) fun (x9 : (Int × (List (List Int)) × Unit)) => pureM (x9.1)) fun (x10 : Int) => rangeM 0 x10) else (Pz.bindM (Pz.bindM (Pz.bindM (Pz.bindM (pureM r1) fun (x11 : (Option (List PyData))) => optM x11) fun (x12 : (List PyData)) => (Pz.bindM (pureM (0 : Int)) fun (x13 : Int) => optM (atI x12 x13))) fun (x14 : PyData) => (Pz.bindM (pureM ("meets" : Str)) fun (x15 : Str) => optM (eqZ (eD x14) (eStr x15)))) fun (x27 : Bool) => if x27 then (Pz.bindM (Pz.bindM (Pz.bindM (Pz.bindM (pureM r1) fun (x16 : (Option (List PyData))) => optM x16) fun (x17 : (List PyData)) => (Pz.bindM (pureM (1 : Int)) fun (x18 : Int) => optM (atI x17 x18))) fun (x19 : PyData) => optM (asTup x19)) fun (x20 : (List PyData)) => optM (x20.mapM asInt)) else (Pz.bindM (Pz.bindM (Pz.bindM (pureM r1) fun (x21 : (Option (List PyData))) => optM x21) fun (x23 : (List PyData)) => (Pz.bindM (Pz.bindM (pureM (1 : Int)) fun (x22 : Int) => pureM (some x22)) fun (x24 : (Option Int)) => (Pz.bindM (pureM (none : Option Int)) fun (x25 : (Option Int)) => pureM (cutL x23 x24 x25)))) fun (x26 : (List PyData)) => optM (x26.mapM asInt)))))
theorem ok_named_points {f : Addr} {fd : FuncData} (F : Fun K "named_points" "named_points" s_named_points f fd) (B : Bl mg)
    {f_half_sort : Addr} {d_half_sort : FuncData} (C_half_sort : Cal K mg "half_sort" f_half_sort d_half_sort ["kept"]) (F_half_sort : FnG P w K mg base 3 f_half_sort d_half_sort ["kept"] (SpM (fun p : (Int × (List (List Int)) × Unit) × Unit => [.fz ((eP (eC eInt (eC (eT (eT eInt)) eU))) p.1)]) (eO (eT eD)) (fun p : (Int × (List (List Int)) × Unit) × Unit => m_half_sort p.1))) :
    FnG P w K mg base 4 f fd ["kept"] (SpM (fun p : (Int × (List (List Int)) × Unit) × Unit => [.fz ((eP (eC eInt (eC (eT (eT eInt)) eU))) p.1)]) (eT eInt) (fun p : (Int × (List (List Int)) × Unit) × Unit => m_named_points p.1)) := by
  refine g_ok F sc_named_points (fun p : (Int × (List (List Int)) × Unit) × Unit => [.fz ((eP (eC eInt (eC (eT (eT eInt)) eU))) p.1)]) (eT eInt) (fun p : (Int × (List (List Int)) × Unit) × Unit => m_named_points p.1) (fun p => [.fz ((eP (eC eInt (eC (eT (eT eInt)) eU))) p.1), .un]) (fun _ => rfl) (fun _ => rfl) ?_
  intro cdv A above s H E R p hG hr
  obtain ⟨v_kept, uu⟩ := p
  have sc := sc_named_points
  exact (s_step (Γ1 := fun (r1 : (Option (List PyData))) => [.fz ((eP (eC eInt (eC (eT (eT eInt)) eU))) v_kept), .fz ((eO (eT eD)) r1)]) (q_set 1 (e_c1 (F_half_sort.mono (by decide)) hG hr C_half_sort.mg C_half_sort.kp C_half_sort.bd (e_var 0 (eP (eC eInt (eC (eT (eT eInt)) eU))) v_kept)) sc.nd) (fun (r1 : (Option (List PyData))) => (s_ifret1 (t_eqZ hr (e_ixT (e_some (e_var 1 (eO (eT eD)) r1)) e_int) e_str) (s_ret0 (e_tupRg1 B.b_tuple B.b_range (e_ixP (ec := eInt) (f := (eC eInt (eC (eT (eT eInt)) eU))) (fun p => p.1) 0 (ha := (e_var 0 (eP (eC eInt (eC (eT (eT eInt)) eU))) v_kept))))) (s_ret0 (e_if (t_eqZ hr (e_ixT (e_some (e_var 1 (eO (eT eD)) r1)) e_int) e_str) (e_dTupAs asInt (fun x y q => by cases x <;> cases q <;> rfl) (e_dTup (e_ixT (e_some (e_var 1 (eO (eT eD)) r1)) e_int))) (e_dTupAs asInt (fun x y q => by cases x <;> cases q <;> rfl) (e_slT (e_some (e_var 1 (eO (eT eD)) r1)) (p_some e_int) p_none)))))))

abbrev s_sort_points : Stmt := topS 13
def N_sort_points : List Str := ["kept", "half", "x"]
theorem sc_sort_points : FnScope N_sort_points ["kept"] (defScope s_sort_points) := ⟨rfl, rfl, rfl, by decide +kernel, rfl, by decide +kernel, by decide +kernel⟩
def m_sort_points (v_kept : (Int × (List (List Int)) × Unit)) : M (List Int) := (Pz.bindM (Pz.bindM (pureM v_kept) fun (x2 : (Int × (List (List Int)) × Unit)) => m_points_in_half x2) fun (r1 : (List Int)) => (Pz.bindM (Pz.bindM (Pz.bindM (pureM v_kept) fun (x3 : (Int × (List (List Int)) × Unit)) => m_named_points x3) fun (x7 : (List Int)) => compM (fun (y4 : Int) => (Pz.bindM (pureM y4) fun (x5 : Int) => (Pz.bindM (pureM r1) fun (x6 : (List Int)) => pureM (memB x5 x6)))) (fun (y4 : Int) => (pureM y4)) x7) fun (x8 : (List Int)) => optM (some x8)))
theorem ok_sort_points {f : Addr} {fd : FuncData} (F : Fun K "sort_points" "sort_points" s_sort_points f fd) (B : Bl mg)
    {f_points_in_half : Addr} {d_points_in_half : FuncData} (C_points_in_half : Cal K mg "points_in_half" f_points_in_half d_points_in_half ["family"]) (F_points_in_half : FnG P w K mg base 2 f_points_in_half d_points_in_half ["family"] (SpM (fun p : (Int × (List (List Int)) × Unit) × Unit => [.fz ((eP (eC eInt (eC (eT (eT eInt)) eU))) p.1)]) (eT eInt) (fun p : (Int × (List (List Int)) × Unit) × Unit => m_points_in_half p.1)))
    {f_named_points : Addr} {d_named_points : FuncData} (C_named_points : Cal K mg "named_points" f_named_points d_named_points ["kept"]) (F_named_points : FnG P w K mg base 4 f_named_points d_named_points ["kept"] (SpM (fun p : (Int × (List (List Int)) × Unit) × Unit => [.fz ((eP (eC eInt (eC (eT (eT eInt)) eU))) p.1)]) (eT eInt) (fun p : (Int × (List (List Int)) × Unit) × Unit => m_named_points p.1))) :
    FnG P w K mg base 5 f fd ["kept"] (SpM (fun p : (Int × (List (List Int)) × Unit) × Unit => [.fz ((eP (eC eInt (eC (eT (eT eInt)) eU))) p.1)]) (eT eInt) (fun p : (Int × (List (List Int)) × Unit) × Unit => m_sort_points p.1)) := by
  refine g_ok F sc_sort_points (fun p : (Int × (List (List Int)) × Unit) × Unit => [.fz ((eP (eC eInt (eC (eT (eT eInt)) eU))) p.1)]) (eT eInt) (fun p : (Int × (List (List Int)) × Unit) × Unit => m_sort_points p.1) (fun p => [.fz ((eP (eC eInt (eC (eT (eT eInt)) eU))) p.1), .un, .un]) (fun _ => rfl) (fun _ => rfl) ?_
  intro cdv A above s H E R p hG hr
  obtain ⟨v_kept, uu⟩ := p
  have sc := sc_sort_points
  exact (s_step (Γ1 := fun (r1 : (List Int)) => [.fz ((eP (eC eInt (eC (eT (eT eInt)) eU))) v_kept), .fz ((eT eInt) r1), .un]) (q_set 1 (e_c1 (F_points_in_half.mono (by decide)) hG hr C_points_in_half.mg C_points_in_half.kp C_points_in_half.bd (e_var 0 (eP (eC eInt (eC (eT (eT eInt)) eU))) v_kept)) sc.nd) (fun (r1 : (List Int)) => (s_ret0 (e_t1 (ea := (eL eInt)) (ec := (eT eInt)) (f := fun x => some x) call_tuple_of v_tupL B.b_tuple bt_tuple (f_e (f_lc (set := (st1 2 eInt)) (is := [2]) [("x", 2)] (fun (y4 : Int) => (Pz.bindM (pureM y4) fun (x5 : Int) => (Pz.bindM (pureM r1) fun (x6 : (List Int)) => pureM (memB x5 x6)))) (fun (y4 : Int) => (pureM y4)) rfl sc.nd (i_tup (e_c1 (F_named_points.mono (by decide)) hG hr C_named_points.mg C_named_points.kp C_named_points.bd (e_var 0 (eP (eC eInt (eC (eT (eT eInt)) eU))) v_kept))) (blkOk_by (N := N_sort_points) (sc := (defScope s_sort_points)) (by decide +kernel)) (fun _ _ _ _ _ => (g1 2 eInt sc.nd)) (fun _ _ _ _ _ (y4 : Int) => (c_one (t_inT (n := 0) hr Dc.int (e_var 2 eInt y4) (e_var 1 (eT eInt) r1)))) (fun _ _ _ _ _ (y4 : Int) => (e_var 2 eInt y4)) noow1 sm1 (fun _ h => h) (noOw rfl)))))))

abbrev s_divided_low : Stmt := topS 15
def N_divided_low : List Str := ["p", "q", "a", "b"]
theorem sc_divided_low : FnScope N_divided_low ["p", "q"] (defScope s_divided_low) := ⟨rfl, rfl, rfl, by decide +kernel, rfl, by decide +kernel, by decide +kernel⟩
def m_divided_low (v_p : Int) (v_q : Int) : M (Int × Int × Unit) := (Pz.bindM (Pz.bindM (pureM v_p) fun (x2 : Int) => (Pz.bindM (pureM v_q) fun (x3 : Int) => pureM (x2, x3))) fun (r1 : (Int × Int)) => (Pz.bindM (whileM (fun (b4 : (Int × Int)) => (Pz.bindM (pureM b4.2) fun (x5 : Int) => (Pz.bindM (pureM (0 : Int)) fun (x6 : Int) => pureM (decide (x6 < x5))))) (fun (b4 : (Int × Int)) => (Pz.bindM (Pz.bindM (pureM b4.2) fun (x10 : Int) => (Pz.bindM (Pz.bindM (pureM b4.1) fun (x8 : Int) => (Pz.bindM (pureM b4.2) fun (x9 : Int) => optM (modO x8 x9))) fun (x11 : Int) => pureM (x10, x11))) fun (r7 : (Int × Int)) => (pureM (r7.1, r7.2)))) (v_q.toNat + 2) (r1.1, r1.2)) fun (r12 : (Int × Int)) => (Pz.bindM (Pz.bindM (pureM v_p) fun (x13 : Int) => (Pz.bindM (pureM r12.1) fun (x14 : Int) => optM (divO x13 x14))) fun (x19 : Int) => (Pz.bindM (Pz.bindM (Pz.bindM (pureM v_q) fun (x15 : Int) => (Pz.bindM (pureM r12.1) fun (x16 : Int) => optM (divO x15 x16))) fun (x17 : Int) => (Pz.bindM (pureM ()) fun (x18 : Unit) => pureM (x17, x18))) fun (x20 : (Int × Unit)) => pureM (x19, x20)))))
theorem ok_divided_low {f : Addr} {fd : FuncData} (F : Fun K "divided_low" "divided_low" s_divided_low f fd) (B : Bl mg) :
    FnG P w K mg base 1 f fd ["p", "q"] (SpM (fun p : Int × Int × Unit => [.fz (eInt p.1), .fz (eInt p.2.1)]) (eP (eC eInt (eC eInt eU))) (fun p : Int × Int × Unit => m_divided_low p.1 p.2.1)) := by
  refine g_ok F sc_divided_low (fun p : Int × Int × Unit => [.fz (eInt p.1), .fz (eInt p.2.1)]) (eP (eC eInt (eC eInt eU))) (fun p : Int × Int × Unit => m_divided_low p.1 p.2.1) (fun p => [.fz (eInt p.1), .fz (eInt p.2.1), .un, .un]) (fun _ => rfl) (fun _ => rfl) ?_
  intro cdv A above s H E R p hG hr
  obtain ⟨v_p, v_q, uu⟩ := p
  have sc := sc_divided_low
  exact (s_step (Γ1 := fun (r1 : (Int × Int)) => [.fz (eInt v_p), .fz (eInt v_q), .fz (eInt r1.1), .fz (eInt r1.2)]) (q_par2 2 3 (e_var 0 eInt v_p) (e_var 1 eInt v_q) rfl sc.nd) (fun (r1 : (Int × Int)) => (s_step (Γ1 := (fun (b : (Int × Int)) => [.fz (eInt v_p), .fz (eInt v_q), .fz (eInt b.1), .fz (eInt b.2)])) (q_while (fun (b : (Int × Int)) => [.fz (eInt v_p), .fz (eInt v_q), .fz (eInt b.1), .fz (eInt b.2)]) (r1.1, r1.2) (v_q.toNat + 2) (fun (b4 : (Int × Int)) => (Pz.bindM (pureM b4.2) fun (x5 : Int) => (Pz.bindM (pureM (0 : Int)) fun (x6 : Int) => pureM (decide (x6 < x5))))) (fun (b4 : (Int × Int)) => (Pz.bindM (Pz.bindM (pureM b4.2) fun (x10 : Int) => (Pz.bindM (Pz.bindM (pureM b4.1) fun (x8 : Int) => (Pz.bindM (pureM b4.2) fun (x9 : Int) => optM (modO x8 x9))) fun (x11 : Int) => pureM (x10, x11))) fun (r7 : (Int × Int)) => (pureM (r7.1, r7.2)))) PassesOwn.never (.eq (.eq (.eq (.eq .nil)))) (fun b4 => (t_gt (e_var 3 eInt b4.2) e_int)) (fun b4 => (s_step (Γ1 := fun (r7 : (Int × Int)) => [.fz (eInt v_p), .fz (eInt v_q), .fz (eInt r7.1), .fz (eInt r7.2)]) (q_par2 2 3 (e_var 3 eInt b4.2) (e_mod (e_var 2 eInt b4.1) (e_var 3 eInt b4.2)) rfl sc.nd) (fun (r7 : (Int × Int)) => (s_nilN (Γb := (fun (b : (Int × Int)) => [.fz (eInt v_p), .fz (eInt v_q), .fz (eInt b.1), .fz (eInt b.2)])) (r7.1, r7.2) (.eq (.eq (.eq (.eq .nil))))))))) (fun (r12 : (Int × Int)) => (s_ret0 (e_tup (eC eInt (eC eInt eU)) (a_cons (e_div (e_var 0 eInt v_p) (e_var 2 eInt r12.1)) (a_cons (e_div (e_var 1 eInt v_q) (e_var 2 eInt r12.1)) a_nil)) (hl := fun _ => (by decide : 2 ≤ sizeLine))))))))

abbrev s_four_counts : Stmt := topS 17
def N_four_counts : List Str := ["family", "x", "y", "found", "lot", "k"]
theorem sc_four_counts : FnScope N_four_counts ["family", "x", "y"] (defScope s_four_counts) := ⟨rfl, rfl, rfl, by decide +kernel, rfl, by decide +kernel, by decide +kernel⟩
def m_four_counts (v_family : (Int × (List (List Int)) × Unit)) (v_x : Int) (v_y : Int) : M (List Int) := (Pz.bindM (smallM (Pz.bindM (pureM (0 : Int)) fun (x8 : Int) => (Pz.bindM (Pz.bindM (pureM (0 : Int)) fun (x6 : Int) => (Pz.bindM (Pz.bindM (pureM (0 : Int)) fun (x4 : Int) => (Pz.bindM (Pz.bindM (pureM (0 : Int)) fun (x2 : Int) => (Pz.bindM (pureM ([] : List Int)) fun (x3 : (List Int)) => pureM (x2 :: x3))) fun (x5 : (List Int)) => pureM (x4 :: x5))) fun (x7 : (List Int)) => pureM (x6 :: x7))) fun (x9 : (List Int)) => pureM (x8 :: x9)))) fun (r1 : (List Int)) => (Pz.bindM (Pz.bindM (Pz.bindM (pureM v_family) fun (x10 : (Int × (List (List Int)) × Unit)) => pureM (x10.2.1)) fun (x31 : (List (List Int))) => forM' (fun (b12 : ((List Int))) (y11 : (List Int)) => (Pz.bindM (Pz.bindM (Pz.bindM (Pz.bindM (pureM v_x) fun (x14 : Int) => (Pz.bindM (pureM y11) fun (x15 : (List Int)) => pureM (memB x14 x15))) fun (x16 : Bool) => optM (some (if x16 then 1 else 0))) fun (x22 : Int) => (Pz.bindM (Pz.bindM (pureM (2 : Int)) fun (x20 : Int) => (Pz.bindM (Pz.bindM (Pz.bindM (pureM v_y) fun (x17 : Int) => (Pz.bindM (pureM y11) fun (x18 : (List Int)) => pureM (memB x17 x18))) fun (x19 : Bool) => optM (some (if x19 then 1 else 0))) fun (x21 : Int) => optM (mulO x20 x21))) fun (x23 : Int) => pureM (x22 + x23))) fun (r13 : Int) => (Pz.bindM (Pz.bindM (Pz.bindM (Pz.bindM (pureM b12) fun (x25 : (List Int)) => (Pz.bindM (pureM r13) fun (x26 : Int) => optM (atI x25 x26))) fun (x27 : Int) => (Pz.bindM (pureM (1 : Int)) fun (x28 : Int) => pureM (x27 + x28))) fun (x29 : Int) => (Pz.bindM (pureM r13) fun (x30 : Int) => optM (setO b12 x30 x29))) fun (r24 : _) => (pureM r24)))) x31 r1) fun (r32 : ((List Int))) => (Pz.bindM (pureM r32) fun (x33 : (List Int)) => optM (some x33))))
theorem ok_four_counts {f : Addr} {fd : FuncData} (F : Fun K "four_counts" "four_counts" s_four_counts f fd) (B : Bl mg) :
    FnG P w K mg base 1 f fd ["family", "x", "y"] (SpM (fun p : (Int × (List (List Int)) × Unit) × Int × Int × Unit => [.fz ((eP (eC eInt (eC (eT (eT eInt)) eU))) p.1), .fz (eInt p.2.1), .fz (eInt p.2.2.1)]) (eT eInt) (fun p : (Int × (List (List Int)) × Unit) × Int × Int × Unit => m_four_counts p.1 p.2.1 p.2.2.1)) := by
  refine g_ok F sc_four_counts (fun p : (Int × (List (List Int)) × Unit) × Int × Int × Unit => [.fz ((eP (eC eInt (eC (eT (eT eInt)) eU))) p.1), .fz (eInt p.2.1), .fz (eInt p.2.2.1)]) (eT eInt) (fun p : (Int × (List (List Int)) × Unit) × Int × Int × Unit => m_four_counts p.1 p.2.1 p.2.2.1) (fun p => [.fz ((eP (eC eInt (eC (eT (eT eInt)) eU))) p.1), .fz (eInt p.2.1), .fz (eInt p.2.2.1), .un, .un, .un]) (fun _ => rfl) (fun _ => rfl) ?_
  intro cdv A above s H E R p hG hr
  obtain ⟨v_family, v_x, v_y, uu⟩ := p
  have sc := sc_four_counts
  exact (s_step (Γ1 := fun (r1 : (List Int)) => [.fz ((eP (eC eInt (eC (eT (eT eInt)) eU))) v_family), .fz (eInt v_x), .fz (eInt v_y), .ow ((eL eInt) r1), .un, .un]) (q_setF 3 (f_list (l_cons e_int (l_cons e_int (l_cons e_int (l_cons e_int l_nil))))) sc.nd) (fun (r1 : (List Int)) => (s_step (Γ1 := (fun (b : ((List Int))) => [.fz ((eP (eC eInt (eC (eT (eT eInt)) eU))) v_family), .fz (eInt v_x), .fz (eInt v_y), .ow ((eL eInt) b), .un, .un])) (q_for (set := (st1 4 (eT eInt))) (is := [4]) (fun (b : ((List Int))) => [.fz ((eP (eC eInt (eC (eT (eT eInt)) eU))) v_family), .fz (eInt v_x), .fz (eInt v_y), .ow ((eL eInt) b), .un, .un]) r1 _ PassesOwn.never rfl (i_tup (e_ixP (ec := (eT (eT eInt))) (f := (eC eInt (eC (eT (eT eInt)) eU))) (fun p => p.2.1) 1 (ha := (e_var 0 (eP (eC eInt (eC (eT (eT eInt)) eU))) v_family)))) (g1 4 (eT eInt) sc.nd) noow1 (.eq (.eq (.eq (.eq (.un (.un .nil)))))) (fun (b12 : ((List Int))) (y11 : (List Int)) => (s_step (Γ1 := fun (r13 : Int) => [.fz ((eP (eC eInt (eC (eT (eT eInt)) eU))) v_family), .fz (eInt v_x), .fz (eInt v_y), .ow ((eL eInt) b12), .fz ((eT eInt) y11), .fz (eInt r13)]) (q_set 5 (e_add (e_t1 (ea := eBool) (ec := eInt) (f := fun x => some (if x then 1 else 0)) call_int1 v_intB B.b_int bt_int (e_inT (n := 0) hr Dc.int (e_var 1 eInt v_x) (e_var 4 (eT eInt) y11))) (e_mul e_int (e_t1 (ea := eBool) (ec := eInt) (f := fun x => some (if x then 1 else 0)) call_int1 v_intB B.b_int bt_int (e_inT (n := 0) hr Dc.int (e_var 2 eInt v_y) (e_var 4 (eT eInt) y11))))) sc.nd) (fun (r13 : Int) => (s_step (Γ1 := fun (r24 : _) => [.fz ((eP (eC eInt (eC (eT (eT eInt)) eU))) v_family), .fz (eInt v_x), .fz (eInt v_y), .ow ((eL eInt) r24), .fz ((eT eInt) y11), .fz (eInt r13)]) (q_stL 3 b12 (e_borrow 3 (d := ((eL eInt) b12)) (e_add (e_ixL (e_var 3 (eL eInt) b12) (e_var 5 eInt r13)) e_int) NL.int) (e_var 5 eInt r13)) (fun (r24 : _) => (s_nilN (Γb := (fun (b : ((List Int))) => [.fz ((eP (eC eInt (eC (eT (eT eInt)) eU))) v_family), .fz (eInt v_x), .fz (eInt v_y), .ow ((eL eInt) b), .un, .un])) r24 (.eq (.eq (.eq (.eq (.un (.un .nil))))))))))))) (fun (r32 : ((List Int))) => (s_low (Γ' := [.fz ((eP (eC eInt (eC (eT (eT eInt)) eU))) v_family), .fz (eInt v_x), .fz (eInt v_y), .fz ((eL eInt) r32), .un, .un]) (.eq (.eq (.eq (.fr (.un (.un .nil)))))) (s_ret0 (e_t1 (ea := (eL eInt)) (ec := (eT eInt)) (f := fun x => some x) call_tuple_of v_tupL B.b_tuple bt_tuple (e_var 3 (eL eInt) r32))))))))

abbrev s_added_lot : Stmt := topS 18
def N_added_lot : List Str := ["kept", "sort"]
theorem sc_added_lot : FnScope N_added_lot ["kept"] (defScope s_added_lot) := ⟨rfl, rfl, rfl, by decide +kernel, rfl, by decide +kernel, by decide +kernel⟩
def m_added_lot (v_kept : (Int × (List (List Int)) × Unit)) : M (Option (List Int)) := (Pz.bindM (Pz.bindM (pureM v_kept) fun (x2 : (Int × (List (List Int)) × Unit)) => m_half_sort x2) fun (r1 : (Option (List PyData))) => (Pz.bindM (Pz.bindM (Pz.bindM (Pz.bindM (pureM r1) fun (x3 : (Option (List PyData))) => optM x3) fun (x4 : (List PyData)) => (Pz.bindM (pureM (0 : Int)) fun (x5 : Int) => optM (atI x4 x5))) fun (x6 : PyData) => (Pz.bindM (pureM ("sizes" : Str)) fun (x7 : Str) => optM (eqZ (eD x6) (eStr x7)))) fun (x8 : Bool) => if x8 then (Pz.bindM (pureM ()) fun (x9 : Unit) => pureM (none : (Option (List Int)))) else (Pz.bindM (Pz.bindM (Pz.bindM (Pz.bindM (pureM r1) fun (x10 : (Option (List PyData))) => optM x10) fun (x11 : (List PyData)) => (Pz.bindM (pureM (0 : Int)) fun (x12 : Int) => optM (atI x11 x12))) fun (x13 : PyData) => (Pz.bindM (pureM ("meets" : Str)) fun (x14 : Str) => optM ((eqZ (eD x13) (eStr x14)).map (!·)))) fun (x18 : Bool) => if x18 then (Pz.bindM (Pz.bindM (pureM v_kept) fun (x15 : (Int × (List (List Int)) × Unit)) => m_named_points x15) fun (x16 : (List Int)) => pureM (some x16)) else (Pz.bindM (pureM v_kept) fun (x17 : (Int × (List (List Int)) × Unit)) => m_least_but_none x17))))
theorem ok_added_lot {f : Addr} {fd : FuncData} (F : Fun K "added_lot" "added_lot" s_added_lot f fd) (B : Bl mg)
    {f_half_sort : Addr} {d_half_sort : FuncData} (C_half_sort : Cal K mg "half_sort" f_half_sort d_half_sort ["kept"]) (F_half_sort : FnG P w K mg base 3 f_half_sort d_half_sort ["kept"] (SpM (fun p : (Int × (List (List Int)) × Unit) × Unit => [.fz ((eP (eC eInt (eC (eT (eT eInt)) eU))) p.1)]) (eO (eT eD)) (fun p : (Int × (List (List Int)) × Unit) × Unit => m_half_sort p.1)))
    {f_named_points : Addr} {d_named_points : FuncData} (C_named_points : Cal K mg "named_points" f_named_points d_named_points ["kept"]) (F_named_points : FnG P w K mg base 4 f_named_points d_named_points ["kept"] (SpM (fun p : (Int × (List (List Int)) × Unit) × Unit => [.fz ((eP (eC eInt (eC (eT (eT eInt)) eU))) p.1)]) (eT eInt) (fun p : (Int × (List (List Int)) × Unit) × Unit => m_named_points p.1)))
    {f_least_but_none : Addr} {d_least_but_none : FuncData} (C_least_but_none : Cal K mg "least_but_none" f_least_but_none d_least_but_none ["family"]) (F_least_but_none : FnG P w K mg base 1 f_least_but_none d_least_but_none ["family"] (SpM (fun p : (Int × (List (List Int)) × Unit) × Unit => [.fz ((eP (eC eInt (eC (eT (eT eInt)) eU))) p.1)]) (eO (eT eInt)) (fun p : (Int × (List (List Int)) × Unit) × Unit => m_least_but_none p.1))) :
    FnG P w K mg base 5 f fd ["kept"] (SpM (fun p : (Int × (List (List Int)) × Unit) × Unit => [.fz ((eP (eC eInt (eC (eT (eT eInt)) eU))) p.1)]) (eO (eT eInt)) (fun p : (Int × (List (List Int)) × Unit) × Unit => m_added_lot p.1)) := by
  refine g_ok F sc_added_lot (fun p : (Int × (List (List Int)) × Unit) × Unit => [.fz ((eP (eC eInt (eC (eT (eT eInt)) eU))) p.1)]) (eO (eT eInt)) (fun p : (Int × (List (List Int)) × Unit) × Unit => m_added_lot p.1) (fun p => [.fz ((eP (eC eInt (eC (eT (eT eInt)) eU))) p.1), .un]) (fun _ => rfl) (fun _ => rfl) ?_
  intro cdv A above s H E R p hG hr
  obtain ⟨v_kept, uu⟩ := p
  have sc := sc_added_lot
  exact (s_step (Γ1 := fun (r1 : (Option (List PyData))) => [.fz ((eP (eC eInt (eC (eT (eT eInt)) eU))) v_kept), .fz ((eO (eT eD)) r1)]) (q_set 1 (e_c1 (F_half_sort.mono (by decide)) hG hr C_half_sort.mg C_half_sort.kp C_half_sort.bd (e_var 0 (eP (eC eInt (eC (eT (eT eInt)) eU))) v_kept)) sc.nd) (fun (r1 : (Option (List PyData))) => (s_ifret1 (t_eqZ hr (e_ixT (e_some (e_var 1 (eO (eT eD)) r1)) e_int) e_str) (s_ret0 (e_enc (eb := (eO (eT eInt))) (fun _ => (none : (Option (List Int)))) e_non (fun _ => rfl))) (s_ret0 (e_if (t_neZ hr (e_ixT (e_some (e_var 1 (eO (eT eD)) r1)) e_int) e_str) (e_enc (eb := (eO (eT eInt))) some (e_c1 (F_named_points.mono (by decide)) hG hr C_named_points.mg C_named_points.kp C_named_points.bd (e_var 0 (eP (eC eInt (eC (eT (eT eInt)) eU))) v_kept)) (fun _ => rfl)) (e_c1 (F_least_but_none.mono (by decide)) hG hr C_least_but_none.mg C_least_but_none.kp C_least_but_none.bd (e_var 0 (eP (eC eInt (eC (eT (eT eInt)) eU))) v_kept)))))))

abbrev s_half_table : Stmt := topS 19
def N_half_table : List Str := ["kept", "added", "some", "lot", "x"]
theorem sc_half_table : FnScope N_half_table ["kept"] (defScope s_half_table) := ⟨rfl, rfl, rfl, by decide +kernel, rfl, by decide +kernel, by decide +kernel⟩
def m_half_table (v_kept : (Int × (List (List Int)) × Unit)) : M (List ((List Int) × (List Int) × Unit)) := (Pz.bindM (Pz.bindM (pureM v_kept) fun (x2 : (Int × (List (List Int)) × Unit)) => m_added_lot x2) fun (r1 : (Option (List Int))) => (Pz.bindM (Pz.bindM (pureM r1) fun (x3 : (Option (List Int))) => pureM x3.isNone) fun (x4 : Bool) => if x4 then (smallM (pureM ([] : List ((List Int) × (List Int) × Unit)))) else (Pz.bindM (Pz.bindM (Pz.bindM (pureM v_kept) fun (x6 : (Int × (List (List Int)) × Unit)) => pureM (x6.2.1)) fun (x15 : (List (List Int))) => compM (fun (y7 : (List Int)) => (Pz.bindM (Pz.bindM (Pz.bindM (Pz.bindM (pureM r1) fun (x8 : (Option (List Int))) => optM x8) fun (x12 : (List Int)) => compM (fun (y9 : Int) => (pureM true)) (fun (y9 : Int) => (Pz.bindM (pureM y9) fun (x10 : Int) => (Pz.bindM (pureM y7) fun (x11 : (List Int)) => pureM (memB x10 x11)))) x12) fun (x13 : (List Bool)) => optM (some (x13.any id))) fun (x14 : Bool) => pureM (!x14))) (fun (y7 : (List Int)) => (pureM y7)) x15) fun (r5 : (List (List Int))) => (Pz.bindM (Pz.bindM (pureM r5) fun (x24 : (List (List Int))) => compM (fun (y16 : (List Int)) => (pureM true)) (fun (y16 : (List Int)) => (Pz.bindM (pureM y16) fun (x22 : (List Int)) => (Pz.bindM (Pz.bindM (Pz.bindM (pureM y16) fun (x18 : (List Int)) => (Pz.bindM (Pz.bindM (pureM r1) fun (x17 : (Option (List Int))) => optM x17) fun (x19 : (List Int)) => m_in_either x18 x19)) fun (x20 : (List Int)) => (Pz.bindM (pureM ()) fun (x21 : Unit) => pureM (x20, x21))) fun (x23 : ((List Int) × Unit)) => pureM (x22, x23)))) x24) fun (x25 : (List ((List Int) × (List Int) × Unit))) => optM (some x25)))))
theorem ok_half_table {f : Addr} {fd : FuncData} (F : Fun K "half_table" "half_table" s_half_table f fd) (B : Bl mg)
    {f_added_lot : Addr} {d_added_lot : FuncData} (C_added_lot : Cal K mg "added_lot" f_added_lot d_added_lot ["kept"]) (F_added_lot : FnG P w K mg base 5 f_added_lot d_added_lot ["kept"] (SpM (fun p : (Int × (List (List Int)) × Unit) × Unit => [.fz ((eP (eC eInt (eC (eT (eT eInt)) eU))) p.1)]) (eO (eT eInt)) (fun p : (Int × (List (List Int)) × Unit) × Unit => m_added_lot p.1)))
    {f_in_either : Addr} {d_in_either : FuncData} (C_in_either : Cal K mg "in_either" f_in_either d_in_either ["one", "other"]) (F_in_either : FnG P w K mg base 1 f_in_either d_in_either ["one", "other"] (SpM (fun p : (List Int) × (List Int) × Unit => [.fz ((eT eInt) p.1), .fz ((eT eInt) p.2.1)]) (eT eInt) (fun p : (List Int) × (List Int) × Unit => m_in_either p.1 p.2.1))) :
    FnG P w K mg base 6 f fd ["kept"] (SpM (fun p : (Int × (List (List Int)) × Unit) × Unit => [.fz ((eP (eC eInt (eC (eT (eT eInt)) eU))) p.1)]) (eT (eP (eC (eT eInt) (eC (eT eInt) eU)))) (fun p : (Int × (List (List Int)) × Unit) × Unit => m_half_table p.1)) := by
  refine g_ok F sc_half_table (fun p : (Int × (List (List Int)) × Unit) × Unit => [.fz ((eP (eC eInt (eC (eT (eT eInt)) eU))) p.1)]) (eT (eP (eC (eT eInt) (eC (eT eInt) eU)))) (fun p : (Int × (List (List Int)) × Unit) × Unit => m_half_table p.1) (fun p => [.fz ((eP (eC eInt (eC (eT (eT eInt)) eU))) p.1), .un, .un, .un, .un]) (fun _ => rfl) (fun _ => rfl) ?_
  intro cdv A above s H E R p hG hr
  obtain ⟨v_kept, uu⟩ := p
  have sc := sc_half_table
  exact (s_step (Γ1 := fun (r1 : (Option (List Int))) => [.fz ((eP (eC eInt (eC (eT (eT eInt)) eU))) v_kept), .fz ((eO (eT eInt)) r1), .un, .un, .un]) (q_set 1 (e_c1 (F_added_lot.mono (by decide)) hG hr C_added_lot.mg C_added_lot.kp C_added_lot.bd (e_var 0 (eP (eC eInt (eC (eT (eT eInt)) eU))) v_kept)) sc.nd) (fun (r1 : (Option (List Int))) => (s_ifret1 (t_isN NN.tup (e_var 1 (eO (eT eInt)) r1)) (s_ret0 (e_tupl l_nil)) (s_step (Γ1 := fun (r5 : (List (List Int))) => [.fz ((eP (eC eInt (eC (eT (eT eInt)) eU))) v_kept), .fz ((eO (eT eInt)) r1), .fz ((eL (eT eInt)) r5), .un, .un]) (q_setLcE 2 (set := (st1 3 (eT eInt))) (is := [3]) [("lot", 3)] (fun (y7 : (List Int)) => (Pz.bindM (Pz.bindM (Pz.bindM (Pz.bindM (pureM r1) fun (x8 : (Option (List Int))) => optM x8) fun (x12 : (List Int)) => compM (fun (y9 : Int) => (pureM true)) (fun (y9 : Int) => (Pz.bindM (pureM y9) fun (x10 : Int) => (Pz.bindM (pureM y7) fun (x11 : (List Int)) => pureM (memB x10 x11)))) x12) fun (x13 : (List Bool)) => optM (some (x13.any id))) fun (x14 : Bool) => pureM (!x14))) (fun (y7 : (List Int)) => (pureM y7)) rfl sc.nd (sw_true rfl rfl rfl (by decide +kernel)) (i_tup (e_ixP (ec := (eT (eT eInt))) (f := (eC eInt (eC (eT (eT eInt)) eU))) (fun p => p.2.1) 1 (ha := (e_var 0 (eP (eC eInt (eC (eT (eT eInt)) eU))) v_kept)))) (blkOk_by (N := N_half_table) (sc := (defScope s_half_table)) (by decide +kernel)) (fun _ _ _ _ _ => (g1 3 (eT eInt) sc.nd)) (fun _ _ _ _ _ (y7 : (List Int)) => (c_one (t_not (t_val (e_b1 (ea := (eL eBool)) (ec := eBool) (f := fun x => some (x.any id)) (cr_any rfl) v_any B.b_any bt_any (f_e (f_lc (set := (st1 4 eInt)) (is := [4]) [("x", 4)] (fun (y9 : Int) => (pureM true)) (fun (y9 : Int) => (Pz.bindM (pureM y9) fun (x10 : Int) => (Pz.bindM (pureM y7) fun (x11 : (List Int)) => pureM (memB x10 x11)))) rfl sc.nd (i_tup (e_some (e_var 1 (eO (eT eInt)) r1))) (blkOk_in N_half_table rfl (by decide +kernel)) (fun _ _ _ _ _ => (g1 4 eInt sc.nd)) (fun _ _ _ _ _ (y9 : Int) => c_nil) (fun _ _ _ _ _ (y9 : Int) => (e_inT (n := 0) hr Dc.int (e_var 4 eInt y9) (e_var 3 (eT eInt) y7))) noow1 sm1 (fun _ h => h) (noOw rfl)))))))) (fun _ _ _ _ _ (y7 : (List Int)) => (e_var 3 (eT eInt) y7)) noow1 sm1 (fun _ h => h) (noOw rfl)) (fun (r5 : (List (List Int))) => (s_ret0 (e_t1 (ea := (eL (eP (eC (eT eInt) (eC (eT eInt) eU))))) (ec := (eT (eP (eC (eT eInt) (eC (eT eInt) eU))))) (f := fun x => some x) call_tuple_of v_tupL B.b_tuple bt_tuple (f_e (f_lc (set := (st1 3 (eT eInt))) (is := [3]) [("lot", 3)] (fun (y16 : (List Int)) => (pureM true)) (fun (y16 : (List Int)) => (Pz.bindM (pureM y16) fun (x22 : (List Int)) => (Pz.bindM (Pz.bindM (Pz.bindM (pureM y16) fun (x18 : (List Int)) => (Pz.bindM (Pz.bindM (pureM r1) fun (x17 : (Option (List Int))) => optM x17) fun (x19 : (List Int)) => m_in_either x18 x19)) fun (x20 : (List Int)) => (Pz.bindM (pureM ()) fun (x21 : Unit) => pureM (x20, x21))) fun (x23 : ((List Int) × Unit)) => pureM (x22, x23)))) rfl sc.nd (i_list (e_var 2 (eL (eT eInt)) r5)) (blkOk_by (N := N_half_table) (sc := (defScope s_half_table)) (by decide +kernel)) (fun _ _ _ _ _ => (g1 3 (eT eInt) sc.nd)) (fun _ _ _ _ _ (y16 : (List Int)) => c_nil) (fun _ _ _ _ _ (y16 : (List Int)) => (e_tup (eC (eT eInt) (eC (eT eInt) eU)) (a_cons (e_var 3 (eT eInt) y16) (a_cons (e_c2 (F_in_either.mono (by decide)) hG hr C_in_either.mg C_in_either.kp C_in_either.bd (e_var 3 (eT eInt) y16) (e_some (e_var 1 (eO (eT eInt)) r1))) a_nil)) (hl := fun _ => (by decide : 2 ≤ sizeLine)))) noow1 sm1 (fun _ h => h) (noOw rfl))))))))))

abbrev s_point_degrees : Stmt := topS 20
def N_point_degrees : List Str := ["family", "i"]
theorem sc_point_degrees : FnScope N_point_degrees ["family"] (defScope s_point_degrees) := ⟨rfl, rfl, rfl, by decide +kernel, rfl, by decide +kernel, by decide +kernel⟩
def m_point_degrees (v_family : (Int × (List (List Int)) × Unit)) : M (List Int) := (Pz.bindM (Pz.bindM (Pz.bindM (Pz.bindM (pureM v_family) fun (x1 : (Int × (List (List Int)) × Unit)) => pureM (x1.1)) fun (x2 : Int) => rangeM 0 x2) fun (x6 : (List Int)) => compM (fun (y3 : Int) => (pureM true)) (fun (y3 : Int) => (Pz.bindM (pureM v_family) fun (x4 : (Int × (List (List Int)) × Unit)) => (Pz.bindM (pureM y3) fun (x5 : Int) => m_lots_at x4 x5))) x6) fun (x7 : (List Int)) => optM (some x7))
theorem ok_point_degrees {f : Addr} {fd : FuncData} (F : Fun K "point_degrees" "point_degrees" s_point_degrees f fd) (B : Bl mg)
    {f_lots_at : Addr} {d_lots_at : FuncData} (C_lots_at : Cal K mg "lots_at" f_lots_at d_lots_at ["family", "i"]) (F_lots_at : FnG P w K mg base 1 f_lots_at d_lots_at ["family", "i"] (SpM (fun p : (Int × (List (List Int)) × Unit) × Int × Unit => [.fz ((eP (eC eInt (eC (eT (eT eInt)) eU))) p.1), .fz (eInt p.2.1)]) eInt (fun p : (Int × (List (List Int)) × Unit) × Int × Unit => m_lots_at p.1 p.2.1))) :
    FnG P w K mg base 2 f fd ["family"] (SpM (fun p : (Int × (List (List Int)) × Unit) × Unit => [.fz ((eP (eC eInt (eC (eT (eT eInt)) eU))) p.1)]) (eT eInt) (fun p : (Int × (List (List Int)) × Unit) × Unit => m_point_degrees p.1)) := by
  refine g_ok F sc_point_degrees (fun p : (Int × (List (List Int)) × Unit) × Unit => [.fz ((eP (eC eInt (eC (eT (eT eInt)) eU))) p.1)]) (eT eInt) (fun p : (Int × (List (List Int)) × Unit) × Unit => m_point_degrees p.1) (fun p => [.fz ((eP (eC eInt (eC (eT (eT eInt)) eU))) p.1), .un]) (fun _ => rfl) (fun _ => rfl) ?_
  intro cdv A above s H E R p hG hr
  obtain ⟨v_family, uu⟩ := p
  have sc := sc_point_degrees
  exact (s_ret0 (e_t1 (ea := (eL eInt)) (ec := (eT eInt)) (f := fun x => some x) call_tuple_of v_tupL B.b_tuple bt_tuple (f_e (f_lc (set := (st1 1 eInt)) (is := [1]) [("i", 1)] (fun (y3 : Int) => (pureM true)) (fun (y3 : Int) => (Pz.bindM (pureM v_family) fun (x4 : (Int × (List (List Int)) × Unit)) => (Pz.bindM (pureM y3) fun (x5 : Int) => m_lots_at x4 x5))) rfl sc.nd (i_range1 B.b_range (e_ixP (ec := eInt) (f := (eC eInt (eC (eT (eT eInt)) eU))) (fun p => p.1) 0 (ha := (e_var 0 (eP (eC eInt (eC (eT (eT eInt)) eU))) v_family)))) (blkOk_by (N := N_point_degrees) (sc := (defScope s_point_degrees)) (by decide +kernel)) (fun _ _ _ _ _ => (g1 1 eInt sc.nd)) (fun _ _ _ _ _ (y3 : Int) => c_nil) (fun _ _ _ _ _ (y3 : Int) => (e_c2 (F_lots_at.mono (by decide)) hG hr C_lots_at.mg C_lots_at.kp C_lots_at.bd (e_var 0 (eP (eC eInt (eC (eT (eT eInt)) eU))) v_family) (e_var 1 eInt y3))) noow1 sm1 (fun _ h => h) (noOw rfl)))))

abbrev s_mean_size : Stmt := topS 21
def N_mean_size : List Str := ["family"]
theorem sc_mean_size : FnScope N_mean_size ["family"] (defScope s_mean_size) := ⟨rfl, rfl, rfl, by decide +kernel, rfl, by decide +kernel, by decide +kernel⟩
def m_mean_size (v_family : (Int × (List (List Int)) × Unit)) : M (Int × Int × Unit) := (Pz.bindM (Pz.bindM (pureM v_family) fun (x1 : (Int × (List (List Int)) × Unit)) => m_sizes_added x1) fun (x4 : Int) => (Pz.bindM (Pz.bindM (Pz.bindM (pureM v_family) fun (x2 : (Int × (List (List Int)) × Unit)) => pureM (x2.2.1)) fun (x3 : (List (List Int))) => pureM (x3.length : Int)) fun (x5 : Int) => m_divided_low x4 x5))
theorem ok_mean_size {f : Addr} {fd : FuncData} (F : Fun K "mean_size" "mean_size" s_mean_size f fd) (B : Bl mg)
    {f_divided_low : Addr} {d_divided_low : FuncData} (C_divided_low : Cal K mg "divided_low" f_divided_low d_divided_low ["p", "q"]) (F_divided_low : FnG P w K mg base 1 f_divided_low d_divided_low ["p", "q"] (SpM (fun p : Int × Int × Unit => [.fz (eInt p.1), .fz (eInt p.2.1)]) (eP (eC eInt (eC eInt eU))) (fun p : Int × Int × Unit => m_divided_low p.1 p.2.1)))
    {f_sizes_added : Addr} {d_sizes_added : FuncData} (C_sizes_added : Cal K mg "sizes_added" f_sizes_added d_sizes_added ["family"]) (F_sizes_added : FnG P w K mg base 1 f_sizes_added d_sizes_added ["family"] (SpM (fun p : (Int × (List (List Int)) × Unit) × Unit => [.fz ((eP (eC eInt (eC (eT (eT eInt)) eU))) p.1)]) eInt (fun p : (Int × (List (List Int)) × Unit) × Unit => m_sizes_added p.1))) :
    FnG P w K mg base 2 f fd ["family"] (SpM (fun p : (Int × (List (List Int)) × Unit) × Unit => [.fz ((eP (eC eInt (eC (eT (eT eInt)) eU))) p.1)]) (eP (eC eInt (eC eInt eU))) (fun p : (Int × (List (List Int)) × Unit) × Unit => m_mean_size p.1)) := by
  refine g_ok F sc_mean_size (fun p : (Int × (List (List Int)) × Unit) × Unit => [.fz ((eP (eC eInt (eC (eT (eT eInt)) eU))) p.1)]) (eP (eC eInt (eC eInt eU))) (fun p : (Int × (List (List Int)) × Unit) × Unit => m_mean_size p.1) (fun p => [.fz ((eP (eC eInt (eC (eT (eT eInt)) eU))) p.1)]) (fun _ => rfl) (fun _ => rfl) ?_
  intro cdv A above s H E R p hG hr
  obtain ⟨v_family, uu⟩ := p
  have sc := sc_mean_size
  exact (s_ret0 (e_c2 (F_divided_low.mono (by decide)) hG hr C_divided_low.mg C_divided_low.kp C_divided_low.bd (e_c1 (F_sizes_added.mono (by decide)) hG hr C_sizes_added.mg C_sizes_added.kp C_sizes_added.bd (e_var 0 (eP (eC eInt (eC (eT (eT eInt)) eU))) v_family)) (e_lenT B.b_len bt_len (e_ixP (ec := (eT (eT eInt))) (f := (eC eInt (eC (eT (eT eInt)) eU))) (fun p => p.2.1) 1 (ha := (e_var 0 (eP (eC eInt (eC (eT (eT eInt)) eU))) v_family))))))

abbrev s__law_common : Stmt := topS 25
def N__law_common : List Str := ["one", "other", "x"]
theorem sc__law_common : FnScope N__law_common ["one", "other"] (defScope s__law_common) := ⟨rfl, rfl, rfl, by decide +kernel, rfl, by decide +kernel, by decide +kernel⟩
def m__law_common (v_one : (List Int)) (v_other : (List Int)) : M (List Int) := (Pz.bindM (Pz.bindM (pureM v_one) fun (x4 : (List Int)) => compM (fun (y1 : Int) => (Pz.bindM (pureM y1) fun (x2 : Int) => (Pz.bindM (pureM v_other) fun (x3 : (List Int)) => pureM (memB x2 x3)))) (fun (y1 : Int) => (pureM y1)) x4) fun (x5 : (List Int)) => optM (some x5))
theorem ok__law_common {f : Addr} {fd : FuncData} (F : Fun K "_law_common" "_law_common" s__law_common f fd) (B : Bl mg) :
    FnG P w K mg base 1 f fd ["one", "other"] (SpM (fun p : (List Int) × (List Int) × Unit => [.fz ((eT eInt) p.1), .fz ((eT eInt) p.2.1)]) (eT eInt) (fun p : (List Int) × (List Int) × Unit => m__law_common p.1 p.2.1)) := by
  refine g_ok F sc__law_common (fun p : (List Int) × (List Int) × Unit => [.fz ((eT eInt) p.1), .fz ((eT eInt) p.2.1)]) (eT eInt) (fun p : (List Int) × (List Int) × Unit => m__law_common p.1 p.2.1) (fun p => [.fz ((eT eInt) p.1), .fz ((eT eInt) p.2.1), .un]) (fun _ => rfl) (fun _ => rfl) ?_
  intro cdv A above s H E R p hG hr
  obtain ⟨v_one, v_other, uu⟩ := p
  have sc := sc__law_common
  exact (s_ret0 (e_t1 (ea := (eL eInt)) (ec := (eT eInt)) (f := fun x => some x) call_tuple_of v_tupL B.b_tuple bt_tuple (f_e (f_lc (set := (st1 2 eInt)) (is := [2]) [("x", 2)] (fun (y1 : Int) => (Pz.bindM (pureM y1) fun (x2 : Int) => (Pz.bindM (pureM v_other) fun (x3 : (List Int)) => pureM (memB x2 x3)))) (fun (y1 : Int) => (pureM y1)) rfl sc.nd (i_tup (e_var 0 (eT eInt) v_one)) (blkOk_by (N := N__law_common) (sc := (defScope s__law_common)) (by decide +kernel)) (fun _ _ _ _ _ => (g1 2 eInt sc.nd)) (fun _ _ _ _ _ (y1 : Int) => (c_one (t_inT (n := 0) hr Dc.int (e_var 2 eInt y1) (e_var 1 (eT eInt) v_other)))) (fun _ _ _ _ _ (y1 : Int) => (e_var 2 eInt y1)) noow1 sm1 (fun _ h => h) (noOw rfl)))))

abbrev s__law_union : Stmt := topS 26
def N__law_union : List Str := ["one", "other", "x"]
theorem sc__law_union : FnScope N__law_union ["one", "other"] (defScope s__law_union) := ⟨rfl, rfl, rfl, by decide +kernel, rfl, by decide +kernel, by decide +kernel⟩
def m__law_union (v_one : (List Int)) (v_other : (List Int)) : M (List Int) := (Pz.bindM (Pz.bindM (Pz.bindM (Pz.bindM (Pz.bindM (pureM v_one) fun (x1 : (List Int)) => (Pz.bindM (pureM v_other) fun (x2 : (List Int)) => optM (catO x1 x2))) fun (x8 : (List Int)) => compM (fun (y3 : Int) => (pureM true)) (fun (y3 : Int) => (Pz.bindM (pureM y3) fun (x6 : Int) => (Pz.bindM (Pz.bindM (pureM (0 : Int)) fun (x4 : Int) => (Pz.bindM (pureM ()) fun (x5 : Unit) => pureM (x4, x5))) fun (x7 : (Int × Unit)) => pureM (x6, x7)))) x8) fun (x9 : (List (Int × Int × Unit))) => pureM (mergeL [] x9)) fun (x10 : (List (Int × Int × Unit))) => optM (some (srt eInt (x10.map fun p => p.1)))) fun (x11 : (List Int)) => optM (some x11))
theorem ok__law_union {f : Addr} {fd : FuncData} (F : Fun K "_law_union" "_law_union" s__law_union f fd) (B : Bl mg) :
    FnG P w K mg base 1 f fd ["one", "other"] (SpM (fun p : (List Int) × (List Int) × Unit => [.fz ((eT eInt) p.1), .fz ((eT eInt) p.2.1)]) (eT eInt) (fun p : (List Int) × (List Int) × Unit => m__law_union p.1 p.2.1)) := by
  refine g_ok F sc__law_union (fun p : (List Int) × (List Int) × Unit => [.fz ((eT eInt) p.1), .fz ((eT eInt) p.2.1)]) (eT eInt) (fun p : (List Int) × (List Int) × Unit => m__law_union p.1 p.2.1) (fun p => [.fz ((eT eInt) p.1), .fz ((eT eInt) p.2.1), .un]) (fun _ => rfl) (fun _ => rfl) ?_
  intro cdv A above s H E R p hG hr
  obtain ⟨v_one, v_other, uu⟩ := p
  have sc := sc__law_union
  exact (s_ret0 (e_t1 (ea := (eL eInt)) (ec := (eT eInt)) (f := fun x => some x) call_tuple_of v_tupL B.b_tuple bt_tuple (f_e (f_b1 (ea := (eM eInt eInt)) (ec := eInt) (f := fun x => some (srt eInt (x.map fun p => p.1))) (call_sortM Ky.int VlB.int SrtA.ints rfl hr.units) v_sortM B.b_sorted bt_sorted (d_e (d_dict (ek := eInt) (ev := eInt) Ky.int VlB.int hr rfl B.b_dict bt_dict (f_e (f_lc (set := (st1 2 eInt)) (is := [2]) [("x", 2)] (fun (y3 : Int) => (pureM true)) (fun (y3 : Int) => (Pz.bindM (pureM y3) fun (x6 : Int) => (Pz.bindM (Pz.bindM (pureM (0 : Int)) fun (x4 : Int) => (Pz.bindM (pureM ()) fun (x5 : Unit) => pureM (x4, x5))) fun (x7 : (Int × Unit)) => pureM (x6, x7)))) rfl sc.nd (i_tup (e_catT (e_var 0 (eT eInt) v_one) (e_var 1 (eT eInt) v_other))) (blkOk_by (N := N__law_union) (sc := (defScope s__law_union)) (by decide +kernel)) (fun _ _ _ _ _ => (g1 2 eInt sc.nd)) (fun _ _ _ _ _ (y3 : Int) => c_nil) (fun _ _ _ _ _ (y3 : Int) => (e_tup (eC eInt (eC eInt eU)) (a_cons (e_var 2 eInt y3) (a_cons e_int a_nil)) (hl := fun _ => (by decide : 2 ≤ sizeLine)))) noow1 sm1 (fun _ h => h) (noOw rfl)))))))))

abbrev s__law_low : Stmt := topS 27
def N__law_low : List Str := ["p", "q", "a", "b"]
theorem sc__law_low : FnScope N__law_low ["p", "q"] (defScope s__law_low) := ⟨rfl, rfl, rfl, by decide +kernel, rfl, by decide +kernel, by decide +kernel⟩
def m__law_low (v_p : Int) (v_q : Int) : M (Int × Int × Unit) := (Pz.bindM (Pz.bindM (Pz.bindM (pureM v_p) fun (x2 : Int) => optM (some (if x2 < 0 then -x2 else x2))) fun (x3 : Int) => (Pz.bindM (pureM v_q) fun (x4 : Int) => pureM (x3, x4))) fun (r1 : (Int × Int)) => (Pz.bindM (whileM (fun (b5 : (Int × Int)) => (Pz.bindM (pureM b5.2) fun (x6 : Int) => (Pz.bindM (pureM (0 : Int)) fun (x7 : Int) => pureM (decide (x7 < x6))))) (fun (b5 : (Int × Int)) => (Pz.bindM (Pz.bindM (pureM b5.2) fun (x12 : Int) => (Pz.bindM (Pz.bindM (Pz.bindM (pureM b5.1) fun (x9 : Int) => optM (some x9)) fun (x10 : Int) => (Pz.bindM (pureM b5.2) fun (x11 : Int) => optM (modO x10 x11))) fun (x13 : Int) => pureM (x12, x13))) fun (r8 : (Int × Int)) => (pureM (r8.1, r8.2)))) (v_q.toNat + 2) (r1.1, r1.2)) fun (r14 : (Int × Int)) => (Pz.bindM (Pz.bindM (pureM v_p) fun (x15 : Int) => (Pz.bindM (pureM r14.1) fun (x16 : Int) => optM (divO x15 x16))) fun (x21 : Int) => (Pz.bindM (Pz.bindM (Pz.bindM (pureM v_q) fun (x17 : Int) => (Pz.bindM (pureM r14.1) fun (x18 : Int) => optM (divO x17 x18))) fun (x19 : Int) => (Pz.bindM (pureM ()) fun (x20 : Unit) => pureM (x19, x20))) fun (x22 : (Int × Unit)) => pureM (x21, x22)))))
theorem ok__law_low {f : Addr} {fd : FuncData} (F : Fun K "_law_low" "_law_low" s__law_low f fd) (B : Bl mg) :
    FnG P w K mg base 1 f fd ["p", "q"] (SpM (fun p : Int × Int × Unit => [.fz (eInt p.1), .fz (eInt p.2.1)]) (eP (eC eInt (eC eInt eU))) (fun p : Int × Int × Unit => m__law_low p.1 p.2.1)) := by
  refine g_ok F sc__law_low (fun p : Int × Int × Unit => [.fz (eInt p.1), .fz (eInt p.2.1)]) (eP (eC eInt (eC eInt eU))) (fun p : Int × Int × Unit => m__law_low p.1 p.2.1) (fun p => [.fz (eInt p.1), .fz (eInt p.2.1), .un, .un]) (fun _ => rfl) (fun _ => rfl) ?_
  intro cdv A above s H E R p hG hr
  obtain ⟨v_p, v_q, uu⟩ := p
  have sc := sc__law_low
  exact (s_step (Γ1 := fun (r1 : (Int × Int)) => [.fz (eInt v_p), .fz (eInt v_q), .fz (eInt r1.1), .fz (eInt r1.2)]) (q_par2 2 3 (e_b1 (ea := eInt) (ec := eInt) (f := fun x => some (if x < 0 then -x else x)) call_abs v_abs B.b_abs bt_abs (e_var 0 eInt v_p)) (e_var 1 eInt v_q) rfl sc.nd) (fun (r1 : (Int × Int)) => (s_step (Γ1 := (fun (b : (Int × Int)) => [.fz (eInt v_p), .fz (eInt v_q), .fz (eInt b.1), .fz (eInt b.2)])) (q_while (fun (b : (Int × Int)) => [.fz (eInt v_p), .fz (eInt v_q), .fz (eInt b.1), .fz (eInt b.2)]) (r1.1, r1.2) (v_q.toNat + 2) (fun (b5 : (Int × Int)) => (Pz.bindM (pureM b5.2) fun (x6 : Int) => (Pz.bindM (pureM (0 : Int)) fun (x7 : Int) => pureM (decide (x7 < x6))))) (fun (b5 : (Int × Int)) => (Pz.bindM (Pz.bindM (pureM b5.2) fun (x12 : Int) => (Pz.bindM (Pz.bindM (Pz.bindM (pureM b5.1) fun (x9 : Int) => optM (some x9)) fun (x10 : Int) => (Pz.bindM (pureM b5.2) fun (x11 : Int) => optM (modO x10 x11))) fun (x13 : Int) => pureM (x12, x13))) fun (r8 : (Int × Int)) => (pureM (r8.1, r8.2)))) PassesOwn.never (.eq (.eq (.eq (.eq .nil)))) (fun b5 => (t_gt (e_var 3 eInt b5.2) e_int)) (fun b5 => (s_step (Γ1 := fun (r8 : (Int × Int)) => [.fz (eInt v_p), .fz (eInt v_q), .fz (eInt r8.1), .fz (eInt r8.2)]) (q_par2 2 3 (e_var 3 eInt b5.2) (e_mod (e_t1 (ea := eInt) (ec := eInt) (f := fun x => some x) call_int1 v_intI B.b_int bt_int (e_var 2 eInt b5.1)) (e_var 3 eInt b5.2)) rfl sc.nd) (fun (r8 : (Int × Int)) => (s_nilN (Γb := (fun (b : (Int × Int)) => [.fz (eInt v_p), .fz (eInt v_q), .fz (eInt b.1), .fz (eInt b.2)])) (r8.1, r8.2) (.eq (.eq (.eq (.eq .nil))))))))) (fun (r14 : (Int × Int)) => (s_ret0 (e_tup (eC eInt (eC eInt eU)) (a_cons (e_div (e_var 0 eInt v_p) (e_var 2 eInt r14.1)) (a_cons (e_div (e_var 1 eInt v_q) (e_var 2 eInt r14.1)) a_nil)) (hl := fun _ => (by decide : 2 ≤ sizeLine))))))))

abbrev s__law_kept : Stmt := topS 28
def N__law_kept : List Str := ["source", "n", "known", "turn", "lot", "late", "x", "one"]
theorem sc__law_kept : FnScope N__law_kept ["source", "n"] (defScope s__law_kept) := ⟨rfl, rfl, rfl, by decide +kernel, rfl, by decide +kernel, by decide +kernel⟩
def m__law_kept (v_n : Int) : M (Int × (List (List Int)) × Unit) := (Pz.bindM (pureM ([] : (List ((List Int) × Int × Unit)))) fun (r1 : (List ((List Int) × Int × Unit))) => (Pz.bindM (Pz.bindM (Pz.bindM (Pz.bindM (pureM (1 : Int)) fun (x3 : Int) => (Pz.bindM (Pz.bindM (pureM (6 : Int)) fun (x2 : Int) => m__law_pick x2) fun (x4 : Int) => pureM (x3 + x4))) fun (x5 : Int) => rangeM 0 x5) fun (x30 : (List Int)) => forM' (fun (b7 : ((List ((List Int) × Int × Unit)))) (y6 : Int) => (Pz.bindM (Pz.bindM (Pz.bindM (Pz.bindM (pureM v_n) fun (x9 : Int) => rangeM 0 x9) fun (x14 : (List Int)) => compM (fun (y10 : Int) => (Pz.bindM (Pz.bindM (pureM (3 : Int)) fun (x11 : Int) => m__law_pick x11) fun (x12 : Int) => (Pz.bindM (pureM (0 : Int)) fun (x13 : Int) => pureM (decide (x12 = x13))))) (fun (y10 : Int) => (pureM y10)) x14) fun (x15 : (List Int)) => optM (some x15)) fun (r8 : (List Int)) => (Pz.bindM (Pz.bindM (compM (fun (y17 : (List Int)) => (pureM true)) (fun (y17 : (List Int)) => (Pz.bindM (Pz.bindM (pureM r8) fun (x18 : (List Int)) => (Pz.bindM (pureM y17) fun (x19 : (List Int)) => m__law_union x18 x19)) fun (x22 : (List Int)) => (Pz.bindM (Pz.bindM (pureM (0 : Int)) fun (x20 : Int) => (Pz.bindM (pureM ()) fun (x21 : Unit) => pureM (x20, x21))) fun (x23 : (Int × Unit)) => pureM (x22, x23)))) (b7.map fun p => p.1)) fun (x24 : (List ((List Int) × Int × Unit))) => pureM (mergeL [] x24)) fun (r16 : (List ((List Int) × Int × Unit))) => (Pz.bindM (Pz.bindM (pureM r16) fun (x26 : (List ((List Int) × Int × Unit))) => updM b7 x26) fun (r25 : (List ((List Int) × Int × Unit))) => (Pz.bindM (Pz.bindM (pureM (0 : Int)) fun (x28 : Int) => (Pz.bindM (pureM r8) fun (x29 : (List Int)) => putM r25 x29 x28)) fun (r27 : _) => (pureM r27)))))) x30 r1) fun (r31 : ((List ((List Int) × Int × Unit)))) => (Pz.bindM (Pz.bindM (Pz.bindM (Pz.bindM (pureM (3 : Int)) fun (x32 : Int) => m__law_pick x32) fun (x33 : Int) => (Pz.bindM (pureM (0 : Int)) fun (x34 : Int) => pureM (decide (x33 = x34)))) fun (x35 : Bool) => if x35 then (Pz.bindM (Pz.bindM (pureM (0 : Int)) fun (x37 : Int) => (Pz.bindM (smallM (pureM ([] : List Int))) fun (x38 : (List Int)) => putM r31 x38 x37)) fun (r36 : _) => (pureM r36)) else (pureM r31)) fun (r39 : ((List ((List Int) × Int × Unit)))) => (Pz.bindM (pureM v_n) fun (x44 : Int) => (Pz.bindM (Pz.bindM (Pz.bindM (Pz.bindM (pureM r39) fun (x40 : (List ((List Int) × Int × Unit))) => optM (some (srt (eT eInt) (x40.map fun p => p.1)))) fun (x41 : (List (List Int))) => optM (some x41)) fun (x42 : (List (List Int))) => (Pz.bindM (pureM ()) fun (x43 : Unit) => pureM (x42, x43))) fun (x45 : ((List (List Int)) × Unit)) => pureM (x44, x45))))))
theorem ok__law_kept {f : Addr} {fd : FuncData} (F : Fun K "_law_kept" "_law_kept" s__law_kept f fd) (B : Bl mg)
    {f__law_pick : Addr} {d__law_pick : FuncData} (C__law_pick : Cal K mg "_law_pick" f__law_pick d__law_pick ["source", "most"]) (F__law_pick : FnG P w K mg base 1 f__law_pick d__law_pick ["source", "most"] (SpM (fun p : Int × Unit => [.src, .fz (eInt p.1)]) eInt (fun p => pickM p.1)))
    {f__law_union : Addr} {d__law_union : FuncData} (C__law_union : Cal K mg "_law_union" f__law_union d__law_union ["one", "other"]) (F__law_union : FnG P w K mg base 1 f__law_union d__law_union ["one", "other"] (SpM (fun p : (List Int) × (List Int) × Unit => [.fz ((eT eInt) p.1), .fz ((eT eInt) p.2.1)]) (eT eInt) (fun p : (List Int) × (List Int) × Unit => m__law_union p.1 p.2.1))) :
    FnG P w K mg base 2 f fd ["source", "n"] (SpM (fun p : Int × Unit => [.src, .fz (eInt p.1)]) (eP (eC eInt (eC (eT (eT eInt)) eU))) (fun p : Int × Unit => m__law_kept p.1)) := by
  refine g_ok F sc__law_kept (fun p : Int × Unit => [.src, .fz (eInt p.1)]) (eP (eC eInt (eC (eT (eT eInt)) eU))) (fun p : Int × Unit => m__law_kept p.1) (fun p => [.src, .fz (eInt p.1), .un, .un, .un, .un, .un, .un]) (fun _ => rfl) (fun _ => rfl) ?_
  intro cdv A above s H E R p hG hr
  obtain ⟨v_n, uu⟩ := p
  have sc := sc__law_kept
  exact (s_step (Γ1 := fun (r1 : (List ((List Int) × Int × Unit))) => [.src, .fz (eInt v_n), .ow ((eM (eT eInt) eInt) r1), .un, .un, .un, .un, .un]) (q_setM 2 (d_new (ek := (eT eInt)) (ev := eInt)) sc.nd) (fun (r1 : (List ((List Int) × Int × Unit))) => (s_step (Γ1 := (fun (b : ((List ((List Int) × Int × Unit)))) => [.src, .fz (eInt v_n), .ow ((eM (eT eInt) eInt) b), .un, .un, .un, .un, .un])) (q_for (set := (st1 3 eInt)) (is := [3]) (fun (b : ((List ((List Int) × Int × Unit)))) => [.src, .fz (eInt v_n), .ow ((eM (eT eInt) eInt) b), .un, .un, .un, .un, .un]) r1 _ PassesOwn.never rfl (i_range1 B.b_range (e_add e_int (e_cs1 0 (F__law_pick.mono (by decide)) hG hr C__law_pick.mg C__law_pick.kp C__law_pick.bd e_int))) (g1 3 eInt sc.nd) noow1 (.eq (.eq (.eq (.un (.un (.un (.un (.un .nil)))))))) (fun (b7 : ((List ((List Int) × Int × Unit)))) (y6 : Int) => (s_step (Γ1 := fun (r8 : (List Int)) => [.src, .fz (eInt v_n), .ow ((eM (eT eInt) eInt) b7), .fz (eInt y6), .fz ((eT eInt) r8), .un, .un, .un]) (q_set 4 (e_t1 (ea := (eL eInt)) (ec := (eT eInt)) (f := fun x => some x) call_tuple_of v_tupL B.b_tuple bt_tuple (f_e (f_lc (set := (st1 6 eInt)) (is := [6]) [("x", 6)] (fun (y10 : Int) => (Pz.bindM (Pz.bindM (pureM (3 : Int)) fun (x11 : Int) => m__law_pick x11) fun (x12 : Int) => (Pz.bindM (pureM (0 : Int)) fun (x13 : Int) => pureM (decide (x12 = x13))))) (fun (y10 : Int) => (pureM y10)) rfl sc.nd (i_range1 B.b_range (e_var 1 eInt v_n)) (blkOk_by (N := N__law_kept) (sc := (defScope s__law_kept)) (by decide +kernel)) (fun _ _ _ _ _ => (g1 6 eInt sc.nd)) (fun _ _ _ _ _ (y10 : Int) => (c_one (t_eqI (e_cs1 0 (F__law_pick.mono (by decide)) hG hr C__law_pick.mg C__law_pick.kp C__law_pick.bd e_int) e_int))) (fun _ _ _ _ _ (y10 : Int) => (e_var 6 eInt y10)) noow1 sm1 (fun _ h => h) (noOw rfl)))) sc.nd) (fun (r8 : (List Int)) => (s_step (Γ1 := fun (r16 : (List ((List Int) × Int × Unit))) => [.src, .fz (eInt v_n), .ow ((eM (eT eInt) eInt) b7), .fz (eInt y6), .fz ((eT eInt) r8), .fz ((eM (eT eInt) eInt) r16), .un, .un]) (q_set 5 (d_e (d_dict (ek := (eT eInt)) (ev := eInt) Ky.rows VlB.int hr rfl B.b_dict bt_dict (f_e (f_lcK 2 Ky.rows VlB.int b7 (set := (st1 7 (eT eInt))) (is := [7]) [("one", 7)] (fun (y17 : (List Int)) => (pureM true)) (fun (y17 : (List Int)) => (Pz.bindM (Pz.bindM (pureM r8) fun (x18 : (List Int)) => (Pz.bindM (pureM y17) fun (x19 : (List Int)) => m__law_union x18 x19)) fun (x22 : (List Int)) => (Pz.bindM (Pz.bindM (pureM (0 : Int)) fun (x20 : Int) => (Pz.bindM (pureM ()) fun (x21 : Unit) => pureM (x20, x21))) fun (x23 : (Int × Unit)) => pureM (x22, x23)))) rfl sc.nd rfl (blkOk_by (N := N__law_kept) (sc := (defScope s__law_kept)) (by decide +kernel)) (fun _ _ _ _ _ => (g1 7 (eT eInt) sc.nd)) (fun _ _ _ _ _ (y17 : (List Int)) => c_nil) (fun _ _ _ _ _ (y17 : (List Int)) => (e_tup (eC (eT eInt) (eC eInt eU)) (a_cons (e_c2 (F__law_union.mono (by decide)) hG hr C__law_union.mg C__law_union.kp C__law_union.bd (e_var 4 (eT eInt) r8) (e_var 7 (eT eInt) y17)) (a_cons e_int a_nil)) (hl := fun _ => (by decide : 2 ≤ sizeLine)))) noow1 sm1 (fun _ h => h) (noOw rfl))))) sc.nd) (fun (r16 : (List ((List Int) × Int × Unit))) => (s_step (Γ1 := fun (r25 : (List ((List Int) × Int × Unit))) => [.src, .fz (eInt v_n), .ow ((eM (eT eInt) eInt) r25), .fz (eInt y6), .fz ((eT eInt) r8), .fz ((eM (eT eInt) eInt) r16), .un, .un]) (q_updM 2 KyT.rows VlB.int b7 hr (e_var 5 (eM (eT eInt) eInt) r16)) (fun (r25 : (List ((List Int) × Int × Unit))) => (s_step (Γ1 := fun (r27 : _) => [.src, .fz (eInt v_n), .ow ((eM (eT eInt) eInt) r27), .fz (eInt y6), .fz ((eT eInt) r8), .fz ((eM (eT eInt) eInt) r16), .un, .un]) (q_stM 2 Ky.rows VlB.int r25 hr e_int (e_var 4 (eT eInt) r8)) (fun (r27 : _) => (s_nilN (Γb := (fun (b : ((List ((List Int) × Int × Unit)))) => [.src, .fz (eInt v_n), .ow ((eM (eT eInt) eInt) b), .un, .un, .un, .un, .un])) r27 (.eq (.eq (.eq (.un (.un (.un (.un (.un .nil))))))))))))))))))) (fun (r31 : ((List ((List Int) × Int × Unit)))) => (s_step (Γ1 := (fun (b : ((List ((List Int) × Int × Unit)))) => [.src, .fz (eInt v_n), .ow ((eM (eT eInt) eInt) b), .un, .un, .un, .un, .un])) (q_if (t_eqI (e_cs1 0 (F__law_pick.mono (by decide)) hG hr C__law_pick.mg C__law_pick.kp C__law_pick.bd e_int) e_int) (s_step (Γ1 := fun (r36 : _) => [.src, .fz (eInt v_n), .ow ((eM (eT eInt) eInt) r36), .un, .un, .un, .un, .un]) (q_stM 2 Ky.rows VlB.int r31 hr e_int (e_tupl l_nil)) (fun (r36 : _) => (s_nilN (Γb := (fun (b : ((List ((List Int) × Int × Unit)))) => [.src, .fz (eInt v_n), .ow ((eM (eT eInt) eInt) b), .un, .un, .un, .un, .un])) r36 (.eq (.eq (.eq (.un (.un (.un (.un (.un .nil))))))))))) (s_nilN (Γb := (fun (b : ((List ((List Int) × Int × Unit)))) => [.src, .fz (eInt v_n), .ow ((eM (eT eInt) eInt) b), .un, .un, .un, .un, .un])) r31 (.eq (.eq (.eq (.un (.un (.un (.un (.un .nil)))))))))) (fun r39 => (s_low (Γ' := [.src, .fz (eInt v_n), .fz ((eM (eT eInt) eInt) r39), .un, .un, .un, .un, .un]) (.eq (.eq (.fr (.un (.un (.un (.un (.un .nil)))))))) (s_ret0 (e_tup (eC eInt (eC (eT (eT eInt)) eU)) (a_cons (e_var 1 eInt v_n) (a_cons (e_t1 (ea := (eL (eT eInt))) (ec := (eT (eT eInt))) (f := fun x => some x) call_tuple_of v_tupL B.b_tuple bt_tuple (f_e (f_b1 (ea := (eM (eT eInt) eInt)) (ec := (eT eInt)) (f := fun x => some (srt (eT eInt) (x.map fun p => p.1))) (call_sortM Ky.rows VlB.int SrtA.rows rfl hr.units) v_sortM B.b_sorted bt_sorted (e_var 2 (eM (eT eInt) eInt) r39)))) a_nil)) (hl := fun _ => (by decide : 2 ≤ sizeLine)))))))))))

abbrev s__law_meets : Stmt := topS 29
def N__law_meets : List Str := ["family", "n", "known", "lap", "some", "one", "lot", "late"]
theorem sc__law_meets : FnScope N__law_meets ["family"] (defScope s__law_meets) := ⟨rfl, rfl, rfl, by decide +kernel, rfl, by decide +kernel, by decide +kernel⟩
def m__law_meets (v_family : (Int × (List (List Int)) × Unit)) : M (Int × (List (List Int)) × Unit) := (Pz.bindM (Pz.bindM (Pz.bindM (pureM v_family) fun (x11 : (Int × (List (List Int)) × Unit)) => pureM (x11.1)) fun (x20 : Int) => (Pz.bindM (Pz.bindM (Pz.bindM (Pz.bindM (pureM v_family) fun (x12 : (Int × (List (List Int)) × Unit)) => pureM (x12.2.1)) fun (x18 : (List (List Int))) => compM (fun (y13 : (List Int)) => (pureM true)) (fun (y13 : (List Int)) => (Pz.bindM (pureM y13) fun (x16 : (List Int)) => (Pz.bindM (Pz.bindM (pureM (0 : Int)) fun (x14 : Int) => (Pz.bindM (pureM ()) fun (x15 : Unit) => pureM (x14, x15))) fun (x17 : (Int × Unit)) => pureM (x16, x17)))) x18) fun (x19 : (List ((List Int) × Int × Unit))) => pureM (mergeL [] x19)) fun (x21 : (List ((List Int) × Int × Unit))) => pureM (x20, x21))) fun (r1 : (Int × (List ((List Int) × Int × Unit)))) => (Pz.bindM (Pz.bindM (Pz.bindM (pureM (8 : Int)) fun (x22 : Int) => rangeM 0 x22) fun (x64 : (List Int)) => forO (fun (b24 : ((List ((List Int) × Int × Unit)))) (y23 : Int) => (Pz.bindM (Pz.bindM (pureM b24) fun (x26 : (List ((List Int) × Int × Unit))) => optM (some (srt (eT eInt) (x26.map fun p => p.1)))) fun (r25 : (List (List Int))) => (Pz.bindM (Pz.bindM (pureM r25) fun (x51 : (List (List Int))) => forM' (fun (b28 : ((List ((List Int) × Int × Unit)))) (y27 : (List Int)) => (Pz.bindM (Pz.bindM (Pz.bindM (Pz.bindM (pureM r25) fun (x37 : (List (List Int))) => compM (fun (y30 : (List Int)) => (pureM true)) (fun (y30 : (List Int)) => (Pz.bindM (Pz.bindM (pureM y27) fun (x31 : (List Int)) => (Pz.bindM (pureM y30) fun (x32 : (List Int)) => m__law_common x31 x32)) fun (x35 : (List Int)) => (Pz.bindM (Pz.bindM (pureM (0 : Int)) fun (x33 : Int) => (Pz.bindM (pureM ()) fun (x34 : Unit) => pureM (x33, x34))) fun (x36 : (Int × Unit)) => pureM (x35, x36)))) x37) fun (x38 : (List ((List Int) × Int × Unit))) => pureM (mergeL [] x38)) fun (x39 : (List ((List Int) × Int × Unit))) => updM b28 x39) fun (r29 : (List ((List Int) × Int × Unit))) => (Pz.bindM (Pz.bindM (Pz.bindM (Pz.bindM (pureM r25) fun (x48 : (List (List Int))) => compM (fun (y41 : (List Int)) => (pureM true)) (fun (y41 : (List Int)) => (Pz.bindM (Pz.bindM (pureM y27) fun (x42 : (List Int)) => (Pz.bindM (pureM y41) fun (x43 : (List Int)) => m__law_union x42 x43)) fun (x46 : (List Int)) => (Pz.bindM (Pz.bindM (pureM (0 : Int)) fun (x44 : Int) => (Pz.bindM (pureM ()) fun (x45 : Unit) => pureM (x44, x45))) fun (x47 : (Int × Unit)) => pureM (x46, x47)))) x48) fun (x49 : (List ((List Int) × Int × Unit))) => pureM (mergeL [] x49)) fun (x50 : (List ((List Int) × Int × Unit))) => updM r29 x50) fun (r40 : (List ((List Int) × Int × Unit))) => (pureM r40)))) x51 b24) fun (r52 : ((List ((List Int) × Int × Unit)))) => (Pz.bindM (Pz.bindM (Pz.bindM (pureM r52) fun (x53 : (List ((List Int) × Int × Unit))) => optM (some (x53.length : Int))) fun (x55 : Int) => (Pz.bindM (Pz.bindM (pureM r25) fun (x54 : (List (List Int))) => pureM (x54.length : Int)) fun (x56 : Int) => pureM (decide (x55 = x56)))) fun (x57 : Bool) => if x57 then Pz.bindM (Pz.bindM (pureM r1.1) fun (x61 : Int) => (Pz.bindM (Pz.bindM (Pz.bindM (pureM r25) fun (x58 : (List (List Int))) => optM (some x58)) fun (x59 : (List (List Int))) => (Pz.bindM (pureM ()) fun (x60 : Unit) => pureM (x59, x60))) fun (x62 : ((List (List Int)) × Unit)) => pureM (x61, x62))) (fun (x63 : (Int × (List (List Int)) × Unit)) => pureM (Out.rt x63)) else (pureM (Out.nx r52)))))) x64 r1.2) fun o => caseO o (fun (r65 : ((List ((List Int) × Int × Unit)))) => (Pz.bindM (pureM r1.1) fun (x70 : Int) => (Pz.bindM (Pz.bindM (Pz.bindM (Pz.bindM (pureM r65) fun (x66 : (List ((List Int) × Int × Unit))) => optM (some (srt (eT eInt) (x66.map fun p => p.1)))) fun (x67 : (List (List Int))) => optM (some x67)) fun (x68 : (List (List Int))) => (Pz.bindM (pureM ()) fun (x69 : Unit) => pureM (x68, x69))) fun (x71 : ((List (List Int)) × Unit)) => pureM (x70, x71)))) pureM))
theorem ok__law_meets {f : Addr} {fd : FuncData} (F : Fun K "_law_meets" "_law_meets" s__law_meets f fd) (B : Bl mg)
    {f__law_common : Addr} {d__law_common : FuncData} (C__law_common : Cal K mg "_law_common" f__law_common d__law_common ["one", "other"]) (F__law_common : FnG P w K mg base 1 f__law_common d__law_common ["one", "other"] (SpM (fun p : (List Int) × (List Int) × Unit => [.fz ((eT eInt) p.1), .fz ((eT eInt) p.2.1)]) (eT eInt) (fun p : (List Int) × (List Int) × Unit => m__law_common p.1 p.2.1)))
    {f__law_union : Addr} {d__law_union : FuncData} (C__law_union : Cal K mg "_law_union" f__law_union d__law_union ["one", "other"]) (F__law_union : FnG P w K mg base 1 f__law_union d__law_union ["one", "other"] (SpM (fun p : (List Int) × (List Int) × Unit => [.fz ((eT eInt) p.1), .fz ((eT eInt) p.2.1)]) (eT eInt) (fun p : (List Int) × (List Int) × Unit => m__law_union p.1 p.2.1))) :
    FnG P w K mg base 2 f fd ["family"] (SpM (fun p : (Int × (List (List Int)) × Unit) × Unit => [.fz ((eP (eC eInt (eC (eT (eT eInt)) eU))) p.1)]) (eP (eC eInt (eC (eT (eT eInt)) eU))) (fun p : (Int × (List (List Int)) × Unit) × Unit => m__law_meets p.1)) := by
  refine g_ok F sc__law_meets (fun p : (Int × (List (List Int)) × Unit) × Unit => [.fz ((eP (eC eInt (eC (eT (eT eInt)) eU))) p.1)]) (eP (eC eInt (eC (eT (eT eInt)) eU))) (fun p : (Int × (List (List Int)) × Unit) × Unit => m__law_meets p.1) (fun p => [.fz ((eP (eC eInt (eC (eT (eT eInt)) eU))) p.1), .un, .un, .un, .un, .un, .un, .un]) (fun _ => rfl) (fun _ => rfl) ?_
  intro cdv A above s H E R p hG hr
  obtain ⟨v_family, uu⟩ := p
  have sc := sc__law_meets
  exact (s_step (Γ1 := fun (r1 : (Int × (List ((List Int) × Int × Unit)))) => [.fz ((eP (eC eInt (eC (eT (eT eInt)) eU))) v_family), .fz (eInt r1.1), .ow ((eM (eT eInt) eInt) r1.2), .un, .un, .un, .un, .un]) (q_par2d 1 2 (e_ixP (ec := eInt) (f := (eC eInt (eC (eT (eT eInt)) eU))) (fun p => p.1) 0 (ha := (e_var 0 (eP (eC eInt (eC (eT (eT eInt)) eU))) v_family))) (d_dict (ek := (eT eInt)) (ev := eInt) Ky.rows VlB.int hr rfl B.b_dict bt_dict (f_e (f_lc (set := (st1 6 (eT eInt))) (is := [6]) [("lot", 6)] (fun (y13 : (List Int)) => (pureM true)) (fun (y13 : (List Int)) => (Pz.bindM (pureM y13) fun (x16 : (List Int)) => (Pz.bindM (Pz.bindM (pureM (0 : Int)) fun (x14 : Int) => (Pz.bindM (pureM ()) fun (x15 : Unit) => pureM (x14, x15))) fun (x17 : (Int × Unit)) => pureM (x16, x17)))) rfl sc.nd (i_tup (e_ixP (ec := (eT (eT eInt))) (f := (eC eInt (eC (eT (eT eInt)) eU))) (fun p => p.2.1) 1 (ha := (e_var 0 (eP (eC eInt (eC (eT (eT eInt)) eU))) v_family)))) (blkOk_by (N := N__law_meets) (sc := (defScope s__law_meets)) (by decide +kernel)) (fun _ _ _ _ _ => (g1 6 (eT eInt) sc.nd)) (fun _ _ _ _ _ (y13 : (List Int)) => c_nil) (fun _ _ _ _ _ (y13 : (List Int)) => (e_tup (eC (eT eInt) (eC eInt eU)) (a_cons (e_var 6 (eT eInt) y13) (a_cons e_int a_nil)) (hl := fun _ => (by decide : 2 ≤ sizeLine)))) noow1 sm1 (fun _ h => h) (noOw rfl)))) rfl sc.nd) (fun (r1 : (Int × (List ((List Int) × Int × Unit)))) => (s_step1 (er := (eP (eC eInt (eC (eT (eT eInt)) eU)))) (Γ1 := (fun (b : ((List ((List Int) × Int × Unit)))) => [.fz ((eP (eC eInt (eC (eT (eT eInt)) eU))) v_family), .fz (eInt r1.1), .ow ((eM (eT eInt) eInt) b), .un, .un, .un, .un, .un])) (q_forO (er := (eP (eC eInt (eC (eT (eT eInt)) eU)))) (set := (st1 3 eInt)) (is := [3]) (fun (b : ((List ((List Int) × Int × Unit)))) => [.fz ((eP (eC eInt (eC (eT (eT eInt)) eU))) v_family), .fz (eInt r1.1), .ow ((eM (eT eInt) eInt) b), .un, .un, .un, .un, .un]) r1.2 _ PassesOwn.never rfl (i_range1 B.b_range e_int) (g1 3 eInt sc.nd) noow1 (.eq (.eq (.eq (.un (.un (.un (.un (.un .nil)))))))) (fun (b24 : ((List ((List Int) × Int × Unit)))) (y23 : Int) => (s_step (Γ1 := fun (r25 : (List (List Int))) => [.fz ((eP (eC eInt (eC (eT (eT eInt)) eU))) v_family), .fz (eInt r1.1), .ow ((eM (eT eInt) eInt) b24), .fz (eInt y23), .fz ((eL (eT eInt)) r25), .un, .un, .un]) (q_set 4 (f_e (f_borrow 2 (d := ((eM (eT eInt) eInt) b24)) (f_b1 (ea := (eM (eT eInt) eInt)) (ec := (eT eInt)) (f := fun x => some (srt (eT eInt) (x.map fun p => p.1))) (call_sortM Ky.rows VlB.int SrtA.rows rfl hr.units) v_sortM B.b_sorted bt_sorted (e_var 2 (eM (eT eInt) eInt) b24)) (NL.tup NL.int))) sc.nd) (fun (r25 : (List (List Int))) => (s_step (Γ1 := (fun (b : ((List ((List Int) × Int × Unit)))) => [.fz ((eP (eC eInt (eC (eT (eT eInt)) eU))) v_family), .fz (eInt r1.1), .ow ((eM (eT eInt) eInt) b), .fz (eInt y23), .fz ((eL (eT eInt)) r25), .un, .un, .un])) (q_for (set := (st1 5 (eT eInt))) (is := [5]) (fun (b : ((List ((List Int) × Int × Unit)))) => [.fz ((eP (eC eInt (eC (eT (eT eInt)) eU))) v_family), .fz (eInt r1.1), .ow ((eM (eT eInt) eInt) b), .fz (eInt y23), .fz ((eL (eT eInt)) r25), .un, .un, .un]) b24 _ PassesOwn.never rfl (i_list (e_var 4 (eL (eT eInt)) r25)) (g1 5 (eT eInt) sc.nd) noow1 (.eq (.eq (.eq (.eq (.eq (.un (.un (.un .nil)))))))) (fun (b28 : ((List ((List Int) × Int × Unit)))) (y27 : (List Int)) => (s_step (Γ1 := fun (r29 : (List ((List Int) × Int × Unit))) => [.fz ((eP (eC eInt (eC (eT (eT eInt)) eU))) v_family), .fz (eInt r1.1), .ow ((eM (eT eInt) eInt) r29), .fz (eInt y23), .fz ((eL (eT eInt)) r25), .fz ((eT eInt) y27), .un, .un]) (q_updM 2 KyT.rows VlB.int b28 hr (d_e (d_dict (ek := (eT eInt)) (ev := eInt) Ky.rows VlB.int hr rfl B.b_dict bt_dict (f_e (f_lc (set := (st1 7 (eT eInt))) (is := [7]) [("late", 7)] (fun (y30 : (List Int)) => (pureM true)) (fun (y30 : (List Int)) => (Pz.bindM (Pz.bindM (pureM y27) fun (x31 : (List Int)) => (Pz.bindM (pureM y30) fun (x32 : (List Int)) => m__law_common x31 x32)) fun (x35 : (List Int)) => (Pz.bindM (Pz.bindM (pureM (0 : Int)) fun (x33 : Int) => (Pz.bindM (pureM ()) fun (x34 : Unit) => pureM (x33, x34))) fun (x36 : (Int × Unit)) => pureM (x35, x36)))) rfl sc.nd (i_list (e_var 4 (eL (eT eInt)) r25)) (blkOk_by (N := N__law_meets) (sc := (defScope s__law_meets)) (by decide +kernel)) (fun _ _ _ _ _ => (g1 7 (eT eInt) sc.nd)) (fun _ _ _ _ _ (y30 : (List Int)) => c_nil) (fun _ _ _ _ _ (y30 : (List Int)) => (e_tup (eC (eT eInt) (eC eInt eU)) (a_cons (e_c2 (F__law_common.mono (by decide)) hG hr C__law_common.mg C__law_common.kp C__law_common.bd (e_var 5 (eT eInt) y27) (e_var 7 (eT eInt) y30)) (a_cons e_int a_nil)) (hl := fun _ => (by decide : 2 ≤ sizeLine)))) noow1 sm1 (fun _ h => h) (noOw rfl)))))) (fun (r29 : (List ((List Int) × Int × Unit))) => (s_step (Γ1 := fun (r40 : (List ((List Int) × Int × Unit))) => [.fz ((eP (eC eInt (eC (eT (eT eInt)) eU))) v_family), .fz (eInt r1.1), .ow ((eM (eT eInt) eInt) r40), .fz (eInt y23), .fz ((eL (eT eInt)) r25), .fz ((eT eInt) y27), .un, .un]) (q_updM 2 KyT.rows VlB.int r29 hr (d_e (d_dict (ek := (eT eInt)) (ev := eInt) Ky.rows VlB.int hr rfl B.b_dict bt_dict (f_e (f_lc (set := (st1 7 (eT eInt))) (is := [7]) [("late", 7)] (fun (y41 : (List Int)) => (pureM true)) (fun (y41 : (List Int)) => (Pz.bindM (Pz.bindM (pureM y27) fun (x42 : (List Int)) => (Pz.bindM (pureM y41) fun (x43 : (List Int)) => m__law_union x42 x43)) fun (x46 : (List Int)) => (Pz.bindM (Pz.bindM (pureM (0 : Int)) fun (x44 : Int) => (Pz.bindM (pureM ()) fun (x45 : Unit) => pureM (x44, x45))) fun (x47 : (Int × Unit)) => pureM (x46, x47)))) rfl sc.nd (i_list (e_var 4 (eL (eT eInt)) r25)) (blkOk_by (N := N__law_meets) (sc := (defScope s__law_meets)) (by decide +kernel)) (fun _ _ _ _ _ => (g1 7 (eT eInt) sc.nd)) (fun _ _ _ _ _ (y41 : (List Int)) => c_nil) (fun _ _ _ _ _ (y41 : (List Int)) => (e_tup (eC (eT eInt) (eC eInt eU)) (a_cons (e_c2 (F__law_union.mono (by decide)) hG hr C__law_union.mg C__law_union.kp C__law_union.bd (e_var 5 (eT eInt) y27) (e_var 7 (eT eInt) y41)) (a_cons e_int a_nil)) (hl := fun _ => (by decide : 2 ≤ sizeLine)))) noow1 sm1 (fun _ h => h) (noOw rfl)))))) (fun (r40 : (List ((List Int) × Int × Unit))) => (s_nilN (Γb := (fun (b : ((List ((List Int) × Int × Unit)))) => [.fz ((eP (eC eInt (eC (eT (eT eInt)) eU))) v_family), .fz (eInt r1.1), .ow ((eM (eT eInt) eInt) b), .fz (eInt y23), .fz ((eL (eT eInt)) r25), .un, .un, .un])) r40 (.eq (.eq (.eq (.eq (.eq (.un (.un (.un .nil))))))))))))))) (fun (r52 : ((List ((List Int) × Int × Unit)))) => (s_ifret2 (Γb := (fun (b : ((List ((List Int) × Int × Unit)))) => [.fz ((eP (eC eInt (eC (eT (eT eInt)) eU))) v_family), .fz (eInt r1.1), .ow ((eM (eT eInt) eInt) b), .un, .un, .un, .un, .un])) (t_borrow 2 (d := ((eM (eT eInt) eInt) r52)) (t_eqI (e_b1 (ea := (eM (eT eInt) eInt)) (ec := eInt) (f := fun x => some (x.length : Int)) (call_lenM Ky.rows VlB.int) v_lenM B.b_len bt_len (e_var 2 (eM (eT eInt) eInt) r52)) (e_len B.b_len bt_len (e_var 4 (eL (eT eInt)) r25)))) (s_low (Γ' := [.fz ((eP (eC eInt (eC (eT (eT eInt)) eU))) v_family), .fz (eInt r1.1), .fz ((eM (eT eInt) eInt) r52), .fz (eInt y23), .fz ((eL (eT eInt)) r25), .un, .un, .un]) (.eq (.eq (.fr (.eq (.eq (.un (.un (.un .nil)))))))) (s_ret0 (e_tup (eC eInt (eC (eT (eT eInt)) eU)) (a_cons (e_var 1 eInt r1.1) (a_cons (e_t1 (ea := (eL (eT eInt))) (ec := (eT (eT eInt))) (f := fun x => some x) call_tuple_of v_tupL B.b_tuple bt_tuple (e_var 4 (eL (eT eInt)) r25)) a_nil)) (hl := fun _ => (by decide : 2 ≤ sizeLine))))) (s_nilO (Γb := (fun (b : ((List ((List Int) × Int × Unit)))) => [.fz ((eP (eC eInt (eC (eT (eT eInt)) eU))) v_family), .fz (eInt r1.1), .ow ((eM (eT eInt) eInt) b), .un, .un, .un, .un, .un])) r52 (.eq (.eq (.eq (.un (.un (.un (.un (.un .nil)))))))))))))))) (fun (r65 : ((List ((List Int) × Int × Unit)))) => (s_low (Γ' := [.fz ((eP (eC eInt (eC (eT (eT eInt)) eU))) v_family), .fz (eInt r1.1), .fz ((eM (eT eInt) eInt) r65), .un, .un, .un, .un, .un]) (.eq (.eq (.fr (.un (.un (.un (.un (.un .nil)))))))) (s_ret0 (e_tup (eC eInt (eC (eT (eT eInt)) eU)) (a_cons (e_var 1 eInt r1.1) (a_cons (e_t1 (ea := (eL (eT eInt))) (ec := (eT (eT eInt))) (f := fun x => some x) call_tuple_of v_tupL B.b_tuple bt_tuple (f_e (f_b1 (ea := (eM (eT eInt) eInt)) (ec := (eT eInt)) (f := fun x => some (srt (eT eInt) (x.map fun p => p.1))) (call_sortM Ky.rows VlB.int SrtA.rows rfl hr.units) v_sortM B.b_sorted bt_sorted (e_var 2 (eM (eT eInt) eInt) r65)))) a_nil)) (hl := fun _ => (by decide : 2 ≤ sizeLine)))))))))

abbrev s_law : Stmt := topS 30
def N_law : List Str := ["script", "source", "lap", "n", "kept", "shown", "lots", "m", "counts", "ones", "twos", "least", "meets", "due", "named", "added", "half", "points", "table", "x", "y", "some", "lot", "k", "one", "late", "pair"]
theorem sc_law : FnScope N_law ["script"] (defScope s_law) := ⟨rfl, rfl, rfl, by decide +kernel, rfl, by decide +kernel, by decide +kernel⟩
def m_law : M Bool := (Pz.bindM (Pz.bindM (Pz.bindM (pureM (4 : Int)) fun (x1 : Int) => rangeM 0 x1) fun (x366 : (List Int)) => forO (fun (b3 : Unit) (y2 : Int) => (Pz.bindM (Pz.bindM (pureM (1 : Int)) fun (x6 : Int) => (Pz.bindM (Pz.bindM (pureM (5 : Int)) fun (x5 : Int) => m__law_pick x5) fun (x7 : Int) => pureM (x6 + x7))) fun (r4 : Int) => (Pz.bindM (Pz.bindM (pureM r4) fun (x9 : Int) => m__law_kept x9) fun (r8 : (Int × (List (List Int)) × Unit)) => (Pz.bindM (Pz.bindM (Pz.bindM (Pz.bindM (pureM (3 : Int)) fun (x10 : Int) => m__law_pick x10) fun (x11 : Int) => (Pz.bindM (pureM (0 : Int)) fun (x12 : Int) => pureM (decide (x11 = x12)))) fun (x13 : Bool) => if x13 then (Pz.bindM (Pz.bindM (pureM r8) fun (x15 : (Int × (List (List Int)) × Unit)) => m__law_meets x15) fun (r14 : (Int × (List (List Int)) × Unit)) => (pureM r14)) else (pureM r8)) fun (r16 : ((Int × (List (List Int)) × Unit))) => (Pz.bindM (Pz.bindM (Pz.bindM (pureM r16) fun (x18 : (Int × (List (List Int)) × Unit)) => optM (reprO ((eP (eC eInt (eC (eT (eT eInt)) eU))) x18))) fun (x26 : Str) => (Pz.bindM (Pz.bindM (Pz.bindM (pureM r16) fun (x19 : (Int × (List (List Int)) × Unit)) => pureM (x19.2.1)) fun (x24 : (List (List Int))) => (Pz.bindM (Pz.bindM (Pz.bindM (Pz.bindM (pureM r16) fun (x20 : (Int × (List (List Int)) × Unit)) => pureM (x20.2.1)) fun (x21 : (List (List Int))) => pureM (x21.length : Int)) fun (x22 : Int) => (Pz.bindM (pureM ()) fun (x23 : Unit) => pureM (x22, x23))) fun (x25 : (Int × Unit)) => pureM (x24, x25))) fun (x27 : ((List (List Int)) × (Int × Unit))) => pureM (x26, x27))) fun (r17 : (Str × (List (List Int)) × Int × Unit)) => (Pz.bindM (Pz.bindM (Pz.bindM (pureM r4) fun (x29 : Int) => rangeM 0 x29) fun (x36 : (List Int)) => compM (fun (y30 : Int) => (pureM true)) (fun (y30 : Int) => (Pz.bindM (Pz.bindM (pureM r17.2.1) fun (x34 : (List (List Int))) => compM (fun (y31 : (List Int)) => (Pz.bindM (pureM y30) fun (x32 : Int) => (Pz.bindM (pureM y31) fun (x33 : (List Int)) => pureM (memB x32 x33)))) (fun (y31 : (List Int)) => (pureM y31)) x34) fun (x35 : (List (List Int))) => pureM (x35.length : Int))) x36) fun (r28 : (List Int)) => (Pz.bindM (Pz.bindM (Pz.bindM (pureM r17.2.1) fun (x42 : (List (List Int))) => compM (fun (y38 : (List Int)) => (Pz.bindM (Pz.bindM (pureM y38) fun (x39 : (List Int)) => pureM (x39.length : Int)) fun (x40 : Int) => (Pz.bindM (pureM (1 : Int)) fun (x41 : Int) => pureM (decide (x40 = x41))))) (fun (y38 : (List Int)) => (pureM y38)) x42) fun (x48 : (List (List Int))) => (Pz.bindM (Pz.bindM (pureM r17.2.1) fun (x47 : (List (List Int))) => compM (fun (y43 : (List Int)) => (Pz.bindM (Pz.bindM (pureM y43) fun (x44 : (List Int)) => pureM (x44.length : Int)) fun (x45 : Int) => (Pz.bindM (pureM (2 : Int)) fun (x46 : Int) => pureM (decide (x45 = x46))))) (fun (y43 : (List Int)) => (pureM y43)) x47) fun (x49 : (List (List Int))) => pureM (x48, x49))) fun (r37 : ((List (List Int)) × (List (List Int)))) => (Pz.bindM (Pz.bindM (pureM r17.2.1) fun (x59 : (List (List Int))) => compM (fun (y51 : (List Int)) => (Pz.bindM (pureM y51) fun (x52 : (List Int)) => (Pz.bindM (smallM (pureM ([] : List Int))) fun (x53 : (List Int)) => pureM (!decide (x52 = x53))))) (fun (y51 : (List Int)) => (Pz.bindM (Pz.bindM (pureM y51) fun (x54 : (List Int)) => pureM (x54.length : Int)) fun (x57 : Int) => (Pz.bindM (Pz.bindM (pureM y51) fun (x55 : (List Int)) => (Pz.bindM (pureM ()) fun (x56 : Unit) => pureM (x55, x56))) fun (x58 : ((List Int) × Unit)) => pureM (x57, x58)))) x59) fun (r50 : (List (Int × (List Int) × Unit))) => (Pz.bindM (Pz.bindM (Pz.bindM (pureM r17.2.1) fun (x70 : (List (List Int))) => compM (fun (y61 : (List Int)) => (Pz.bindM (Pz.bindM (pureM r17.2.1) fun (x67 : (List (List Int))) => compM (fun (y62 : (List Int)) => (Pz.bindM (Pz.bindM (pureM y61) fun (x63 : (List Int)) => (Pz.bindM (pureM y62) fun (x64 : (List Int)) => m__law_common x63 x64)) fun (x65 : (List Int)) => (Pz.bindM (pureM r17.2.1) fun (x66 : (List (List Int))) => pureM (!memB x65 x66)))) (fun (y62 : (List Int)) => (pureM y62)) x67) fun (x68 : (List (List Int))) => (Pz.bindM (smallM (pureM ([] : List (List Int)))) fun (x69 : (List (List Int))) => pureM (!decide (x68 = x69))))) (fun (y61 : (List Int)) => (pureM (1 : Int))) x70) fun (x71 : (List Int)) => (Pz.bindM (smallM (pureM ([] : List Int))) fun (x72 : (List Int)) => pureM (decide (x71 = x72)))) fun (r60 : Bool) => (Pz.bindM (Pz.bindM (Pz.bindM (pureM r37.1) fun (x73 : (List (List Int))) => (Pz.bindM (smallM (pureM ([] : List (List Int)))) fun (x74 : (List (List Int))) => pureM (!decide (x73 = x74)))) fun (x75 : Bool) => if x75 then (Pz.bindM (Pz.bindM (Pz.bindM (Pz.bindM (Pz.bindM (Pz.bindM (pureM ("one" : Str)) fun (x77 : Str) => (Pz.bindM (pureM ()) fun (x78 : Unit) => pureM (x77, x78))) fun (x81 : (Str × Unit)) => pureM ((fun p : (Str × Unit) => [eStr p.1]) x81)) fun (x83 : (List PyData)) => (Pz.bindM (Pz.bindM (Pz.bindM (pureM r37.1) fun (x79 : (List (List Int))) => (Pz.bindM (pureM (0 : Int)) fun (x80 : Int) => optM (atI x79 x80))) fun (x82 : (List Int)) => pureM ((List.map eInt) x82)) fun (x84 : (List PyData)) => optM (catO x83 x84))) fun (x85 : (List PyData)) => pureM (some x85)) fun (x95 : (Option (List PyData))) => (Pz.bindM (Pz.bindM (Pz.bindM (pureM r37.1) fun (x86 : (List (List Int))) => (Pz.bindM (pureM (0 : Int)) fun (x87 : Int) => optM (atI x86 x87))) fun (x93 : (List Int)) => (Pz.bindM (Pz.bindM (Pz.bindM (Pz.bindM (pureM r37.1) fun (x88 : (List (List Int))) => (Pz.bindM (pureM (0 : Int)) fun (x89 : Int) => optM (atI x88 x89))) fun (x90 : (List Int)) => pureM (some x90)) fun (x91 : (Option (List Int))) => (Pz.bindM (pureM ()) fun (x92 : Unit) => pureM (x91, x92))) fun (x94 : ((Option (List Int)) × Unit)) => pureM (x93, x94))) fun (x96 : ((List Int) × ((Option (List Int)) × Unit))) => pureM (x95, x96))) fun (r76 : ((Option (List PyData)) × (List Int) × (Option (List Int)) × Unit)) => (pureM (r76.1, r76.2.1, r76.2.2.1))) else (Pz.bindM (Pz.bindM (pureM r37.2) fun (x97 : (List (List Int))) => (Pz.bindM (smallM (pureM ([] : List (List Int)))) fun (x98 : (List (List Int))) => pureM (!decide (x97 = x98)))) fun (x99 : Bool) => if x99 then (Pz.bindM (Pz.bindM (Pz.bindM (Pz.bindM (Pz.bindM (Pz.bindM (pureM ("two" : Str)) fun (x101 : Str) => (Pz.bindM (pureM ()) fun (x102 : Unit) => pureM (x101, x102))) fun (x105 : (Str × Unit)) => pureM ((fun p : (Str × Unit) => [eStr p.1]) x105)) fun (x107 : (List PyData)) => (Pz.bindM (Pz.bindM (Pz.bindM (pureM r37.2) fun (x103 : (List (List Int))) => (Pz.bindM (pureM (0 : Int)) fun (x104 : Int) => optM (atI x103 x104))) fun (x106 : (List Int)) => pureM ((List.map eInt) x106)) fun (x108 : (List PyData)) => optM (catO x107 x108))) fun (x109 : (List PyData)) => pureM (some x109)) fun (x119 : (Option (List PyData))) => (Pz.bindM (Pz.bindM (Pz.bindM (pureM r37.2) fun (x110 : (List (List Int))) => (Pz.bindM (pureM (0 : Int)) fun (x111 : Int) => optM (atI x110 x111))) fun (x117 : (List Int)) => (Pz.bindM (Pz.bindM (Pz.bindM (Pz.bindM (pureM r37.2) fun (x112 : (List (List Int))) => (Pz.bindM (pureM (0 : Int)) fun (x113 : Int) => optM (atI x112 x113))) fun (x114 : (List Int)) => pureM (some x114)) fun (x115 : (Option (List Int))) => (Pz.bindM (pureM ()) fun (x116 : Unit) => pureM (x115, x116))) fun (x118 : ((Option (List Int)) × Unit)) => pureM (x117, x118))) fun (x120 : ((List Int) × ((Option (List Int)) × Unit))) => pureM (x119, x120))) fun (r100 : ((Option (List PyData)) × (List Int) × (Option (List Int)) × Unit)) => (pureM (r100.1, r100.2.1, r100.2.2.1))) else (Pz.bindM (Pz.bindM (Pz.bindM (pureM (2 : Int)) fun (x122 : Int) => (Pz.bindM (Pz.bindM (pureM r28) fun (x121 : (List Int)) => optM (some x121.sum)) fun (x123 : Int) => optM (mulO x122 x123))) fun (x126 : Int) => (Pz.bindM (Pz.bindM (pureM r17.2.2.1) fun (x124 : Int) => (Pz.bindM (pureM r4) fun (x125 : Int) => optM (mulO x124 x125))) fun (x127 : Int) => pureM (decide (x127 ≤ x126)))) fun (x128 : Bool) => if x128 then (Pz.bindM (Pz.bindM (Pz.bindM (Pz.bindM (Pz.bindM (pureM ("sizes" : Str)) fun (x130 : Str) => (Pz.bindM (pureM ()) fun (x131 : Unit) => pureM (x130, x131))) fun (x132 : (Str × Unit)) => pureM ((fun p : (Str × Unit) => [eStr p.1]) x132)) fun (x133 : (List PyData)) => pureM (some x133)) fun (x140 : (Option (List PyData))) => (Pz.bindM (Pz.bindM (Pz.bindM (pureM r4) fun (x134 : Int) => rangeM 0 x134) fun (x138 : (List Int)) => (Pz.bindM (Pz.bindM (Pz.bindM (pureM ()) fun (x135 : Unit) => pureM (none : (Option (List Int)))) fun (x136 : (Option (List Int))) => (Pz.bindM (pureM ()) fun (x137 : Unit) => pureM (x136, x137))) fun (x139 : ((Option (List Int)) × Unit)) => pureM (x138, x139))) fun (x141 : ((List Int) × ((Option (List Int)) × Unit))) => pureM (x140, x141))) fun (r129 : ((Option (List PyData)) × (List Int) × (Option (List Int)) × Unit)) => (pureM (r129.1, r129.2.1, r129.2.2.1))) else (Pz.bindM (Pz.bindM (pureM r60) fun (x144 : Bool) => if x144 then (Pz.bindM (pureM r50) fun (x142 : (List (Int × (List Int) × Unit))) => (Pz.bindM (smallM (pureM ([] : List (Int × (List Int) × Unit)))) fun (x143 : (List (Int × (List Int) × Unit))) => pureM (!decide (x142 = x143)))) else pureM false) fun (x145 : Bool) => if x145 then (Pz.bindM (Pz.bindM (Pz.bindM (Pz.bindM (Pz.bindM (pureM ("meets" : Str)) fun (x151 : Str) => (Pz.bindM (Pz.bindM (Pz.bindM (Pz.bindM (pureM r50) fun (x147 : (List (Int × (List Int) × Unit))) => optM (minA (eP (eC eInt (eC (eT eInt) eU))) x147)) fun (x148 : (Int × (List Int) × Unit)) => pureM (x148.2.1)) fun (x149 : (List Int)) => (Pz.bindM (pureM ()) fun (x150 : Unit) => pureM (x149, x150))) fun (x152 : ((List Int) × Unit)) => pureM (x151, x152))) fun (x153 : (Str × (List Int) × Unit)) => pureM ((fun p : (Str × (List Int) × Unit) => [eStr p.1, (eT eInt) p.2.1]) x153)) fun (x154 : (List PyData)) => pureM (some x154)) fun (x164 : (Option (List PyData))) => (Pz.bindM (Pz.bindM (Pz.bindM (Pz.bindM (pureM r50) fun (x155 : (List (Int × (List Int) × Unit))) => optM (minA (eP (eC eInt (eC (eT eInt) eU))) x155)) fun (x156 : (Int × (List Int) × Unit)) => pureM (x156.2.1)) fun (x162 : (List Int)) => (Pz.bindM (Pz.bindM (Pz.bindM (Pz.bindM (Pz.bindM (pureM r50) fun (x157 : (List (Int × (List Int) × Unit))) => optM (minA (eP (eC eInt (eC (eT eInt) eU))) x157)) fun (x158 : (Int × (List Int) × Unit)) => pureM (x158.2.1)) fun (x159 : (List Int)) => pureM (some x159)) fun (x160 : (Option (List Int))) => (Pz.bindM (pureM ()) fun (x161 : Unit) => pureM (x160, x161))) fun (x163 : ((Option (List Int)) × Unit)) => pureM (x162, x163))) fun (x165 : ((List Int) × ((Option (List Int)) × Unit))) => pureM (x164, x165))) fun (r146 : ((Option (List PyData)) × (List Int) × (Option (List Int)) × Unit)) => (pureM (r146.1, r146.2.1, r146.2.2.1))) else (Pz.bindM (Pz.bindM (Pz.bindM (pureM ()) fun (x167 : Unit) => pureM (none : (Option (List PyData)))) fun (x173 : (Option (List PyData))) => (Pz.bindM (Pz.bindM (smallM (pureM ([] : List Int))) fun (x171 : (List Int)) => (Pz.bindM (Pz.bindM (Pz.bindM (pureM ()) fun (x168 : Unit) => pureM (none : (Option (List Int)))) fun (x169 : (Option (List Int))) => (Pz.bindM (pureM ()) fun (x170 : Unit) => pureM (x169, x170))) fun (x172 : ((Option (List Int)) × Unit)) => pureM (x171, x172))) fun (x174 : ((List Int) × ((Option (List Int)) × Unit))) => pureM (x173, x174))) fun (r166 : ((Option (List PyData)) × (List Int) × (Option (List Int)) × Unit)) => (pureM (r166.1, r166.2.1, r166.2.2.1))))))) fun (r175 : ((Option (List PyData)) × (List Int) × (Option (List Int)))) => (Pz.bindM (Pz.bindM (Pz.bindM (Pz.bindM (pureM r16) fun (x176 : (Int × (List (List Int)) × Unit)) => m_half_sort x176) fun (x177 : (Option (List PyData))) => optM (reprO ((eO (eT eD)) x177))) fun (x179 : Str) => (Pz.bindM (Pz.bindM (pureM r175.1) fun (x178 : (Option (List PyData))) => optM (reprO ((eO (eT eD)) x178))) fun (x180 : Str) => pureM (!decide (x179 = x180)))) fun (x181 : Bool) => if x181 then Pz.bindM (pureM false) (fun (x365 : Bool) => pureM (Out.rt x365)) else (Pz.bindM (Pz.bindM (Pz.bindM (Pz.bindM (pureM r4) fun (x183 : Int) => rangeM 0 x183) fun (x191 : (List Int)) => compM (fun (y184 : Int) => (Pz.bindM (Pz.bindM (pureM (2 : Int)) fun (x187 : Int) => (Pz.bindM (Pz.bindM (pureM r28) fun (x185 : (List Int)) => (Pz.bindM (pureM y184) fun (x186 : Int) => optM (atI x185 x186))) fun (x188 : Int) => optM (mulO x187 x188))) fun (x189 : Int) => (Pz.bindM (pureM r17.2.2.1) fun (x190 : Int) => pureM (decide (x190 ≤ x189))))) (fun (y184 : Int) => (pureM y184)) x191) fun (x192 : (List Int)) => optM (some x192)) fun (r182 : (List Int)) => (Pz.bindM (Pz.bindM (Pz.bindM (pureM r175.1) fun (x193 : (Option (List PyData))) => pureM x193.isSome) fun (x194 : Bool) => if x194 then (Pz.bindM (Pz.bindM (Pz.bindM (pureM r175.2.1) fun (x199 : (List Int)) => compM (fun (y196 : Int) => (Pz.bindM (pureM y196) fun (x197 : Int) => (Pz.bindM (pureM r182) fun (x198 : (List Int)) => pureM (memB x197 x198)))) (fun (y196 : Int) => (pureM y196)) x199) fun (x200 : (List Int)) => optM (some x200)) fun (r195 : (List Int)) => (Pz.bindM (Pz.bindM (Pz.bindM (pureM r195) fun (x201 : (List Int)) => (Pz.bindM (smallM (pureM ([] : List Int))) fun (x202 : (List Int)) => pureM (decide (x201 = x202)))) fun (x208 : Bool) => if x208 then pureM true else (Pz.bindM (Pz.bindM (Pz.bindM (pureM r16) fun (x203 : (Int × (List (List Int)) × Unit)) => m_sort_points x203) fun (x204 : (List Int)) => optM (reprO ((eT eInt) x204))) fun (x206 : Str) => (Pz.bindM (Pz.bindM (pureM r195) fun (x205 : (List Int)) => optM (reprO ((eT eInt) x205))) fun (x207 : Str) => pureM (!decide (x206 = x207))))) fun (x209 : Bool) => if x209 then Pz.bindM (pureM false) (fun (x278 : Bool) => pureM (Out.rt x278)) else (Pz.bindM (Pz.bindM (Pz.bindM (Pz.bindM (Pz.bindM (pureM r175.1) fun (x215 : (Option (List PyData))) => optM x215) fun (x216 : (List PyData)) => (Pz.bindM (pureM (0 : Int)) fun (x217 : Int) => optM (atI x216 x217))) fun (x218 : PyData) => (Pz.bindM (Pz.bindM (Pz.bindM (pureM ("one" : Str)) fun (x212 : Str) => (Pz.bindM (Pz.bindM (pureM ("meets" : Str)) fun (x210 : Str) => (Pz.bindM (pureM ()) fun (x211 : Unit) => pureM (x210, x211))) fun (x213 : (Str × Unit)) => pureM (x212, x213))) fun (x214 : (Str × Str × Unit)) => pureM ((fun p : (Str × Str × Unit) => [p.1, p.2.1]) x214)) fun (x219 : (List Str)) => optM (inZ (eD x218) ((eT eStr) x219)))) fun (x222 : Bool) => if x222 then (Pz.bindM (pureM r195) fun (x220 : (List Int)) => (Pz.bindM (pureM r175.2.1) fun (x221 : (List Int)) => pureM (!decide (x220 = x221)))) else pureM false) fun (x223 : Bool) => if x223 then Pz.bindM (pureM false) (fun (x277 : Bool) => pureM (Out.rt x277)) else (Pz.bindM (Pz.bindM (Pz.bindM (pureM r175.2.2) fun (x225 : (Option (List Int))) => pureM x225.isNone) fun (x236 : Bool) => if x236 then (smallM (pureM ([] : List (List Int)))) else (Pz.bindM (pureM r17.2.1) fun (x235 : (List (List Int))) => compM (fun (y226 : (List Int)) => (Pz.bindM (Pz.bindM (pureM y226) fun (x231 : (List Int)) => (Pz.bindM (Pz.bindM (pureM r175.2.2) fun (x230 : (Option (List Int))) => optM x230) fun (x232 : (List Int)) => m__law_common x231 x232)) fun (x233 : (List Int)) => (Pz.bindM (smallM (pureM ([] : List Int))) fun (x234 : (List Int)) => pureM (decide (x233 = x234))))) (fun (y226 : (List Int)) => (pureM y226)) x235)) fun (r224 : (List (List Int))) => (Pz.bindM (Pz.bindM (Pz.bindM (pureM r224) fun (x246 : (List (List Int))) => compM (fun (y238 : (List Int)) => (pureM true)) (fun (y238 : (List Int)) => (Pz.bindM (pureM y238) fun (x244 : (List Int)) => (Pz.bindM (Pz.bindM (Pz.bindM (pureM y238) fun (x240 : (List Int)) => (Pz.bindM (Pz.bindM (pureM r175.2.2) fun (x239 : (Option (List Int))) => optM x239) fun (x241 : (List Int)) => m__law_union x240 x241)) fun (x242 : (List Int)) => (Pz.bindM (pureM ()) fun (x243 : Unit) => pureM (x242, x243))) fun (x245 : ((List Int) × Unit)) => pureM (x244, x245)))) x246) fun (x247 : (List ((List Int) × (List Int) × Unit))) => optM (some x247)) fun (r237 : (List ((List Int) × (List Int) × Unit))) => (Pz.bindM (Pz.bindM (Pz.bindM (Pz.bindM (Pz.bindM (pureM r16) fun (x248 : (Int × (List (List Int)) × Unit)) => m_half_table x248) fun (x249 : (List ((List Int) × (List Int) × Unit))) => optM (reprO ((eT (eP (eC (eT eInt) (eC (eT eInt) eU)))) x249))) fun (x251 : Str) => (Pz.bindM (Pz.bindM (pureM r237) fun (x250 : (List ((List Int) × (List Int) × Unit))) => optM (reprO ((eT (eP (eC (eT eInt) (eC (eT eInt) eU)))) x250))) fun (x252 : Str) => pureM (!decide (x251 = x252)))) fun (x260 : Bool) => if x260 then pureM true else (Pz.bindM (Pz.bindM (pureM r237) fun (x257 : (List ((List Int) × (List Int) × Unit))) => compM (fun (y253 : ((List Int) × (List Int) × Unit)) => (Pz.bindM (Pz.bindM (pureM y253) fun (x254 : ((List Int) × (List Int) × Unit)) => pureM (x254.2.1)) fun (x255 : (List Int)) => (Pz.bindM (pureM r17.2.1) fun (x256 : (List (List Int))) => pureM (!memB x255 x256)))) (fun (y253 : ((List Int) × (List Int) × Unit)) => (pureM y253)) x257) fun (x258 : (List ((List Int) × (List Int) × Unit))) => (Pz.bindM (smallM (pureM ([] : List ((List Int) × (List Int) × Unit)))) fun (x259 : (List ((List Int) × (List Int) × Unit))) => pureM (!decide (x258 = x259))))) fun (x261 : Bool) => if x261 then Pz.bindM (pureM false) (fun (x276 : Bool) => pureM (Out.rt x276)) else (Pz.bindM (Pz.bindM (Pz.bindM (Pz.bindM (Pz.bindM (pureM r237) fun (x268 : (List ((List Int) × (List Int) × Unit))) => compM (fun (y262 : ((List Int) × (List Int) × Unit)) => (pureM true)) (fun (y262 : ((List Int) × (List Int) × Unit)) => (Pz.bindM (Pz.bindM (pureM y262) fun (x263 : ((List Int) × (List Int) × Unit)) => pureM (x263.2.1)) fun (x266 : (List Int)) => (Pz.bindM (Pz.bindM (pureM (0 : Int)) fun (x264 : Int) => (Pz.bindM (pureM ()) fun (x265 : Unit) => pureM (x264, x265))) fun (x267 : (Int × Unit)) => pureM (x266, x267)))) x268) fun (x269 : (List ((List Int) × Int × Unit))) => pureM (mergeL [] x269)) fun (x270 : (List ((List Int) × Int × Unit))) => optM (some (x270.length : Int))) fun (x272 : Int) => (Pz.bindM (Pz.bindM (pureM r237) fun (x271 : (List ((List Int) × (List Int) × Unit))) => pureM (x271.length : Int)) fun (x273 : Int) => pureM (!decide (x272 = x273)))) fun (x274 : Bool) => if x274 then Pz.bindM (pureM false) (fun (x275 : Bool) => pureM (Out.rt x275)) else (pureM (Out.nx ()))))))))) else (pureM (Out.nx ()))) fun o => caseO o (fun (r279 : Unit) => (Pz.bindM (Pz.bindM (Pz.bindM (pureM r4) fun (x281 : Int) => m__law_pick x281) fun (x283 : Int) => (Pz.bindM (Pz.bindM (pureM r4) fun (x282 : Int) => m__law_pick x282) fun (x284 : Int) => pureM (x283, x284))) fun (r280 : (Int × Int)) => (Pz.bindM (smallM (Pz.bindM (pureM (0 : Int)) fun (x292 : Int) => (Pz.bindM (Pz.bindM (pureM (0 : Int)) fun (x290 : Int) => (Pz.bindM (Pz.bindM (pureM (0 : Int)) fun (x288 : Int) => (Pz.bindM (Pz.bindM (pureM (0 : Int)) fun (x286 : Int) => (Pz.bindM (pureM ([] : List Int)) fun (x287 : (List Int)) => pureM (x286 :: x287))) fun (x289 : (List Int)) => pureM (x288 :: x289))) fun (x291 : (List Int)) => pureM (x290 :: x291))) fun (x293 : (List Int)) => pureM (x292 :: x293)))) fun (r285 : (List Int)) => (Pz.bindM (Pz.bindM (pureM r17.2.1) fun (x314 : (List (List Int))) => forM' (fun (b295 : ((List Int))) (y294 : (List Int)) => (Pz.bindM (Pz.bindM (Pz.bindM (Pz.bindM (pureM r280.1) fun (x297 : Int) => (Pz.bindM (pureM y294) fun (x298 : (List Int)) => pureM (memB x297 x298))) fun (x299 : Bool) => optM (some (if x299 then 1 else 0))) fun (x305 : Int) => (Pz.bindM (Pz.bindM (pureM (2 : Int)) fun (x303 : Int) => (Pz.bindM (Pz.bindM (Pz.bindM (pureM r280.2) fun (x300 : Int) => (Pz.bindM (pureM y294) fun (x301 : (List Int)) => pureM (memB x300 x301))) fun (x302 : Bool) => optM (some (if x302 then 1 else 0))) fun (x304 : Int) => optM (mulO x303 x304))) fun (x306 : Int) => pureM (x305 + x306))) fun (r296 : Int) => (Pz.bindM (Pz.bindM (Pz.bindM (Pz.bindM (pureM b295) fun (x308 : (List Int)) => (Pz.bindM (pureM r296) fun (x309 : Int) => optM (atI x308 x309))) fun (x310 : Int) => (Pz.bindM (pureM (1 : Int)) fun (x311 : Int) => pureM (x310 + x311))) fun (x312 : Int) => (Pz.bindM (pureM r296) fun (x313 : Int) => optM (setO b295 x313 x312))) fun (r307 : _) => (pureM r307)))) x314 r285) fun (r315 : ((List Int))) => (Pz.bindM (Pz.bindM (Pz.bindM (Pz.bindM (Pz.bindM (pureM r16) fun (x316 : (Int × (List (List Int)) × Unit)) => (Pz.bindM (pureM r280.1) fun (x317 : Int) => (Pz.bindM (pureM r280.2) fun (x318 : Int) => m_four_counts x316 x317 x318))) fun (x319 : (List Int)) => optM (reprO ((eT eInt) x319))) fun (x322 : Str) => (Pz.bindM (Pz.bindM (Pz.bindM (pureM r315) fun (x320 : (List Int)) => optM (some x320)) fun (x321 : (List Int)) => optM (reprO ((eT eInt) x321))) fun (x323 : Str) => pureM (!decide (x322 = x323)))) fun (x329 : Bool) => if x329 then pureM true else (Pz.bindM (Pz.bindM (Pz.bindM (pureM r16) fun (x324 : (Int × (List (List Int)) × Unit)) => m_points_in_half x324) fun (x325 : (List Int)) => optM (reprO ((eT eInt) x325))) fun (x327 : Str) => (Pz.bindM (Pz.bindM (pureM r182) fun (x326 : (List Int)) => optM (reprO ((eT eInt) x326))) fun (x328 : Str) => pureM (!decide (x327 = x328))))) fun (x330 : Bool) => if x330 then Pz.bindM (pureM false) (fun (x364 : Bool) => pureM (Out.rt x364)) else (Pz.bindM (Pz.bindM (Pz.bindM (smallM (Pz.bindM (Pz.bindM (pureM r16) fun (x337 : (Int × (List (List Int)) × Unit)) => m_point_degrees x337) fun (x338 : (List Int)) => (Pz.bindM (Pz.bindM (Pz.bindM (Pz.bindM (pureM r16) fun (x333 : (Int × (List (List Int)) × Unit)) => m_mean_size x333) fun (x334 : (Int × Int × Unit)) => pureM ((fun p : (Int × Int × Unit) => [p.1, p.2.1]) x334)) fun (x335 : (List Int)) => (Pz.bindM (pureM ([] : List (List Int))) fun (x336 : (List (List Int))) => pureM (x335 :: x336))) fun (x339 : (List (List Int))) => pureM (x338 :: x339)))) fun (x340 : (List (List Int))) => optM (reprO ((eL (eT eInt)) x340))) fun (x355 : Str) => (Pz.bindM (Pz.bindM (smallM (Pz.bindM (Pz.bindM (pureM r28) fun (x351 : (List Int)) => optM (some x351)) fun (x352 : (List Int)) => (Pz.bindM (Pz.bindM (Pz.bindM (Pz.bindM (Pz.bindM (pureM r28) fun (x345 : (List Int)) => optM (some x345.sum)) fun (x346 : Int) => (Pz.bindM (pureM r17.2.2.1) fun (x347 : Int) => m__law_low x346 x347)) fun (x348 : (Int × Int × Unit)) => pureM ((fun p : (Int × Int × Unit) => [p.1, p.2.1]) x348)) fun (x349 : (List Int)) => (Pz.bindM (pureM ([] : List (List Int))) fun (x350 : (List (List Int))) => pureM (x349 :: x350))) fun (x353 : (List (List Int))) => pureM (x352 :: x353)))) fun (x354 : (List (List Int))) => optM (reprO ((eL (eT eInt)) x354))) fun (x356 : Str) => pureM (!decide (x355 = x356)))) fun (x357 : Bool) => if x357 then Pz.bindM (pureM false) (fun (x363 : Bool) => pureM (Out.rt x363)) else (Pz.bindM (Pz.bindM (Pz.bindM (pureM r16) fun (x358 : (Int × (List (List Int)) × Unit)) => optM (reprO ((eP (eC eInt (eC (eT (eT eInt)) eU))) x358))) fun (x359 : Str) => (Pz.bindM (pureM r17.1) fun (x360 : Str) => pureM (!decide (x359 = x360)))) fun (x361 : Bool) => if x361 then Pz.bindM (pureM false) (fun (x362 : Bool) => pureM (Out.rt x362)) else (pureM (Out.nx ()))))))))) (fun r => pureM (Out.rt r))))))))))))))) x366 ()) fun o => caseO o (fun (r367 : Unit) => (Pz.bindM (Pz.bindM (Pz.bindM (pureM (3 : Int)) fun (x386 : Int) => (Pz.bindM (Pz.bindM (smallM (Pz.bindM (smallM (pureM ([] : List Int))) fun (x382 : (List Int)) => (Pz.bindM (Pz.bindM (smallM (Pz.bindM (pureM (0 : Int)) fun (x378 : Int) => (Pz.bindM (Pz.bindM (pureM (1 : Int)) fun (x376 : Int) => (Pz.bindM (pureM ([] : List Int)) fun (x377 : (List Int)) => pureM (x376 :: x377))) fun (x379 : (List Int)) => pureM (x378 :: x379)))) fun (x380 : (List Int)) => (Pz.bindM (Pz.bindM (smallM (Pz.bindM (pureM (0 : Int)) fun (x372 : Int) => (Pz.bindM (Pz.bindM (pureM (1 : Int)) fun (x370 : Int) => (Pz.bindM (Pz.bindM (pureM (2 : Int)) fun (x368 : Int) => (Pz.bindM (pureM ([] : List Int)) fun (x369 : (List Int)) => pureM (x368 :: x369))) fun (x371 : (List Int)) => pureM (x370 :: x371))) fun (x373 : (List Int)) => pureM (x372 :: x373)))) fun (x374 : (List Int)) => (Pz.bindM (pureM ([] : List (List Int))) fun (x375 : (List (List Int))) => pureM (x374 :: x375))) fun (x381 : (List (List Int))) => pureM (x380 :: x381))) fun (x383 : (List (List Int))) => pureM (x382 :: x383)))) fun (x384 : (List (List Int))) => (Pz.bindM (pureM ()) fun (x385 : Unit) => pureM (x384, x385))) fun (x387 : ((List (List Int)) × Unit)) => pureM (x386, x387))) fun (x388 : (Int × (List (List Int)) × Unit)) => m_half_sort x388) fun (x395 : (Option (List PyData))) => (Pz.bindM (Pz.bindM (pureM ("two" : Str)) fun (x393 : Str) => (Pz.bindM (Pz.bindM (pureM (0 : Int)) fun (x391 : Int) => (Pz.bindM (Pz.bindM (pureM (1 : Int)) fun (x389 : Int) => (Pz.bindM (pureM ()) fun (x390 : Unit) => pureM (x389, x390))) fun (x392 : (Int × Unit)) => pureM (x391, x392))) fun (x394 : (Int × (Int × Unit))) => pureM (x393, x394))) fun (x396 : (Str × Int × Int × Unit)) => optM (eqZ ((eO (eT eD)) x395) ((eP (eC eStr (eC eInt (eC eInt eU)))) x396))))) pureM)
theorem ok_law {f : Addr} {fd : FuncData} (F : Fun K "law" "law" s_law f fd) (B : Bl mg) {fs : Addr} {ds : FuncData} (C : Cal K mg "_law_open_cells" fs ds ["script"]) (Fs : FnG P w K mg base 1 fs ds ["script"] (spSource K))
    {f__law_pick : Addr} {d__law_pick : FuncData} (C__law_pick : Cal K mg "_law_pick" f__law_pick d__law_pick ["source", "most"]) (F__law_pick : FnG P w K mg base 1 f__law_pick d__law_pick ["source", "most"] (SpM (fun p : Int × Unit => [.src, .fz (eInt p.1)]) eInt (fun p => pickM p.1)))
    {f__law_kept : Addr} {d__law_kept : FuncData} (C__law_kept : Cal K mg "_law_kept" f__law_kept d__law_kept ["source", "n"]) (F__law_kept : FnG P w K mg base 2 f__law_kept d__law_kept ["source", "n"] (SpM (fun p : Int × Unit => [.src, .fz (eInt p.1)]) (eP (eC eInt (eC (eT (eT eInt)) eU))) (fun p : Int × Unit => m__law_kept p.1)))
    {f__law_meets : Addr} {d__law_meets : FuncData} (C__law_meets : Cal K mg "_law_meets" f__law_meets d__law_meets ["family"]) (F__law_meets : FnG P w K mg base 2 f__law_meets d__law_meets ["family"] (SpM (fun p : (Int × (List (List Int)) × Unit) × Unit => [.fz ((eP (eC eInt (eC (eT (eT eInt)) eU))) p.1)]) (eP (eC eInt (eC (eT (eT eInt)) eU))) (fun p : (Int × (List (List Int)) × Unit) × Unit => m__law_meets p.1)))
    {f__law_common : Addr} {d__law_common : FuncData} (C__law_common : Cal K mg "_law_common" f__law_common d__law_common ["one", "other"]) (F__law_common : FnG P w K mg base 1 f__law_common d__law_common ["one", "other"] (SpM (fun p : (List Int) × (List Int) × Unit => [.fz ((eT eInt) p.1), .fz ((eT eInt) p.2.1)]) (eT eInt) (fun p : (List Int) × (List Int) × Unit => m__law_common p.1 p.2.1)))
    {f_half_sort : Addr} {d_half_sort : FuncData} (C_half_sort : Cal K mg "half_sort" f_half_sort d_half_sort ["kept"]) (F_half_sort : FnG P w K mg base 3 f_half_sort d_half_sort ["kept"] (SpM (fun p : (Int × (List (List Int)) × Unit) × Unit => [.fz ((eP (eC eInt (eC (eT (eT eInt)) eU))) p.1)]) (eO (eT eD)) (fun p : (Int × (List (List Int)) × Unit) × Unit => m_half_sort p.1)))
    {f_sort_points : Addr} {d_sort_points : FuncData} (C_sort_points : Cal K mg "sort_points" f_sort_points d_sort_points ["kept"]) (F_sort_points : FnG P w K mg base 5 f_sort_points d_sort_points ["kept"] (SpM (fun p : (Int × (List (List Int)) × Unit) × Unit => [.fz ((eP (eC eInt (eC (eT (eT eInt)) eU))) p.1)]) (eT eInt) (fun p : (Int × (List (List Int)) × Unit) × Unit => m_sort_points p.1)))
    {f__law_union : Addr} {d__law_union : FuncData} (C__law_union : Cal K mg "_law_union" f__law_union d__law_union ["one", "other"]) (F__law_union : FnG P w K mg base 1 f__law_union d__law_union ["one", "other"] (SpM (fun p : (List Int) × (List Int) × Unit => [.fz ((eT eInt) p.1), .fz ((eT eInt) p.2.1)]) (eT eInt) (fun p : (List Int) × (List Int) × Unit => m__law_union p.1 p.2.1)))
    {f_half_table : Addr} {d_half_table : FuncData} (C_half_table : Cal K mg "half_table" f_half_table d_half_table ["kept"]) (F_half_table : FnG P w K mg base 6 f_half_table d_half_table ["kept"] (SpM (fun p : (Int × (List (List Int)) × Unit) × Unit => [.fz ((eP (eC eInt (eC (eT (eT eInt)) eU))) p.1)]) (eT (eP (eC (eT eInt) (eC (eT eInt) eU)))) (fun p : (Int × (List (List Int)) × Unit) × Unit => m_half_table p.1)))
    {f_four_counts : Addr} {d_four_counts : FuncData} (C_four_counts : Cal K mg "four_counts" f_four_counts d_four_counts ["family", "x", "y"]) (F_four_counts : FnG P w K mg base 1 f_four_counts d_four_counts ["family", "x", "y"] (SpM (fun p : (Int × (List (List Int)) × Unit) × Int × Int × Unit => [.fz ((eP (eC eInt (eC (eT (eT eInt)) eU))) p.1), .fz (eInt p.2.1), .fz (eInt p.2.2.1)]) (eT eInt) (fun p : (Int × (List (List Int)) × Unit) × Int × Int × Unit => m_four_counts p.1 p.2.1 p.2.2.1)))
    {f_points_in_half : Addr} {d_points_in_half : FuncData} (C_points_in_half : Cal K mg "points_in_half" f_points_in_half d_points_in_half ["family"]) (F_points_in_half : FnG P w K mg base 2 f_points_in_half d_points_in_half ["family"] (SpM (fun p : (Int × (List (List Int)) × Unit) × Unit => [.fz ((eP (eC eInt (eC (eT (eT eInt)) eU))) p.1)]) (eT eInt) (fun p : (Int × (List (List Int)) × Unit) × Unit => m_points_in_half p.1)))
    {f_point_degrees : Addr} {d_point_degrees : FuncData} (C_point_degrees : Cal K mg "point_degrees" f_point_degrees d_point_degrees ["family"]) (F_point_degrees : FnG P w K mg base 2 f_point_degrees d_point_degrees ["family"] (SpM (fun p : (Int × (List (List Int)) × Unit) × Unit => [.fz ((eP (eC eInt (eC (eT (eT eInt)) eU))) p.1)]) (eT eInt) (fun p : (Int × (List (List Int)) × Unit) × Unit => m_point_degrees p.1)))
    {f_mean_size : Addr} {d_mean_size : FuncData} (C_mean_size : Cal K mg "mean_size" f_mean_size d_mean_size ["family"]) (F_mean_size : FnG P w K mg base 2 f_mean_size d_mean_size ["family"] (SpM (fun p : (Int × (List (List Int)) × Unit) × Unit => [.fz ((eP (eC eInt (eC (eT (eT eInt)) eU))) p.1)]) (eP (eC eInt (eC eInt eU))) (fun p : (Int × (List (List Int)) × Unit) × Unit => m_mean_size p.1)))
    {f__law_low : Addr} {d__law_low : FuncData} (C__law_low : Cal K mg "_law_low" f__law_low d__law_low ["p", "q"]) (F__law_low : FnG P w K mg base 1 f__law_low d__law_low ["p", "q"] (SpM (fun p : Int × Int × Unit => [.fz (eInt p.1), .fz (eInt p.2.1)]) (eP (eC eInt (eC eInt eU))) (fun p : Int × Int × Unit => m__law_low p.1 p.2.1)))
    (hm : Sat m_law fun r => r = true) :
    FnG P w K mg base 7 f fd ["script"] (SpLaw K) := by
  refine law_ok F sc_law rfl rfl C (Fs.mono (by decide)) m_law (fun st => let ⟨r, u, e, q⟩ := hm st; ⟨u, by rw [e, q]⟩) ⟨by first | exact Or.inl rfl | exact Or.inr rfl, by first | exact Or.inl rfl | exact Or.inr (Or.inl rfl) | exact Or.inr (Or.inr rfl)⟩ (fun _ _ _ _ _ _ => ⟨by decide, rfl, rfl, rfl, by first | exact Or.inl rfl | exact Or.inr rfl⟩) ?_
  intro cdv A above s H E R hG hr
  have sc := sc_law
  exact (s_step1 (er := eBool) (Γ1 := (fun (b : Unit) => [.un, .src, .un, .un, .un, .un, .un, .un, .un, .un, .un, .un, .un, .un, .un, .un, .un, .un, .un, .un, .un, .un, .un, .un, .un, .un, .un])) (q_forO (er := eBool) (set := (st1 2 eInt)) (is := [2]) (fun (b : Unit) => [.un, .src, .un, .un, .un, .un, .un, .un, .un, .un, .un, .un, .un, .un, .un, .un, .un, .un, .un, .un, .un, .un, .un, .un, .un, .un, .un]) () _ PassesOwn.never rfl (i_range1 B.b_range e_int) (g1 2 eInt sc.nd) noow1 (.un (.eq (.un (.un (.un (.un (.un (.un (.un (.un (.un (.un (.un (.un (.un (.un (.un (.un (.un (.un (.un (.un (.un (.un (.un (.un (.un .nil))))))))))))))))))))))))))) (fun (b3 : Unit) (y2 : Int) => (s_step (Γ1 := fun (r4 : Int) => [.un, .src, .fz (eInt y2), .fz (eInt r4), .un, .un, .un, .un, .un, .un, .un, .un, .un, .un, .un, .un, .un, .un, .un, .un, .un, .un, .un, .un, .un, .un, .un]) (q_set 3 (e_add e_int (e_cs1 1 (F__law_pick.mono (by decide)) hG hr C__law_pick.mg C__law_pick.kp C__law_pick.bd e_int)) sc.nd) (fun (r4 : Int) => (s_step (Γ1 := fun (r8 : (Int × (List (List Int)) × Unit)) => [.un, .src, .fz (eInt y2), .fz (eInt r4), .fz ((eP (eC eInt (eC (eT (eT eInt)) eU))) r8), .un, .un, .un, .un, .un, .un, .un, .un, .un, .un, .un, .un, .un, .un, .un, .un, .un, .un, .un, .un, .un, .un]) (q_set 4 (e_cs1 1 (F__law_kept.mono (by decide)) hG hr C__law_kept.mg C__law_kept.kp C__law_kept.bd (e_var 3 eInt r4)) sc.nd) (fun (r8 : (Int × (List (List Int)) × Unit)) => (s_step (Γ1 := (fun (b : ((Int × (List (List Int)) × Unit))) => [.un, .src, .fz (eInt y2), .fz (eInt r4), .fz ((eP (eC eInt (eC (eT (eT eInt)) eU))) b), .un, .un, .un, .un, .un, .un, .un, .un, .un, .un, .un, .un, .un, .un, .un, .un, .un, .un, .un, .un, .un, .un])) (q_if (t_eqI (e_cs1 1 (F__law_pick.mono (by decide)) hG hr C__law_pick.mg C__law_pick.kp C__law_pick.bd e_int) e_int) (s_step (Γ1 := fun (r14 : (Int × (List (List Int)) × Unit)) => [.un, .src, .fz (eInt y2), .fz (eInt r4), .fz ((eP (eC eInt (eC (eT (eT eInt)) eU))) r14), .un, .un, .un, .un, .un, .un, .un, .un, .un, .un, .un, .un, .un, .un, .un, .un, .un, .un, .un, .un, .un, .un]) (q_set 4 (e_c1 (F__law_meets.mono (by decide)) hG hr C__law_meets.mg C__law_meets.kp C__law_meets.bd (e_var 4 (eP (eC eInt (eC (eT (eT eInt)) eU))) r8)) sc.nd) (fun (r14 : (Int × (List (List Int)) × Unit)) => (s_nilN (Γb := (fun (b : ((Int × (List (List Int)) × Unit))) => [.un, .src, .fz (eInt y2), .fz (eInt r4), .fz ((eP (eC eInt (eC (eT (eT eInt)) eU))) b), .un, .un, .un, .un, .un, .un, .un, .un, .un, .un, .un, .un, .un, .un, .un, .un, .un, .un, .un, .un, .un, .un])) r14 (.un (.eq (.eq (.eq (.eq (.un (.un (.un (.un (.un (.un (.un (.un (.un (.un (.un (.un (.un (.un (.un (.un (.un (.un (.un (.un (.un (.un .nil)))))))))))))))))))))))))))))) (s_nilN (Γb := (fun (b : ((Int × (List (List Int)) × Unit))) => [.un, .src, .fz (eInt y2), .fz (eInt r4), .fz ((eP (eC eInt (eC (eT (eT eInt)) eU))) b), .un, .un, .un, .un, .un, .un, .un, .un, .un, .un, .un, .un, .un, .un, .un, .un, .un, .un, .un, .un, .un, .un])) r8 (.un (.eq (.eq (.eq (.eq (.un (.un (.un (.un (.un (.un (.un (.un (.un (.un (.un (.un (.un (.un (.un (.un (.un (.un (.un (.un (.un (.un .nil))))))))))))))))))))))))))))) (fun r16 => (s_step (Γ1 := fun (r17 : (Str × (List (List Int)) × Int × Unit)) => [.un, .src, .fz (eInt y2), .fz (eInt r4), .fz ((eP (eC eInt (eC (eT (eT eInt)) eU))) r16), .fz (eStr r17.1), .fz ((eT (eT eInt)) r17.2.1), .fz (eInt r17.2.2.1), .un, .un, .un, .un, .un, .un, .un, .un, .un, .un, .un, .un, .un, .un, .un, .un, .un, .un, .un]) (q_asg (set := (st3 5 eStr 6 (eT (eT eInt)) 7 eInt)) (e_tup (eC eStr (eC (eT (eT eInt)) (eC eInt eU))) (a_cons (e_repr (ea := (eP (eC eInt (eC (eT (eT eInt)) eU)))) hr hG B.b_repr bt_repr (e_var 4 (eP (eC eInt (eC (eT (eT eInt)) eU))) r16)) (a_cons (e_ixP (ec := (eT (eT eInt))) (f := (eC eInt (eC (eT (eT eInt)) eU))) (fun p => p.2.1) 1 (ha := (e_var 4 (eP (eC eInt (eC (eT (eT eInt)) eU))) r16))) (a_cons (e_lenT B.b_len bt_len (e_ixP (ec := (eT (eT eInt))) (f := (eC eInt (eC (eT (eT eInt)) eU))) (fun p => p.2.1) 1 (ha := (e_var 4 (eP (eC eInt (eC (eT (eT eInt)) eU))) r16)))) a_nil))) (hl := fun _ => (by decide : 3 ≤ sizeLine))) (g3 5 6 7 eStr (eT (eT eInt)) eInt rfl sc.nd) noow3) (fun (r17 : (Str × (List (List Int)) × Int × Unit)) => (s_step (Γ1 := fun (r28 : (List Int)) => [.un, .src, .fz (eInt y2), .fz (eInt r4), .fz ((eP (eC eInt (eC (eT (eT eInt)) eU))) r16), .fz (eStr r17.1), .fz ((eT (eT eInt)) r17.2.1), .fz (eInt r17.2.2.1), .fz ((eL eInt) r28), .un, .un, .un, .un, .un, .un, .un, .un, .un, .un, .un, .un, .un, .un, .un, .un, .un, .un]) (q_set 8 (f_e (f_lc (set := (st1 19 eInt)) (is := [19]) [("x", 19)] (fun (y30 : Int) => (pureM true)) (fun (y30 : Int) => (Pz.bindM (Pz.bindM (pureM r17.2.1) fun (x34 : (List (List Int))) => compM (fun (y31 : (List Int)) => (Pz.bindM (pureM y30) fun (x32 : Int) => (Pz.bindM (pureM y31) fun (x33 : (List Int)) => pureM (memB x32 x33)))) (fun (y31 : (List Int)) => (pureM y31)) x34) fun (x35 : (List (List Int))) => pureM (x35.length : Int))) rfl sc.nd (i_range1 B.b_range (e_var 3 eInt r4)) (blkOk_by (N := N_law) (sc := (defScope s_law)) (by decide +kernel)) (fun _ _ _ _ _ => (g1 19 eInt sc.nd)) (fun _ _ _ _ _ (y30 : Int) => c_nil) (fun _ _ _ _ _ (y30 : Int) => (e_len B.b_len bt_len (f_e (f_lc (set := (st1 22 (eT eInt))) (is := [22]) [("lot", 22)] (fun (y31 : (List Int)) => (Pz.bindM (pureM y30) fun (x32 : Int) => (Pz.bindM (pureM y31) fun (x33 : (List Int)) => pureM (memB x32 x33)))) (fun (y31 : (List Int)) => (pureM y31)) rfl sc.nd (i_tup (e_var 6 (eT (eT eInt)) r17.2.1)) (blkOk_in N_law rfl (by decide +kernel)) (fun _ _ _ _ _ => (g1 22 (eT eInt) sc.nd)) (fun _ _ _ _ _ (y31 : (List Int)) => (c_one (t_inT (n := 0) hr Dc.int (e_var 19 eInt y30) (e_var 22 (eT eInt) y31)))) (fun _ _ _ _ _ (y31 : (List Int)) => (e_var 22 (eT eInt) y31)) noow1 sm1 (fun _ h => h) (noOw rfl))))) noow1 sm1 (fun _ h => h) (noOw rfl))) sc.nd) (fun (r28 : (List Int)) => (s_step (Γ1 := fun (r37 : ((List (List Int)) × (List (List Int)))) => [.un, .src, .fz (eInt y2), .fz (eInt r4), .fz ((eP (eC eInt (eC (eT (eT eInt)) eU))) r16), .fz (eStr r17.1), .fz ((eT (eT eInt)) r17.2.1), .fz (eInt r17.2.2.1), .fz ((eL eInt) r28), .fz ((eL (eT eInt)) r37.1), .fz ((eL (eT eInt)) r37.2), .un, .un, .un, .un, .un, .un, .un, .un, .un, .un, .un, .un, .un, .un, .un, .un]) (q_par2 9 10 (f_e (f_lc (set := (st1 22 (eT eInt))) (is := [22]) [("lot", 22)] (fun (y38 : (List Int)) => (Pz.bindM (Pz.bindM (pureM y38) fun (x39 : (List Int)) => pureM (x39.length : Int)) fun (x40 : Int) => (Pz.bindM (pureM (1 : Int)) fun (x41 : Int) => pureM (decide (x40 = x41))))) (fun (y38 : (List Int)) => (pureM y38)) rfl sc.nd (i_tup (e_var 6 (eT (eT eInt)) r17.2.1)) (blkOk_by (N := N_law) (sc := (defScope s_law)) (by decide +kernel)) (fun _ _ _ _ _ => (g1 22 (eT eInt) sc.nd)) (fun _ _ _ _ _ (y38 : (List Int)) => (c_one (t_eqI (e_lenT B.b_len bt_len (e_var 22 (eT eInt) y38)) e_int))) (fun _ _ _ _ _ (y38 : (List Int)) => (e_var 22 (eT eInt) y38)) noow1 sm1 (fun _ h => h) (noOw rfl))) (f_e (f_lc (set := (st1 22 (eT eInt))) (is := [22]) [("lot", 22)] (fun (y43 : (List Int)) => (Pz.bindM (Pz.bindM (pureM y43) fun (x44 : (List Int)) => pureM (x44.length : Int)) fun (x45 : Int) => (Pz.bindM (pureM (2 : Int)) fun (x46 : Int) => pureM (decide (x45 = x46))))) (fun (y43 : (List Int)) => (pureM y43)) rfl sc.nd (i_tup (e_var 6 (eT (eT eInt)) r17.2.1)) (blkOk_by (N := N_law) (sc := (defScope s_law)) (by decide +kernel)) (fun _ _ _ _ _ => (g1 22 (eT eInt) sc.nd)) (fun _ _ _ _ _ (y43 : (List Int)) => (c_one (t_eqI (e_lenT B.b_len bt_len (e_var 22 (eT eInt) y43)) e_int))) (fun _ _ _ _ _ (y43 : (List Int)) => (e_var 22 (eT eInt) y43)) noow1 sm1 (fun _ h => h) (noOw rfl))) rfl sc.nd) (fun (r37 : ((List (List Int)) × (List (List Int)))) => (s_step (Γ1 := fun (r50 : (List (Int × (List Int) × Unit))) => [.un, .src, .fz (eInt y2), .fz (eInt r4), .fz ((eP (eC eInt (eC (eT (eT eInt)) eU))) r16), .fz (eStr r17.1), .fz ((eT (eT eInt)) r17.2.1), .fz (eInt r17.2.2.1), .fz ((eL eInt) r28), .fz ((eL (eT eInt)) r37.1), .fz ((eL (eT eInt)) r37.2), .fz ((eL (eP (eC eInt (eC (eT eInt) eU)))) r50), .un, .un, .un, .un, .un, .un, .un, .un, .un, .un, .un, .un, .un, .un, .un]) (q_setLcE 11 (set := (st1 22 (eT eInt))) (is := [22]) [("lot", 22)] (fun (y51 : (List Int)) => (Pz.bindM (pureM y51) fun (x52 : (List Int)) => (Pz.bindM (smallM (pureM ([] : List Int))) fun (x53 : (List Int)) => pureM (!decide (x52 = x53))))) (fun (y51 : (List Int)) => (Pz.bindM (Pz.bindM (pureM y51) fun (x54 : (List Int)) => pureM (x54.length : Int)) fun (x57 : Int) => (Pz.bindM (Pz.bindM (pureM y51) fun (x55 : (List Int)) => (Pz.bindM (pureM ()) fun (x56 : Unit) => pureM (x55, x56))) fun (x58 : ((List Int) × Unit)) => pureM (x57, x58)))) rfl sc.nd (sw_true rfl rfl rfl (by decide +kernel)) (i_tup (e_var 6 (eT (eT eInt)) r17.2.1)) (blkOk_by (N := N_law) (sc := (defScope s_law)) (by decide +kernel)) (fun _ _ _ _ _ => (g1 22 (eT eInt) sc.nd)) (fun _ _ _ _ _ (y51 : (List Int)) => (c_one (t_neP (n := 1) hr (Dc.tup Dc.int) (e_var 22 (eT eInt) y51) (e_tupl l_nil)))) (fun _ _ _ _ _ (y51 : (List Int)) => (e_tup (eC eInt (eC (eT eInt) eU)) (a_cons (e_lenT B.b_len bt_len (e_var 22 (eT eInt) y51)) (a_cons (e_var 22 (eT eInt) y51) a_nil)) (hl := fun _ => (by decide : 2 ≤ sizeLine)))) noow1 sm1 (fun _ h => h) (noOw rfl)) (fun (r50 : (List (Int × (List Int) × Unit))) => (s_step (Γ1 := fun (r60 : Bool) => [.un, .src, .fz (eInt y2), .fz (eInt r4), .fz ((eP (eC eInt (eC (eT (eT eInt)) eU))) r16), .fz (eStr r17.1), .fz ((eT (eT eInt)) r17.2.1), .fz (eInt r17.2.2.1), .fz ((eL eInt) r28), .fz ((eL (eT eInt)) r37.1), .fz ((eL (eT eInt)) r37.2), .fz ((eL (eP (eC eInt (eC (eT eInt) eU)))) r50), .fz (eBool r60), .un, .un, .un, .un, .un, .un, .un, .un, .un, .un, .un, .un, .un, .un]) (q_set 12 (e_eqP (n := 1) hr (Dc.lst Dc.int) (f_e (f_lc (set := (st1 24 (eT eInt))) (is := [24]) [("one", 24)] (fun (y61 : (List Int)) => (Pz.bindM (Pz.bindM (pureM r17.2.1) fun (x67 : (List (List Int))) => compM (fun (y62 : (List Int)) => (Pz.bindM (Pz.bindM (pureM y61) fun (x63 : (List Int)) => (Pz.bindM (pureM y62) fun (x64 : (List Int)) => m__law_common x63 x64)) fun (x65 : (List Int)) => (Pz.bindM (pureM r17.2.1) fun (x66 : (List (List Int))) => pureM (!memB x65 x66)))) (fun (y62 : (List Int)) => (pureM y62)) x67) fun (x68 : (List (List Int))) => (Pz.bindM (smallM (pureM ([] : List (List Int)))) fun (x69 : (List (List Int))) => pureM (!decide (x68 = x69))))) (fun (y61 : (List Int)) => (pureM (1 : Int))) rfl sc.nd (i_tup (e_var 6 (eT (eT eInt)) r17.2.1)) (blkOk_by (N := N_law) (sc := (defScope s_law)) (by decide +kernel)) (fun _ _ _ _ _ => (g1 24 (eT eInt) sc.nd)) (fun _ _ _ _ _ (y61 : (List Int)) => (c_one (t_neP (n := 2) hr (Dc.lst (Dc.tup Dc.int)) (f_e (f_lc (set := (st1 25 (eT eInt))) (is := [25]) [("late", 25)] (fun (y62 : (List Int)) => (Pz.bindM (Pz.bindM (pureM y61) fun (x63 : (List Int)) => (Pz.bindM (pureM y62) fun (x64 : (List Int)) => m__law_common x63 x64)) fun (x65 : (List Int)) => (Pz.bindM (pureM r17.2.1) fun (x66 : (List (List Int))) => pureM (!memB x65 x66)))) (fun (y62 : (List Int)) => (pureM y62)) rfl sc.nd (i_tup (e_var 6 (eT (eT eInt)) r17.2.1)) (blkOk_in N_law rfl (by decide +kernel)) (fun _ _ _ _ _ => (g1 25 (eT eInt) sc.nd)) (fun _ _ _ _ _ (y62 : (List Int)) => (c_one (t_ninT (n := 1) hr (Dc.tup Dc.int) (e_c2 (F__law_common.mono (by decide)) hG hr C__law_common.mg C__law_common.kp C__law_common.bd (e_var 24 (eT eInt) y61) (e_var 25 (eT eInt) y62)) (e_var 6 (eT (eT eInt)) r17.2.1)))) (fun _ _ _ _ _ (y62 : (List Int)) => (e_var 25 (eT eInt) y62)) noow1 sm1 (fun _ h => h) (noOw rfl))) (f_e (f_list l_nil))))) (fun _ _ _ _ _ (y61 : (List Int)) => e_int) noow1 sm1 (fun _ h => h) (noOw rfl))) (f_e (f_list l_nil))) sc.nd) (fun (r60 : Bool) => (s_step (Γ1 := (fun (b : ((Option (List PyData)) × (List Int) × (Option (List Int)))) => [.un, .src, .fz (eInt y2), .fz (eInt r4), .fz ((eP (eC eInt (eC (eT (eT eInt)) eU))) r16), .fz (eStr r17.1), .fz ((eT (eT eInt)) r17.2.1), .fz (eInt r17.2.2.1), .fz ((eL eInt) r28), .fz ((eL (eT eInt)) r37.1), .fz ((eL (eT eInt)) r37.2), .fz ((eL (eP (eC eInt (eC (eT eInt) eU)))) r50), .fz (eBool r60), .fz ((eO (eT eD)) b.1), .fz ((eT eInt) b.2.1), .fz ((eO (eT eInt)) b.2.2), .un, .un, .un, .un, .un, .un, .un, .un, .un, .un, .un])) (q_if (t_neP (n := 2) hr (Dc.lst (Dc.tup Dc.int)) (e_var 9 (eL (eT eInt)) r37.1) (f_e (f_list l_nil))) (s_step (Γ1 := fun (r76 : ((Option (List PyData)) × (List Int) × (Option (List Int)) × Unit)) => [.un, .src, .fz (eInt y2), .fz (eInt r4), .fz ((eP (eC eInt (eC (eT (eT eInt)) eU))) r16), .fz (eStr r17.1), .fz ((eT (eT eInt)) r17.2.1), .fz (eInt r17.2.2.1), .fz ((eL eInt) r28), .fz ((eL (eT eInt)) r37.1), .fz ((eL (eT eInt)) r37.2), .fz ((eL (eP (eC eInt (eC (eT eInt) eU)))) r50), .fz (eBool r60), .fz ((eO (eT eD)) r76.1), .fz ((eT eInt) r76.2.1), .fz ((eO (eT eInt)) r76.2.2.1), .un, .un, .un, .un, .un, .un, .un, .un, .un, .un, .un]) (q_asg (set := (st3 13 (eO (eT eD)) 14 (eT eInt) 15 (eO (eT eInt)))) (e_tup (eC (eO (eT eD)) (eC (eT eInt) (eC (eO (eT eInt)) eU))) (a_cons (e_enc (eb := (eO (eT eD))) some (e_catT (e_enc (eb := (eT eD)) (fun p : (Str × Unit) => [eStr p.1]) (e_tup (eC eStr eU) (a_cons e_str a_nil) (hl := fun _ => (by decide : 1 ≤ sizeLine))) (fun _ => rfl)) (e_enc (eb := (eT eD)) (List.map eInt) (e_ixL (e_var 9 (eL (eT eInt)) r37.1) e_int) (fun x => by simp [eT, eD]))) (fun _ => rfl)) (a_cons (e_ixL (e_var 9 (eL (eT eInt)) r37.1) e_int) (a_cons (e_enc (eb := (eO (eT eInt))) some (e_ixL (e_var 9 (eL (eT eInt)) r37.1) e_int) (fun _ => rfl)) a_nil))) (hl := fun _ => (by decide : 3 ≤ sizeLine))) (g3 13 14 15 (eO (eT eD)) (eT eInt) (eO (eT eInt)) rfl sc.nd) noow3) (fun (r76 : ((Option (List PyData)) × (List Int) × (Option (List Int)) × Unit)) => (s_nilN (Γb := (fun (b : ((Option (List PyData)) × (List Int) × (Option (List Int)))) => [.un, .src, .fz (eInt y2), .fz (eInt r4), .fz ((eP (eC eInt (eC (eT (eT eInt)) eU))) r16), .fz (eStr r17.1), .fz ((eT (eT eInt)) r17.2.1), .fz (eInt r17.2.2.1), .fz ((eL eInt) r28), .fz ((eL (eT eInt)) r37.1), .fz ((eL (eT eInt)) r37.2), .fz ((eL (eP (eC eInt (eC (eT eInt) eU)))) r50), .fz (eBool r60), .fz ((eO (eT eD)) b.1), .fz ((eT eInt) b.2.1), .fz ((eO (eT eInt)) b.2.2), .un, .un, .un, .un, .un, .un, .un, .un, .un, .un, .un])) (r76.1, r76.2.1, r76.2.2.1) (.un (.eq (.eq (.eq (.eq (.eq (.eq (.eq (.eq (.eq (.eq (.eq (.eq (.eq (.eq (.eq (.un (.un (.un (.un (.un (.un (.un (.un (.un (.un (.un .nil)))))))))))))))))))))))))))))) (s_ifend (t_neP (n := 2) hr (Dc.lst (Dc.tup Dc.int)) (e_var 10 (eL (eT eInt)) r37.2) (f_e (f_list l_nil))) (s_step (Γ1 := fun (r100 : ((Option (List PyData)) × (List Int) × (Option (List Int)) × Unit)) => [.un, .src, .fz (eInt y2), .fz (eInt r4), .fz ((eP (eC eInt (eC (eT (eT eInt)) eU))) r16), .fz (eStr r17.1), .fz ((eT (eT eInt)) r17.2.1), .fz (eInt r17.2.2.1), .fz ((eL eInt) r28), .fz ((eL (eT eInt)) r37.1), .fz ((eL (eT eInt)) r37.2), .fz ((eL (eP (eC eInt (eC (eT eInt) eU)))) r50), .fz (eBool r60), .fz ((eO (eT eD)) r100.1), .fz ((eT eInt) r100.2.1), .fz ((eO (eT eInt)) r100.2.2.1), .un, .un, .un, .un, .un, .un, .un, .un, .un, .un, .un]) (q_asg (set := (st3 13 (eO (eT eD)) 14 (eT eInt) 15 (eO (eT eInt)))) (e_tup (eC (eO (eT eD)) (eC (eT eInt) (eC (eO (eT eInt)) eU))) (a_cons (e_enc (eb := (eO (eT eD))) some (e_catT (e_enc (eb := (eT eD)) (fun p : (Str × Unit) => [eStr p.1]) (e_tup (eC eStr eU) (a_cons e_str a_nil) (hl := fun _ => (by decide : 1 ≤ sizeLine))) (fun _ => rfl)) (e_enc (eb := (eT eD)) (List.map eInt) (e_ixL (e_var 10 (eL (eT eInt)) r37.2) e_int) (fun x => by simp [eT, eD]))) (fun _ => rfl)) (a_cons (e_ixL (e_var 10 (eL (eT eInt)) r37.2) e_int) (a_cons (e_enc (eb := (eO (eT eInt))) some (e_ixL (e_var 10 (eL (eT eInt)) r37.2) e_int) (fun _ => rfl)) a_nil))) (hl := fun _ => (by decide : 3 ≤ sizeLine))) (g3 13 14 15 (eO (eT eD)) (eT eInt) (eO (eT eInt)) rfl sc.nd) noow3) (fun (r100 : ((Option (List PyData)) × (List Int) × (Option (List Int)) × Unit)) => (s_nilN (Γb := (fun (b : ((Option (List PyData)) × (List Int) × (Option (List Int)))) => [.un, .src, .fz (eInt y2), .fz (eInt r4), .fz ((eP (eC eInt (eC (eT (eT eInt)) eU))) r16), .fz (eStr r17.1), .fz ((eT (eT eInt)) r17.2.1), .fz (eInt r17.2.2.1), .fz ((eL eInt) r28), .fz ((eL (eT eInt)) r37.1), .fz ((eL (eT eInt)) r37.2), .fz ((eL (eP (eC eInt (eC (eT eInt) eU)))) r50), .fz (eBool r60), .fz ((eO (eT eD)) b.1), .fz ((eT eInt) b.2.1), .fz ((eO (eT eInt)) b.2.2), .un, .un, .un, .un, .un, .un, .un, .un, .un, .un, .un])) (r100.1, r100.2.1, r100.2.2.1) (.un (.eq (.eq (.eq (.eq (.eq (.eq (.eq (.eq (.eq (.eq (.eq (.eq (.eq (.eq (.eq (.un (.un (.un (.un (.un (.un (.un (.un (.un (.un (.un .nil)))))))))))))))))))))))))))))) (s_ifend (t_ge (e_mul e_int (e_b1 (ea := (eL eInt)) (ec := eInt) (f := fun x => some x.sum) (cr_sum rfl) v_sumL B.b_sum bt_sum (e_var 8 (eL eInt) r28))) (e_mul (e_var 7 eInt r17.2.2.1) (e_var 3 eInt r4))) (s_step (Γ1 := fun (r129 : ((Option (List PyData)) × (List Int) × (Option (List Int)) × Unit)) => [.un, .src, .fz (eInt y2), .fz (eInt r4), .fz ((eP (eC eInt (eC (eT (eT eInt)) eU))) r16), .fz (eStr r17.1), .fz ((eT (eT eInt)) r17.2.1), .fz (eInt r17.2.2.1), .fz ((eL eInt) r28), .fz ((eL (eT eInt)) r37.1), .fz ((eL (eT eInt)) r37.2), .fz ((eL (eP (eC eInt (eC (eT eInt) eU)))) r50), .fz (eBool r60), .fz ((eO (eT eD)) r129.1), .fz ((eT eInt) r129.2.1), .fz ((eO (eT eInt)) r129.2.2.1), .un, .un, .un, .un, .un, .un, .un, .un, .un, .un, .un]) (q_asg (set := (st3 13 (eO (eT eD)) 14 (eT eInt) 15 (eO (eT eInt)))) (e_tup (eC (eO (eT eD)) (eC (eT eInt) (eC (eO (eT eInt)) eU))) (a_cons (e_enc (eb := (eO (eT eD))) some (e_enc (eb := (eT eD)) (fun p : (Str × Unit) => [eStr p.1]) (e_tup (eC eStr eU) (a_cons e_str a_nil) (hl := fun _ => (by decide : 1 ≤ sizeLine))) (fun _ => rfl)) (fun _ => rfl)) (a_cons (e_tupRg1 B.b_tuple B.b_range (e_var 3 eInt r4)) (a_cons (e_enc (eb := (eO (eT eInt))) (fun _ => (none : (Option (List Int)))) e_non (fun _ => rfl)) a_nil))) (hl := fun _ => (by decide : 3 ≤ sizeLine))) (g3 13 14 15 (eO (eT eD)) (eT eInt) (eO (eT eInt)) rfl sc.nd) noow3) (fun (r129 : ((Option (List PyData)) × (List Int) × (Option (List Int)) × Unit)) => (s_nilN (Γb := (fun (b : ((Option (List PyData)) × (List Int) × (Option (List Int)))) => [.un, .src, .fz (eInt y2), .fz (eInt r4), .fz ((eP (eC eInt (eC (eT (eT eInt)) eU))) r16), .fz (eStr r17.1), .fz ((eT (eT eInt)) r17.2.1), .fz (eInt r17.2.2.1), .fz ((eL eInt) r28), .fz ((eL (eT eInt)) r37.1), .fz ((eL (eT eInt)) r37.2), .fz ((eL (eP (eC eInt (eC (eT eInt) eU)))) r50), .fz (eBool r60), .fz ((eO (eT eD)) b.1), .fz ((eT eInt) b.2.1), .fz ((eO (eT eInt)) b.2.2), .un, .un, .un, .un, .un, .un, .un, .un, .un, .un, .un])) (r129.1, r129.2.1, r129.2.2.1) (.un (.eq (.eq (.eq (.eq (.eq (.eq (.eq (.eq (.eq (.eq (.eq (.eq (.eq (.eq (.eq (.un (.un (.un (.un (.un (.un (.un (.un (.un (.un (.un .nil)))))))))))))))))))))))))))))) (s_ifend (w_t (w_and (t_val (e_var 12 eBool r60)) (w_and1 (t_neP (n := 3) hr (Dc.lst (Dc.pr (Dcs.cons Dc.int (Dcs.cons (Dc.tup Dc.int) Dcs.nil)))) (e_var 11 (eL (eP (eC eInt (eC (eT eInt) eU)))) r50) (f_e (f_list l_nil)))))) (s_step (Γ1 := fun (r146 : ((Option (List PyData)) × (List Int) × (Option (List Int)) × Unit)) => [.un, .src, .fz (eInt y2), .fz (eInt r4), .fz ((eP (eC eInt (eC (eT (eT eInt)) eU))) r16), .fz (eStr r17.1), .fz ((eT (eT eInt)) r17.2.1), .fz (eInt r17.2.2.1), .fz ((eL eInt) r28), .fz ((eL (eT eInt)) r37.1), .fz ((eL (eT eInt)) r37.2), .fz ((eL (eP (eC eInt (eC (eT eInt) eU)))) r50), .fz (eBool r60), .fz ((eO (eT eD)) r146.1), .fz ((eT eInt) r146.2.1), .fz ((eO (eT eInt)) r146.2.2.1), .un, .un, .un, .un, .un, .un, .un, .un, .un, .un, .un]) (q_asg (set := (st3 13 (eO (eT eD)) 14 (eT eInt) 15 (eO (eT eInt)))) (e_tup (eC (eO (eT eD)) (eC (eT eInt) (eC (eO (eT eInt)) eU))) (a_cons (e_enc (eb := (eO (eT eD))) some (e_enc (eb := (eT eD)) (fun p : (Str × (List Int) × Unit) => [eStr p.1, (eT eInt) p.2.1]) (e_tup (eC eStr (eC (eT eInt) eU)) (a_cons e_str (a_cons (e_ixP (ec := (eT eInt)) (f := (eC eInt (eC (eT eInt) eU))) (fun p => p.2.1) 1 (ha := (e_b1 (ea := (eL (eP (eC eInt (eC (eT eInt) eU))))) (ec := (eP (eC eInt (eC (eT eInt) eU)))) (f := fun x => minA (eP (eC eInt (eC (eT eInt) eU))) x) (call_minA SrtA.ir (fun x => ((Dc.pr (Dcs.cons Dc.int (Dcs.cons (Dc.tup Dc.int) Dcs.nil))) : Dc 8 _).plain x) rfl hr.units) v_minAL B.b_min bt_min (e_var 11 (eL (eP (eC eInt (eC (eT eInt) eU)))) r50)))) a_nil)) (hl := fun _ => (by decide : 2 ≤ sizeLine))) (fun _ => rfl)) (fun _ => rfl)) (a_cons (e_ixP (ec := (eT eInt)) (f := (eC eInt (eC (eT eInt) eU))) (fun p => p.2.1) 1 (ha := (e_b1 (ea := (eL (eP (eC eInt (eC (eT eInt) eU))))) (ec := (eP (eC eInt (eC (eT eInt) eU)))) (f := fun x => minA (eP (eC eInt (eC (eT eInt) eU))) x) (call_minA SrtA.ir (fun x => ((Dc.pr (Dcs.cons Dc.int (Dcs.cons (Dc.tup Dc.int) Dcs.nil))) : Dc 8 _).plain x) rfl hr.units) v_minAL B.b_min bt_min (e_var 11 (eL (eP (eC eInt (eC (eT eInt) eU)))) r50)))) (a_cons (e_enc (eb := (eO (eT eInt))) some (e_ixP (ec := (eT eInt)) (f := (eC eInt (eC (eT eInt) eU))) (fun p => p.2.1) 1 (ha := (e_b1 (ea := (eL (eP (eC eInt (eC (eT eInt) eU))))) (ec := (eP (eC eInt (eC (eT eInt) eU)))) (f := fun x => minA (eP (eC eInt (eC (eT eInt) eU))) x) (call_minA SrtA.ir (fun x => ((Dc.pr (Dcs.cons Dc.int (Dcs.cons (Dc.tup Dc.int) Dcs.nil))) : Dc 8 _).plain x) rfl hr.units) v_minAL B.b_min bt_min (e_var 11 (eL (eP (eC eInt (eC (eT eInt) eU)))) r50)))) (fun _ => rfl)) a_nil))) (hl := fun _ => (by decide : 3 ≤ sizeLine))) (g3 13 14 15 (eO (eT eD)) (eT eInt) (eO (eT eInt)) rfl sc.nd) noow3) (fun (r146 : ((Option (List PyData)) × (List Int) × (Option (List Int)) × Unit)) => (s_nilN (Γb := (fun (b : ((Option (List PyData)) × (List Int) × (Option (List Int)))) => [.un, .src, .fz (eInt y2), .fz (eInt r4), .fz ((eP (eC eInt (eC (eT (eT eInt)) eU))) r16), .fz (eStr r17.1), .fz ((eT (eT eInt)) r17.2.1), .fz (eInt r17.2.2.1), .fz ((eL eInt) r28), .fz ((eL (eT eInt)) r37.1), .fz ((eL (eT eInt)) r37.2), .fz ((eL (eP (eC eInt (eC (eT eInt) eU)))) r50), .fz (eBool r60), .fz ((eO (eT eD)) b.1), .fz ((eT eInt) b.2.1), .fz ((eO (eT eInt)) b.2.2), .un, .un, .un, .un, .un, .un, .un, .un, .un, .un, .un])) (r146.1, r146.2.1, r146.2.2.1) (.un (.eq (.eq (.eq (.eq (.eq (.eq (.eq (.eq (.eq (.eq (.eq (.eq (.eq (.eq (.eq (.un (.un (.un (.un (.un (.un (.un (.un (.un (.un (.un .nil)))))))))))))))))))))))))))))) (s_step (Γ1 := fun (r166 : ((Option (List PyData)) × (List Int) × (Option (List Int)) × Unit)) => [.un, .src, .fz (eInt y2), .fz (eInt r4), .fz ((eP (eC eInt (eC (eT (eT eInt)) eU))) r16), .fz (eStr r17.1), .fz ((eT (eT eInt)) r17.2.1), .fz (eInt r17.2.2.1), .fz ((eL eInt) r28), .fz ((eL (eT eInt)) r37.1), .fz ((eL (eT eInt)) r37.2), .fz ((eL (eP (eC eInt (eC (eT eInt) eU)))) r50), .fz (eBool r60), .fz ((eO (eT eD)) r166.1), .fz ((eT eInt) r166.2.1), .fz ((eO (eT eInt)) r166.2.2.1), .un, .un, .un, .un, .un, .un, .un, .un, .un, .un, .un]) (q_asg (set := (st3 13 (eO (eT eD)) 14 (eT eInt) 15 (eO (eT eInt)))) (e_tup (eC (eO (eT eD)) (eC (eT eInt) (eC (eO (eT eInt)) eU))) (a_cons (e_enc (eb := (eO (eT eD))) (fun _ => (none : (Option (List PyData)))) e_non (fun _ => rfl)) (a_cons (e_tupl l_nil) (a_cons (e_enc (eb := (eO (eT eInt))) (fun _ => (none : (Option (List Int)))) e_non (fun _ => rfl)) a_nil))) (hl := fun _ => (by decide : 3 ≤ sizeLine))) (g3 13 14 15 (eO (eT eD)) (eT eInt) (eO (eT eInt)) rfl sc.nd) noow3) (fun (r166 : ((Option (List PyData)) × (List Int) × (Option (List Int)) × Unit)) => (s_nilN (Γb := (fun (b : ((Option (List PyData)) × (List Int) × (Option (List Int)))) => [.un, .src, .fz (eInt y2), .fz (eInt r4), .fz ((eP (eC eInt (eC (eT (eT eInt)) eU))) r16), .fz (eStr r17.1), .fz ((eT (eT eInt)) r17.2.1), .fz (eInt r17.2.2.1), .fz ((eL eInt) r28), .fz ((eL (eT eInt)) r37.1), .fz ((eL (eT eInt)) r37.2), .fz ((eL (eP (eC eInt (eC (eT eInt) eU)))) r50), .fz (eBool r60), .fz ((eO (eT eD)) b.1), .fz ((eT eInt) b.2.1), .fz ((eO (eT eInt)) b.2.2), .un, .un, .un, .un, .un, .un, .un, .un, .un, .un, .un])) (r166.1, r166.2.1, r166.2.2.1) (.un (.eq (.eq (.eq (.eq (.eq (.eq (.eq (.eq (.eq (.eq (.eq (.eq (.eq (.eq (.eq (.un (.un (.un (.un (.un (.un (.un (.un (.un (.un (.un .nil)))))))))))))))))))))))))))))))))) (fun r175 => (s_ifret2 (Γb := (fun (b : Unit) => [.un, .src, .un, .un, .un, .un, .un, .un, .un, .un, .un, .un, .un, .un, .un, .un, .un, .un, .un, .un, .un, .un, .un, .un, .un, .un, .un])) (t_neT (e_repr (ea := (eO (eT eD))) hr hG B.b_repr bt_repr (e_c1 (F_half_sort.mono (by decide)) hG hr C_half_sort.mg C_half_sort.kp C_half_sort.bd (e_var 4 (eP (eC eInt (eC (eT (eT eInt)) eU))) r16))) (e_repr (ea := (eO (eT eD))) hr hG B.b_repr bt_repr (e_var 13 (eO (eT eD)) r175.1))) (s_ret0 e_bool) (s_step (Γ1 := fun (r182 : (List Int)) => [.un, .src, .fz (eInt y2), .fz (eInt r4), .fz ((eP (eC eInt (eC (eT (eT eInt)) eU))) r16), .fz (eStr r17.1), .fz ((eT (eT eInt)) r17.2.1), .fz (eInt r17.2.2.1), .fz ((eL eInt) r28), .fz ((eL (eT eInt)) r37.1), .fz ((eL (eT eInt)) r37.2), .fz ((eL (eP (eC eInt (eC (eT eInt) eU)))) r50), .fz (eBool r60), .fz ((eO (eT eD)) r175.1), .fz ((eT eInt) r175.2.1), .fz ((eO (eT eInt)) r175.2.2), .fz ((eT eInt) r182), .un, .un, .un, .un, .un, .un, .un, .un, .un, .un]) (q_set 16 (e_t1 (ea := (eL eInt)) (ec := (eT eInt)) (f := fun x => some x) call_tuple_of v_tupL B.b_tuple bt_tuple (f_e (f_lc (set := (st1 19 eInt)) (is := [19]) [("x", 19)] (fun (y184 : Int) => (Pz.bindM (Pz.bindM (pureM (2 : Int)) fun (x187 : Int) => (Pz.bindM (Pz.bindM (pureM r28) fun (x185 : (List Int)) => (Pz.bindM (pureM y184) fun (x186 : Int) => optM (atI x185 x186))) fun (x188 : Int) => optM (mulO x187 x188))) fun (x189 : Int) => (Pz.bindM (pureM r17.2.2.1) fun (x190 : Int) => pureM (decide (x190 ≤ x189))))) (fun (y184 : Int) => (pureM y184)) rfl sc.nd (i_range1 B.b_range (e_var 3 eInt r4)) (blkOk_by (N := N_law) (sc := (defScope s_law)) (by decide +kernel)) (fun _ _ _ _ _ => (g1 19 eInt sc.nd)) (fun _ _ _ _ _ (y184 : Int) => (c_one (t_ge (e_mul e_int (e_ixL (e_var 8 (eL eInt) r28) (e_var 19 eInt y184))) (e_var 7 eInt r17.2.2.1)))) (fun _ _ _ _ _ (y184 : Int) => (e_var 19 eInt y184)) noow1 sm1 (fun _ h => h) (noOw rfl)))) sc.nd) (fun (r182 : (List Int)) => (s_step2 (er := eBool) (Γ1 := (fun (b : Unit) => [.un, .src, .fz (eInt y2), .fz (eInt r4), .fz ((eP (eC eInt (eC (eT (eT eInt)) eU))) r16), .fz (eStr r17.1), .fz ((eT (eT eInt)) r17.2.1), .fz (eInt r17.2.2.1), .fz ((eL eInt) r28), .fz ((eL (eT eInt)) r37.1), .fz ((eL (eT eInt)) r37.2), .fz ((eL (eP (eC eInt (eC (eT eInt) eU)))) r50), .fz (eBool r60), .fz ((eO (eT eD)) r175.1), .fz ((eT eInt) r175.2.1), .fz ((eO (eT eInt)) r175.2.2), .fz ((eT eInt) r182), .un, .un, .un, .un, .un, .un, .un, .un, .un, .un])) (Γb := (fun (b : Unit) => [.un, .src, .un, .un, .un, .un, .un, .un, .un, .un, .un, .un, .un, .un, .un, .un, .un, .un, .un, .un, .un, .un, .un, .un, .un, .un, .un])) (q_if (t_notN NN.tup (e_var 13 (eO (eT eD)) r175.1)) (s_step (Γ1 := fun (r195 : (List Int)) => [.un, .src, .fz (eInt y2), .fz (eInt r4), .fz ((eP (eC eInt (eC (eT (eT eInt)) eU))) r16), .fz (eStr r17.1), .fz ((eT (eT eInt)) r17.2.1), .fz (eInt r17.2.2.1), .fz ((eL eInt) r28), .fz ((eL (eT eInt)) r37.1), .fz ((eL (eT eInt)) r37.2), .fz ((eL (eP (eC eInt (eC (eT eInt) eU)))) r50), .fz (eBool r60), .fz ((eO (eT eD)) r175.1), .fz ((eT eInt) r175.2.1), .fz ((eO (eT eInt)) r175.2.2), .fz ((eT eInt) r182), .fz ((eT eInt) r195), .un, .un, .un, .un, .un, .un, .un, .un, .un]) (q_set 17 (e_t1 (ea := (eL eInt)) (ec := (eT eInt)) (f := fun x => some x) call_tuple_of v_tupL B.b_tuple bt_tuple (f_e (f_lc (set := (st1 19 eInt)) (is := [19]) [("x", 19)] (fun (y196 : Int) => (Pz.bindM (pureM y196) fun (x197 : Int) => (Pz.bindM (pureM r182) fun (x198 : (List Int)) => pureM (memB x197 x198)))) (fun (y196 : Int) => (pureM y196)) rfl sc.nd (i_tup (e_var 14 (eT eInt) r175.2.1)) (blkOk_by (N := N_law) (sc := (defScope s_law)) (by decide +kernel)) (fun _ _ _ _ _ => (g1 19 eInt sc.nd)) (fun _ _ _ _ _ (y196 : Int) => (c_one (t_inT (n := 0) hr Dc.int (e_var 19 eInt y196) (e_var 16 (eT eInt) r182)))) (fun _ _ _ _ _ (y196 : Int) => (e_var 19 eInt y196)) noow1 sm1 (fun _ h => h) (noOw rfl)))) sc.nd) (fun (r195 : (List Int)) => (s_ifret2 (Γb := (fun (b : Unit) => [.un, .src, .fz (eInt y2), .fz (eInt r4), .fz ((eP (eC eInt (eC (eT (eT eInt)) eU))) r16), .fz (eStr r17.1), .fz ((eT (eT eInt)) r17.2.1), .fz (eInt r17.2.2.1), .fz ((eL eInt) r28), .fz ((eL (eT eInt)) r37.1), .fz ((eL (eT eInt)) r37.2), .fz ((eL (eP (eC eInt (eC (eT eInt) eU)))) r50), .fz (eBool r60), .fz ((eO (eT eD)) r175.1), .fz ((eT eInt) r175.2.1), .fz ((eO (eT eInt)) r175.2.2), .fz ((eT eInt) r182), .un, .un, .un, .un, .un, .un, .un, .un, .un, .un])) (w_t (w_or (t_eqP (n := 1) hr (Dc.tup Dc.int) (e_var 17 (eT eInt) r195) (e_tupl l_nil)) (w_or1 (t_neT (e_repr (ea := (eT eInt)) hr hG B.b_repr bt_repr (e_c1 (F_sort_points.mono (by decide)) hG hr C_sort_points.mg C_sort_points.kp C_sort_points.bd (e_var 4 (eP (eC eInt (eC (eT (eT eInt)) eU))) r16))) (e_repr (ea := (eT eInt)) hr hG B.b_repr bt_repr (e_var 17 (eT eInt) r195)))))) (s_ret0 e_bool) (s_ifret2 (Γb := (fun (b : Unit) => [.un, .src, .fz (eInt y2), .fz (eInt r4), .fz ((eP (eC eInt (eC (eT (eT eInt)) eU))) r16), .fz (eStr r17.1), .fz ((eT (eT eInt)) r17.2.1), .fz (eInt r17.2.2.1), .fz ((eL eInt) r28), .fz ((eL (eT eInt)) r37.1), .fz ((eL (eT eInt)) r37.2), .fz ((eL (eP (eC eInt (eC (eT eInt) eU)))) r50), .fz (eBool r60), .fz ((eO (eT eD)) r175.1), .fz ((eT eInt) r175.2.1), .fz ((eO (eT eInt)) r175.2.2), .fz ((eT eInt) r182), .un, .un, .un, .un, .un, .un, .un, .un, .un, .un])) (w_t (w_and (t_inZ hr (e_ixT (e_some (e_var 13 (eO (eT eD)) r175.1)) e_int) (e_enc (eb := (eT eStr)) (fun p : (Str × Str × Unit) => [p.1, p.2.1]) (e_tup (eC eStr (eC eStr eU)) (a_cons e_str (a_cons e_str a_nil)) (hl := fun _ => (by decide : 2 ≤ sizeLine))) (fun _ => rfl))) (w_and1 (t_neP (n := 1) hr (Dc.tup Dc.int) (e_var 17 (eT eInt) r195) (e_var 14 (eT eInt) r175.2.1))))) (s_ret0 e_bool) (s_step (Γ1 := fun (r224 : (List (List Int))) => [.un, .src, .fz (eInt y2), .fz (eInt r4), .fz ((eP (eC eInt (eC (eT (eT eInt)) eU))) r16), .fz (eStr r17.1), .fz ((eT (eT eInt)) r17.2.1), .fz (eInt r17.2.2.1), .fz ((eL eInt) r28), .fz ((eL (eT eInt)) r37.1), .fz ((eL (eT eInt)) r37.2), .fz ((eL (eP (eC eInt (eC (eT eInt) eU)))) r50), .fz (eBool r60), .fz ((eO (eT eD)) r175.1), .fz ((eT eInt) r175.2.1), .fz ((eO (eT eInt)) r175.2.2), .fz ((eT eInt) r182), .fz ((eT eInt) r195), .fz ((eL (eT eInt)) r224), .un, .un, .un, .un, .un, .un, .un, .un]) (q_set 18 (f_e (f_if (t_isN NN.tup (e_var 15 (eO (eT eInt)) r175.2.2)) (f_list l_nil) (f_lc (set := (st1 22 (eT eInt))) (is := [22]) [("lot", 22)] (fun (y226 : (List Int)) => (Pz.bindM (Pz.bindM (pureM y226) fun (x231 : (List Int)) => (Pz.bindM (Pz.bindM (pureM r175.2.2) fun (x230 : (Option (List Int))) => optM x230) fun (x232 : (List Int)) => m__law_common x231 x232)) fun (x233 : (List Int)) => (Pz.bindM (smallM (pureM ([] : List Int))) fun (x234 : (List Int)) => pureM (decide (x233 = x234))))) (fun (y226 : (List Int)) => (pureM y226)) rfl sc.nd (i_tup (e_var 6 (eT (eT eInt)) r17.2.1)) (blkOk_by (N := N_law) (sc := (defScope s_law)) (by decide +kernel)) (fun _ _ _ _ _ => (g1 22 (eT eInt) sc.nd)) (fun _ _ _ _ _ (y226 : (List Int)) => (c_one (t_eqP (n := 1) hr (Dc.tup Dc.int) (e_c2 (F__law_common.mono (by decide)) hG hr C__law_common.mg C__law_common.kp C__law_common.bd (e_var 22 (eT eInt) y226) (e_some (e_var 15 (eO (eT eInt)) r175.2.2))) (e_tupl l_nil)))) (fun _ _ _ _ _ (y226 : (List Int)) => (e_var 22 (eT eInt) y226)) noow1 sm1 (fun _ h => h) (noOw rfl)))) sc.nd) (fun (r224 : (List (List Int))) => (s_step (Γ1 := fun (r237 : (List ((List Int) × (List Int) × Unit))) => [.un, .src, .fz (eInt y2), .fz (eInt r4), .fz ((eP (eC eInt (eC (eT (eT eInt)) eU))) r16), .fz (eStr r17.1), .fz ((eT (eT eInt)) r17.2.1), .fz (eInt r17.2.2.1), .fz ((eL eInt) r28), .fz ((eL (eT eInt)) r37.1), .fz ((eL (eT eInt)) r37.2), .fz ((eL (eP (eC eInt (eC (eT eInt) eU)))) r50), .fz (eBool r60), .fz ((eO (eT eD)) r175.1), .fz ((eT eInt) r175.2.1), .fz ((eO (eT eInt)) r175.2.2), .fz ((eT eInt) r182), .fz ((eT eInt) r195), .fz ((eT (eP (eC (eT eInt) (eC (eT eInt) eU)))) r237), .un, .un, .un, .un, .un, .un, .un, .un]) (q_set 18 (e_t1 (ea := (eL (eP (eC (eT eInt) (eC (eT eInt) eU))))) (ec := (eT (eP (eC (eT eInt) (eC (eT eInt) eU))))) (f := fun x => some x) call_tuple_of v_tupL B.b_tuple bt_tuple (f_e (f_lc (set := (st1 22 (eT eInt))) (is := [22]) [("lot", 22)] (fun (y238 : (List Int)) => (pureM true)) (fun (y238 : (List Int)) => (Pz.bindM (pureM y238) fun (x244 : (List Int)) => (Pz.bindM (Pz.bindM (Pz.bindM (pureM y238) fun (x240 : (List Int)) => (Pz.bindM (Pz.bindM (pureM r175.2.2) fun (x239 : (Option (List Int))) => optM x239) fun (x241 : (List Int)) => m__law_union x240 x241)) fun (x242 : (List Int)) => (Pz.bindM (pureM ()) fun (x243 : Unit) => pureM (x242, x243))) fun (x245 : ((List Int) × Unit)) => pureM (x244, x245)))) rfl sc.nd (i_list (e_var 18 (eL (eT eInt)) r224)) (blkOk_by (N := N_law) (sc := (defScope s_law)) (by decide +kernel)) (fun _ _ _ _ _ => (g1 22 (eT eInt) sc.nd)) (fun _ _ _ _ _ (y238 : (List Int)) => c_nil) (fun _ _ _ _ _ (y238 : (List Int)) => (e_tup (eC (eT eInt) (eC (eT eInt) eU)) (a_cons (e_var 22 (eT eInt) y238) (a_cons (e_c2 (F__law_union.mono (by decide)) hG hr C__law_union.mg C__law_union.kp C__law_union.bd (e_var 22 (eT eInt) y238) (e_some (e_var 15 (eO (eT eInt)) r175.2.2))) a_nil)) (hl := fun _ => (by decide : 2 ≤ sizeLine)))) noow1 sm1 (fun _ h => h) (noOw rfl)))) sc.nd) (fun (r237 : (List ((List Int) × (List Int) × Unit))) => (s_ifret2 (Γb := (fun (b : Unit) => [.un, .src, .fz (eInt y2), .fz (eInt r4), .fz ((eP (eC eInt (eC (eT (eT eInt)) eU))) r16), .fz (eStr r17.1), .fz ((eT (eT eInt)) r17.2.1), .fz (eInt r17.2.2.1), .fz ((eL eInt) r28), .fz ((eL (eT eInt)) r37.1), .fz ((eL (eT eInt)) r37.2), .fz ((eL (eP (eC eInt (eC (eT eInt) eU)))) r50), .fz (eBool r60), .fz ((eO (eT eD)) r175.1), .fz ((eT eInt) r175.2.1), .fz ((eO (eT eInt)) r175.2.2), .fz ((eT eInt) r182), .un, .un, .un, .un, .un, .un, .un, .un, .un, .un])) (w_t (w_or (t_neT (e_repr (ea := (eT (eP (eC (eT eInt) (eC (eT eInt) eU))))) hr hG B.b_repr bt_repr (e_c1 (F_half_table.mono (by decide)) hG hr C_half_table.mg C_half_table.kp C_half_table.bd (e_var 4 (eP (eC eInt (eC (eT (eT eInt)) eU))) r16))) (e_repr (ea := (eT (eP (eC (eT eInt) (eC (eT eInt) eU))))) hr hG B.b_repr bt_repr (e_var 18 (eT (eP (eC (eT eInt) (eC (eT eInt) eU)))) r237))) (w_or1 (t_neP (n := 3) hr (Dc.lst (Dc.pr (Dcs.cons (Dc.tup Dc.int) (Dcs.cons (Dc.tup Dc.int) Dcs.nil)))) (f_e (f_lc (set := (st1 26 (eP (eC (eT eInt) (eC (eT eInt) eU))))) (is := [26]) [("pair", 26)] (fun (y253 : ((List Int) × (List Int) × Unit)) => (Pz.bindM (Pz.bindM (pureM y253) fun (x254 : ((List Int) × (List Int) × Unit)) => pureM (x254.2.1)) fun (x255 : (List Int)) => (Pz.bindM (pureM r17.2.1) fun (x256 : (List (List Int))) => pureM (!memB x255 x256)))) (fun (y253 : ((List Int) × (List Int) × Unit)) => (pureM y253)) rfl sc.nd (i_tup (e_var 18 (eT (eP (eC (eT eInt) (eC (eT eInt) eU)))) r237)) (blkOk_by (N := N_law) (sc := (defScope s_law)) (by decide +kernel)) (fun _ _ _ _ _ => (g1 26 (eP (eC (eT eInt) (eC (eT eInt) eU))) sc.nd)) (fun _ _ _ _ _ (y253 : ((List Int) × (List Int) × Unit)) => (c_one (t_ninT (n := 1) hr (Dc.tup Dc.int) (e_ixP (ec := (eT eInt)) (f := (eC (eT eInt) (eC (eT eInt) eU))) (fun p => p.2.1) 1 (ha := (e_var 26 (eP (eC (eT eInt) (eC (eT eInt) eU))) y253))) (e_var 6 (eT (eT eInt)) r17.2.1)))) (fun _ _ _ _ _ (y253 : ((List Int) × (List Int) × Unit)) => (e_var 26 (eP (eC (eT eInt) (eC (eT eInt) eU))) y253)) noow1 sm1 (fun _ h => h) (noOw rfl))) (f_e (f_list l_nil)))))) (s_ret0 e_bool) (s_ifret2 (Γb := (fun (b : Unit) => [.un, .src, .fz (eInt y2), .fz (eInt r4), .fz ((eP (eC eInt (eC (eT (eT eInt)) eU))) r16), .fz (eStr r17.1), .fz ((eT (eT eInt)) r17.2.1), .fz (eInt r17.2.2.1), .fz ((eL eInt) r28), .fz ((eL (eT eInt)) r37.1), .fz ((eL (eT eInt)) r37.2), .fz ((eL (eP (eC eInt (eC (eT eInt) eU)))) r50), .fz (eBool r60), .fz ((eO (eT eD)) r175.1), .fz ((eT eInt) r175.2.1), .fz ((eO (eT eInt)) r175.2.2), .fz ((eT eInt) r182), .un, .un, .un, .un, .un, .un, .un, .un, .un, .un])) (t_neI (e_b1 (ea := (eM (eT eInt) eInt)) (ec := eInt) (f := fun x => some (x.length : Int)) (call_lenM Ky.rows VlB.int) v_lenM B.b_len bt_len (d_e (d_dict (ek := (eT eInt)) (ev := eInt) Ky.rows VlB.int hr rfl B.b_dict bt_dict (f_e (f_lc (set := (st1 26 (eP (eC (eT eInt) (eC (eT eInt) eU))))) (is := [26]) [("pair", 26)] (fun (y262 : ((List Int) × (List Int) × Unit)) => (pureM true)) (fun (y262 : ((List Int) × (List Int) × Unit)) => (Pz.bindM (Pz.bindM (pureM y262) fun (x263 : ((List Int) × (List Int) × Unit)) => pureM (x263.2.1)) fun (x266 : (List Int)) => (Pz.bindM (Pz.bindM (pureM (0 : Int)) fun (x264 : Int) => (Pz.bindM (pureM ()) fun (x265 : Unit) => pureM (x264, x265))) fun (x267 : (Int × Unit)) => pureM (x266, x267)))) rfl sc.nd (i_tup (e_var 18 (eT (eP (eC (eT eInt) (eC (eT eInt) eU)))) r237)) (blkOk_by (N := N_law) (sc := (defScope s_law)) (by decide +kernel)) (fun _ _ _ _ _ => (g1 26 (eP (eC (eT eInt) (eC (eT eInt) eU))) sc.nd)) (fun _ _ _ _ _ (y262 : ((List Int) × (List Int) × Unit)) => c_nil) (fun _ _ _ _ _ (y262 : ((List Int) × (List Int) × Unit)) => (e_tup (eC (eT eInt) (eC eInt eU)) (a_cons (e_ixP (ec := (eT eInt)) (f := (eC (eT eInt) (eC (eT eInt) eU))) (fun p => p.2.1) 1 (ha := (e_var 26 (eP (eC (eT eInt) (eC (eT eInt) eU))) y262))) (a_cons e_int a_nil)) (hl := fun _ => (by decide : 2 ≤ sizeLine)))) noow1 sm1 (fun _ h => h) (noOw rfl)))))) (e_lenT B.b_len bt_len (e_var 18 (eT (eP (eC (eT eInt) (eC (eT eInt) eU)))) r237))) (s_ret0 e_bool) (s_nilO (Γb := (fun (b : Unit) => [.un, .src, .fz (eInt y2), .fz (eInt r4), .fz ((eP (eC eInt (eC (eT (eT eInt)) eU))) r16), .fz (eStr r17.1), .fz ((eT (eT eInt)) r17.2.1), .fz (eInt r17.2.2.1), .fz ((eL eInt) r28), .fz ((eL (eT eInt)) r37.1), .fz ((eL (eT eInt)) r37.2), .fz ((eL (eP (eC eInt (eC (eT eInt) eU)))) r50), .fz (eBool r60), .fz ((eO (eT eD)) r175.1), .fz ((eT eInt) r175.2.1), .fz ((eO (eT eInt)) r175.2.2), .fz ((eT eInt) r182), .un, .un, .un, .un, .un, .un, .un, .un, .un, .un])) () (.un (.eq (.eq (.eq (.eq (.eq (.eq (.eq (.eq (.eq (.eq (.eq (.eq (.eq (.eq (.eq (.eq (.un (.un (.un (.un (.un (.un (.un (.un (.un (.un .nil)))))))))))))))))))))))))))))))))))))) (s_nilO (Γb := (fun (b : Unit) => [.un, .src, .fz (eInt y2), .fz (eInt r4), .fz ((eP (eC eInt (eC (eT (eT eInt)) eU))) r16), .fz (eStr r17.1), .fz ((eT (eT eInt)) r17.2.1), .fz (eInt r17.2.2.1), .fz ((eL eInt) r28), .fz ((eL (eT eInt)) r37.1), .fz ((eL (eT eInt)) r37.2), .fz ((eL (eP (eC eInt (eC (eT eInt) eU)))) r50), .fz (eBool r60), .fz ((eO (eT eD)) r175.1), .fz ((eT eInt) r175.2.1), .fz ((eO (eT eInt)) r175.2.2), .fz ((eT eInt) r182), .un, .un, .un, .un, .un, .un, .un, .un, .un, .un])) () (.un (.eq (.eq (.eq (.eq (.eq (.eq (.eq (.eq (.eq (.eq (.eq (.eq (.eq (.eq (.eq (.eq (.un (.un (.un (.un (.un (.un (.un (.un (.un (.un .nil))))))))))))))))))))))))))))) (fun (r279 : Unit) => (s_step (Γ1 := fun (r280 : (Int × Int)) => [.un, .src, .fz (eInt y2), .fz (eInt r4), .fz ((eP (eC eInt (eC (eT (eT eInt)) eU))) r16), .fz (eStr r17.1), .fz ((eT (eT eInt)) r17.2.1), .fz (eInt r17.2.2.1), .fz ((eL eInt) r28), .fz ((eL (eT eInt)) r37.1), .fz ((eL (eT eInt)) r37.2), .fz ((eL (eP (eC eInt (eC (eT eInt) eU)))) r50), .fz (eBool r60), .fz ((eO (eT eD)) r175.1), .fz ((eT eInt) r175.2.1), .fz ((eO (eT eInt)) r175.2.2), .fz ((eT eInt) r182), .un, .un, .fz (eInt r280.1), .fz (eInt r280.2), .un, .un, .un, .un, .un, .un]) (q_par2 19 20 (e_cs1 1 (F__law_pick.mono (by decide)) hG hr C__law_pick.mg C__law_pick.kp C__law_pick.bd (e_var 3 eInt r4)) (e_cs1 1 (F__law_pick.mono (by decide)) hG hr C__law_pick.mg C__law_pick.kp C__law_pick.bd (e_var 3 eInt r4)) rfl sc.nd) (fun (r280 : (Int × Int)) => (s_step (Γ1 := fun (r285 : (List Int)) => [.un, .src, .fz (eInt y2), .fz (eInt r4), .fz ((eP (eC eInt (eC (eT (eT eInt)) eU))) r16), .fz (eStr r17.1), .fz ((eT (eT eInt)) r17.2.1), .fz (eInt r17.2.2.1), .fz ((eL eInt) r28), .fz ((eL (eT eInt)) r37.1), .fz ((eL (eT eInt)) r37.2), .fz ((eL (eP (eC eInt (eC (eT eInt) eU)))) r50), .fz (eBool r60), .fz ((eO (eT eD)) r175.1), .fz ((eT eInt) r175.2.1), .fz ((eO (eT eInt)) r175.2.2), .fz ((eT eInt) r182), .un, .un, .fz (eInt r280.1), .fz (eInt r280.2), .ow ((eL eInt) r285), .un, .un, .un, .un, .un]) (q_setF 21 (f_list (l_cons e_int (l_cons e_int (l_cons e_int (l_cons e_int l_nil))))) sc.nd) (fun (r285 : (List Int)) => (s_step (Γ1 := (fun (b : ((List Int))) => [.un, .src, .fz (eInt y2), .fz (eInt r4), .fz ((eP (eC eInt (eC (eT (eT eInt)) eU))) r16), .fz (eStr r17.1), .fz ((eT (eT eInt)) r17.2.1), .fz (eInt r17.2.2.1), .fz ((eL eInt) r28), .fz ((eL (eT eInt)) r37.1), .fz ((eL (eT eInt)) r37.2), .fz ((eL (eP (eC eInt (eC (eT eInt) eU)))) r50), .fz (eBool r60), .fz ((eO (eT eD)) r175.1), .fz ((eT eInt) r175.2.1), .fz ((eO (eT eInt)) r175.2.2), .fz ((eT eInt) r182), .un, .un, .fz (eInt r280.1), .fz (eInt r280.2), .ow ((eL eInt) b), .un, .un, .un, .un, .un])) (q_for (set := (st1 22 (eT eInt))) (is := [22]) (fun (b : ((List Int))) => [.un, .src, .fz (eInt y2), .fz (eInt r4), .fz ((eP (eC eInt (eC (eT (eT eInt)) eU))) r16), .fz (eStr r17.1), .fz ((eT (eT eInt)) r17.2.1), .fz (eInt r17.2.2.1), .fz ((eL eInt) r28), .fz ((eL (eT eInt)) r37.1), .fz ((eL (eT eInt)) r37.2), .fz ((eL (eP (eC eInt (eC (eT eInt) eU)))) r50), .fz (eBool r60), .fz ((eO (eT eD)) r175.1), .fz ((eT eInt) r175.2.1), .fz ((eO (eT eInt)) r175.2.2), .fz ((eT eInt) r182), .un, .un, .fz (eInt r280.1), .fz (eInt r280.2), .ow ((eL eInt) b), .un, .un, .un, .un, .un]) r285 _ PassesOwn.never rfl (i_tup (e_var 6 (eT (eT eInt)) r17.2.1)) (g1 22 (eT eInt) sc.nd) noow1 (.un (.eq (.eq (.eq (.eq (.eq (.eq (.eq (.eq (.eq (.eq (.eq (.eq (.eq (.eq (.eq (.eq (.un (.un (.eq (.eq (.eq (.un (.un (.un (.un (.un .nil))))))))))))))))))))))))))) (fun (b295 : ((List Int))) (y294 : (List Int)) => (s_step (Γ1 := fun (r296 : Int) => [.un, .src, .fz (eInt y2), .fz (eInt r4), .fz ((eP (eC eInt (eC (eT (eT eInt)) eU))) r16), .fz (eStr r17.1), .fz ((eT (eT eInt)) r17.2.1), .fz (eInt r17.2.2.1), .fz ((eL eInt) r28), .fz ((eL (eT eInt)) r37.1), .fz ((eL (eT eInt)) r37.2), .fz ((eL (eP (eC eInt (eC (eT eInt) eU)))) r50), .fz (eBool r60), .fz ((eO (eT eD)) r175.1), .fz ((eT eInt) r175.2.1), .fz ((eO (eT eInt)) r175.2.2), .fz ((eT eInt) r182), .un, .un, .fz (eInt r280.1), .fz (eInt r280.2), .ow ((eL eInt) b295), .fz ((eT eInt) y294), .fz (eInt r296), .un, .un, .un]) (q_set 23 (e_add (e_t1 (ea := eBool) (ec := eInt) (f := fun x => some (if x then 1 else 0)) call_int1 v_intB B.b_int bt_int (e_inT (n := 0) hr Dc.int (e_var 19 eInt r280.1) (e_var 22 (eT eInt) y294))) (e_mul e_int (e_t1 (ea := eBool) (ec := eInt) (f := fun x => some (if x then 1 else 0)) call_int1 v_intB B.b_int bt_int (e_inT (n := 0) hr Dc.int (e_var 20 eInt r280.2) (e_var 22 (eT eInt) y294))))) sc.nd) (fun (r296 : Int) => (s_step (Γ1 := fun (r307 : _) => [.un, .src, .fz (eInt y2), .fz (eInt r4), .fz ((eP (eC eInt (eC (eT (eT eInt)) eU))) r16), .fz (eStr r17.1), .fz ((eT (eT eInt)) r17.2.1), .fz (eInt r17.2.2.1), .fz ((eL eInt) r28), .fz ((eL (eT eInt)) r37.1), .fz ((eL (eT eInt)) r37.2), .fz ((eL (eP (eC eInt (eC (eT eInt) eU)))) r50), .fz (eBool r60), .fz ((eO (eT eD)) r175.1), .fz ((eT eInt) r175.2.1), .fz ((eO (eT eInt)) r175.2.2), .fz ((eT eInt) r182), .un, .un, .fz (eInt r280.1), .fz (eInt r280.2), .ow ((eL eInt) r307), .fz ((eT eInt) y294), .fz (eInt r296), .un, .un, .un]) (q_stL 21 b295 (e_borrow 21 (d := ((eL eInt) b295)) (e_add (e_ixL (e_var 21 (eL eInt) b295) (e_var 23 eInt r296)) e_int) NL.int) (e_var 23 eInt r296)) (fun (r307 : _) => (s_nilN (Γb := (fun (b : ((List Int))) => [.un, .src, .fz (eInt y2), .fz (eInt r4), .fz ((eP (eC eInt (eC (eT (eT eInt)) eU))) r16), .fz (eStr r17.1), .fz ((eT (eT eInt)) r17.2.1), .fz (eInt r17.2.2.1), .fz ((eL eInt) r28), .fz ((eL (eT eInt)) r37.1), .fz ((eL (eT eInt)) r37.2), .fz ((eL (eP (eC eInt (eC (eT eInt) eU)))) r50), .fz (eBool r60), .fz ((eO (eT eD)) r175.1), .fz ((eT eInt) r175.2.1), .fz ((eO (eT eInt)) r175.2.2), .fz ((eT eInt) r182), .un, .un, .fz (eInt r280.1), .fz (eInt r280.2), .ow ((eL eInt) b), .un, .un, .un, .un, .un])) r307 (.un (.eq (.eq (.eq (.eq (.eq (.eq (.eq (.eq (.eq (.eq (.eq (.eq (.eq (.eq (.eq (.eq (.un (.un (.eq (.eq (.eq (.un (.un (.un (.un (.un .nil)))))))))))))))))))))))))))))))))) (fun (r315 : ((List Int))) => (s_low (Γ' := [.un, .src, .fz (eInt y2), .fz (eInt r4), .fz ((eP (eC eInt (eC (eT (eT eInt)) eU))) r16), .fz (eStr r17.1), .fz ((eT (eT eInt)) r17.2.1), .fz (eInt r17.2.2.1), .fz ((eL eInt) r28), .fz ((eL (eT eInt)) r37.1), .fz ((eL (eT eInt)) r37.2), .fz ((eL (eP (eC eInt (eC (eT eInt) eU)))) r50), .fz (eBool r60), .fz ((eO (eT eD)) r175.1), .fz ((eT eInt) r175.2.1), .fz ((eO (eT eInt)) r175.2.2), .fz ((eT eInt) r182), .un, .un, .fz (eInt r280.1), .fz (eInt r280.2), .fz ((eL eInt) r315), .un, .un, .un, .un, .un]) (.un (.eq (.eq (.eq (.eq (.eq (.eq (.eq (.eq (.eq (.eq (.eq (.eq (.eq (.eq (.eq (.eq (.un (.un (.eq (.eq (.fr (.un (.un (.un (.un (.un .nil))))))))))))))))))))))))))) (s_ifret2 (Γb := (fun (b : Unit) => [.un, .src, .un, .un, .un, .un, .un, .un, .un, .un, .un, .un, .un, .un, .un, .un, .un, .un, .un, .un, .un, .un, .un, .un, .un, .un, .un])) (w_t (w_or (t_neT (e_repr (ea := (eT eInt)) hr hG B.b_repr bt_repr (e_c3 (F_four_counts.mono (by decide)) hG hr C_four_counts.mg C_four_counts.kp C_four_counts.bd (e_var 4 (eP (eC eInt (eC (eT (eT eInt)) eU))) r16) (e_var 19 eInt r280.1) (e_var 20 eInt r280.2))) (e_repr (ea := (eT eInt)) hr hG B.b_repr bt_repr (e_t1 (ea := (eL eInt)) (ec := (eT eInt)) (f := fun x => some x) call_tuple_of v_tupL B.b_tuple bt_tuple (e_var 21 (eL eInt) r315)))) (w_or1 (t_neT (e_repr (ea := (eT eInt)) hr hG B.b_repr bt_repr (e_c1 (F_points_in_half.mono (by decide)) hG hr C_points_in_half.mg C_points_in_half.kp C_points_in_half.bd (e_var 4 (eP (eC eInt (eC (eT (eT eInt)) eU))) r16))) (e_repr (ea := (eT eInt)) hr hG B.b_repr bt_repr (e_var 16 (eT eInt) r182)))))) (s_ret0 e_bool) (s_ifret2 (Γb := (fun (b : Unit) => [.un, .src, .un, .un, .un, .un, .un, .un, .un, .un, .un, .un, .un, .un, .un, .un, .un, .un, .un, .un, .un, .un, .un, .un, .un, .un, .un])) (t_neT (e_repr (ea := (eL (eT eInt))) hr hG B.b_repr bt_repr (f_e (f_list (l_cons (e_c1 (F_point_degrees.mono (by decide)) hG hr C_point_degrees.mg C_point_degrees.kp C_point_degrees.bd (e_var 4 (eP (eC eInt (eC (eT (eT eInt)) eU))) r16)) (l_cons (e_enc (eb := (eT eInt)) (fun p : (Int × Int × Unit) => [p.1, p.2.1]) (e_c1 (F_mean_size.mono (by decide)) hG hr C_mean_size.mg C_mean_size.kp C_mean_size.bd (e_var 4 (eP (eC eInt (eC (eT (eT eInt)) eU))) r16)) (fun _ => rfl)) l_nil))))) (e_repr (ea := (eL (eT eInt))) hr hG B.b_repr bt_repr (f_e (f_list (l_cons (e_t1 (ea := (eL eInt)) (ec := (eT eInt)) (f := fun x => some x) call_tuple_of v_tupL B.b_tuple bt_tuple (e_var 8 (eL eInt) r28)) (l_cons (e_enc (eb := (eT eInt)) (fun p : (Int × Int × Unit) => [p.1, p.2.1]) (e_c2 (F__law_low.mono (by decide)) hG hr C__law_low.mg C__law_low.kp C__law_low.bd (e_b1 (ea := (eL eInt)) (ec := eInt) (f := fun x => some x.sum) (cr_sum rfl) v_sumL B.b_sum bt_sum (e_var 8 (eL eInt) r28)) (e_var 7 eInt r17.2.2.1)) (fun _ => rfl)) l_nil)))))) (s_ret0 e_bool) (s_ifret2 (Γb := (fun (b : Unit) => [.un, .src, .un, .un, .un, .un, .un, .un, .un, .un, .un, .un, .un, .un, .un, .un, .un, .un, .un, .un, .un, .un, .un, .un, .un, .un, .un])) (t_neT (e_repr (ea := (eP (eC eInt (eC (eT (eT eInt)) eU)))) hr hG B.b_repr bt_repr (e_var 4 (eP (eC eInt (eC (eT (eT eInt)) eU))) r16)) (e_var 5 eStr r17.1)) (s_ret0 e_bool) (s_nilO (Γb := (fun (b : Unit) => [.un, .src, .un, .un, .un, .un, .un, .un, .un, .un, .un, .un, .un, .un, .un, .un, .un, .un, .un, .un, .un, .un, .un, .un, .un, .un, .un])) () (.un (.eq (.un (.un (.un (.un (.un (.un (.un (.un (.un (.un (.un (.un (.un (.un (.un (.un (.un (.un (.un (.un (.un (.un (.un (.un (.un .nil))))))))))))))))))))))))))))))))))))))))))))))))))))))))))))))) (fun (r367 : Unit) => (s_ret0 (e_eqZ hr (e_c1 (F_half_sort.mono (by decide)) hG hr C_half_sort.mg C_half_sort.kp C_half_sort.bd (e_tup (eC eInt (eC (eT (eT eInt)) eU)) (a_cons e_int (a_cons (e_tupl (l_cons (e_tupl l_nil) (l_cons (e_tupl (l_cons e_int (l_cons e_int l_nil))) (l_cons (e_tupl (l_cons e_int (l_cons e_int (l_cons e_int l_nil)))) l_nil)))) a_nil)) (hl := fun _ => (by decide : 2 ≤ sizeLine)))) (e_tup (eC eStr (eC eInt (eC eInt eU))) (a_cons e_str (a_cons e_int (a_cons e_int a_nil))) (hl := fun _ => (by decide : 3 ≤ sizeLine)))))))

end
end Lw

namespace Lw
open PySem PySem.Spec PyProof.Rows L2 Pz
def meet (a b : List Int) : List Int := a.filter fun x => memB x b
theorem p_both (a b : List Int) : m_in_both a b = pureM (meet a b) := by
  unfold m_in_both
  simp only [bp, bind_ret, optM_some, Pz.bind_assoc]
  rw [compM_pureF (fun x => memB x b) (fun _ _ => rfl)]
  rfl
theorem p_common (a b : List Int) : m__law_common a b = pureM (meet a b) := by
  unfold m__law_common
  simp only [bp, bind_ret, optM_some, Pz.bind_assoc]
  rw [compM_pureF (fun x => memB x b) (fun _ _ => rfl)]
  rfl
theorem p_either {a b : List Int} (h : a.length + b.length ≤ sizeLine) : m_in_either a b = pureM (uni a b) := by
  unfold m_in_either
  simp only [bp, bind_ret, optM_some, Pz.bind_assoc]
  rw [compM_pureF (fun x => !memB x a) (fun _ _ => rfl), bp, List.append_nil, smallM_pure, bp]
  · rfl
  · have := List.length_filter_le (fun x => !memB x a) b
    rw [List.length_append]; omega
theorem lot_small {n : Int} (h0 : 0 ≤ n) (h : n ≤ 10) {a b : List Int} (ha : Lot n a) (hb : Lot n b) : a.length + b.length ≤ sizeLine := by
  have := lot_len ha h0
  have := lot_len hb h0
  unfold sizeLine; omega
theorem p_union {n : Int} (h0 : 0 ≤ n) (h : n ≤ 10) {a b : List Int} (ha : Lot n a) (hb : Lot n b) : m__law_union a b = pureM (uni a b) := by
  unfold m__law_union
  simp only [bp, bind_ret, optM_some, Pz.bind_assoc]
  rw [catO_ok (lot_small h0 h ha hb), optM_some, bp, compM_map (fun x => (x, (0 : Int), ())) (fun x _ => ?_), bp]
  · congr 1
    have e : List.map (fun p : Int × Int × Unit => p.1) (mergeL [] ((a ++ b).map fun x => (x, (0 : Int), ()))) = mergeS [] (a ++ b) := by
      have := keys_merge ((a ++ b).map fun x => (x, (0 : Int), ())) []
      unfold keysM at this
      rw [this, List.map_map]
      congr 1
      show List.map (fun x => x) (a ++ b) = _
      rw [List.map_id']
    rw [e]
    refine row_ext (srtI_row (nodup_mergeS (by simp))) (uni_lot ha hb).1 fun x => ?_
    rw [mem_srtI, mem_mergeS, mem_uni]
    simp
  · rfl
theorem pairs_len {α β γ : Type} (f : α → β → γ) (ms : List β) : ∀ ls : List α, (ls.flatMap fun a => ms.map fun b => f a b).length = ls.length * ms.length
  | [] => by simp
  | a :: ls => by rw [List.flatMap_cons, List.length_append, pairs_len f ms ls, List.length_map, List.length_cons, Nat.succ_mul]; omega
structure Fam (n : Int) (k : Nat) (ls : List (List Int)) : Prop where
  lot : ∀ l ∈ ls, Lot n l
  nodup : ls.Nodup
  len : ls.length ≤ k
theorem hasM_merge {ν : Type} {κ : Type} [DecidableEq κ] (ls : List κ) (v : ν) (x : κ) : hasM (mergeL [] (ls.map fun x => (x, v, ()))) x = memB x ls := by
  rw [hasM_keys, keys_merge]
  rw [Bool.eq_iff_iff]
  simp [mem_mergeS, keysM]
section
variable {n : Int} {k : Nat} {ls : List (List Int)} (h0 : 0 ≤ n) (h10 : n ≤ 10) (F : Fam n k ls) (hk : k ≤ 600)
include h0 h10 F hk
theorem p_keeps_meets : m_keeps_meets (n, ls, ()) = pureM ((ls.flatMap fun a => ls.map fun b => memB (meet a b) ls).all id) := by
  unfold m_keeps_meets
  simp only [bp, bind_ret, optM_some, Pz.bind_assoc]
  rw [dcM_pure (fun x => x) (fun _ => true) (fun _ _ => rfl) (fun _ _ => rfl), bp, c2M_pure (fun _ => ls) (fun a b => memB (meet a b) ls) (fun _ _ => rfl) (fun a ha b hb => ?_) ?_, bp]
  · rfl
  · rw [pairs_len]
    have h := F.len
    have : ls.length * ls.length ≤ 600 * 600 := Nat.mul_le_mul (by omega) (by omega)
    unfold sizeLine; simp only [List.length_nil]; omega
  · rw [p_both, bp, hasM_merge]
end
def stepD {ν : Type} (v : ν) (b : List (List Int × ν × Unit)) (y : List Int) : List (List Int × ν × Unit) := putL (mergeL b (mergeL [] ((keysM b).map fun k => (uni y k, v, ())))) y v
theorem keys_stepD {ν : Type} (v : ν) (b : List (List Int × ν × Unit)) (y : List Int) : keysM (stepD v b y) = stepS (keysM b) y := by
  unfold stepD stepS
  rw [keys_put, keys_merge, keys_merge]
  congr 2
  unfold keysM
  simp [List.map_map, Function.comp_def]
theorem len_stepD {ν : Type} (v : ν) (b : List (List Int × ν × Unit)) (y : List Int) : (stepD v b y).length ≤ 2 * b.length + 1 := by
  have := len_stepS (keysM b) y
  rw [← keys_stepD v, keys_len, keys_len] at this
  exact this
theorem upd_ok {ν : Type} (v : ν) {b : List (List Int × ν × Unit)} {y : List Int} (h : b.length ≤ 1000) (k : List (List Int × ν × Unit) → M (List (List Int × ν × Unit))) :
    Pz.bindM (updM b (mergeL [] ((keysM b).map fun k => (uni y k, v, ())))) (fun r => putM r y v) = pureM (stepD v b y) := by
  have hl := mergeL_len ((keysM b).map fun k => (uni y k, v, ())) []
  rw [List.length_map, keys_len, List.length_nil, Nat.zero_add] at hl
  have hl2 := mergeL_len (mergeL [] ((keysM b).map fun k => (uni y k, v, ()))) b
  rw [updM_ok ?_ (by unfold sizeLine; omega), bp, putM_ok (by unfold sizeLine; omega)]
  · rfl
  · by_cases e : b = []
    · subst e; exact .inr (by simp [keysM, mergeL])
    · exact .inl e
def cnt (ls : List (List Int)) (x : Int) : Int := ((ls.filter fun lot => memB x lot).length : Int)
theorem p_lots_at (m : Int) (ls : List (List Int)) (i : Int) : m_lots_at (m, ls, ()) i = pureM (cnt ls i) := by
  unfold m_lots_at
  simp only [bp, bind_ret, optM_some, Pz.bind_assoc]
  rw [compM_pureF (fun lot => memB i lot) (fun _ _ => rfl), bp]
  rfl
theorem cnt_le (ls : List (List Int)) (x : Int) : 0 ≤ cnt ls x ∧ cnt ls x ≤ ls.length := by
  unfold cnt
  have := List.length_filter_le (fun lot => memB x lot) ls
  omega
def halfL (n : Int) (ls : List (List Int)) : List Int := (irange 0 n).filter fun i => decide ((ls.length : Int) ≤ 2 * cnt ls i)
theorem p_half {n : Int} (h0 : 0 ≤ n) (h10 : n ≤ 10) (ls : List (List Int)) : m_points_in_half (n, ls, ()) = pureM (halfL n ls) := by
  unfold m_points_in_half
  simp only [bp, bind_ret, optM_some, Pz.bind_assoc]
  rw [rangeM_sm (by omega) (by omega) (by omega) (by omega), bp, compM_pureF (fun i => decide ((ls.length : Int) ≤ 2 * cnt ls i)) (fun i _ => ?_)]
  · rfl
  · rw [p_lots_at, bp, mulO_ok (.inl (by decide)), optM_some, bp]
def sizesI (ls : List (List Int)) : Int := (ls.map fun l => (l.length : Int)).sum
theorem p_sizes (m : Int) (ls : List (List Int)) : m_sizes_added (m, ls, ()) = pureM (sizesI ls) := by
  unfold m_sizes_added
  simp only [bp, bind_ret, optM_some, Pz.bind_assoc]
  rw [compM_map (fun l : List Int => (l.length : Int)) (fun x _ => ?_), bp]
  · rfl
  · rfl
theorem cnt_cons (l : List Int) (ls : List (List Int)) (x : Int) : cnt (l :: ls) x = (if memB x l = true then 1 else 0) + cnt ls x := by
  unfold cnt
  rw [List.filter_cons]
  split <;> simp <;> omega
theorem sum_add {f g : Int → Int} : ∀ xs : List Int, (xs.map fun x => f x + g x).sum = (xs.map f).sum + (xs.map g).sum
  | [] => by simp
  | x :: xs => by simp only [List.map_cons, List.sum_cons, sum_add xs]; omega
theorem sum_if (p : Int → Bool) : ∀ xs : List Int, (xs.map fun x => if p x = true then (1 : Int) else 0).sum = ((xs.filter p).length : Int)
  | [] => by simp
  | x :: xs => by
    rw [List.map_cons, List.sum_cons, sum_if p xs, List.filter_cons]
    split <;> simp <;> omega
theorem lot_filter {n : Int} {l : List Int} (h : Lot n l) : (irange 0 n).filter (fun x => memB x l) = l := by
  refine row_ext ((irange_sorted 0 n).filter _) h.1 fun x => ?_
  rw [List.mem_filter, mem_irange]
  simp
  exact fun hx => h.2 x hx
theorem sizes_counts {n : Int} : ∀ {ls : List (List Int)}, (∀ l ∈ ls, Lot n l) → sizesI ls = ((irange 0 n).map (cnt ls)).sum
  | [], _ => by
    have : ∀ xs : List Int, (xs.map (cnt [])).sum = 0 := fun xs => by
      induction xs with
      | nil => rfl
      | cons x xs ih => rw [List.map_cons, List.sum_cons, ih]; rfl
    rw [this]; rfl
  | l :: ls, h => by
    have ih := sizes_counts (n := n) fun q hq => h q (List.mem_cons_of_mem _ hq)
    have e : (irange 0 n).map (cnt (l :: ls)) = (irange 0 n).map fun x => (if memB x l = true then (1 : Int) else 0) + cnt ls x := List.map_congr_left fun x _ => cnt_cons l ls x
    rw [e, sum_add (f := fun x => if memB x l = true then (1 : Int) else 0) (g := cnt ls), sum_if, lot_filter (h l List.mem_cons_self), ← ih]
    simp [sizesI]
theorem flat_le {α β : Type} (h : α → List β) (c : Nat) : ∀ {xs : List α}, (∀ x ∈ xs, (h x).length ≤ c) → (xs.flatMap h).length ≤ xs.length * c
  | [], _ => by simp
  | x :: xs, q => by
    have h1 := flat_le h c fun y hy => q y (List.mem_cons_of_mem _ hy)
    have h2 := q x List.mem_cons_self
    rw [List.flatMap_cons, List.length_append, List.length_cons, Nat.succ_mul]
    omega
theorem pairs_all {ls : List (List Int)} (f : List Int → List Int → List Int) : ((ls.flatMap fun a => ls.map fun b => memB (f a b) ls).all id) = true ↔ ∀ a ∈ ls, ∀ b ∈ ls, f a b ∈ ls := by
  rw [List.all_eq_true]
  constructor
  · intro q a ha b hb
    have := q _ (List.mem_flatMap.mpr ⟨a, ha, List.mem_map.mpr ⟨b, hb, rfl⟩⟩)
    simpa using this
  · intro q x hx
    obtain ⟨a, ha, hx⟩ := List.mem_flatMap.mp hx
    obtain ⟨b, hb, rfl⟩ := List.mem_map.mp hx
    simpa using q a ha b hb
abbrev eFam : Int × List (List Int) × Unit → PyData := eP (eC eInt (eC (eT (eT eInt)) eU))
section
variable {n : Int} (h0 : 0 ≤ n) (h10 : n ≤ 10)
include h0 h10
theorem sh_row {l : List Int} (h : Lot n l) : Sh 1 410 (eT eInt l) :=
  Sh.tup 10 (by have := lot_len h h0; omega) fun x hx => Sh.int (by have := h.2 x hx; omega)
theorem sh_rows {ls : List (List Int)} (h : ∀ l ∈ ls, Lot n l) (hk : ls.length ≤ 300) : Sh 2 123300 (eT (eT eInt) ls) := Sh.tup 300 hk fun l hl => sh_row h0 h10 (h l hl)
theorem sg_fam {ls : List (List Int)} (h : ∀ l ∈ ls, Lot n l) (hk : ls.length ≤ 300) : Sg false 3 123402 (eFam (n, ls, ())) :=
  Sg.tup (Sgs.cons (Sg.of ((Sh.big (i := n) (by omega)).mono (by decide) (Nat.le_refl _))) (Sgs.cons (Sg.of (sh_rows h0 h10 h hk)) (Sgs.nil.mono (by decide) (Nat.le_refl 0))))
theorem rep_fam {ls : List (List Int)} (h : ∀ l ∈ ls, Lot n l) (hk : ls.length ≤ 300) : reprO (eFam (n, ls, ())) = some (eFam (n, ls, ())).shown := ((sg_fam h0 h10 h hk).mono (by decide) (Nat.le_refl _)).rep
theorem rep_two {ls ms : List (List Int)} (h : ∀ l ∈ ls, Lot n l) (hk : ls.length ≤ 300) (h' : ∀ l ∈ ms, Lot n l) (hk' : ms.length ≤ 300) : reprO (eL eFam [(n, ls, ()), (n, ms, ())]) = some (eL eFam [(n, ls, ()), (n, ms, ())]).shown := by
  have := Sg.lst (Sgs.cons (sg_fam h0 h10 h hk) (Sgs.cons (sg_fam h0 h10 h' hk') (Sgs.nil.mono (Nat.zero_le 3) (Nat.le_refl 0))))
  exact (this.mono (by decide) (Nat.le_refl _)).rep
theorem rep_rows {ls : List (List Int)} (h : ∀ l ∈ ls, Lot n l) (hk : ls.length ≤ 300) : reprO (eT (eT eInt) ls) = some (eT (eT eInt) ls).shown := reprO_ok ((sh_rows h0 h10 h hk).mono (by decide) (Nat.le_refl _))
theorem rep_row {l : List Int} (h : Lot n l) : reprO (eT eInt l) = some (eT eInt l).shown := reprO_ok ((sh_row h0 h10 h).mono (by decide) (Nat.le_refl _))
end
theorem rep_ints {xs : List Int} (hl : xs.length ≤ 10) (h : ∀ x ∈ xs, x.natAbs < 10 ^ 12) : reprO (eL eInt xs) = some (eL eInt xs).shown := reprO_ok ((Sh.lst 10 hl fun x hx => Sh.int (h x hx)).mono (by decide) (Nat.le_refl _))
theorem rep_bools (xs : List Bool) (hl : xs.length ≤ 10) : reprO (eL eBool xs) = some (eL eBool xs).shown := reprO_ok ((Sh.lst 10 hl fun x _ => Sh.bool).mono (by decide) (Nat.le_refl _))
theorem rep_int {i : Int} (h : i.natAbs < 10 ^ 12) : reprO (eInt i) = some (eInt i).shown := reprO_ok ((Sh.int h).mono (by decide) (Nat.le_refl _))
theorem sat_forN {β ι : Type} {f : β → ι → M β} (I : Nat → β → Prop) (m : Nat) : ∀ {xs : List ι} {b : β} {j : Nat}, I j b → j + xs.length ≤ m → (∀ b j, ∀ x ∈ xs, j < m → I j b → Sat (f b x) (I (j + 1))) → Sat (forM' f xs b) fun r => ∃ q, q ≤ m ∧ I q r
  | [], b, j, h, hl, _ => .pure ⟨j, by simpa using hl, h⟩
  | x :: xs, b, j, h, hl, hf => by
    rw [List.length_cons] at hl
    show Sat (Pz.bindM (f b x) fun c => forM' f xs c) _
    refine Sat.bind2 (hf b j x List.mem_cons_self (by omega) h) fun c hc => sat_forN I m hc (by omega) fun b j y hy => hf b j y (List.mem_cons_of_mem _ hy)
theorem drawn_row {n : Int} (h0 : 0 ≤ n) (h10 : n ≤ 10) {m : Int} (hm : m < 1073741824) : Sat (compM (fun _ : Int => Pz.bindM (m__law_pick m) fun x => pureM (decide (x = 0))) (fun y => pureM y) (irange 0 n)) (Lot n) := by
  refine (Sat.compSub fun x _ => ?_).mono fun ys h => lot_irange.sub h
  exact Sat.bind2 (Sat.pick hm fun r _ _ => (trivial : (fun _ => True) r)) fun a _ => .pure trivial
def DKeys (n : Int) (j : Nat) (b : List (List Int × Int × Unit)) : Prop := (∀ k ∈ keysM b, Lot n k) ∧ (keysM b).Nodup ∧ b.length + 1 ≤ 2 ^ j
theorem meet_eq {a b : List Int} : meet a b = a ↔ ∀ x ∈ a, x ∈ b := by
  unfold meet
  rw [List.filter_eq_self]
  simp
theorem at_map_irange (f : Int → Int) {n i : Int} (h0 : 0 ≤ i) (h : i < n) : atI ((irange 0 n).map f) i = some (f i) := by
  rw [at_getD 0 h0 (by rw [List.length_map, length_irange]; omega)]
  congr 1
  unfold irange
  rw [List.map_map, List.getD_eq_getElem?_getD, List.getElem?_map, List.getElem?_range (by omega)]
  simp only [Option.map_some, Option.getD_some, Function.comp]
  congr 1
  omega
end Lw

namespace Lw
open PySem PySem.Spec PyProof.Rows L2 Pz
def Ucl (ls : List (List Int)) : Prop := ∀ a ∈ ls, ∀ b ∈ ls, uni a b ∈ ls
structure Kf (n : Int) (ls : List (List Int)) : Prop where
  fam : Fam n 300 ls
  cl : Ucl ls
  ne : ls ≠ []
def DKeysU (n : Int) (j : Nat) (b : List (List Int × Int × Unit)) : Prop := (∀ k ∈ keysM b, Lot n k) ∧ (keysM b).Nodup ∧ b.length + 1 ≤ 2 ^ j ∧ Ucl (keysM b) ∧ (j = 0 ∨ keysM b ≠ [])
theorem ucl_step {n : Int} {ks : List (List Int)} (hk : ∀ k ∈ ks, Lot n k) (hn : ks.Nodup) (hu : Ucl ks) {l : List Int} (hl : Lot n l) : Ucl (stepS ks l) :=
  (Clo.step (given := ks) ⟨hk, hn, hu, fun g h => h, fun l h x hx => ⟨l, h, hx, fun y hy => hy⟩⟩ hl).closed
theorem ucl_nil {n : Int} {ks : List (List Int)} (hk : ∀ k ∈ ks, Lot n k) (hu : Ucl ks) : Ucl (putS ks []) := fun a ha b hb => by
  have e1 : ∀ c ∈ ks, uni c [] = c := fun c hc => (uni_lot (hk c hc) lot_nil).ext (hk c hc) fun x => by rw [mem_uni]; simp
  have e2 : ∀ c ∈ ks, uni [] c = c := fun c hc => (uni_lot lot_nil (hk c hc)).ext (hk c hc) fun x => by rw [mem_uni]; simp
  rw [mem_putS] at *
  rcases ha with ha | rfl <;> rcases hb with hb | rfl
  · exact .inl (hu a ha b hb)
  · rw [e1 a ha]; exact .inl ha
  · rw [e2 b hb]; exact .inl hb
  · exact .inr ((uni_lot (lot_nil (n := n)) lot_nil).ext lot_nil fun x => by rw [mem_uni]; simp)
theorem p_keptU {n : Int} (h0 : 0 ≤ n) (h10 : n ≤ 10) : Sat (m__law_kept n) fun r => ∃ ls, r = (n, ls, ()) ∧ Kf n ls := by
  unfold m__law_kept
  simp only [bp, bind_ret, optM_some, Pz.bind_assoc]
  simp (disch := first | decide | simp) only [bp, sm100]
  refine Sat.bind2 (Sat.pick (by decide) fun r h1 h2 => (⟨h1, by omega⟩ : (fun r : Int => 0 ≤ r ∧ r ≤ 5) r)) fun a ha => ?_
  rw [rangeM_sm (by omega) (by omega) (by omega) (by omega), bp]
  have turn : ∀ (b : List (List Int × Int × Unit)) (j : Nat), j < 7 → DKeysU n j b → Sat (Pz.bindM (rangeM 0 n) fun a => Pz.bindM (compM (fun y => Pz.bindM (m__law_pick 3) fun x => pureM (decide (x = 0))) (fun y => pureM y) a) fun r8 => Pz.bindM (compM (fun y => pureM true) (fun y => Pz.bindM (m__law_union r8 y) fun x => pureM (x, (0 : Int), ())) (List.map (fun p => p.1) b)) fun a => Pz.bindM (updM b (mergeL [] a)) fun r => putM r r8 0) (DKeysU n (j + 1)) := fun b j hj hb => by
    rw [rangeM_sm (by omega) (by omega) (by omega) (by omega), bp]
    refine Sat.bind2 (drawn_row h0 h10 (by decide)) fun l hl => ?_
    obtain ⟨b1, b2, b3, b4, b5⟩ := hb
    have hp : 2 ^ j ≤ 2 ^ 7 := Nat.pow_le_pow_right (by decide) (by omega)
    rw [compM_map (fun k => (uni l k, (0 : Int), ())) (fun k hk => by rw [p_union h0 h10 hl (b1 k hk), bp]), bp]
    rw [show List.map (fun k => (uni l k, (0 : Int), ())) (List.map (fun p => p.1) b) = (keysM b).map fun k => (uni l k, (0 : Int), ()) from rfl, upd_ok (0 : Int) (b := b) (y := l) (by omega) (fun r => putM r l 0)]
    refine .pure ⟨fun k hk => ?_, ?_, ?_, ?_, .inr ?_⟩
    · rw [keys_stepD] at hk
      rcases mem_stepS.mp hk with h | ⟨q, hq, rfl⟩ | rfl
      · exact b1 k h
      · exact uni_lot hl (b1 q hq)
      · exact hl
    · rw [keys_stepD]; exact nodup_putS (nodup_mergeS b2)
    · have := len_stepD (0 : Int) b l
      rw [Nat.pow_succ]; omega
    · rw [keys_stepD]; exact ucl_step b1 b2 b4 hl
    · rw [keys_stepD]; exact List.ne_nil_of_mem (mem_stepS.mpr (.inr (.inr rfl)))
  rw [irange_cons (by omega)]
  refine Sat.bind2 (Q := fun r => ∃ q, q ≤ 7 ∧ DKeysU n (q + 1) r) ?_ fun r hr => ?_
  · show Sat (Pz.bindM _ fun c => forM' _ _ c) _
    refine Sat.bind2 (turn [] 0 (by decide) ⟨by simp [keysM], by simp [keysM], by simp, (fun a ha => by cases ha), .inl rfl⟩) fun b hb => ?_
    exact (sat_forN (fun j => DKeysU n (j + 1)) 6 (j := 0) hb (by rw [length_irange]; omega) fun b j x _ hj hb => turn b (j + 1) (by omega) hb).mono fun r ⟨q, h1, h2⟩ => ⟨q, by omega, h2⟩
  · obtain ⟨q, hq, h1, h2, h3, h4, h5⟩ := hr
    have hp : 2 ^ (q + 1) ≤ 2 ^ 8 := Nat.pow_le_pow_right (by decide) (by omega)
    have h5 : keysM r ≠ [] := h5.resolve_left (by omega)
    refine Sat.bind2 (Sat.pick (by decide) fun r _ _ => (trivial : (fun _ => True) r)) fun a _ => ?_
    have fin : ∀ r : List (List Int × Int × Unit), (∀ k ∈ keysM r, Lot n k) → (keysM r).Nodup → r.length ≤ 300 → Ucl (keysM r) → keysM r ≠ [] → ∃ ls, (n, srt (eT eInt) (List.map (fun p => p.1) r), ()) = (n, ls, ()) ∧ Kf n ls := fun r a b c d e =>
      ⟨_, rfl, ⟨fun l hl => a l (mem_srtT.mp hl), srtT_nodup b, by rw [srtT_len]; show (keysM r).length ≤ _; rw [keys_len]; exact c⟩, fun x hx y hy => mem_srtT.mpr (d x (mem_srtT.mp hx) y (mem_srtT.mp hy)), fun z => by
        obtain ⟨x, hx⟩ := List.exists_mem_of_ne_nil _ e
        have := mem_srtT.mpr hx
        rw [show srt (eT eInt) (keysM r) = [] from z] at this
        cases this⟩
    cases hd : decide (a = 0) with
    | false =>
      rw [if_neg (by simp), bp]
      exact .pure (fin r h1 h2 (by omega) h4 h5)
    | true =>
      rw [if_pos rfl, putM_ok (by unfold sizeLine; omega), bp]
      refine .pure (fin _ (fun k hk => ?_) (by rw [keys_put]; exact nodup_putS h2) (by have := putL_len r ([] : List Int) (0 : Int); omega) (by rw [keys_put]; exact ucl_nil h1 h4) (by rw [keys_put]; exact List.ne_nil_of_mem (mem_putS.mpr (.inr rfl))))
      rw [keys_put] at hk
      rcases mem_putS.mp hk with h | rfl
      · exact h1 k h
      · exact lot_nil
/-! closing by common parts, lap by lap -/
def lapD (b : List (List Int × Int × Unit)) (one : List Int) (some : List (List Int)) : List (List Int × Int × Unit) := mergeL (mergeL b (mergeL [] (some.map fun l => (meet one l, (0 : Int), ())))) (mergeL [] (some.map fun l => (uni one l, (0 : Int), ())))
def lapL (b : List (List Int × Int × Unit)) : List (List Int × Int × Unit) := (srt (eT eInt) (keysM b)).foldl (fun c one => lapD c one (srt (eT eInt) (keysM b))) b
theorem mem_lapD {b : List (List Int × Int × Unit)} {one X : List Int} {some : List (List Int)} : X ∈ keysM (lapD b one some) ↔ X ∈ keysM b ∨ ∃ l ∈ some, X = meet one l ∨ X = uni one l := by
  unfold lapD
  rw [keys_merge, keys_merge, keys_merge, keys_merge, mem_mergeS, mem_mergeS, mem_mergeS, mem_mergeS]
  simp only [keysM, List.map_map, List.mem_map, Function.comp, List.map_nil, List.not_mem_nil, false_or]
  constructor
  · rintro ((h | ⟨l, hl, rfl⟩) | ⟨l, hl, rfl⟩)
    · exact .inl h
    · exact .inr ⟨l, hl, .inl rfl⟩
    · exact .inr ⟨l, hl, .inr rfl⟩
  · rintro (h | ⟨l, hl, h | h⟩)
    · exact .inl (.inl h)
    · exact .inl (.inr ⟨l, hl, h.symm⟩)
    · exact .inr ⟨l, hl, h.symm⟩
theorem nodup_lapD {b : List (List Int × Int × Unit)} (h : (keysM b).Nodup) (one : List Int) (some : List (List Int)) : (keysM (lapD b one some)).Nodup := by
  unfold lapD
  rw [keys_merge, keys_merge]
  exact nodup_mergeS (nodup_mergeS h)
theorem mem_fold (some : List (List Int)) : ∀ (xs : List (List Int)) (b : List (List Int × Int × Unit)) (X : List Int), X ∈ keysM (xs.foldl (fun c one => lapD c one some) b) ↔ X ∈ keysM b ∨ ∃ a ∈ xs, ∃ l ∈ some, X = meet a l ∨ X = uni a l
  | [], b, X => by simp
  | a :: xs, b, X => by
    rw [List.foldl_cons, mem_fold some xs, mem_lapD]
    simp only [List.mem_cons, exists_eq_or_imp, or_assoc]
theorem nodup_fold (some : List (List Int)) : ∀ (xs : List (List Int)) (b : List (List Int × Int × Unit)), (keysM b).Nodup → (keysM (xs.foldl (fun c one => lapD c one some) b)).Nodup
  | [], b, h => h
  | a :: xs, b, h => nodup_fold some xs _ (nodup_lapD h a some)
theorem mem_lap {b : List (List Int × Int × Unit)} {X : List Int} : X ∈ keysM (lapL b) ↔ X ∈ keysM b ∨ ∃ a ∈ keysM b, ∃ l ∈ keysM b, X = meet a l ∨ X = uni a l := by
  unfold lapL
  rw [mem_fold]
  simp only [mem_srtT]
def lapsD (b : List (List Int × Int × Unit)) : Nat → List (List Int × Int × Unit)
  | 0 => b
  | t + 1 => lapL (lapsD b t)
theorem nodup_laps {b : List (List Int × Int × Unit)} (h : (keysM b).Nodup) : ∀ t, (keysM (lapsD b t)).Nodup
  | 0 => h
  | t + 1 => nodup_fold _ _ _ (nodup_laps h t)
theorem laps_of {n : Int} {ls : List (List Int)} {b : List (List Int × Int × Unit)} (hb : ∀ X, X ∈ keysM b ↔ X ∈ ls) : Laps n ls fun t X => X ∈ keysM (lapsD b t) where
  zero := hb
  mono := fun t X h => mem_lap.mpr (.inl h)
  meet := fun t X Y hX hY => mem_lap.mpr (.inr ⟨X, hX, Y, hY, .inl rfl⟩)
  join := fun t X Y hX hY => mem_lap.mpr (.inr ⟨X, hX, Y, hY, .inr rfl⟩)
  from_ := fun t X h => by
    rcases mem_lap.mp h with q | ⟨a, ha, c, hc, q⟩
    · exact .inl q
    · exact .inr ⟨a, c, ha, hc, q⟩
theorem lots_few {n : Int} (h0 : 0 ≤ n) (n5 : n ≤ 5) {ks : List (List Int)} (hk : ∀ k ∈ ks, Lot n k) (hn : ks.Nodup) : ks.length ≤ 32 := by
  obtain ⟨m, rfl⟩ : ∃ m : Nat, n = m := ⟨n.toNat, by omega⟩
  have a := List.Nodup.length_le_of_subset hn (l₂ := lawF m m) fun k h => (lawF_mem (by omega)).mpr ⟨hk k h, lot_len (hk k h) h0⟩
  have b := lawF_len (m : Int) m
  have : 2 ^ m ≤ 2 ^ 5 := Nat.pow_le_pow_right (by decide) (by omega)
  omega
theorem same_set {α : Type} [DecidableEq α] {xs ys : List α} (hx : xs.Nodup) (s : ∀ x ∈ xs, x ∈ ys) (hl : ys.length = xs.length) : ∀ y ∈ ys, y ∈ xs := fun y hy => by
  by_cases q : y ∈ xs
  · exact q
  · have := List.Nodup.length_le_of_subset (List.nodup_cons.mpr ⟨q, hx⟩) (l₂ := ys) fun z hz => by
      rcases List.mem_cons.mp hz with e | e
      · rw [e]; exact hy
      · exact s z e
    rw [List.length_cons] at this
    omega
theorem forO_laps {ρ : Type} {f : List (List Int × Int × Unit) → Int → M (Out ρ (List (List Int × Int × Unit)))} {b : List (List Int × Int × Unit)} {R : Nat → ρ}
    (hf : ∀ t y, f (lapsD b t) y = pureM (if (lapsD b (t + 1)).length = (lapsD b t).length then .rt (R t) else .nx (lapsD b (t + 1)))) : ∀ (xs : List Int) (t : Nat), ∃ o, forO f xs (lapsD b t) = pureM o ∧
      ((∃ s, (lapsD b (s + 1)).length = (lapsD b s).length ∧ o = .rt (R s)) ∨ ((∀ s, t ≤ s → s < t + xs.length → (lapsD b (s + 1)).length ≠ (lapsD b s).length) ∧ o = .nx (lapsD b (t + xs.length))))
  | [], t => ⟨_, rfl, .inr ⟨fun s h1 h2 => by simp at h2; omega, rfl⟩⟩
  | x :: xs, t => by
    unfold forO
    rw [hf, bp]
    by_cases h : (lapsD b (t + 1)).length = (lapsD b t).length
    · rw [if_pos h]
      exact ⟨_, rfl, .inl ⟨t, h, rfl⟩⟩
    · rw [if_neg h]
      obtain ⟨o, h1, h2⟩ := forO_laps hf xs (t + 1)
      refine ⟨o, h1, h2.imp id fun ⟨a, c⟩ => ⟨fun s s1 s2 => ?_, by rw [c, List.length_cons]; congr 2; omega⟩⟩
      by_cases e : s = t
      · rw [e]; exact h
      · exact a s (by omega) (by rw [List.length_cons] at s2; omega)
theorem p_meets {n : Int} (h0 : 0 ≤ n) (n5 : n ≤ 5) {ls : List (List Int)} (F : Kf n ls) : ∃ ms, m__law_meets (n, ls, ()) = pureM (n, ms, ()) ∧ Kf n ms := by
  have h10 : n ≤ 10 := by omega
  generalize hb : mergeL [] (ls.map fun x => (x, (0 : Int), ())) = b
  have kb : ∀ X, X ∈ keysM b ↔ X ∈ ls := fun X => by
    rw [← hb, keys_merge, mem_mergeS]
    simp [keysM]
  have nb : (keysM b).Nodup := by
    rw [← hb, keys_merge]; exact nodup_mergeS (by simp [keysM])
  have P := laps_of (n := n) kb
  have lots : ∀ t, ∀ X ∈ keysM (lapsD b t), Lot n X := fun t X h => laps_lot P F.fam.lot t X h
  have nd := nodup_laps nb
  have few : ∀ t, (lapsD b t).length ≤ 32 := fun t => by rw [← keys_len]; exact lots_few h0 n5 (lots t) (nd t)
  have ne : ∀ t, keysM (lapsD b t) ≠ [] := fun t => by
    obtain ⟨A, hA⟩ := List.exists_mem_of_ne_nil _ F.ne
    have : ∀ t, A ∈ keysM (lapsD b t) := fun t => by
      induction t with
      | zero => exact (kb A).mpr hA
      | succ t ih => exact P.mono t A ih
    exact List.ne_nil_of_mem (this t)
  have res : ∀ t, (lapsD b (t + 1)).length = (lapsD b t).length → Kf n (srt (eT eInt) (keysM (lapsD b t))) := fun t h => by
    have back := same_set (nd t) (fun x hx => P.mono t x hx) (by rw [keys_len, keys_len]; exact h)
    refine ⟨⟨fun l hl => lots t l (mem_srtT.mp hl), srtT_nodup (nd t), by rw [srtT_len, keys_len]; have := few t; omega⟩, fun x hx y hy => mem_srtT.mpr (back _ (P.join t x y (mem_srtT.mp hx) (mem_srtT.mp hy))), fun z => ?_⟩
    obtain ⟨A, hA⟩ := List.exists_mem_of_ne_nil _ (ne t)
    have := mem_srtT.mpr hA
    rw [z] at this; cases this
  have six : (lapsD b 7).length = (lapsD b 6).length := by
    have sub : ∀ X ∈ keysM (lapsD b 7), X ∈ keysM (lapsD b 6) := fun X h => by
      rcases P.from_ 6 X h with q | ⟨a, c, ha, hc, q | q⟩
      · exact q
      · rw [q]; exact (laps_closed P F.fam.lot n5 ha hc).1
      · rw [q]; exact (laps_closed P F.fam.lot n5 ha hc).2
    have a := List.Nodup.length_le_of_subset (nd 7) sub
    have c := List.Nodup.length_le_of_subset (nd 6) fun X h => P.mono 6 X h
    rw [keys_len, keys_len] at a c
    have e : (lapsD b (6 + 1)).length = (lapsD b 7).length := rfl
    omega
  unfold m__law_meets
  simp only [bp, bind_ret, optM_some, Pz.bind_assoc]
  rw [compM_map (fun x : List Int => (x, (0 : Int), ())) (fun _ _ => rfl), bp, hb]
  rw [rangeM_sm (by omega) (by omega) (by omega) (by omega), bp]
  have hfs : ∀ (c : List (List Int × Int × Unit)) (one : List Int) (some : List (List Int)), Lot n one → (∀ l ∈ some, Lot n l) → some.length ≤ 32 → c ≠ [] → c.length ≤ 2000 →
      (Pz.bindM (compM (fun y30 => pureM true) (fun y30 => Pz.bindM (m__law_common one y30) fun x35 => pureM (x35, (0 : Int), ())) some) fun a => Pz.bindM (updM c (mergeL [] a)) fun r29 => Pz.bindM (compM (fun y41 => pureM true) (fun y41 => Pz.bindM (m__law_union one y41) fun x46 => pureM (x46, (0 : Int), ())) some) fun a => updM r29 (mergeL [] a)) = pureM (lapD c one some) := fun c one some ho hs hl hc hcl => by
    have e1 := mergeL_len (some.map fun l => (meet one l, (0 : Int), ())) []
    have e2 := mergeL_len (some.map fun l => (uni one l, (0 : Int), ())) []
    have e3 := mergeL_len (mergeL [] (some.map fun l => (meet one l, (0 : Int), ()))) c
    rw [List.length_map, List.length_nil] at e1 e2
    rw [compM_map (fun l => (meet one l, (0 : Int), ())) (fun l hl => by rw [p_common, bp]), bp, updM_ok (.inl hc) (by unfold sizeLine; omega), bp, compM_map (fun l => (uni one l, (0 : Int), ())) (fun l hl => by rw [p_union h0 h10 ho (hs l hl), bp]), bp, updM_ok (.inl ?_) (by unfold sizeLine; omega)]
    · rfl
    · intro z
      have : keysM (mergeL c (mergeL [] (some.map fun l => (meet one l, (0 : Int), ())))) = [] := by rw [z]; rfl
      rw [keys_merge] at this
      cases c with
      | nil => exact hc rfl
      | cons p c =>
        have q : p.1 ∈ mergeS (keysM (p :: c)) (keysM (mergeL [] (some.map fun l => (meet one l, (0 : Int), ())))) := mem_mergeS.mpr (.inl (by simp [keysM]))
        rw [this] at q; cases q
  obtain ⟨o, e1, e2⟩ := forO_laps (b := b) (R := fun t => (n, srt (eT eInt) (keysM (lapsD b t)), ())) (f := fun b24 y23 => Pz.bindM (forM' (fun b28 y27 => Pz.bindM (compM (fun y30 => pureM true) (fun y30 => Pz.bindM (m__law_common y27 y30) fun x35 => pureM (x35, (0 : Int), ())) (srt (eT eInt) (b24.map fun p => p.1))) fun a => Pz.bindM (updM b28 (mergeL [] a)) fun r29 => Pz.bindM (compM (fun y41 => pureM true) (fun y41 => Pz.bindM (m__law_union y27 y41) fun x46 => pureM (x46, (0 : Int), ())) (srt (eT eInt) (b24.map fun p => p.1))) fun a => updM r29 (mergeL [] a)) (srt (eT eInt) (b24.map fun p => p.1)) b24) fun r52 => if decide ((r52.length : Int) = ((srt (eT eInt) (b24.map fun p => p.1)).length : Int)) = true then pureM (Out.rt (n, srt (eT eInt) (b24.map fun p => p.1), ())) else pureM (Out.nx r52)) (fun t y => by
    show Pz.bindM (forM' _ (srt (eT eInt) (keysM (lapsD b t))) _) _ = _
    have lsrt : ∀ l ∈ srt (eT eInt) (keysM (lapsD b t)), Lot n l := fun l h => lots t l (mem_srtT.mp h)
    have lens : (srt (eT eInt) (keysM (lapsD b t))).length ≤ 32 := by rw [srtT_len, keys_len]; exact few t
    rw [forM_fold (fun c one => lapD c one (srt (eT eInt) (keysM (lapsD b t)))) (fun c => (∀ X ∈ keysM c, Lot n X) ∧ (keysM c).Nodup ∧ keysM c ≠ []) (fun one ho c hc => ?_) ⟨lots t, nd t, ne t⟩, bp]
    · show (if decide (((lapsD b (t + 1)).length : Int) = ((srt (eT eInt) (keysM (lapsD b t))).length : Int)) = true then _ else _) = _
      rw [srtT_len, keys_len]
      by_cases h : (lapsD b (t + 1)).length = (lapsD b t).length
      · rw [if_pos h, if_pos (by rw [h]; simp)]; rfl
      · rw [if_neg h, if_neg (by simp; omega)]; rfl
    · obtain ⟨c1, c2, c3⟩ := hc
      have cl := lots_few h0 n5 c1 c2
      rw [keys_len] at cl
      refine ⟨hfs c one _ (lsrt one ho) lsrt lens (fun z => c3 (by rw [z]; rfl)) (by omega), fun X hX => ?_, nodup_lapD c2 one _, fun z => ?_⟩
      · rcases mem_lapD.mp hX with q | ⟨l, hl, q | q⟩
        · exact c1 X q
        · rw [q]; exact (lsrt one ho).sub List.filter_sublist
        · rw [q]; exact uni_lot (lsrt one ho) (lsrt l hl)
      · obtain ⟨A, hA⟩ := List.exists_mem_of_ne_nil _ c3
        have : A ∈ keysM (lapD c one (srt (eT eInt) (keysM (lapsD b t)))) := mem_lapD.mpr (.inl hA)
        rw [z] at this; cases this) (irange 0 8) 0
  rw [show lapsD b 0 = b from rfl] at e1
  rcases e2 with ⟨s, h1, rfl⟩ | ⟨h1, rfl⟩
  · refine ⟨_, ?_, res s h1⟩
    rw [e1, bp]
    rfl
  · exact absurd six (h1 6 (by decide) (by rw [length_irange]; decide))
end Lw

namespace Lw
open PySem PySem.Spec PyProof.Rows L2 Pz
abbrev eIR : Int × List Int × Unit → PyData := eP (eC eInt (eC (eT eInt) eU))
theorem lt_pair {a b : Int × List Int × Unit} (h : a.1 ≠ b.1) : PySem.W.dataLt (eIR a) (eIR b) = decide (a.1 < b.1) := by
  refine (PySem.W.dataLt_tuple _ _).trans ?_
  refine (PySem.W.dataLt_all_no (x := .int a.1) (y := .int b.1) rfl ?_).trans (PySem.W.dataLt_int _ _)
  have := eqZ_int a.1 b.1
  unfold eqZ at this
  split at this
  · rw [Option.some.inj this]; exact decide_eq_false h
  · cases this
theorem fold_min : ∀ (xs : List (Int × List Int × Unit)) (x : Int × List Int × Unit), (xs.foldl (fun a y => if PySem.W.dataLt (eIR y) (eIR a) = true then y else a) x) ∈ x :: xs ∧ ∀ q ∈ x :: xs, (xs.foldl (fun a y => if PySem.W.dataLt (eIR y) (eIR a) = true then y else a) x).1 ≤ q.1
  | [], x => ⟨by simp, fun q h => by rw [List.mem_singleton.mp h]; exact Int.le_refl _⟩
  | y :: xs, x => by
    rw [List.foldl_cons]
    have k : (if PySem.W.dataLt (eIR y) (eIR x) = true then y else x).1 ≤ x.1 ∧ (if PySem.W.dataLt (eIR y) (eIR x) = true then y else x).1 ≤ y.1 := by
      by_cases e : y.1 = x.1
      · split <;> omega
      · rw [lt_pair e]
        split
        · rename_i h; have := of_decide_eq_true h; omega
        · rename_i h; have : ¬ y.1 < x.1 := fun z => h (decide_eq_true z); omega
    obtain ⟨h1, h2⟩ := fold_min xs (if PySem.W.dataLt (eIR y) (eIR x) = true then y else x)
    refine ⟨?_, fun q hq => ?_⟩
    · rcases List.mem_cons.mp h1 with h | h
      · rw [h]; split <;> simp
      · exact List.mem_cons_of_mem _ (List.mem_cons_of_mem _ h)
    · have h0 := h2 _ List.mem_cons_self
      rcases List.mem_cons.mp hq with rfl | h
      · omega
      · rcases List.mem_cons.mp h with rfl | h
        · omega
        · exact h2 q (List.mem_cons_of_mem _ h)
theorem minA_least {xs : List (Int × List Int × Unit)} {p : Int × List Int × Unit} (h : minA eIR xs = some p) : p ∈ xs ∧ ∀ q ∈ xs, p.1 ≤ q.1 := by
  cases xs with
  | nil => cases h
  | cons x xs =>
    have := fold_min xs x
    rw [show xs.foldl (fun a y => if PySem.W.dataLt (eIR y) (eIR a) = true then y else a) x = p from Option.some.inj h] at this
    exact this
def ofLen (k : Int) (ls : List (List Int)) : List (List Int) := ls.filter fun l => decide ((l.length : Int) = k)
def pairsL (ls : List (List Int)) : List (Int × List Int × Unit) := (ls.filter fun l => !decide (l = [])).map fun l => ((l.length : Int), l, ())
def meetsB (ls : List (List Int)) : Bool := (ls.flatMap fun a => ls.map fun b => memB (meet a b) ls).all id
inductive Tag where
  | one (l : List Int)
  | two (l : List Int)
  | sizes
  | meets (l : List Int)
  | non
def sortP (n : Int) (ls : List (List Int)) : Tag := match ofLen 1 ls with
  | l :: _ => .one l
  | [] => match ofLen 2 ls with
    | l :: _ => .two l
    | [] => if n * ls.length ≤ 2 * sizesI ls then .sizes else match minA eIR (pairsL ls) with
      | some p => if meetsB ls = true then .meets p.2.1 else .non
      | none => .non
def dueT : Tag → Option (List PyData)
  | .one l => some (eStr "one" :: l.map eInt)
  | .two l => some (eStr "two" :: l.map eInt)
  | .sizes => some [eStr "sizes"]
  | .meets l => some [eStr "meets", eT eInt l]
  | .non => none
def namedT (n : Int) : Tag → List Int
  | .one l => l
  | .two l => l
  | .sizes => irange 0 n
  | .meets l => l
  | .non => []
def addT : Tag → Option (List Int)
  | .one l => some l
  | .two l => some l
  | .sizes => none
  | .meets l => some l
  | .non => none
section
variable {n : Int} {ls : List (List Int)}
theorem p_great (k : Int) : m_lots_so_great (n, ls, ()) k = pureM (ofLen k ls) := by
  unfold m_lots_so_great
  simp only [bp, bind_ret, optM_some, Pz.bind_assoc]
  rw [compM_pureF (fun l : List Int => decide ((l.length : Int) = k)) (fun _ _ => rfl)]
  rfl
theorem p_pairs : compM (fun x : List Int => pureM !decide (x = [])) (fun y => pureM ((y.length : Int), y, ())) ls = pureM (pairsL ls) :=
  compM_pure (fun x : List Int => !decide (x = [])) (fun y => ((y.length : Int), y, ())) (fun _ _ => rfl) fun _ _ _ => rfl
theorem minA_some {xs : List (Int × List Int × Unit)} (h : xs ≠ []) : ∃ p, minA eIR xs = some p := by
  cases xs with
  | nil => exact absurd rfl h
  | cons x xs => exact ⟨_, rfl⟩
theorem p_least : m_least_but_none (n, ls, ()) = pureM ((minA eIR (pairsL ls)).map fun p => p.2.1) := by
  unfold m_least_but_none
  simp only [bp, bind_ret, optM_some, Pz.bind_assoc]
  simp (disch := first | decide | simp) only [bp, sm100]
  rw [p_pairs, bp]
  by_cases h : pairsL ls = []
  · rw [if_neg (by simp [h]), h]; rfl
  · obtain ⟨p, hp⟩ := minA_some h
    rw [if_pos (by simp [h])]
    erw [hp]
    rw [optM_some, bp]; rfl
end
section
variable {n : Int} {ls : List (List Int)} (h1 : 1 ≤ n) (n5 : n ≤ 5) (F : Kf n ls)
include h1 n5 F
theorem sizes_small : 0 ≤ sizesI ls ∧ sizesI ls ≤ 1500 := by
  have := F.fam.len
  have a : ∀ ms : List (List Int), (∀ l ∈ ms, l.length ≤ 5) → 0 ≤ sizesI ms ∧ sizesI ms ≤ 5 * ms.length := fun ms => by
    induction ms with
    | nil => intro _; simp [sizesI]
    | cons l ms ih =>
      intro h
      have h2 := ih fun q hq => h q (List.mem_cons_of_mem _ hq)
      have h3 := h l List.mem_cons_self
      simp only [sizesI, List.map_cons, List.sum_cons, List.length_cons] at *
      omega
  have := a ls fun l hl => by have := lot_len (F.fam.lot l hl) (by omega : 0 ≤ n); omega
  omega
theorem p_sort : m_half_sort (n, ls, ()) = pureM (dueT (sortP n ls)) := by
  have hs := sizes_small h1 n5 F
  have hl := F.fam.len
  unfold m_half_sort
  simp only [bp, bind_ret, optM_some, Pz.bind_assoc]
  simp (disch := first | decide | simp) only [bp, sm100]
  unfold forO
  rw [p_great, bp]
  have few : ∀ k l r, ofLen k ls = l :: r → l.length ≤ 5 := fun k l r e => by
    have : l ∈ ofLen k ls := by rw [e]; exact List.mem_cons_self
    have := lot_len (F.fam.lot l (List.mem_filter.mp this).1) (by omega : 0 ≤ n)
    omega
  unfold sortP
  cases e1 : ofLen 1 ls with
  | cons l r =>
    have := few 1 l r e1
    rw [if_pos (by simp), at0, optM_some, bp, smallM_pure (by simp only [List.length_cons, List.length_append, List.length_map, List.length_nil]; unfold sizeLine; omega)]
    simp only [bp, List.append_nil]
    rfl
  | nil =>
    rw [if_neg (by simp)]
    simp only [bp]
    unfold forO
    rw [p_great, bp]
    cases e2 : ofLen 2 ls with
    | cons l r =>
      have := few 2 l r e2
      rw [if_pos (by simp), at0, optM_some, bp, smallM_pure (by simp only [List.length_cons, List.length_append, List.length_map, List.length_nil]; unfold sizeLine; omega)]
      simp only [bp, List.append_nil]
      rfl
    | nil =>
      rw [if_neg (by simp)]
      simp only [bp]
      unfold forO
      simp only [bp]
      show Pz.bindM _ _ = _
      rw [if_pos (by simp; omega), p_sizes, bp, mulO_ok (.inl (by decide)), optM_some, bp, mulO_ok (.inl (by omega)), optM_some, bp, bp]
      by_cases q : n * (ls.length : Int) ≤ 2 * sizesI ls
      · rw [if_pos (by simpa using q), if_pos q]; rfl
      · rw [if_neg (by simpa using q), if_neg q, p_least, bp]
        cases e3 : minA eIR (pairsL ls) with
        | none => rw [Option.map_none, if_neg (by simp), bp, if_neg (by simp)]; rfl
        | some p =>
          rw [Option.map_some, if_pos (by rfl), p_keeps_meets (by omega) (by omega) F.fam (by decide), bp]
          show (if meetsB ls = true then _ else _) = _
          by_cases w : meetsB ls = true
          · rw [if_pos w]; show _ = pureM (dueT (if meetsB ls = true then _ else _)); rw [if_pos w]; rfl
          · rw [if_neg w]; show _ = pureM (dueT (if meetsB ls = true then _ else _)); rw [if_neg w]; rfl
end
end Lw

namespace Lw
open PySem PySem.Spec PyProof.Rows L2 Pz
theorem cut_1 {α : Type} (x : α) (xs : List α) : cutL (x :: xs) (some 1) none = xs := by rw [Pz.cut_from _ (by decide)]; rfl
theorem eq_str (s t : Str) : eqZ (eStr s) (eStr t) = some (decide (s = t)) := eqZ_str s t
def tableT (ls : List (List Int)) : Option (List Int) → List (List Int × List Int × Unit)
  | none => []
  | some A => (ls.filter fun l => decide (meet l A = [])).map fun l => (l, uni l A, ())
structure Good (n : Int) (ls : List (List Int)) (t : Tag) : Prop where
  some_in : ∃ x ∈ namedT n t, x ∈ halfL n ls
  all_in : (∃ l, t = .one l ∨ t = .meets l) → ∀ x ∈ namedT n t, x ∈ halfL n ls
  added : ∀ A, addT t = some A → A ∈ ls
theorem sizes_nat : ∀ ls : List (List Int), sizesI ls = (((ls.map List.length).sum : Nat) : Int)
  | [] => rfl
  | l :: ls => by
    have := sizes_nat ls
    simp only [sizesI, List.map_cons, List.sum_cons] at *
    rw [this]; omega
section
variable {n : Int} {ls : List (List Int)} (h1 : 1 ≤ n) (n5 : n ≤ 5) (F : Kf n ls)
include h1 n5 F
theorem in_half {x : Int} (hx : 0 ≤ x ∧ x < n) (h : ls.length ≤ 2 * inN x ls) : x ∈ halfL n ls := by
  unfold halfL
  rw [List.mem_filter, mem_irange]
  refine ⟨hx, decide_eq_true ?_⟩
  show (ls.length : Int) ≤ 2 * ((inN x ls : Nat) : Int)
  omega
theorem sort_good (h : sortP n ls ≠ .non) : Good n ls (sortP n ls) := by
  have hL := F.fam.lot
  have hN := F.fam.nodup
  unfold sortP at h ⊢
  cases e1 : ofLen 1 ls with
  | cons l r =>
    have m : l ∈ ofLen 1 ls := by rw [e1]; exact List.mem_cons_self
    obtain ⟨m1, m2⟩ := List.mem_filter.mp m
    have m2 := of_decide_eq_true m2
    obtain ⟨x, rfl⟩ : ∃ x, l = [x] := List.length_eq_one_iff.mp (by omega)
    have k := in_half h1 n5 F ((hL _ m1).2 x (by simp)) (half_one hL hN F.cl m1)
    exact ⟨⟨x, by simp [namedT], k⟩, fun _ y hy => by rw [show y = x by simpa [namedT] using hy]; exact k, fun A hA => by rw [← Option.some.inj hA]; exact m1⟩
  | nil =>
    rw [e1] at h
    cases e2 : ofLen 2 ls with
    | cons l r =>
      have m : l ∈ ofLen 2 ls := by rw [e2]; exact List.mem_cons_self
      obtain ⟨m1, m2⟩ := List.mem_filter.mp m
      have m2 := of_decide_eq_true m2
      obtain ⟨x, y, rfl⟩ : ∃ x y, l = [x, y] := by
        match l, m2 with
        | [x, y], _ => exact ⟨x, y, rfl⟩
        | [], h => simp at h
        | [x], h => simp at h
        | x :: y :: z :: r, h => simp at h; omega
      refine ⟨?_, (fun ⟨l, q⟩ => by rcases q with q | q <;> cases q), fun A hA => by rw [← Option.some.inj hA]; exact m1⟩
      rcases half_two hL hN F.cl m1 with q | q
      · exact ⟨x, by simp [namedT], in_half h1 n5 F ((hL _ m1).2 x (by simp)) q⟩
      · exact ⟨y, by simp [namedT], in_half h1 n5 F ((hL _ m1).2 y (by simp)) q⟩
    | nil =>
      rw [e2] at h
      by_cases q : n * (ls.length : Int) ≤ 2 * sizesI ls
      · show Good n ls (if n * (ls.length : Int) ≤ 2 * sizesI ls then _ else _)
        rw [if_pos q]
        refine ⟨?_, (fun ⟨l, q⟩ => by rcases q with q | q <;> cases q), fun A hA => by cases hA⟩
        obtain ⟨m, rfl⟩ : ∃ m : Nat, n = m := ⟨n.toNat, by omega⟩
        rw [sizes_nat] at q
        obtain ⟨x, x1, x2, x3⟩ := half_sizes (n := m) hL (by omega) (by rw [Nat.mul_comm]; exact_mod_cast q)
        exact ⟨x, mem_irange.mpr ⟨x1, x2⟩, in_half h1 n5 F ⟨x1, x2⟩ x3⟩
      · show Good n ls (if n * (ls.length : Int) ≤ 2 * sizesI ls then _ else _)
        replace h : (if n * (ls.length : Int) ≤ 2 * sizesI ls then Tag.sizes else match minA eIR (pairsL ls) with
          | some p => if meetsB ls = true then .meets p.2.1 else .non
          | none => .non) ≠ Tag.non := h
        rw [if_neg q] at h ⊢
        cases e3 : minA eIR (pairsL ls) with
        | none => rw [e3] at h; exact absurd rfl h
        | some p =>
          rw [e3] at h
          by_cases w : meetsB ls = true
          · show Good n ls (if meetsB ls = true then _ else _)
            rw [if_pos w]
            obtain ⟨p1, p2⟩ := minA_least e3
            obtain ⟨D, hD, rfl⟩ := List.mem_map.mp p1
            obtain ⟨d1, d2⟩ := List.mem_filter.mp hD
            have d3 : D ≠ [] := by simpa using d2
            have cl := (pairs_all meet).mp w
            have all : ∀ x ∈ D, x ∈ halfL n ls := fun x hx => in_half h1 n5 F ((hL _ d1).2 x hx) (half_apart hL hN F.cl d1 hx fun A hA hxA z hz hzD => by
              have m := cl D d1 A hA
              have ne : meet D A ≠ [] := List.ne_nil_of_mem (a := z) (List.mem_filter.mpr ⟨hzD, memB_iff.mpr hz⟩)
              have lt : (meet D A).length < D.length := List.length_filter_lt_length_iff_exists.mpr ⟨x, hx, by rw [memB_iff]; exact hxA⟩
              have := p2 (((meet D A).length : Int), meet D A, ()) (List.mem_map.mpr ⟨meet D A, List.mem_filter.mpr ⟨m, by simp [ne]⟩, rfl⟩)
              simp only at this
              omega)
            obtain ⟨x, hx⟩ := List.exists_mem_of_ne_nil _ d3
            exact ⟨⟨x, hx, all x hx⟩, fun _ => all, fun A hA => by rw [← Option.some.inj hA]; exact d1⟩
          · exact absurd (if_neg w) h
theorem p_named (h : sortP n ls ≠ .non) : m_named_points (n, ls, ()) = pureM (namedT n (sortP n ls)) := by
  unfold m_named_points
  simp only [bp, bind_ret, optM_some, Pz.bind_assoc, eD]
  rw [p_sort h1 n5 F, bp]
  cases e : sortP n ls with
  | one l =>
    rw [show dueT (.one l) = some (eStr "one" :: l.map eInt) from rfl, optM_some, bp, at0, optM_some, bp, eq_str, optM_some, bp, if_neg (by decide), bp, at0, optM_some, bp, eq_str, optM_some, bp, if_neg (by decide), bp, cut_1, mapM_ints, optM_some]; rfl
  | two l =>
    rw [show dueT (.two l) = some (eStr "two" :: l.map eInt) from rfl, optM_some, bp, at0, optM_some, bp, eq_str, optM_some, bp, if_neg (by decide), bp, at0, optM_some, bp, eq_str, optM_some, bp, if_neg (by decide), bp, cut_1, mapM_ints, optM_some]; rfl
  | sizes =>
    rw [show dueT .sizes = some [eStr "sizes"] from rfl, optM_some, bp, at0, optM_some, bp, eq_str, optM_some, bp, if_pos (by decide), rangeM_sm (by omega) (by omega) (by omega) (by omega)]; rfl
  | meets l =>
    rw [show dueT (.meets l) = some [eStr "meets", eT eInt l] from rfl, optM_some, bp, at0, optM_some, bp, eq_str, optM_some, bp, if_neg (by decide), bp, at0, optM_some, bp, eq_str, optM_some, bp, if_pos (by decide), bp, show atI [eStr "meets", eT eInt l] 1 = some (eT eInt l) from rfl, optM_some, bp, show asTup (eT eInt l) = some (l.map eInt) from rfl, optM_some, bp, mapM_ints, optM_some]; rfl
  | non => exact absurd e h
theorem p_points (h : sortP n ls ≠ .non) : m_sort_points (n, ls, ()) = pureM ((namedT n (sortP n ls)).filter fun x => memB x (halfL n ls)) := by
  unfold m_sort_points
  simp only [bp, bind_ret, optM_some, Pz.bind_assoc]
  rw [p_half (by omega) (by omega), bp, p_named h1 n5 F h, bp, compM_pureF (fun x => memB x (halfL n ls)) (fun _ _ => rfl)]
theorem p_added (h : sortP n ls ≠ .non) : m_added_lot (n, ls, ()) = pureM (addT (sortP n ls)) := by
  unfold m_added_lot
  simp only [bp, bind_ret, optM_some, Pz.bind_assoc, eD]
  rw [p_sort h1 n5 F, bp]
  have hn := p_named h1 n5 F h
  have hm : ∀ l, sortP n ls = .meets l → (minA eIR (pairsL ls)).map (fun p => p.2.1) = some l := fun l e => by
    unfold sortP at e
    split at e
    · cases e
    · split at e
      · cases e
      · split at e
        · cases e
        · split at e
          · rename_i p q
            split at e
            · rw [Tag.meets.injEq] at e; rw [q, ← e]; rfl
            · cases e
          · cases e
  cases e : sortP n ls with
  | one l =>
    rw [e] at hn
    rw [show dueT (.one l) = some (eStr "one" :: l.map eInt) from rfl, optM_some, bp, at0, optM_some, bp, eq_str, optM_some, bp, if_neg (by decide), bp, at0, optM_some, bp, eq_str, Option.map_some, optM_some, bp, if_pos (by decide), hn, bp]; rfl
  | two l =>
    rw [e] at hn
    rw [show dueT (.two l) = some (eStr "two" :: l.map eInt) from rfl, optM_some, bp, at0, optM_some, bp, eq_str, optM_some, bp, if_neg (by decide), bp, at0, optM_some, bp, eq_str, Option.map_some, optM_some, bp, if_pos (by decide), hn, bp]; rfl
  | sizes =>
    rw [show dueT .sizes = some [eStr "sizes"] from rfl, optM_some, bp, at0, optM_some, bp, eq_str, optM_some, bp, if_pos (by decide)]; rfl
  | meets l =>
    rw [show dueT (.meets l) = some [eStr "meets", eT eInt l] from rfl, optM_some, bp, at0, optM_some, bp, eq_str, optM_some, bp, if_neg (by decide), bp, at0, optM_some, bp, eq_str, Option.map_some, optM_some, bp, if_neg (by decide), p_least, hm l e]; rfl
  | non => exact absurd e h
theorem apart_eq (l A : List Int) : (!(A.map fun x => memB x l).any id) = decide (meet l A = []) := by
  rw [Bool.eq_iff_iff, decide_eq_true_iff]
  unfold meet
  rw [List.filter_eq_nil_iff]
  simp only [Bool.not_eq_true', List.any_map, List.any_eq_false, Function.comp]
  constructor
  · intro h a ha hA
    exact h a (memB_iff.mp hA) (memB_iff.mpr ha)
  · intro h a ha hl
    exact h a (memB_iff.mp hl) (memB_iff.mpr ha)
theorem p_table (h : sortP n ls ≠ .non) : m_half_table (n, ls, ()) = pureM (tableT ls (addT (sortP n ls))) := by
  have g := (sort_good h1 n5 F h).added
  unfold m_half_table
  simp only [bp, bind_ret, optM_some, Pz.bind_assoc]
  rw [p_added h1 n5 F h, bp]
  cases e : addT (sortP n ls) with
  | none => rfl
  | some A =>
    have hA := F.fam.lot A (g A e)
    rw [if_neg (by simp)]
    rw [compM_pureF (fun l => decide (meet l A = [])) (fun l hl => by rw [optM_some, bp, compM_map (fun x => memB x l) (fun _ _ => rfl), bp, apart_eq h1 n5 F]), bp]
    rw [compM_map (fun l => (l, uni l A, ())) (fun l hl => by rw [optM_some, bp, p_either (lot_small (by omega) (by omega) (F.fam.lot l (List.mem_filter.mp hl).1) hA), bp])]
    rfl
theorem table_in (h : sortP n ls ≠ .non) : ∀ p ∈ tableT ls (addT (sortP n ls)), p.2.1 ∈ ls ∧ p.1 ∈ ls := fun p hp => by
  have g := (sort_good h1 n5 F h).added
  cases e : addT (sortP n ls) with
  | none => rw [e] at hp; cases hp
  | some A =>
    rw [e] at hp
    obtain ⟨l, hl, rfl⟩ := List.mem_map.mp hp
    have := (List.mem_filter.mp hl).1
    exact ⟨F.cl l this A (g A e), this⟩
theorem table_nodup (h : sortP n ls ≠ .non) : ((tableT ls (addT (sortP n ls))).map fun p => p.2.1).Nodup := by
  have g := (sort_good h1 n5 F h).added
  cases e : addT (sortP n ls) with
  | none => exact List.nodup_nil
  | some A =>
    have hA := F.fam.lot A (g A e)
    unfold tableT
    rw [List.map_map, List.Nodup, List.pairwise_map]
    refine (F.fam.nodup.filter _).imp_of_mem fun {a b} ha hb ne q => ne ?_
    obtain ⟨a1, a2⟩ := List.mem_filter.mp ha
    obtain ⟨b1, b2⟩ := List.mem_filter.mp hb
    have sep : ∀ l : List Int, decide (meet l A = []) = true → ∀ x ∈ l, x ∉ A := fun l hl x hx hxA => by
      have := of_decide_eq_true hl
      have m : x ∈ meet l A := List.mem_filter.mpr ⟨hx, memB_iff.mpr hxA⟩
      rw [this] at m; cases m
    refine (F.fam.lot a a1).ext (F.fam.lot b b1) fun x => ?_
    have q : uni a A = uni b A := q
    have mm : x ∈ uni a A ↔ x ∈ uni b A := by rw [q]
    rw [mem_uni, mem_uni] at mm
    constructor
    · intro hx
      exact (mm.mp (.inl hx)).resolve_right (sep a a2 x hx)
    · intro hx
      exact (mm.mpr (.inl hx)).resolve_right (sep b b2 x hx)
end
end Lw

namespace Lw
open PySem PySem.Spec PyProof.Rows L2 Pz
theorem gcdW : ∀ (k : Nat) (a b : Int), 0 ≤ a → 0 ≤ b → 0 < a + b → b.toNat < k → ∃ r, whileM (fun b4 : Int × Int => pureM (decide (0 < b4.2))) (fun b4 => Pz.bindM (optM (modO b4.1 b4.2)) fun x11 => pureM (b4.2, x11)) k (a, b) = pureM (r, 0) ∧ 0 < r ∧ r ≤ a + b
  | 0, a, b, _, _, _, h => by omega
  | k + 1, a, b, ha, hb, hab, h => by
    unfold whileM
    rw [bp]
    by_cases e : b = 0
    · subst e
      refine ⟨a, ?_, by omega, by omega⟩
      rw [if_neg (by simp)]
    · rw [if_pos (by simp; omega), modO_ok e, optM_some, bp, bp]
      rw [Int.fmod_eq_emod_of_nonneg _ hb]
      have m1 := Int.emod_nonneg a e
      have m2 := Int.emod_lt_of_pos a (by omega : 0 < b)
      have m3 : a % b ≤ a := by
        by_cases q : a < b
        · rw [Int.emod_eq_of_lt ha q]; exact Int.le_refl _
        · omega
      obtain ⟨r, h1, h2, h3⟩ := gcdW k b (a % b) hb m1 (by omega) (by omega)
      exact ⟨r, h1, h2, by omega⟩
theorem p_means {p q : Int} (hp : 0 ≤ p) (hp2 : p ≤ 10000) (hq : 0 < q) (hq2 : q ≤ 10000) : ∃ u v, m_divided_low p q = pureM (u, v, ()) ∧ m__law_low p q = pureM (u, v, ()) ∧ 0 ≤ u ∧ u ≤ p ∧ 0 ≤ v ∧ v ≤ q := by
  obtain ⟨r, h1, h2, h3⟩ := gcdW (q.toNat + 2) p q hp (by omega) (by omega) (by omega)
  have d : ∀ z : Int, 0 ≤ z → 0 ≤ z.fdiv r ∧ z.fdiv r ≤ z := fun z hz => by
    rw [Int.fdiv_eq_ediv_of_nonneg _ (by omega)]
    exact ⟨Int.ediv_nonneg hz (by omega), Int.ediv_le_self _ hz⟩
  refine ⟨p.fdiv r, q.fdiv r, ?_, ?_, (d p hp).1, (d p hp).2, (d q (by omega)).1, (d q (by omega)).2⟩
  · unfold m_divided_low
    simp only [bp, bind_ret, optM_some, Pz.bind_assoc]
    erw [h1]
    rw [bp, divO_ok ⟨by show r ≠ 0; omega, by show r.natAbs < _; omega⟩, optM_some, bp, divO_ok ⟨by show r ≠ 0; omega, by show r.natAbs < _; omega⟩, optM_some, bp]
  · unfold m__law_low
    simp only [bp, bind_ret, optM_some, Pz.bind_assoc]
    rw [if_neg (by omega)]
    erw [h1]
    rw [bp, divO_ok ⟨by show r ≠ 0; omega, by show r.natAbs < _; omega⟩, optM_some, bp, divO_ok ⟨by show r ≠ 0; omega, by show r.natAbs < _; omega⟩, optM_some, bp]
theorem set_ok {xs : List Int} {k : Nat} (h : k < xs.length) (y : Int) : setO xs (k : Int) y = some (xs.set k y) := by
  unfold setO
  rw [show L2.ixN xs.length (k : Int) = some k by unfold L2.ixN; grind]
  rfl
theorem p_four (x y : Int) : ∀ (ls : List (List Int)) (b : List Int) (c : Int), b.length = 4 → (∀ z ∈ b, 0 ≤ z ∧ z ≤ c) → ∃ r, forM' (fun (b12 : List Int) (y11 : List Int) => Pz.bindM (optM (mulO 2 (if memB y y11 = true then 1 else 0))) fun a => Pz.bindM (optM (atI b12 ((if memB x y11 = true then 1 else 0) + a))) fun a_1 => optM (setO b12 ((if memB x y11 = true then 1 else 0) + a) (a_1 + 1))) ls b = pureM r ∧ r.length = 4 ∧ ∀ z ∈ r, 0 ≤ z ∧ z ≤ c + ls.length
  | [], b, c, h4, hz => ⟨b, rfl, h4, fun z h => by have := hz z h; simp; omega⟩
  | l :: ls, b, c, h4, hz => by
    have hk : ∃ k : Nat, k < 4 ∧ (if memB x l = true then (1 : Int) else 0) + 2 * (if memB y l = true then 1 else 0) = k := by
      by_cases p : memB x l = true <;> by_cases q : memB y l = true
      · exact ⟨3, by decide, by rw [if_pos p, if_pos q]; rfl⟩
      · exact ⟨1, by decide, by rw [if_pos p, if_neg q]; rfl⟩
      · exact ⟨2, by decide, by rw [if_neg p, if_pos q]; rfl⟩
      · exact ⟨0, by decide, by rw [if_neg p, if_neg q]; rfl⟩
    obtain ⟨k, k4, hk⟩ := hk
    have kb : k < b.length := by omega
    have e0 := hz b[k] (List.getElem_mem kb)
    obtain ⟨r, h1, h2, h3⟩ := p_four x y ls (b.set k (b[k] + 1)) (c + 1) (by rw [List.length_set]; exact h4) fun z h => by
      rcases List.mem_or_eq_of_mem_set h with h | h
      · have := hz z h; omega
      · omega
    refine ⟨r, ?_, h2, fun z h => by have := h3 z h; rw [List.length_cons]; omega⟩
    unfold forM'
    rw [mulO_ok (.inl (by decide)), optM_some, bp, hk, atI_nat kb, optM_some, bp, set_ok kb, optM_some, bp]
    exact h1
theorem sh_pair {l m : List Int} {n : Int} (h0 : 0 ≤ n) (h10 : n ≤ 10) (hl : Lot n l) (hm : Lot n m) : Sh 2 822 (eP (eC (eT eInt) (eC (eT eInt) eU)) (l, m, ())) := by
  have := Sg.tup (Sgs.cons (Sg.of (sh_row h0 h10 hl)) (Sgs.cons (Sg.of (sh_row h0 h10 hm)) (Sgs.nil.mono (Nat.zero_le 1) (Nat.le_refl 0))))
  obtain ⟨b1, b2, b3, b4, b5⟩ := this
  exact ⟨b1, by show PyData.hasDict (.tuple [eT eInt l, eT eInt m]) = false; simpa using b2, b3, b4, b5⟩
theorem rep_table {n : Int} (h0 : 0 ≤ n) (h10 : n ≤ 10) {ts : List (List Int × List Int × Unit)} (h : ∀ p ∈ ts, Lot n p.1 ∧ Lot n p.2.1) (hk : ts.length ≤ 300) : ∃ s, reprO (eT (eP (eC (eT eInt) (eC (eT eInt) eU))) ts) = some s :=
  ⟨_, reprO_ok ((Sh.tup 300 hk fun p hp => sh_pair h0 h10 (h p hp).1 (h p hp).2).mono (by decide) (Nat.le_refl _))⟩
theorem rep_tup {xs : List Int} (hl : xs.length ≤ 10) (h : ∀ x ∈ xs, x.natAbs < 10 ^ 12) : ∃ s, reprO (eT eInt xs) = some s :=
  ⟨_, reprO_ok ((Sh.tup 10 hl fun x hx => Sh.int (h x hx)).mono (by decide) (Nat.le_refl _))⟩
theorem rep_tups {xss : List (List Int)} (hk : xss.length ≤ 10) (hl : ∀ xs ∈ xss, xs.length ≤ 10 ∧ ∀ x ∈ xs, x.natAbs < 10 ^ 12) : ∃ s, reprO (eL (eT eInt) xss) = some s :=
  ⟨_, reprO_ok ((Sh.lst 10 hk fun xs hx => Sh.tup 10 (hl xs hx).1 fun x h => Sh.int ((hl xs hx).2 x h)).mono (by decide) (Nat.le_refl _))⟩
theorem rep_word (w : Str) (hw : w.cps.size ≤ 50) (hw2 : (w.cps.toList.all fun c => decide (c < 16 ^ 8)) = true) {ds : List PyData} (h : Sgs false 1 5000 ds) : ∃ s, reprO (eO (eT eD) (some (eStr w :: ds))) = some s := by
  have a := Sg.tup (Sgs.cons ((Sg.str (f := false) hw hw2).mono (Nat.zero_le 1) (Nat.le_refl 50)) h)
  have e : eO (eT eD) (some (eStr w :: ds)) = .tuple (eStr w :: ds) := by
    show PyData.tuple ((eStr w :: ds).map eD) = _
    rw [show (eD : PyData → PyData) = id from rfl, List.map_id]
  rw [e]
  exact ⟨_, (a.mono (by decide) (Nat.le_refl _)).rep⟩
theorem rep_due {n : Int} (h0 : 0 ≤ n) (h10 : n ≤ 10) (t : Tag) (h : ∀ l, addT t = some l → Lot n l) : ∃ s, reprO (eO (eT eD) (dueT t)) = some s := by
  have row : ∀ l, Lot n l → Sgs false 1 5000 (l.map eInt) := fun l hl => by
    have := lot_len hl h0
    have a : Sgs false 0 ((l.map eInt).length * (100 + 1)) (l.map eInt) := Sgs.all fun d hd => by
      obtain ⟨i, hi, rfl⟩ := List.mem_map.mp hd
      have := hl.2 i hi
      exact Sg.int (by omega)
    refine a.mono (Nat.zero_le 1) ?_
    rw [List.length_map]; omega
  cases t with
  | one l => exact rep_word "one" (by decide) (by decide) (row l (h l rfl))
  | two l => exact rep_word "two" (by decide) (by decide) (row l (h l rfl))
  | sizes => exact rep_word "sizes" (by decide) (by decide) (Sgs.nil.mono (Nat.zero_le 1) (Nat.zero_le _))
  | meets l => exact rep_word "meets" (by decide) (by decide) ((Sgs.cons (Sg.of (sh_row h0 h10 (h l rfl))) (Sgs.nil.mono (Nat.zero_le 1) (Nat.le_refl 0))).mono (by decide) (by decide))
  | non => exact ⟨_, reprO_ok (Sh.non.mono (by decide) (Nat.le_refl _))⟩
theorem told_meets {ls : List (List Int)} : decide (((ls.filter fun one => !decide ((ls.filter fun late => !memB (meet one late) ls) = [])).map fun _ => (1 : Int)) = []) = meetsB ls := by
  rw [Bool.eq_iff_iff, decide_eq_true_iff]
  unfold meetsB
  rw [pairs_all, List.map_eq_nil_iff, List.filter_eq_nil_iff]
  constructor
  · intro h a ha b hb
    have := h a ha
    simp only [Bool.not_eq_true', decide_eq_false_iff_not, Classical.not_not, List.filter_eq_nil_iff] at this
    have := this b hb
    exact this
  · intro h a ha
    simp only [Bool.not_eq_true', decide_eq_false_iff_not, Classical.not_not, List.filter_eq_nil_iff]
    intro b hb
    exact h a ha b hb
theorem last_sort : sortP 3 [[], [0, 1], [0, 1, 2]] = .two [0, 1] := rfl
theorem last_lot : ∀ l ∈ [[], [0, 1], [0, 1, 2]], Lot 3 l := by
  intro l hl
  simp only [List.mem_cons, List.not_mem_nil, or_false] at hl
  rcases hl with rfl | rfl | rfl <;> exact ⟨by decide, by decide⟩
theorem last_chain : ∀ a ∈ ([[], [0, 1], [0, 1, 2]] : List (List Int)), ∀ b ∈ ([[], [0, 1], [0, 1, 2]] : List (List Int)), (∀ x ∈ a, x ∈ b) ∨ (∀ x ∈ b, x ∈ a) := by decide
theorem last_kf : Kf 3 [[], [0, 1], [0, 1, 2]] where
  fam := ⟨last_lot, by decide, by decide⟩
  cl := fun a ha b hb => by
    have la := last_lot a ha
    have lb := last_lot b hb
    rcases last_chain a ha b hb with h | h
    · rw [show uni a b = b from (uni_lot la lb).ext lb fun x => by rw [mem_uni]; exact ⟨fun q => q.elim (h x) id, .inr⟩]; exact hb
    · rw [show uni a b = a from (uni_lot la lb).ext la fun x => by rw [mem_uni]; exact ⟨fun q => q.elim id (h x), .inl⟩]; exact ha
  ne := by decide
theorem last_eq : eqZ (eO (eT eD) (dueT (.two [0, 1]))) (eP (eC eStr (eC eInt (eC eInt eU))) (("two" : Str), (0 : Int), (1 : Int), ())) = some true := by decide +kernel
end Lw

namespace Lw
open PySem PySem.Spec PyProof.Rows L2 Pz
theorem p_law : Sat m_law fun r => r = true := by
  unfold m_law
  simp (config := {maxSteps := 10000000}) only [bp, bind_ret, optM_some, Pz.bind_assoc, eD]
  simp (config := {maxSteps := 10000000}) (disch := first | decide | simp) only [bp, sm100]
  rw [rangeM_sm (by omega) (by omega) (by omega) (by omega), bp]
  refine Sat.bind2 (Sat.forO (I := fun _ => True) trivial fun b y hy _ => ?_) fun o ho => ?_
  · refine Sat.bind2 (Sat.pick (by decide) fun r h1 h2 => (⟨h1, by omega⟩ : (fun r : Int => 0 ≤ r ∧ r ≤ 4) r)) fun a ha => ?_
    generalize hn : 1 + a = n
    have h1 : 1 ≤ n := by omega
    have h0 : 0 ≤ n := by omega
    have n5 : n ≤ 5 := by omega
    have h10 : n ≤ 10 := by omega
    refine Sat.bind2 (p_keptU h0 h10) fun r1 hr1 => ?_
    obtain ⟨ks, rfl, FK⟩ := hr1
    refine Sat.bind2 (Sat.pick (by decide) fun r _ _ => (trivial : (fun _ => True) r)) fun a1 _ => ?_
    refine Sat.bind2 (Q := fun r => ∃ ls, r = (n, ls, ()) ∧ Kf n ls) ?_ fun r2 hr2 => ?_
    · cases hd : decide (a1 = 0) with
      | false => rw [if_neg (by simp)]; exact .pure ⟨ks, rfl, FK⟩
      | true =>
        rw [if_pos rfl]
        obtain ⟨ms, e, k⟩ := p_meets h0 n5 FK
        rw [e]; exact .pure ⟨ms, rfl, k⟩
    obtain ⟨ls, rfl, F⟩ := hr2
    have hL := F.fam.lot
    have hlen := F.fam.len
    have hpos : 0 < ls.length := List.length_pos_iff.mpr F.ne
    have hs := sizes_small h1 n5 F
    have hci : ∀ x, 0 ≤ cnt ls x ∧ cnt ls x ≤ 300 := fun x => by have := cnt_le ls x; omega
    simp only []
    rw [rep_fam h0 h10 hL hlen, optM_some, bp]
    rw [rangeM_sm (by omega) (by omega) (by omega) (by omega), bp, compM_map (cnt ls) (fun x _ => by rw [compM_pureF (fun l => memB x l) (fun _ _ => rfl), bp]; rfl), bp]
    rw [compM_pureF (fun l : List Int => decide ((l.length : Int) = 1)) (fun _ _ => rfl), bp, compM_pureF (fun l : List Int => decide ((l.length : Int) = 2)) (fun _ _ => rfl), bp, p_pairs, bp]
    rw [compM_pure (fun one => !decide ((ls.filter fun late => !memB (meet one late) ls) = [])) (fun _ => (1 : Int)) (fun one _ => by
      rw [compM_pureF (fun late => !memB (meet one late) ls) (fun late _ => by rw [p_common, bp]), bp]) (fun _ _ _ => rfl), bp]
    refine Sat.bind2 (Q := fun r => r = (dueT (sortP n ls), namedT n (sortP n ls), addT (sortP n ls))) ?_ fun r hr => ?_
    · rw [show ls.filter (fun l : List Int => decide ((l.length : Int) = 1)) = ofLen 1 ls from rfl, show ls.filter (fun l : List Int => decide ((l.length : Int) = 2)) = ofLen 2 ls from rfl]
      have few : ∀ k l r, ofLen k ls = l :: r → l.length ≤ 5 := fun k l r e => by
        have : l ∈ ofLen k ls := by rw [e]; exact List.mem_cons_self
        have := lot_len (hL l (List.mem_filter.mp this).1) h0
        omega
      unfold sortP
      cases e1 : ofLen 1 ls with
      | cons l r =>
        have := few 1 l r e1
        rw [if_pos (by simp), at0, optM_some, bp, catO_ok (by simp only [List.length_cons, List.length_map, List.length_nil]; unfold sizeLine; omega), optM_some, bp, bp, bp]
        exact .pure rfl
      | nil =>
        rw [if_neg (by simp)]
        cases e2 : ofLen 2 ls with
        | cons l r =>
          have := few 2 l r e2
          rw [if_pos (by simp), at0, optM_some, bp, catO_ok (by simp only [List.length_cons, List.length_map, List.length_nil]; unfold sizeLine; omega), optM_some, bp, bp, bp]
          exact .pure rfl
        | nil =>
          rw [if_neg (by simp), mulO_ok (.inl (by decide)), optM_some, bp, mulO_ok (.inl (by omega)), optM_some, bp, ← sizes_counts hL, told_meets]
          show Sat _ fun r => r = (dueT (if n * (ls.length : Int) ≤ 2 * sizesI ls then _ else _), _)
          rw [Int.mul_comm (ls.length : Int) n]
          by_cases q : n * (ls.length : Int) ≤ 2 * sizesI ls
          · rw [if_pos (by simpa using q), bp]
            refine .pure ?_
            rw [if_pos q]; rfl
          · rw [if_neg (by simpa using q)]
            rw [if_neg q]
            cases w : meetsB ls with
            | false =>
              rw [if_neg (by simp), bp, if_neg (by simp)]
              refine .pure ?_
              cases minA eIR (pairsL ls) <;> rfl
            | true =>
              rw [if_pos rfl, bp]
              by_cases z : pairsL ls = []
              · rw [if_neg (by simp [z])]
                refine .pure ?_
                rw [z]; rfl
              · obtain ⟨p, hp⟩ := minA_some z
                rw [if_pos (by simp [z])]
                erw [hp]
                rw [optM_some, bp, bp, bp]
                exact .pure rfl
    subst hr
    simp only []
    have addL : ∀ l, addT (sortP n ls) = some l → Lot n l := fun l hl => by
      by_cases z : sortP n ls = .non
      · rw [z] at hl; cases hl
      · exact hL l ((sort_good h1 n5 F z).added l hl)
    obtain ⟨sd, hsd⟩ := rep_due h0 h10 (sortP n ls) addL
    rw [p_sort h1 n5 F, bp, hsd, optM_some, bp, bp, if_neg (by simp)]
    rw [bp, compM_pureF (fun i => decide ((ls.length : Int) ≤ 2 * cnt ls i)) (fun i hi => by
      rw [mem_irange] at hi
      rw [at_map_irange (cnt ls) hi.1 hi.2, optM_some, bp, mulO_ok (.inl (by decide)), optM_some, bp]), bp]
    rw [show (irange 0 n).filter (fun i => decide ((ls.length : Int) ≤ 2 * cnt ls i)) = halfL n ls from rfl]
    have hhalf : Lot n (halfL n ls) := lot_irange.sub List.filter_sublist
    refine Sat.bind2 (Q := fun o => o = Out.nx ()) ?_ fun o ho => ?_
    · cases z : (dueT (sortP n ls)).isSome with
      | false => rw [if_neg (by simp)]; exact .pure rfl
      | true =>
        have hz : sortP n ls ≠ .non := fun w => by rw [w] at z; cases z
        have G := sort_good h1 n5 F hz
        have hnamed : Lot n (namedT n (sortP n ls)) := by
          cases e : sortP n ls with
          | one l => exact addL l (by rw [e]; rfl)
          | two l => exact addL l (by rw [e]; rfl)
          | sizes => exact lot_irange
          | meets l => exact addL l (by rw [e]; rfl)
          | non => exact absurd e hz
        have hpts : Lot n ((namedT n (sortP n ls)).filter fun x => memB x (halfL n ls)) := hnamed.sub List.filter_sublist
        rw [if_pos rfl, compM_pureF (fun x => memB x (halfL n ls)) (fun _ _ => rfl), bp]
        have hne : (namedT n (sortP n ls)).filter (fun x => memB x (halfL n ls)) ≠ [] := by
          obtain ⟨x, x1, x2⟩ := G.some_in
          exact List.ne_nil_of_mem (List.mem_filter.mpr ⟨x1, memB_iff.mpr x2⟩)
        rw [if_neg (by simpa using hne), p_points h1 n5 F hz, bp, rep_row h0 h10 hpts, optM_some, bp, bp, bp, if_neg (by simp)]
        obtain ⟨w, ds, hw, hin⟩ : ∃ w ds, dueT (sortP n ls) = some (w :: ds) ∧ ∃ b, inZ w (eT eStr ["one", "meets"]) = some b ∧ (b = true → ∃ l, sortP n ls = .one l ∨ sortP n ls = .meets l) := by
          cases e : sortP n ls with
          | one l => exact ⟨_, _, rfl, true, by decide +kernel, fun _ => ⟨l, .inl rfl⟩⟩
          | two l => exact ⟨_, _, rfl, false, by decide +kernel, fun h => by cases h⟩
          | sizes => exact ⟨_, _, rfl, false, by decide +kernel, fun h => by cases h⟩
          | meets l => exact ⟨_, _, rfl, true, by decide +kernel, fun _ => ⟨l, .inr rfl⟩⟩
          | non => exact absurd e hz
        obtain ⟨bb, hb1, hb2⟩ := hin
        rw [hw, optM_some, bp, at0, optM_some, bp, hb1, optM_some, bp]
        have hall : bb = true → (namedT n (sortP n ls)).filter (fun x => memB x (halfL n ls)) = namedT n (sortP n ls) := fun h =>
          List.filter_eq_self.mpr fun x hx => memB_iff.mpr (G.all_in (hb2 h) x hx)
        have skip : (if bb = true then pureM (!decide ((namedT n (sortP n ls)).filter (fun x => memB x (halfL n ls)) = namedT n (sortP n ls))) else pureM false : M Bool) = pureM false := by
          cases hb : bb with
          | false => rfl
          | true => rw [if_pos rfl, hall hb]; simp
        erw [skip]
        rw [bp, if_neg (by simp)]
        have tin := table_in h1 n5 F hz
        refine Sat.bind2 (Q := fun r => (match addT (sortP n ls) with | none => [] | some A => ls.filter fun l => decide (meet l A = [])) = r) ?_ fun r hr => ?_
        · cases e : addT (sortP n ls) with
          | none => rw [show (none : Option (List Int)).isNone = true from rfl, if_pos rfl]; exact .pure rfl
          | some A =>
            rw [if_neg (by simp), compM_pureF (fun l => decide (meet l A = [])) (fun l _ => by rw [optM_some, bp, p_common, bp])]
            exact .pure rfl
        refine Sat.bind2 (Q := fun t => t = tableT ls (addT (sortP n ls))) ?_ fun t ht => ?_
        · subst hr
          cases e : addT (sortP n ls) with
          | none => exact .pure rfl
          | some A =>
            rw [compM_map (fun l => (l, uni l A, ())) (fun l hl => by rw [optM_some, bp, p_union h0 h10 (hL l (List.mem_filter.mp hl).1) (addL A e), bp])]
            exact .pure rfl
        subst ht
        have tl : (tableT ls (addT (sortP n ls))).length ≤ 300 := by
          cases e : addT (sortP n ls) with
          | none => simp [tableT]
          | some A =>
            have := List.length_filter_le (fun l => decide (meet l A = [])) ls
            unfold tableT
            rw [List.length_map]; omega
        obtain ⟨st, hst⟩ := rep_table h0 h10 (ts := tableT ls (addT (sortP n ls))) (fun p hp => ⟨hL _ (tin p hp).2, hL _ (tin p hp).1⟩) tl
        rw [p_table h1 n5 F hz, bp, hst, optM_some, bp, bp, if_neg (by simp)]
        rw [compM_pureF (fun p : List Int × List Int × Unit => !memB p.2.1 ls) (fun _ _ => rfl), bp]
        have no : (tableT ls (addT (sortP n ls))).filter (fun p : List Int × List Int × Unit => !memB p.2.1 ls) = [] := List.filter_eq_nil_iff.mpr fun p hp h => by
          rw [memB_iff.mpr (tin p hp).1] at h; cases h
        rw [no, bp, if_neg (by simp), compM_map (fun p : List Int × List Int × Unit => (p.2.1, (0 : Int), ())) (fun _ _ => rfl), bp]
        have nd := table_nodup h1 n5 F hz
        have e := Pz.merge_ones nd (0 : Int)
        rw [List.map_map] at e
        erw [e]
        rw [if_neg (by rw [List.length_map]; simp)]
        exact .pure rfl
    subst ho
    unfold caseO
    simp only []
    refine Sat.bind2 (Sat.pick (by omega) fun r _ _ => (trivial : (fun _ => True) r)) fun x _ => ?_
    refine Sat.bind2 (Sat.pick (by omega) fun r _ _ => (trivial : (fun _ => True) r)) fun y _ => ?_
    obtain ⟨fs, f1, f2, f3⟩ := p_four x y ls [0, 0, 0, 0] 0 rfl (by simp)
    obtain ⟨sf, hsf⟩ := rep_tup (xs := fs) (by omega) fun z hz => by have := f3 z hz; omega
    rw [f1, bp]
    have hfour : m_four_counts (n, ls, ()) x y = pureM fs := by
      unfold m_four_counts
      simp only [bp, bind_ret, optM_some, Pz.bind_assoc]
      simp (disch := first | decide | simp) only [bp, sm100]
      exact f1
    rw [hfour, bp, hsf, optM_some, bp, bp, if_neg (by simp), p_half h0 h10, bp, rep_row h0 h10 hhalf, optM_some, bp, bp, bp, if_neg (by simp)]
    obtain ⟨u, v, m1, m2, u0, u1, v0, v1⟩ := p_means (p := sizesI ls) (q := (ls.length : Int)) hs.1 (by omega) (by omega) (by omega)
    have hdeg : m_point_degrees (n, ls, ()) = pureM ((irange 0 n).map (cnt ls)) := by
      unfold m_point_degrees
      simp only [bp, bind_ret, optM_some, Pz.bind_assoc]
      rw [rangeM_sm (by omega) (by omega) (by omega) (by omega), bp, compM_map (cnt ls) (fun x _ => p_lots_at n ls x)]
    have hmean : m_mean_size (n, ls, ()) = pureM (u, v, ()) := by
      unfold m_mean_size
      simp only [bp, bind_ret, optM_some, Pz.bind_assoc]
      rw [p_sizes, bp, m1]
    obtain ⟨sl, hsl⟩ := rep_tups (xss := [(irange 0 n).map (cnt ls), [u, v]]) (by simp) fun xs hx => by
      rcases List.mem_cons.mp hx with rfl | hx
      · refine ⟨by rw [List.length_map, length_irange]; omega, fun z hz => ?_⟩
        obtain ⟨w, _, rfl⟩ := List.mem_map.mp hz
        have := hci w; omega
      · rw [List.mem_singleton.mp hx]
        refine ⟨by simp, fun z hz => ?_⟩
        rcases List.mem_cons.mp hz with rfl | hz
        · omega
        · rw [List.mem_singleton.mp hz]; omega
    rw [hdeg, bp, hmean, bp, sm100 (by simp), bp, hsl, optM_some, bp, ← sizes_counts hL, m2, bp, sm100 (by simp), bp, hsl, optM_some, bp, if_neg (by simp)]
    rw [bp, if_neg (by simp)]
    exact .pure ⟨(), rfl, trivial⟩
  · obtain ⟨b2, rfl, _⟩ := ho
    unfold caseO
    simp only []
    rw [p_sort (by decide) (by decide) last_kf, bp, last_sort, last_eq, optM_some]
    exact .pure rfl
end Lw

namespace Lw
open PySem PySem.Spec PyProof.Rows L2 Pz
theorem all_mk {l : PySem.W.OpenLaw} {w : World} {K : PySem.W.Frag} {h : Heap} {mg : Str → Option Value} {fa f1 f2 f3 f4 f5 f6 f7 f8 f9 f10 f11 f12 f13 f14 f15 f16 f17 f18 f19 f20 f21 f22 f23 f24 f25 : Addr} (X : K.In h) (G : h.Ns mainGlobals mg) (hfa : mg "law" = some (.ref fa))
    {od1 an1 od2 an2 od3 an3 od4 an4 od5 an5 od6 an6 od7 an7 od8 an8 od9 an9 od10 an10 od11 an11 od12 an12 od13 an13 od14 an14 od15 an15 od16 an16 od17 an17 od18 an18 od19 an19 od20 an20 od21 an21 od22 an22 od23 an23 od24 an24 od25 an25 : Option Addr} {sl1 sl2 sl3 sl4 sl5 sl6 sl7 sl8 sl9 sl10 sl11 sl12 sl13 sl14 sl15 sl16 sl17 sl18 sl19 sl20 sl21 sl22 sl23 sl24 sl25 : Array (Option Value)} {oc1 kV1 dc1 pm1 cd1 ct1 oc2 kV2 dc2 pm2 cd2 ct2 oc3 kV3 dc3 pm3 cd3 ct3 oc4 kV4 dc4 pm4 cd4 ct4 oc5 kV5 dc5 pm5 cd5 ct5 oc6 kV6 dc6 pm6 cd6 ct6 oc7 kV7 dc7 pm7 cd7 ct7 oc8 kV8 dc8 pm8 cd8 ct8 oc9 kV9 dc9 pm9 cd9 ct9 oc10 kV10 dc10 pm10 cd10 ct10 oc11 kV11 dc11 pm11 cd11 ct11 oc12 kV12 dc12 pm12 cd12 ct12 oc13 kV13 dc13 pm13 cd13 ct13 oc14 kV14 dc14 pm14 cd14 ct14 oc15 kV15 dc15 pm15 cd15 ct15 oc16 kV16 dc16 pm16 cd16 ct16 oc17 kV17 dc17 pm17 cd17 ct17 oc18 kV18 dc18 pm18 cd18 ct18 oc19 kV19 dc19 pm19 cd19 ct19 oc20 kV20 dc20 pm20 cd20 ct20 oc21 kV21 dc21 pm21 cd21 ct21 oc22 kV22 dc22 pm22 cd22 ct22 oc23 kV23 dc23 pm23 cd23 ct23 oc24 kV24 dc24 pm24 cd24 ct24 oc25 kV25 dc25 pm25 cd25 ct25 : Value}
    (a1 : PySem.W.nsIn K mainGlobals "_law_open_cells" = some (some (.ref f1))) (l1 : K.lookup f1 = some ⟨oc1, od1, .func (PySem.W.fnOf "_law_open_cells" "_law_open_cells" (defArgs sSource) (defBody sSource) (defScope sSource) .none kV1 dc1 pm1 an1 cd1 ct1), sl1⟩) (c1 : PySem.W.codeIn K cd1 "_law_open_cells" = true) (k1 : PySem.W.keepIn K (.ref f1) = true)
    (a2 : PySem.W.nsIn K mainGlobals "_law_pick" = some (some (.ref f2))) (l2 : K.lookup f2 = some ⟨oc2, od2, .func (PySem.W.fnOf "_law_pick" "_law_pick" (defArgs sPick) (defBody sPick) (defScope sPick) .none kV2 dc2 pm2 an2 cd2 ct2), sl2⟩) (c2 : PySem.W.codeIn K cd2 "_law_pick" = true) (k2 : PySem.W.keepIn K (.ref f2) = true)
    (a3 : PySem.W.nsIn K mainGlobals "in_both" = some (some (.ref f3))) (l3 : K.lookup f3 = some ⟨oc3, od3, .func (PySem.W.fnOf "in_both" "in_both" (defArgs s_in_both) (defBody s_in_both) (defScope s_in_both) .none kV3 dc3 pm3 an3 cd3 ct3), sl3⟩) (c3 : PySem.W.codeIn K cd3 "in_both" = true) (k3 : PySem.W.keepIn K (.ref f3) = true)
    (a4 : PySem.W.nsIn K mainGlobals "in_either" = some (some (.ref f4))) (l4 : K.lookup f4 = some ⟨oc4, od4, .func (PySem.W.fnOf "in_either" "in_either" (defArgs s_in_either) (defBody s_in_either) (defScope s_in_either) .none kV4 dc4 pm4 an4 cd4 ct4), sl4⟩) (c4 : PySem.W.codeIn K cd4 "in_either" = true) (k4 : PySem.W.keepIn K (.ref f4) = true)
    (a5 : PySem.W.nsIn K mainGlobals "keeps_meets" = some (some (.ref f5))) (l5 : K.lookup f5 = some ⟨oc5, od5, .func (PySem.W.fnOf "keeps_meets" "keeps_meets" (defArgs s_keeps_meets) (defBody s_keeps_meets) (defScope s_keeps_meets) .none kV5 dc5 pm5 an5 cd5 ct5), sl5⟩) (c5 : PySem.W.codeIn K cd5 "keeps_meets" = true) (k5 : PySem.W.keepIn K (.ref f5) = true)
    (a6 : PySem.W.nsIn K mainGlobals "lots_at" = some (some (.ref f6))) (l6 : K.lookup f6 = some ⟨oc6, od6, .func (PySem.W.fnOf "lots_at" "lots_at" (defArgs s_lots_at) (defBody s_lots_at) (defScope s_lots_at) .none kV6 dc6 pm6 an6 cd6 ct6), sl6⟩) (c6 : PySem.W.codeIn K cd6 "lots_at" = true) (k6 : PySem.W.keepIn K (.ref f6) = true)
    (a7 : PySem.W.nsIn K mainGlobals "points_in_half" = some (some (.ref f7))) (l7 : K.lookup f7 = some ⟨oc7, od7, .func (PySem.W.fnOf "points_in_half" "points_in_half" (defArgs s_points_in_half) (defBody s_points_in_half) (defScope s_points_in_half) .none kV7 dc7 pm7 an7 cd7 ct7), sl7⟩) (c7 : PySem.W.codeIn K cd7 "points_in_half" = true) (k7 : PySem.W.keepIn K (.ref f7) = true)
    (a8 : PySem.W.nsIn K mainGlobals "sizes_added" = some (some (.ref f8))) (l8 : K.lookup f8 = some ⟨oc8, od8, .func (PySem.W.fnOf "sizes_added" "sizes_added" (defArgs s_sizes_added) (defBody s_sizes_added) (defScope s_sizes_added) .none kV8 dc8 pm8 an8 cd8 ct8), sl8⟩) (c8 : PySem.W.codeIn K cd8 "sizes_added" = true) (k8 : PySem.W.keepIn K (.ref f8) = true)
    (a9 : PySem.W.nsIn K mainGlobals "lots_so_great" = some (some (.ref f9))) (l9 : K.lookup f9 = some ⟨oc9, od9, .func (PySem.W.fnOf "lots_so_great" "lots_so_great" (defArgs s_lots_so_great) (defBody s_lots_so_great) (defScope s_lots_so_great) .none kV9 dc9 pm9 an9 cd9 ct9), sl9⟩) (c9 : PySem.W.codeIn K cd9 "lots_so_great" = true) (k9 : PySem.W.keepIn K (.ref f9) = true)
    (a10 : PySem.W.nsIn K mainGlobals "least_but_none" = some (some (.ref f10))) (l10 : K.lookup f10 = some ⟨oc10, od10, .func (PySem.W.fnOf "least_but_none" "least_but_none" (defArgs s_least_but_none) (defBody s_least_but_none) (defScope s_least_but_none) .none kV10 dc10 pm10 an10 cd10 ct10), sl10⟩) (c10 : PySem.W.codeIn K cd10 "least_but_none" = true) (k10 : PySem.W.keepIn K (.ref f10) = true)
    (a11 : PySem.W.nsIn K mainGlobals "half_sort" = some (some (.ref f11))) (l11 : K.lookup f11 = some ⟨oc11, od11, .func (PySem.W.fnOf "half_sort" "half_sort" (defArgs s_half_sort) (defBody s_half_sort) (defScope s_half_sort) .none kV11 dc11 pm11 an11 cd11 ct11), sl11⟩) (c11 : PySem.W.codeIn K cd11 "half_sort" = true) (k11 : PySem.W.keepIn K (.ref f11) = true)
    (a12 : PySem.W.nsIn K mainGlobals "named_points" = some (some (.ref f12))) (l12 : K.lookup f12 = some ⟨oc12, od12, .func (PySem.W.fnOf "named_points" "named_points" (defArgs s_named_points) (defBody s_named_points) (defScope s_named_points) .none kV12 dc12 pm12 an12 cd12 ct12), sl12⟩) (c12 : PySem.W.codeIn K cd12 "named_points" = true) (k12 : PySem.W.keepIn K (.ref f12) = true)
    (a13 : PySem.W.nsIn K mainGlobals "sort_points" = some (some (.ref f13))) (l13 : K.lookup f13 = some ⟨oc13, od13, .func (PySem.W.fnOf "sort_points" "sort_points" (defArgs s_sort_points) (defBody s_sort_points) (defScope s_sort_points) .none kV13 dc13 pm13 an13 cd13 ct13), sl13⟩) (c13 : PySem.W.codeIn K cd13 "sort_points" = true) (k13 : PySem.W.keepIn K (.ref f13) = true)
    (a14 : PySem.W.nsIn K mainGlobals "divided_low" = some (some (.ref f14))) (l14 : K.lookup f14 = some ⟨oc14, od14, .func (PySem.W.fnOf "divided_low" "divided_low" (defArgs s_divided_low) (defBody s_divided_low) (defScope s_divided_low) .none kV14 dc14 pm14 an14 cd14 ct14), sl14⟩) (c14 : PySem.W.codeIn K cd14 "divided_low" = true) (k14 : PySem.W.keepIn K (.ref f14) = true)
    (a15 : PySem.W.nsIn K mainGlobals "four_counts" = some (some (.ref f15))) (l15 : K.lookup f15 = some ⟨oc15, od15, .func (PySem.W.fnOf "four_counts" "four_counts" (defArgs s_four_counts) (defBody s_four_counts) (defScope s_four_counts) .none kV15 dc15 pm15 an15 cd15 ct15), sl15⟩) (c15 : PySem.W.codeIn K cd15 "four_counts" = true) (k15 : PySem.W.keepIn K (.ref f15) = true)
    (a16 : PySem.W.nsIn K mainGlobals "added_lot" = some (some (.ref f16))) (l16 : K.lookup f16 = some ⟨oc16, od16, .func (PySem.W.fnOf "added_lot" "added_lot" (defArgs s_added_lot) (defBody s_added_lot) (defScope s_added_lot) .none kV16 dc16 pm16 an16 cd16 ct16), sl16⟩) (c16 : PySem.W.codeIn K cd16 "added_lot" = true) (k16 : PySem.W.keepIn K (.ref f16) = true)
    (a17 : PySem.W.nsIn K mainGlobals "half_table" = some (some (.ref f17))) (l17 : K.lookup f17 = some ⟨oc17, od17, .func (PySem.W.fnOf "half_table" "half_table" (defArgs s_half_table) (defBody s_half_table) (defScope s_half_table) .none kV17 dc17 pm17 an17 cd17 ct17), sl17⟩) (c17 : PySem.W.codeIn K cd17 "half_table" = true) (k17 : PySem.W.keepIn K (.ref f17) = true)
    (a18 : PySem.W.nsIn K mainGlobals "point_degrees" = some (some (.ref f18))) (l18 : K.lookup f18 = some ⟨oc18, od18, .func (PySem.W.fnOf "point_degrees" "point_degrees" (defArgs s_point_degrees) (defBody s_point_degrees) (defScope s_point_degrees) .none kV18 dc18 pm18 an18 cd18 ct18), sl18⟩) (c18 : PySem.W.codeIn K cd18 "point_degrees" = true) (k18 : PySem.W.keepIn K (.ref f18) = true)
    (a19 : PySem.W.nsIn K mainGlobals "mean_size" = some (some (.ref f19))) (l19 : K.lookup f19 = some ⟨oc19, od19, .func (PySem.W.fnOf "mean_size" "mean_size" (defArgs s_mean_size) (defBody s_mean_size) (defScope s_mean_size) .none kV19 dc19 pm19 an19 cd19 ct19), sl19⟩) (c19 : PySem.W.codeIn K cd19 "mean_size" = true) (k19 : PySem.W.keepIn K (.ref f19) = true)
    (a20 : PySem.W.nsIn K mainGlobals "_law_common" = some (some (.ref f20))) (l20 : K.lookup f20 = some ⟨oc20, od20, .func (PySem.W.fnOf "_law_common" "_law_common" (defArgs s__law_common) (defBody s__law_common) (defScope s__law_common) .none kV20 dc20 pm20 an20 cd20 ct20), sl20⟩) (c20 : PySem.W.codeIn K cd20 "_law_common" = true) (k20 : PySem.W.keepIn K (.ref f20) = true)
    (a21 : PySem.W.nsIn K mainGlobals "_law_union" = some (some (.ref f21))) (l21 : K.lookup f21 = some ⟨oc21, od21, .func (PySem.W.fnOf "_law_union" "_law_union" (defArgs s__law_union) (defBody s__law_union) (defScope s__law_union) .none kV21 dc21 pm21 an21 cd21 ct21), sl21⟩) (c21 : PySem.W.codeIn K cd21 "_law_union" = true) (k21 : PySem.W.keepIn K (.ref f21) = true)
    (a22 : PySem.W.nsIn K mainGlobals "_law_low" = some (some (.ref f22))) (l22 : K.lookup f22 = some ⟨oc22, od22, .func (PySem.W.fnOf "_law_low" "_law_low" (defArgs s__law_low) (defBody s__law_low) (defScope s__law_low) .none kV22 dc22 pm22 an22 cd22 ct22), sl22⟩) (c22 : PySem.W.codeIn K cd22 "_law_low" = true) (k22 : PySem.W.keepIn K (.ref f22) = true)
    (a23 : PySem.W.nsIn K mainGlobals "_law_kept" = some (some (.ref f23))) (l23 : K.lookup f23 = some ⟨oc23, od23, .func (PySem.W.fnOf "_law_kept" "_law_kept" (defArgs s__law_kept) (defBody s__law_kept) (defScope s__law_kept) .none kV23 dc23 pm23 an23 cd23 ct23), sl23⟩) (c23 : PySem.W.codeIn K cd23 "_law_kept" = true) (k23 : PySem.W.keepIn K (.ref f23) = true)
    (a24 : PySem.W.nsIn K mainGlobals "_law_meets" = some (some (.ref f24))) (l24 : K.lookup f24 = some ⟨oc24, od24, .func (PySem.W.fnOf "_law_meets" "_law_meets" (defArgs s__law_meets) (defBody s__law_meets) (defScope s__law_meets) .none kV24 dc24 pm24 an24 cd24 ct24), sl24⟩) (c24 : PySem.W.codeIn K cd24 "_law_meets" = true) (k24 : PySem.W.keepIn K (.ref f24) = true)
    (a25 : PySem.W.nsIn K mainGlobals "law" = some (some (.ref f25))) (l25 : K.lookup f25 = some ⟨oc25, od25, .func (PySem.W.fnOf "law" "law" (defArgs s_law) (defBody s_law) (defScope s_law) .none kV25 dc25 pm25 an25 cd25 ct25), sl25⟩) (c25 : PySem.W.codeIn K cd25 "law" = true) (k25 : PySem.W.keepIn K (.ref f25) = true)
    (z_len : PySem.W.nsIn K mainGlobals "len" = some none) (z_int : PySem.W.nsIn K mainGlobals "int" = some none) (z_abs : PySem.W.nsIn K mainGlobals "abs" = some none) (z_range : PySem.W.nsIn K mainGlobals "range" = some none) (z_sorted : PySem.W.nsIn K mainGlobals "sorted" = some none) (z_sum : PySem.W.nsIn K mainGlobals "sum" = some none) (z_all : PySem.W.nsIn K mainGlobals "all" = some none) (z_any : PySem.W.nsIn K mainGlobals "any" = some none) (z_tuple : PySem.W.nsIn K mainGlobals "tuple" = some none) (z_list : PySem.W.nsIn K mainGlobals "list" = some none) (z_max : PySem.W.nsIn K mainGlobals "max" = some none) (z_min : PySem.W.nsIn K mainGlobals "min" = some none) (z_repr : PySem.W.nsIn K mainGlobals "repr" = some none) (z_enumerate : PySem.W.nsIn K mainGlobals "enumerate" = some none) (z_zip : PySem.W.nsIn K mainGlobals "zip" = some none) (z_isinstance : PySem.W.nsIn K mainGlobals "isinstance" = some none) (z_bool : PySem.W.nsIn K mainGlobals "bool" = some none) (z_str : PySem.W.nsIn K mainGlobals "str" = some none) (z_dict : PySem.W.nsIn K mainGlobals "dict" = some none) :
    ∃ fd : FuncData, (∀ (s : Shared) (v : Value), BindsTo s fd ⟨[v], []⟩ [("script", v)]) ∧ ∀ base : Heap, K.In base → base.Ns mainGlobals mg → FnG l.prog w K mg base 7 fa fd ["script"] (SpLaw K) := by
  have e := hfa.symm.trans (PySem.W.mg_of X G a25)
  cases e
  have B : Bl mg := ⟨PySem.W.mg_none_of X G z_len, PySem.W.mg_none_of X G z_int, PySem.W.mg_none_of X G z_abs, PySem.W.mg_none_of X G z_range, PySem.W.mg_none_of X G z_sorted, PySem.W.mg_none_of X G z_sum, PySem.W.mg_none_of X G z_all, PySem.W.mg_none_of X G z_any, PySem.W.mg_none_of X G z_tuple, PySem.W.mg_none_of X G z_list, PySem.W.mg_none_of X G z_max, PySem.W.mg_none_of X G z_min, PySem.W.mg_none_of X G z_repr, PySem.W.mg_none_of X G z_enumerate, PySem.W.mg_none_of X G z_zip, PySem.W.mg_none_of X G z_isinstance, PySem.W.mg_none_of X G z_bool, PySem.W.mg_none_of X G z_str, PySem.W.mg_none_of X G z_dict⟩
  have F1 := fun_mk (st := sSource) l1 c1 k1
  have b1 := F1.binds (ps := ["script"]) fun _ _ _ _ _ _ us hl => match us, hl with | [_], _ => rfl
  have C1 : Cal K mg "_law_open_cells" f1 _ ["script"] := ⟨PySem.W.mg_of X G a1, k1, b1⟩
  have F2 := fun_mk (st := sPick) l2 c2 k2
  have b2 := F2.binds (ps := ["source", "most"]) fun _ _ _ _ _ _ us hl => match us, hl with | [_, _], _ => rfl
  have C2 : Cal K mg "_law_pick" f2 _ ["source", "most"] := ⟨PySem.W.mg_of X G a2, k2, b2⟩
  have F3 := fun_mk (st := s_in_both) l3 c3 k3
  have b3 := F3.binds (ps := ["one", "other"]) fun _ _ _ _ _ _ us hl => match us, hl with | [_, _], _ => rfl
  have C3 : Cal K mg "in_both" f3 _ ["one", "other"] := ⟨PySem.W.mg_of X G a3, k3, b3⟩
  have F4 := fun_mk (st := s_in_either) l4 c4 k4
  have b4 := F4.binds (ps := ["one", "other"]) fun _ _ _ _ _ _ us hl => match us, hl with | [_, _], _ => rfl
  have C4 : Cal K mg "in_either" f4 _ ["one", "other"] := ⟨PySem.W.mg_of X G a4, k4, b4⟩
  have F5 := fun_mk (st := s_keeps_meets) l5 c5 k5
  have b5 := F5.binds (ps := ["family"]) fun _ _ _ _ _ _ us hl => match us, hl with | [_], _ => rfl
  have C5 : Cal K mg "keeps_meets" f5 _ ["family"] := ⟨PySem.W.mg_of X G a5, k5, b5⟩
  have F6 := fun_mk (st := s_lots_at) l6 c6 k6
  have b6 := F6.binds (ps := ["family", "i"]) fun _ _ _ _ _ _ us hl => match us, hl with | [_, _], _ => rfl
  have C6 : Cal K mg "lots_at" f6 _ ["family", "i"] := ⟨PySem.W.mg_of X G a6, k6, b6⟩
  have F7 := fun_mk (st := s_points_in_half) l7 c7 k7
  have b7 := F7.binds (ps := ["family"]) fun _ _ _ _ _ _ us hl => match us, hl with | [_], _ => rfl
  have C7 : Cal K mg "points_in_half" f7 _ ["family"] := ⟨PySem.W.mg_of X G a7, k7, b7⟩
  have F8 := fun_mk (st := s_sizes_added) l8 c8 k8
  have b8 := F8.binds (ps := ["family"]) fun _ _ _ _ _ _ us hl => match us, hl with | [_], _ => rfl
  have C8 : Cal K mg "sizes_added" f8 _ ["family"] := ⟨PySem.W.mg_of X G a8, k8, b8⟩
  have F9 := fun_mk (st := s_lots_so_great) l9 c9 k9
  have b9 := F9.binds (ps := ["family", "k"]) fun _ _ _ _ _ _ us hl => match us, hl with | [_, _], _ => rfl
  have C9 : Cal K mg "lots_so_great" f9 _ ["family", "k"] := ⟨PySem.W.mg_of X G a9, k9, b9⟩
  have F10 := fun_mk (st := s_least_but_none) l10 c10 k10
  have b10 := F10.binds (ps := ["family"]) fun _ _ _ _ _ _ us hl => match us, hl with | [_], _ => rfl
  have C10 : Cal K mg "least_but_none" f10 _ ["family"] := ⟨PySem.W.mg_of X G a10, k10, b10⟩
  have F11 := fun_mk (st := s_half_sort) l11 c11 k11
  have b11 := F11.binds (ps := ["kept"]) fun _ _ _ _ _ _ us hl => match us, hl with | [_], _ => rfl
  have C11 : Cal K mg "half_sort" f11 _ ["kept"] := ⟨PySem.W.mg_of X G a11, k11, b11⟩
  have F12 := fun_mk (st := s_named_points) l12 c12 k12
  have b12 := F12.binds (ps := ["kept"]) fun _ _ _ _ _ _ us hl => match us, hl with | [_], _ => rfl
  have C12 : Cal K mg "named_points" f12 _ ["kept"] := ⟨PySem.W.mg_of X G a12, k12, b12⟩
  have F13 := fun_mk (st := s_sort_points) l13 c13 k13
  have b13 := F13.binds (ps := ["kept"]) fun _ _ _ _ _ _ us hl => match us, hl with | [_], _ => rfl
  have C13 : Cal K mg "sort_points" f13 _ ["kept"] := ⟨PySem.W.mg_of X G a13, k13, b13⟩
  have F14 := fun_mk (st := s_divided_low) l14 c14 k14
  have b14 := F14.binds (ps := ["p", "q"]) fun _ _ _ _ _ _ us hl => match us, hl with | [_, _], _ => rfl
  have C14 : Cal K mg "divided_low" f14 _ ["p", "q"] := ⟨PySem.W.mg_of X G a14, k14, b14⟩
  have F15 := fun_mk (st := s_four_counts) l15 c15 k15
  have b15 := F15.binds (ps := ["family", "x", "y"]) fun _ _ _ _ _ _ us hl => match us, hl with | [_, _, _], _ => rfl
  have C15 : Cal K mg "four_counts" f15 _ ["family", "x", "y"] := ⟨PySem.W.mg_of X G a15, k15, b15⟩
  have F16 := fun_mk (st := s_added_lot) l16 c16 k16
  have b16 := F16.binds (ps := ["kept"]) fun _ _ _ _ _ _ us hl => match us, hl with | [_], _ => rfl
  have C16 : Cal K mg "added_lot" f16 _ ["kept"] := ⟨PySem.W.mg_of X G a16, k16, b16⟩
  have F17 := fun_mk (st := s_half_table) l17 c17 k17
  have b17 := F17.binds (ps := ["kept"]) fun _ _ _ _ _ _ us hl => match us, hl with | [_], _ => rfl
  have C17 : Cal K mg "half_table" f17 _ ["kept"] := ⟨PySem.W.mg_of X G a17, k17, b17⟩
  have F18 := fun_mk (st := s_point_degrees) l18 c18 k18
  have b18 := F18.binds (ps := ["family"]) fun _ _ _ _ _ _ us hl => match us, hl with | [_], _ => rfl
  have C18 : Cal K mg "point_degrees" f18 _ ["family"] := ⟨PySem.W.mg_of X G a18, k18, b18⟩
  have F19 := fun_mk (st := s_mean_size) l19 c19 k19
  have b19 := F19.binds (ps := ["family"]) fun _ _ _ _ _ _ us hl => match us, hl with | [_], _ => rfl
  have C19 : Cal K mg "mean_size" f19 _ ["family"] := ⟨PySem.W.mg_of X G a19, k19, b19⟩
  have F20 := fun_mk (st := s__law_common) l20 c20 k20
  have b20 := F20.binds (ps := ["one", "other"]) fun _ _ _ _ _ _ us hl => match us, hl with | [_, _], _ => rfl
  have C20 : Cal K mg "_law_common" f20 _ ["one", "other"] := ⟨PySem.W.mg_of X G a20, k20, b20⟩
  have F21 := fun_mk (st := s__law_union) l21 c21 k21
  have b21 := F21.binds (ps := ["one", "other"]) fun _ _ _ _ _ _ us hl => match us, hl with | [_, _], _ => rfl
  have C21 : Cal K mg "_law_union" f21 _ ["one", "other"] := ⟨PySem.W.mg_of X G a21, k21, b21⟩
  have F22 := fun_mk (st := s__law_low) l22 c22 k22
  have b22 := F22.binds (ps := ["p", "q"]) fun _ _ _ _ _ _ us hl => match us, hl with | [_, _], _ => rfl
  have C22 : Cal K mg "_law_low" f22 _ ["p", "q"] := ⟨PySem.W.mg_of X G a22, k22, b22⟩
  have F23 := fun_mk (st := s__law_kept) l23 c23 k23
  have b23 := F23.binds (ps := ["source", "n"]) fun _ _ _ _ _ _ us hl => match us, hl with | [_, _], _ => rfl
  have C23 : Cal K mg "_law_kept" f23 _ ["source", "n"] := ⟨PySem.W.mg_of X G a23, k23, b23⟩
  have F24 := fun_mk (st := s__law_meets) l24 c24 k24
  have b24 := F24.binds (ps := ["family"]) fun _ _ _ _ _ _ us hl => match us, hl with | [_], _ => rfl
  have C24 : Cal K mg "_law_meets" f24 _ ["family"] := ⟨PySem.W.mg_of X G a24, k24, b24⟩
  have F25 := fun_mk (st := s_law) l25 c25 k25
  have b25 := F25.binds (ps := ["script"]) fun _ _ _ _ _ _ us hl => match us, hl with | [_], _ => rfl
  refine ⟨PySem.W.fnOf "law" "law" (defArgs s_law) (defBody s_law) (defScope s_law) .none kV25 dc25 pm25 an25 cd25 ct25, fun s v => .of_eq rfl, fun base _ _ => ?_⟩
  have G1 := ok_source (P := l.prog) (w := w) (base := base) F1 B.b_abs B.b_int
  have G2 := ok_pick (P := l.prog) (w := w) (base := base) F2 B.b_len B.b_int
  have G3 := ok_in_both (P := l.prog) (w := w) (base := base) F3 B
  have G4 := ok_in_either (P := l.prog) (w := w) (base := base) F4 B
  have G5 := ok_keeps_meets (P := l.prog) (w := w) (base := base) F5 B C3 G3
  have G6 := ok_lots_at (P := l.prog) (w := w) (base := base) F6 B
  have G7 := ok_points_in_half (P := l.prog) (w := w) (base := base) F7 B C6 G6
  have G8 := ok_sizes_added (P := l.prog) (w := w) (base := base) F8 B
  have G9 := ok_lots_so_great (P := l.prog) (w := w) (base := base) F9 B
  have G10 := ok_least_but_none (P := l.prog) (w := w) (base := base) F10 B
  have G11 := ok_half_sort (P := l.prog) (w := w) (base := base) F11 B C9 G9 C8 G8 C10 G10 C5 G5
  have G12 := ok_named_points (P := l.prog) (w := w) (base := base) F12 B C11 G11
  have G13 := ok_sort_points (P := l.prog) (w := w) (base := base) F13 B C7 G7 C12 G12
  have G14 := ok_divided_low (P := l.prog) (w := w) (base := base) F14 B
  have G15 := ok_four_counts (P := l.prog) (w := w) (base := base) F15 B
  have G16 := ok_added_lot (P := l.prog) (w := w) (base := base) F16 B C11 G11 C12 G12 C10 G10
  have G17 := ok_half_table (P := l.prog) (w := w) (base := base) F17 B C16 G16 C4 G4
  have G18 := ok_point_degrees (P := l.prog) (w := w) (base := base) F18 B C6 G6
  have G19 := ok_mean_size (P := l.prog) (w := w) (base := base) F19 B C14 G14 C8 G8
  have G20 := ok__law_common (P := l.prog) (w := w) (base := base) F20 B
  have G21 := ok__law_union (P := l.prog) (w := w) (base := base) F21 B
  have G22 := ok__law_low (P := l.prog) (w := w) (base := base) F22 B
  have G23 := ok__law_kept (P := l.prog) (w := w) (base := base) F23 B C2 G2 C21 G21
  have G24 := ok__law_meets (P := l.prog) (w := w) (base := base) F24 B C20 G20 C21 G21
  exact ok_law (P := l.prog) (w := w) (base := base) F25 B C1 G1 C2 G2 C23 G23 C24 G24 C20 G20 C11 G11 C13 G13 C21 G21 C17 G17 C15 G15 C7 G7 C18 G18 C19 G19 C22 G22 p_law
end Lw
open PySem PySem.W PyProof.Rows
set_option maxHeartbeats 0 in
theorem PySem.Challenge.cw_lotsoflots_k92_whole_points_in_half_holds : PySem.Challenge.rw_lotsoflots_k92_whole_points_in_half.Holds := by
  w_on; o_law; k_head; (case hw => w_witness2)
  k_fill
  refine Pz.law_walk (l := PySem.Challenge.rw_lotsoflots_k92_whole_points_in_half) (k := 7) (x := "script") rfl (by rfl) ⟨rfl, by decide, by decide⟩ (fun w h Y => PySem.W.kIn_of Y) ?F
  case F =>
    intro w mg fa h KX G hmg
    refine' Lw.all_mk KX G hmg ?a1 ?l1 ?c1 ?k1 ?a2 ?l2 ?c2 ?k2 ?a3 ?l3 ?c3 ?k3 ?a4 ?l4 ?c4 ?k4 ?a5 ?l5 ?c5 ?k5 ?a6 ?l6 ?c6 ?k6 ?a7 ?l7 ?c7 ?k7 ?a8 ?l8 ?c8 ?k8 ?a9 ?l9 ?c9 ?k9 ?a10 ?l10 ?c10 ?k10 ?a11 ?l11 ?c11 ?k11 ?a12 ?l12 ?c12 ?k12 ?a13 ?l13 ?c13 ?k13 ?a14 ?l14 ?c14 ?k14 ?a15 ?l15 ?c15 ?k15 ?a16 ?l16 ?c16 ?k16 ?a17 ?l17 ?c17 ?k17 ?a18 ?l18 ?c18 ?k18 ?a19 ?l19 ?c19 ?k19 ?a20 ?l20 ?c20 ?k20 ?a21 ?l21 ?c21 ?k21 ?a22 ?l22 ?c22 ?k22 ?a23 ?l23 ?c23 ?k23 ?a24 ?l24 ?c24 ?k24 ?a25 ?l25 ?c25 ?k25 ?z_len ?z_int ?z_abs ?z_range ?z_sorted ?z_sum ?z_all ?z_any ?z_tuple ?z_list ?z_max ?z_min ?z_repr ?z_enumerate ?z_zip ?z_isinstance ?z_bool ?z_str ?z_dict
    (case a1 => k_is); (case l1 => k_is); (case c1 => k_is); (case k1 => k_is); (case a2 => k_is); (case l2 => k_is); (case c2 => k_is); (case k2 => k_is); (case a3 => k_is); (case l3 => k_is); (case c3 => k_is); (case k3 => k_is); (case a4 => k_is); (case l4 => k_is); (case c4 => k_is); (case k4 => k_is); (case a5 => k_is); (case l5 => k_is); (case c5 => k_is); (case k5 => k_is); (case a6 => k_is); (case l6 => k_is); (case c6 => k_is); (case k6 => k_is); (case a7 => k_is); (case l7 => k_is); (case c7 => k_is); (case k7 => k_is); (case a8 => k_is); (case l8 => k_is); (case c8 => k_is); (case k8 => k_is); (case a9 => k_is); (case l9 => k_is); (case c9 => k_is); (case k9 => k_is); (case a10 => k_is); (case l10 => k_is); (case c10 => k_is); (case k10 => k_is); (case a11 => k_is); (case l11 => k_is); (case c11 => k_is); (case k11 => k_is); (case a12 => k_is); (case l12 => k_is); (case c12 => k_is); (case k12 => k_is); (case a13 => k_is); (case l13 => k_is); (case c13 => k_is); (case k13 => k_is); (case a14 => k_is); (case l14 => k_is); (case c14 => k_is); (case k14 => k_is); (case a15 => k_is); (case l15 => k_is); (case c15 => k_is); (case k15 => k_is); (case a16 => k_is); (case l16 => k_is); (case c16 => k_is); (case k16 => k_is); (case a17 => k_is); (case l17 => k_is); (case c17 => k_is); (case k17 => k_is); (case a18 => k_is); (case l18 => k_is); (case c18 => k_is); (case k18 => k_is); (case a19 => k_is); (case l19 => k_is); (case c19 => k_is); (case k19 => k_is); (case a20 => k_is); (case l20 => k_is); (case c20 => k_is); (case k20 => k_is); (case a21 => k_is); (case l21 => k_is); (case c21 => k_is); (case k21 => k_is); (case a22 => k_is); (case l22 => k_is); (case c22 => k_is); (case k22 => k_is); (case a23 => k_is); (case l23 => k_is); (case c23 => k_is); (case k23 => k_is); (case a24 => k_is); (case l24 => k_is); (case c24 => k_is); (case k24 => k_is); (case a25 => k_is); (case l25 => k_is); (case c25 => k_is); (case k25 => k_is); (case z_len => k_is); (case z_int => k_is); (case z_abs => k_is); (case z_range => k_is); (case z_sorted => k_is); (case z_sum => k_is); (case z_all => k_is); (case z_any => k_is); (case z_tuple => k_is); (case z_list => k_is); (case z_max => k_is); (case z_min => k_is); (case z_repr => k_is); (case z_enumerate => k_is); (case z_zip => k_is); (case z_isinstance => k_is); (case z_bool => k_is); (case z_str => k_is); (case z_dict => k_is)

