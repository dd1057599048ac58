import PyProof.Rows.All
import Wide.All
import OpenK.AllK
import Wide.FinOn
import HandS.ForMost
import HandS.IsInst
import HandS.Flow
import HandS.Style
import HandS.Wide
import HandS.TupAny
import HandS.Zip
import KE.KRevSl
import PySem.Challenge.RW_deedranks_k01_words_judged
set_option Elab.async false
set_option linter.all false
set_option maxRecDepth 100000
set_option maxHeartbeats 4000000
namespace DI
open PySem L2

/-! ### trees: what a value is worth -/
/-- the greatest length of a text, a list, a tuple here -/
def LIM : Nat := 1000000
theorem LIM_le : LIM ≤ sizeLine := by rw [sizeLine_eq]; decide
theorem LIM_lt : LIM < sizeLine := by rw [sizeLine_eq]; decide
inductive T where
  | non | bl (b : Bool) | int (i : Int) | str (x : Str) | ty (n : String) | cls (n : Str)
  | tup (ts : List T) | lst (ts : List T)
  | dK (ks : List Key) (ts : List T)
  | dT (ks : List (List Key)) (ts : List T)
  | obj (c : Str) (ns : List Str) (ts : List T)
  | bag
  deriving Inhabited

/-- what is fixed through a law: the written part, the bag's address, its cells' address, the classes -/
structure Wd where
  K : PySem.W.Frag
  B : Addr
  c : Addr
  cl : Str → Option Addr

mutual
inductive Tr (W : Wd) (F : Hp) : V → T → Prop
  | non : Tr W F .non .non
  | bl (b : Bool) : Tr W F (.bl b) (.bl b)
  | int (i : Int) : Tr W F (.int i) (.int i)
  | str (x : Str) : x.length ≤ LIM → Tr W F (.str x) (.str x)
  | ty (n : String) : Tr W F (.ty n) (.ty n)
  | cls {n : Str} {C : Addr} : W.cl n = some C → Tr W F (.ref C) (.cls n)
  | tup {a : Addr} {vs : List V} {ts : List T} : F a = some (.tup vs) → ts.length ≤ LIM → TrL W F vs ts → Tr W F (.ref a) (.tup ts)
  | lst {a : Addr} {vs : List V} {ts : List T} : F a = some (.lst vs) → ts.length ≤ LIM → TrL W F vs ts → Tr W F (.ref a) (.lst ts)
  | dK {a : Addr} {kvs : List (Key × V)} {ts : List T} : F a = some (.dK kvs) → TrL W F (kvs.map (·.2)) ts → Tr W F (.ref a) (.dK (kvs.map (·.1)) ts)
  | dT {a : Addr} {kvs : List (List Key × V)} {ts : List T} : F a = some (.dT kvs) → TrL W F (kvs.map (·.2)) ts → Tr W F (.ref a) (.dT (kvs.map (·.1)) ts)
  | obj {a C dx : Addr} {n : Str} {fs : List (Str × V)} {ts : List T} : F a = some (.ins C dx fs) → W.cl n = some C → TrL W F (fs.map (·.2)) ts → Tr W F (.ref a) (.obj n (fs.map (·.1)) ts)
  | bag : Tr W F (.ref W.B) .bag
inductive TrL (W : Wd) (F : Hp) : List V → List T → Prop
  | nil : TrL W F [] []
  | cons {v : V} {t : T} {vs : List V} {ts : List T} : Tr W F v t → TrL W F vs ts → TrL W F (v :: vs) (t :: ts)
end

/-- what F knows stays known -/
def Sub (F F' : Hp) : Prop := ∀ a o, F a = some o → F' a = some o
theorem Sub.refl (F : Hp) : Sub F F := fun _ _ h => h
theorem Sub.trans {F G H : Hp} (a : Sub F G) (b : Sub G H) : Sub F H := fun x o h => b x o (a x o h)

section
variable {W : Wd} {F F' : Hp}
mutual
theorem Tr.mono (e : Sub F F') : ∀ {v : V} {t : T}, Tr W F v t → Tr W F' v t
  | _, _, .non => .non
  | _, _, .bl b => .bl b
  | _, _, .int i => .int i
  | _, _, .str x h => .str x h
  | _, _, .ty n => .ty n
  | _, _, .cls h => .cls h
  | _, _, .tup h z l => .tup (e _ _ h) z (TrL.mono e l)
  | _, _, .lst h z l => .lst (e _ _ h) z (TrL.mono e l)
  | _, _, .dK h l => .dK (e _ _ h) (TrL.mono e l)
  | _, _, .dT h l => .dT (e _ _ h) (TrL.mono e l)
  | _, _, .obj h c l => .obj (e _ _ h) c (TrL.mono e l)
  | _, _, .bag => .bag
theorem TrL.mono (e : Sub F F') : ∀ {vs : List V} {ts : List T}, TrL W F vs ts → TrL W F' vs ts
  | _, _, .nil => .nil
  | _, _, .cons h l => .cons (Tr.mono e h) (TrL.mono e l)
end

theorem TrL.length : ∀ {vs : List V} {ts : List T}, TrL W F vs ts → vs.length = ts.length
  | _, _, .nil => rfl
  | _, _, .cons _ l => by simp [TrL.length l]
theorem TrL.append : ∀ {vs us : List V} {ts rs : List T}, TrL W F vs ts → TrL W F us rs → TrL W F (vs ++ us) (ts ++ rs)
  | _, _, _, _, .nil, h => h
  | _, _, _, _, .cons a l, h => .cons a (TrL.append l h)
theorem TrL.get : ∀ {vs : List V} {ts : List T} {i : Nat} {t : T}, TrL W F vs ts → ts[i]? = some t → ∃ v, vs[i]? = some v ∧ Tr W F v t
  | _, _, _, _, .nil, e => by simp at e
  | _, _, 0, _, .cons h _, e => by simp at e; subst e; exact ⟨_, rfl, h⟩
  | _, _, i + 1, t, .cons _ l, e => by
    obtain ⟨v, h1, h2⟩ := TrL.get (i := i) (t := t) l (by simpa using e)
    exact ⟨v, by simpa using h1, h2⟩
theorem TrL.getV : ∀ {vs : List V} {ts : List T} {i : Nat} {v : V}, TrL W F vs ts → vs[i]? = some v → ∃ t, ts[i]? = some t ∧ Tr W F v t
  | _, _, _, _, .nil, e => by simp at e
  | _, _, 0, _, .cons h _, e => by simp at e; subst e; exact ⟨_, rfl, h⟩
  | _, _, i + 1, v, .cons _ l, e => by
    obtain ⟨t, h1, h2⟩ := TrL.getV (i := i) (v := v) l (by simpa using e)
    exact ⟨t, by simpa using h1, h2⟩
theorem TrL.take : ∀ {vs : List V} {ts : List T} (n : Nat), TrL W F vs ts → TrL W F (vs.take n) (ts.take n)
  | _, _, 0, _ => .nil
  | _, _, _ + 1, .nil => .nil
  | _, _, n + 1, .cons h l => .cons h (TrL.take n l)
theorem TrL.drop : ∀ {vs : List V} {ts : List T} (n : Nat), TrL W F vs ts → TrL W F (vs.drop n) (ts.drop n)
  | _, _, 0, h => h
  | _, _, _ + 1, .nil => .nil
  | _, _, n + 1, .cons _ l => TrL.drop n l
theorem TrL.set {v : V} {t : T} (h : Tr W F v t) : ∀ {vs : List V} {ts : List T} (i : Nat), TrL W F vs ts → TrL W F (vs.set i v) (ts.set i t)
  | _, _, _, .nil => .nil
  | _, _, 0, .cons _ l => .cons h l
  | _, _, i + 1, .cons a l => .cons a (TrL.set h i l)
theorem TrL.reverse : ∀ {vs : List V} {ts : List T}, TrL W F vs ts → TrL W F vs.reverse ts.reverse
  | _, _, .nil => .nil
  | _, _, .cons h l => by
    rw [List.reverse_cons, List.reverse_cons]
    exact (TrL.reverse l).append (.cons h .nil)
theorem TrL.rep {vs : List V} {ts : List T} (h : TrL W F vs ts) : ∀ n : Nat, TrL W F (List.replicate n vs).flatten (List.replicate n ts).flatten
  | 0 => .nil
  | n + 1 => by
    rw [List.replicate_succ, List.replicate_succ, List.flatten_cons, List.flatten_cons]
    exact h.append (TrL.rep h n)
theorem TrL.ints (ns : List Int) : TrL W F (ns.map V.int) (ns.map T.int) := by
  induction ns with
  | nil => exact .nil
  | cons n r ih => exact .cons (.int n) ih
theorem TrL.strs : ∀ (ns : List Str), (∀ x ∈ ns, x.length ≤ LIM) → TrL W F (ns.map V.str) (ns.map T.str)
  | [], _ => .nil
  | n :: r, h => .cons (.str n (h n (by simp))) (TrL.strs r fun x hx => h x (by simp [hx]))
end

/-! ### the bag -/
structure Bag where
  cells : List Int
  i : Int
  j : Int
  s : Int
  n : Int
  deriving Inhabited

def BagAt (W : Wd) (H : Hp) (b : Bag) : Prop :=
  H W.B = some (.lst [.ref W.c, .int b.i, .int b.j, .int b.s, .int b.n]) ∧ H W.c = some (.lst (b.cells.map V.int)) ∧ W.B ≠ W.c

def isD : HO → Prop
  | .dK _ => True
  | _ => False
/-- the frozen part F of the heap H -/
structure Sta (W : Wd) (F H : Hp) (b : Bag) : Prop where
  fz : ∀ a o, F a = some o → H a = some o ∨ (isD o ∧ ∃ od, H a = some (.frz od o))
  fB : F W.B = none
  fc : F W.c = none
  bag : BagAt W H b

def Keep (W : Wd) (H H' : Hp) : Prop := ∀ a o, H a = some o → a ≠ W.B → H' a = some o
theorem Keep.refl (W : Wd) (H : Hp) : Keep W H H := fun _ _ h _ => h
theorem Keep.trans {W : Wd} {H H1 H2 : Hp} (a : Keep W H H1) (b : Keep W H1 H2) : Keep W H H2 := fun x o h n => b x o (a x o h n) n
theorem Keep.new {W : Wd} {H : Hp} {p : Addr} {o : HO} (h : H p = none) : Keep W H (upd H p o) := fun a u e _ => by
  rw [upd_ne (ne_of_none e h)]; exact e
theorem Keep.free {W : Wd} {H H' : Hp} {b : Bag} (k : Keep W H H') (ba : BagAt W H' b) {p : Addr} (h : H' p = none) : H p = none := by
  cases q : H p with
  | none => rfl
  | some o =>
    by_cases e : p = W.B
    · subst e; rw [ba.1] at h; cases h
    · rw [k p o q e] at h; cases h

/-- F grows into F' by places that were free in H -/
structure Grow (F H F' : Hp) : Prop where
  sub : Sub F F'
  new : ∀ a o, F' a = some o → F a = some o ∨ H a = none
theorem Grow.refl (F H : Hp) : Grow F H F := ⟨Sub.refl F, fun _ _ h => .inl h⟩

/-- what stands behind an expression of the worth t -/
structure Post (W : Wd) (F H : Hp) (b' : Bag) (t : T) (v : V) (F' H' : Hp) : Prop where
  grow : Grow F H F'
  keep : Keep W H H'
  sta : Sta W F' H' b'
  tr : Tr W F' v t

section
variable {W : Wd} {F F' F'' H H' H'' : Hp} {b b' b'' : Bag} {t t' : T} {v v' : V}
theorem Grow.trans (g : Grow F H F') (k : Keep W H H') (s : BagAt W H' b') (g' : Grow F' H' F'') : Grow F H F'' := by
  refine ⟨g.sub.trans g'.sub, fun a o e => ?_⟩
  rcases g'.new a o e with h | h
  · exact g.new a o h
  · exact .inr (k.free s h)
theorem Post.trans (p : Post W F H b' t v F' H') (q : Post W F' H' b'' t' v' F'' H'') : Post W F H b'' t' v' F'' H'' :=
  ⟨p.grow.trans p.keep p.sta.bag q.grow, p.keep.trans q.keep, q.sta, q.tr⟩
/-- nothing is made -/
theorem Post.same (s : Sta W F H b) (h : Tr W F v t) : Post W F H b t v F H := ⟨Grow.refl _ _, Keep.refl _ _, s, h⟩
/-- a new object is laid and frozen -/
theorem Sta.laid {p : Addr} {o : HO} (s : Sta W F H b) (n : H p = none) : Sta W (upd F p o) (upd H p o) b := by
  have hB : W.B ≠ p := fun e => by have := s.bag.1; rw [e, n] at this; cases this
  have hc : W.c ≠ p := fun e => by have := s.bag.2.1; rw [e, n] at this; cases this
  refine ⟨fun a u e => ?_, by rw [upd_ne hB]; exact s.fB, by rw [upd_ne hc]; exact s.fc, by rw [upd_ne hB]; exact s.bag.1, by rw [upd_ne hc]; exact s.bag.2.1, s.bag.2.2⟩
  by_cases h : a = p
  · subst h; rw [upd_same] at e ⊢; exact .inl e
  · rw [upd_ne h] at e ⊢; exact s.fz a u e
theorem Sta.free (s : Sta W F H b) {p : Addr} (n : H p = none) : F p = none := by
  cases q : F p with
  | none => rfl
  | some o =>
    rcases s.fz p o q with h | ⟨_, od, h⟩ <;> (rw [n] at h; cases h)
theorem Grow.laid {p : Addr} {o : HO} (s : Sta W F H b) (n : H p = none) : Grow F H (upd F p o) := by
  refine ⟨fun a u e => ?_, fun a u e => ?_⟩
  · rw [upd_ne (ne_of_none e (s.free n))]; exact e
  · by_cases h : a = p
    · subst h; exact .inr n
    · rw [upd_ne h] at e; exact .inl e
theorem Post.laid {p : Addr} {o : HO} (s : Sta W F H b) (n : H p = none) (h : Tr W (upd F p o) (.ref p) t) : Post W F H b t (.ref p) (upd F p o) (upd H p o) :=
  ⟨Grow.laid s n, Keep.new n, s.laid n, h⟩
theorem Post.lst {p : Addr} {vs : List V} {ts : List T} (s : Sta W F H b) (n : H p = none) (z : ts.length ≤ LIM) (h : TrL W F vs ts) : Post W F H b (.lst ts) (.ref p) (upd F p (.lst vs)) (upd H p (.lst vs)) :=
  Post.laid s n (.lst upd_same z (h.mono (Grow.laid s n).sub))
theorem Post.tup {p : Addr} {vs : List V} {ts : List T} (s : Sta W F H b) (n : H p = none) (z : ts.length ≤ LIM) (h : TrL W F vs ts) : Post W F H b (.tup ts) (.ref p) (upd F p (.tup vs)) (upd H p (.tup vs)) :=
  Post.laid s n (.tup upd_same z (h.mono (Grow.laid s n).sub))
theorem Sta.lst {a : Addr} {vs : List V} (s : Sta W F H b) (h : F a = some (.lst vs)) : H a = some (.lst vs) := by
  rcases s.fz _ _ h with q | ⟨q, _⟩
  · exact q
  · exact q.elim
theorem Sta.tup {a : Addr} {vs : List V} (s : Sta W F H b) (h : F a = some (.tup vs)) : H a = some (.tup vs) := by
  rcases s.fz _ _ h with q | ⟨q, _⟩
  · exact q
  · exact q.elim
theorem Sta.ins {a C dx : Addr} {fs : List (Str × V)} (s : Sta W F H b) (h : F a = some (.ins C dx fs)) : H a = some (.ins C dx fs) := by
  rcases s.fz _ _ h with q | ⟨q, _⟩
  · exact q
  · exact q.elim
end

/-! ### expressions: a function of the names' worth -/
abbrev View := List (Option T)
structure VRel (W : Wd) (F : Hp) (σ : L2.St) (ρ : View) : Prop where
  len : σ.length = ρ.length
  get : ∀ (i : Nat) (t : T), ρ[i]? = some (some t) → ∃ v, σ[i]? = some (some v) ∧ Tr W F v t
theorem VRel.mono {W : Wd} {F F' : Hp} {σ : L2.St} {ρ : View} (h : VRel W F σ ρ) (e : Sub F F') : VRel W F' σ ρ := ⟨h.len, fun i t q =>
  let ⟨v, a, b⟩ := h.get i t q; ⟨v, a, b.mono e⟩⟩
/-- places emptied -/
def wipeV (ρ : View) : List Nat → View
  | [] => ρ
  | v :: vs => (wipeV ρ vs).set v none
theorem VRel.unset {W : Wd} {F : Hp} {σ : L2.St} {ρ : View} {i : Nat} (h : VRel W F σ ρ) : VRel W F (σ.set i none) (ρ.set i none) := by
  refine ⟨by rw [List.length_set, List.length_set]; exact h.len, fun j u e => ?_⟩
  by_cases hj : i = j
  · subst hj
    by_cases hl : i < ρ.length
    · rw [List.getElem?_set_self hl] at e; cases e
    · rw [List.getElem?_eq_none (by simpa using hl)] at e; cases e
  · rw [List.getElem?_set_ne hj] at e ⊢
    exact h.get j u e
theorem VRel.wipe {W : Wd} {F : Hp} {σ : L2.St} {ρ : View} (h : VRel W F σ ρ) : ∀ vs : List Nat, VRel W F (L2.wipe σ vs) (wipeV ρ vs)
  | [] => h
  | v :: vs => (VRel.wipe h vs).unset
theorem wipe_get (σ : L2.St) : ∀ (vs : List Nat) (j : Nat), (L2.wipe σ vs)[j]? = if j ∈ vs then (if j < σ.length then some none else none) else σ[j]?
  | [], j => by simp [L2.wipe]
  | v :: vs, j => by
    have ih := wipe_get σ vs j
    unfold L2.wipe
    by_cases hj : v = j
    · subst hj
      simp only [List.mem_cons, true_or, if_true]
      by_cases hl : v < σ.length
      · rw [List.getElem?_set_self (by rw [wipe_length]; exact hl), if_pos hl]
      · rw [List.getElem?_eq_none (by rw [List.length_set, wipe_length]; omega), if_neg hl]
    · rw [List.getElem?_set_ne hj, ih]
      have : (j ∈ v :: vs) ↔ j ∈ vs := by simp [Ne.symm hj]
      simp only [this]

abbrev Ev (α : Type) := Bag → Option (α × Bag)
def Ev.pure {α : Type} (a : α) : Ev α := fun b => some (a, b)
def Ev.bind {α β : Type} (m : Ev α) (f : α → Ev β) : Ev β := fun b => match m b with
  | none => none
  | some (a, b') => f a b'
def Ev.of {α : Type} (o : Option α) : Ev α := fun b => match o with
  | none => none
  | some a => some (a, b)
def Ev.no {α : Type} : Ev α := fun _ => none

/-- the reading of an expression that is worth f -/
def rdE (W : Wd) (f : View → Ev T) : TE := fun σ H Q => ∃ F ρ b t b', Sta W F H b ∧ VRel W F σ ρ ∧ f ρ b = some (t, b') ∧ ∀ v F' H', Post W F H b' t v F' H' → Q v H'
def rdT (W : Wd) (f : View → Ev Bool) : TT := fun σ H Q => ∃ F ρ b t b', Sta W F H b ∧ VRel W F σ ρ ∧ f ρ b = some (t, b') ∧ ∀ F' H', Grow F H F' → Keep W H H' → Sta W F' H' b' → Q t H'
structure PostL (W : Wd) (F H : Hp) (b' : Bag) (ts : List T) (vs : List V) (F' H' : Hp) : Prop where
  grow : Grow F H F'
  keep : Keep W H H'
  sta : Sta W F' H' b'
  tr : TrL W F' vs ts
def rdA (W : Wd) (f : View → Ev (List T)) : TA := fun σ H Q => ∃ F ρ b ts b', Sta W F H b ∧ VRel W F σ ρ ∧ f ρ b = some (ts, b') ∧ ∀ vs F' H', PostL W F H b' ts vs F' H' → Q vs H'

theorem PE.imp {X : Cx} {e : Expr} {t t' : TE} (h : PE X e t) (k : ∀ σ H Q, t' σ H Q → t σ H Q) : PE X e t' := ⟨fun pins s σ H Q I q => h.run pins s σ H Q I (k σ H Q q)⟩
theorem PT.imp {X : Cx} {e : Expr} {t t' : TT} (h : PT X e t) (k : ∀ σ H Q, t' σ H Q → t σ H Q) : PT X e t' := ⟨fun pins s σ H Q I q => h.run pins s σ H Q I (k σ H Q q)⟩
theorem PA.imp {X : Cx} {e : List Expr} {t t' : TA} (h : PA X e t) (k : ∀ σ H Q, t' σ H Q → t σ H Q) : PA X e t' := ⟨fun pos pins s σ H Q I q => h.run pos pins s σ H Q I (k σ H Q q)⟩
theorem PS.imp {X : Cx} {e : Stmt} {t t' : TS} (h : PS X e t) (k : ∀ D σ H, t' D σ H → t D σ H) : PS X e t' := ⟨fun pins s σ H D I q => h.run pins s σ H D I (k D σ H q)⟩
theorem PSs.imp {X : Cx} {e : List Stmt} {t t' : TS} (h : PSs X e t) (k : ∀ D σ H, t' D σ H → t D σ H) : PSs X e t' := ⟨fun pins s σ H D I q => h.run pins s σ H D I (k D σ H q)⟩
theorem PE.no {W : Wd} {X : Cx} {e : Expr} {f : View → Ev T} (h : ∀ ρ b, f ρ b = none) : PE X e (rdE W f) := ⟨fun pins s σ H Q I ⟨F, ρ, b, t, b', _, _, e, _⟩ => by rw [h] at e; cases e⟩
theorem PT.no {W : Wd} {X : Cx} {e : Expr} {f : View → Ev Bool} (h : ∀ ρ b, f ρ b = none) : PT X e (rdT W f) := ⟨fun pins s σ H Q I ⟨F, ρ, b, t, b', _, _, e, _⟩ => by rw [h] at e; cases e⟩

theorem bind_some {α β : Type} {m : Ev α} {f : α → Ev β} {b : Bag} {r : β × Bag} (h : Ev.bind m f b = some r) : ∃ a b', m b = some (a, b') ∧ f a b' = some r := by
  unfold Ev.bind at h
  cases q : m b with
  | none => rw [q] at h; cases h
  | some p => rw [q] at h; exact ⟨p.1, p.2, rfl, h⟩
theorem of_some {α : Type} {o : Option α} {b b' : Bag} {a : α} (h : Ev.of o b = some (a, b')) : o = some a ∧ b' = b := by
  unfold Ev.of at h
  cases o with
  | none => cases h
  | some x => cases h; exact ⟨rfl, rfl⟩
theorem bind_of {α β : Type} {o : Option α} {f : α → Ev β} {b : Bag} {r : β × Bag} (h : Ev.bind (Ev.of o) f b = some r) : ∃ a, o = some a ∧ f a b = some r := by
  obtain ⟨a, b', h1, h2⟩ := bind_some h
  obtain ⟨h3, h4⟩ := of_some h1
  subst h4
  exact ⟨a, h3, h2⟩
end DI

set_option Elab.async false
set_option linter.all false
set_option maxRecDepth 100000
set_option maxHeartbeats 4000000
namespace DI
open PySem L2

/-! ### the texts as terms with places -/
inductive Tg where
  | name (i : Nat)
  | tup (a b : Tg)
  | tup3 (a b c : Tg)
  deriving Inhabited
inductive Bi where
  | len | abs | all | any | isi | sorted | list | tuple | int | str
  deriving DecidableEq
inductive Me where
  | join
  deriving DecidableEq

mutual
inductive E where
  | var (i : Nat)
  | con (t : T)
  | glob (x : Str) (t : T)
  | bin (op : Operator) (a b : E)
  | neg (a : E)
  | not (a : E)
  | and (a b : E)
  | or (a b : E)
  | cmp (op : CmpOp) (a b : E)
  | chain (op op' : CmpOp) (a b c : E)
  | ife (c : Te) (a b : E)
  | tup (es : Es)
  | lst (es : Es)
  | dct (ks : List Str) (vs : Es)
  | idx (a i : E)
  | sl (a lo hi : E)
  | slH (a hi : E)
  | slL (a lo : E)
  | rev (a : E)
  | call (f : Nat) (es : Es)
  | callK (f : Nat) (es : Es) (ks : List Str)
  | blt (x : Bi) (es : Es)
  | mth (m : Me) (a : E) (es : Es)
  | bget (a : E) (k : Nat)
  | blen (a : E)
  | bcell (a : E)
  | lc (elt : E) (tg : Tg) (it : It) (c : Te)
  | lc0 (elt : E) (tg : Tg) (it : It)
inductive Te where
  | tr (e : E)
  | not (a : Te)
  | and (a b : Te)
  | or (a b : Te)
inductive Es where
  | nil
  | cons (e : E) (r : Es)
inductive It where
  | val (e : E)
  | rng1 (a : E)
  | rng2 (a b : E)
  | zip (a b : E)
  | enum (a : E)
end
instance : Inhabited E := ⟨.con .non⟩

/-! ### values -/
def chrs (x : Str) : List Str := x.cps.toList.map fun c => ⟨#[c]⟩
def truT : T → Option Bool
  | .non => some false
  | .bl b => some b
  | .int i => some (i != 0)
  | .str x => some (x.length != 0)
  | .lst ts => some (!ts.isEmpty)
  | .tup ts => some (!ts.isEmpty)
  | _ => none
mutual
def toD : T → Option PyData
  | .non => some .none
  | .bl b => some (.bool b)
  | .int i => some (.int i)
  | .str x => some (.str x)
  | .lst ts => (toDs ts).map .list
  | .tup ts => (toDs ts).map .tuple
  | _ => none
def toDs : List T → Option (List PyData)
  | [] => some []
  | t :: r => match toD t, toDs r with
    | some d, some ds => some (d :: ds)
    | _, _ => none
end
def eqD (x y : T) : Option Bool := match toD x, toD y with
  | some d, some e => if SeqAt.shaped d && SeqAt.shaped e then some (PyData.eqv d e) else none
  | _, _ => none
def atomV : T → Option V
  | .non => some .non
  | .bl b => some (.bl b)
  | .int i => some (.int i)
  | .str x => some (.str x)
  | _ => none
def eqT (x y : T) : Option Bool := match atomV x, atomV y with
  | some v, some w => if scal v w then some (decide (v = w)) else eqD x y
  | _, _ => eqD x y
def ltS (x y : Str) : Bool := decide (x.cps.toList < y.cps.toList)
def atomVs : List T → Option (List V)
  | [] => some []
  | t :: r => match atomV t, atomVs r with
    | some v, some vs => some (v :: vs)
    | _, _ => none
def inSeq (x : T) (ts : List T) : Option Bool := match atomV x, atomVs ts with
  | some v, some vs => some (inV v vs)
  | _, _ => none
def inT (x : T) : T → Option Bool
  | .lst ts => inSeq x ts
  | .tup ts => inSeq x ts
  | .str y => match x with
    | .str ⟨⟨[c]⟩⟩ => some (decide (c ∈ y.cps.toList))
    | _ => none
  | _ => none
def isNon : T → Bool
  | .non => true
  | _ => false
def cmpT (op : CmpOp) (x y : T) : Option T := match op with
  | .Eq => (eqT x y).map .bl
  | .NotEq => (eqT x y).map fun b => .bl (!b)
  | .Lt => match x, y with
    | .int i, .int j => some (.bl (decide (i < j)))
    | .str a, .str b => some (.bl (ltS a b))
    | _, _ => none
  | .LtE => match x, y with
    | .int i, .int j => some (.bl (decide (i ≤ j)))
    | _, _ => none
  | .Gt => match x, y with
    | .int i, .int j => some (.bl (decide (j < i)))
    | _, _ => none
  | .GtE => match x, y with
    | .int i, .int j => some (.bl (decide (j ≤ i)))
    | _, _ => none
  | .In => (inT x y).map .bl
  | .NotIn => (inT x y).map fun b => .bl (!b)
  | .Is => match y with
    | .non => some (.bl (isNon x))
    | _ => none
  | .IsNot => match y with
    | .non => some (.bl (!isNon x))
    | _ => none
/-- numbers that the operators take without a thought of their size -/
def wide (i : Int) : Bool := decide (i.natAbs < 2 ^ 300)
def mulOk (i j : Int) : Bool := decide (i.natAbs < 2 ^ 64) || decide (j.natAbs < 2 ^ 64) || (wide i && wide j)
def catT {α : Type} (a b : List α) : Option (List α) := if a.length + b.length ≤ LIM then some (a ++ b) else none
def addT (x y : T) : Option T := match x, y with
  | .int i, .int j => some (.int (i + j))
  | .str a, .str b => if a.length + b.length ≤ LIM then some (.str (a ++ b)) else none
  | .lst a, .lst b => (catT a b).map .lst
  | .tup a, .tup b => (catT a b).map .tup
  | _, _ => none
def mulT (x y : T) : Option T := match x, y with
  | .int i, .int j => if mulOk i j then some (.int (i * j)) else none
  | .lst a, .int k => if a.length * k.toNat ≤ LIM ∧ k ≤ 1000000 ∧ 0 ≤ k then some (.lst (List.replicate k.toNat a).flatten) else none
  | _, _ => none
def binT (op : Operator) (x y : T) : Option T := match op with
  | .Add => addT x y
  | .Sub => match x, y with
    | .int i, .int j => some (.int (i - j))
    | _, _ => none
  | .Mult => mulT x y
  | .FloorDiv => match x, y with
    | .int i, .int j => if 0 < j ∧ wide j then some (.int (i / j)) else none
    | _, _ => none
  | .Mod => match x, y with
    | .int i, .int j => if 0 < j then some (.int (i % j)) else none
    | _, _ => none
  | .Pow => match x, y with
    | .int i, .int j => if 0 ≤ j ∧ j ≤ 1000 ∧ i.natAbs < 2 ^ 64 then some (.int (i ^ j.toNat)) else none
    | _, _ => none
  | _ => none
def idxT (x i : T) : Option T := match x, i with
  | .lst ts, .int k => atI ts k
  | .tup ts, .int k => atI ts k
  | .str s, .int k => (atI s.cps.toList k).map fun c => .str ⟨#[c]⟩
  | _, _ => none
def cutT (xs : List T) (lo hi : Option Int) : List T := (xs.drop (HT.sIx xs.length 0 lo)).take (HT.sIx xs.length xs.length hi - HT.sIx xs.length 0 lo)
def slT (x : T) (lo hi : Option Int) : Option T := match x with
  | .lst ts => some (.lst (cutT ts lo hi))
  | .tup ts => some (.tup (cutT ts lo hi))
  | .str s => some (.str (cutS s lo hi))
  | _ => none
def intT : T → Option Int
  | .int i => some i
  | _ => none
def revT : T → Option T
  | .lst ts => some (.lst ts.reverse)
  | .tup ts => some (.tup ts.reverse)
  | _ => none
def boolsT : List T → Option (List Bool)
  | [] => some []
  | .bl b :: r => (boolsT r).map (b :: ·)
  | _ => none
def strsT : List T → Option (List Str)
  | [] => some []
  | .str x :: r => (strsT r).map (x :: ·)
  | _ => none
/-- the kinds -/
inductive Kd where
  | non | bl | int | str | lst | tup | dct
def kdOf : T → Option Kd
  | .non => some .non
  | .bl _ => some .bl
  | .int _ => some .int
  | .str _ => some .str
  | .lst _ => some .lst
  | .tup _ => some .tup
  | .dK _ _ => some .dct
  | .dT _ _ => some .dct
  | _ => none
def kdName : Kd → String
  | .non => "NoneType" | .bl => "bool" | .int => "int" | .str => "str" | .lst => "list" | .tup => "tuple" | .dct => "dict"
def kdTy (n : String) : Option Kd := match n with
  | "bool" => some .bl
  | "int" => some .int
  | "str" => some .str
  | "list" => some .lst
  | "tuple" => some .tup
  | "dict" => some .dct
  | _ => none
/-- is a value of the kind a one of the kind b -/
def kdIs : Kd → Kd → Bool
  | .bl, .int => true
  | .non, .non => true
  | .bl, .bl => true
  | .int, .int => true
  | .str, .str => true
  | .lst, .lst => true
  | .tup, .tup => true
  | .dct, .dct => true
  | _, _ => false
def isiOne (x : Kd) : T → Option Bool
  | .ty n => (kdTy n).map (kdIs x)
  | _ => none
def isiAny (x : Kd) : List T → Option Bool
  | [] => some false
  | t :: r => match isiOne x t, isiAny x r with
    | some a, some b => some (a || b)
    | _, _ => none
def isiT (x c : T) : Option Bool := match kdOf x with
  | none => none
  | some k => match c with
    | .tup cs => isiAny k cs
    | c => isiOne k c
def insS (x : Str) : List Str → List Str
  | [] => [x]
  | y :: r => if ltS y x then y :: insS x r else x :: y :: r
def sortS : List Str → List Str
  | [] => []
  | x :: r => insS x (sortS r)
def bltT (x : Bi) (as : List T) : Option T := match x, as with
  | .len, [.str s] => some (.int s.length)
  | .len, [.lst ts] => some (.int ts.length)
  | .len, [.tup ts] => some (.int ts.length)
  | .abs, [.int i] => some (.int (if i < 0 then -i else i))
  | .all, [.lst ts] => (boolsT ts).map fun bs => .bl (bs.all id)
  | .any, [.lst ts] => (boolsT ts).map fun bs => .bl (bs.any id)
  | .isi, [x, c] => (isiT x c).map .bl
  | .sorted, [.lst ts] => match strsT ts with
    | some xs => if xs.length < 64 then some (.lst ((sortS xs).map .str)) else none
    | none => none
  | .list, [.lst ts] => some (.lst ts)
  | .list, [.tup ts] => some (.lst ts)
  | .list, [.str s] => some (.lst ((chrs s).map .str))
  | .tuple, [.lst ts] => some (.tup ts)
  | .tuple, [.tup ts] => some (.tup ts)
  | .int, [.int i] => some (.int i)
  | .str, [.int i] => if wide i ∧ (toString i : Str).length ≤ LIM then some (.str (toString i)) else none
  | _, _ => none
def mthT (m : Me) (x : T) (as : List T) : Option T := match m, x, as with
  | .join, .str a, [.lst ts] => match strsT ts with
    | some ys => if (ys.map (·.length)).sum + ys.length * a.length ≤ LIM then some (.str (Str.join a ys)) else none
    | none => none
  | _, _, _ => none

/-! ### targets -/
def tgV : Tg → T → View → Option View
  | .name i, t, ρ => if i < ρ.length then some (ρ.set i (some t)) else none
  | .tup a b, .tup [x, y], ρ => match tgV a x ρ with
    | some ρ1 => tgV b y ρ1
    | none => none
  | .tup3 a b c, .tup [x, y, z], ρ => match tgV a x ρ with
    | some ρ1 => match tgV b y ρ1 with
      | some ρ2 => tgV c z ρ2
      | none => none
    | none => none
  | _, _, _ => none
def tgSlots : Tg → List Nat
  | .name i => [i]
  | .tup a b => tgSlots a ++ tgSlots b
  | .tup3 a b c => tgSlots a ++ (tgSlots b ++ tgSlots c)

/-! ### what an expression is worth -/
def seqT : T → Option (List T)
  | .lst ts => some ts
  | .tup ts => some ts
  | .str s => some ((chrs s).map .str)
  | _ => none
def rngT (lo hi : Int) : Option (List T) := if -1000000 ≤ lo ∧ lo ≤ 1000000 ∧ -1000000 ≤ hi ∧ hi ≤ 1000000 ∧ hi - lo ≤ 1000000 then some ((List.range (hi - lo).toNat).map fun (k : Nat) => T.int (lo + (k : Int))) else none
def zipT (a b : T) : Option (List T) := match a, b with
  | .lst xs, .lst ys => some ((xs.zip ys).map fun p => .tup [p.1, p.2])
  | .tup xs, .tup ys => some ((xs.zip ys).map fun p => .tup [p.1, p.2])
  | _, _ => none
def enumT (a : T) : Option (List T) := match a with
  | .lst xs => some (xs.zipIdx.map fun p => .tup [.int p.2, p.1])
  | _ => none
def consO (o : Option T) (ys : List T) : List T := match o with
  | some y => y :: ys
  | none => ys
/-- a comprehension's turns -/
def lcE (tg : Tg) (ρ : View) (f : View → Ev (Option T)) : List T → Ev (List T)
  | [] => Ev.pure []
  | t :: r => Ev.bind (Ev.of (tgV tg t ρ)) fun ρ' => Ev.bind (f ρ') fun o => Ev.bind (lcE tg ρ f r) fun ys => Ev.pure (consO o ys)
/-- how the values of keywords go to the parameters -/
def permG {α : Type} (ps ks : List Str) (ws : List α) : List α := ps.filterMap fun p => (ks.zip ws).lookup p
/-- the bag's numbers -/
def Bag.get (b : Bag) : Nat → Option Int
  | 1 => some b.i
  | 2 => some b.j
  | 3 => some b.s
  | 4 => some b.n
  | _ => none
def Bag.put (b : Bag) (v : Int) : Nat → Option Bag
  | 1 => some { b with i := v }
  | 2 => some { b with j := v }
  | 3 => some { b with s := v }
  | 4 => some { b with n := v }
  | _ => none
def bagE (f : Bag → Option T) : T → Ev T
  | .bag, b => match f b with
    | some t => some (t, b)
    | none => none
  | _, _ => none
section
variable (call : Nat → List T → Ev T) (pars : Nat → List Str)
mutual
def evE : E → View → Ev T
  | .var i, ρ => Ev.of (match ρ[i]? with | some (some t) => some t | _ => none)
  | .con t, _ => Ev.pure t
  | .glob _ t, _ => Ev.pure t
  | .bin op a b, ρ => Ev.bind (evE a ρ) fun x => Ev.bind (evE b ρ) fun y => Ev.of (binT op x y)
  | .neg a, ρ => Ev.bind (evE a ρ) fun x => Ev.of ((intT x).map fun i => .int (-i))
  | .not a, ρ => Ev.bind (evE a ρ) fun x => Ev.of ((truT x).map fun b => .bl (!b))
  | .and a b, ρ => Ev.bind (evE a ρ) fun x => Ev.bind (Ev.of (truT x)) fun k => if k then evE b ρ else Ev.pure x
  | .or a b, ρ => Ev.bind (evE a ρ) fun x => Ev.bind (Ev.of (truT x)) fun k => if k then Ev.pure x else evE b ρ
  | .cmp op a b, ρ => Ev.bind (evE a ρ) fun x => Ev.bind (evE b ρ) fun y => Ev.of (cmpT op x y)
  | .chain op op' a b c, ρ => Ev.bind (evE a ρ) fun x => Ev.bind (evE b ρ) fun y => Ev.bind (Ev.of (cmpT op x y)) fun z => match z with
    | .bl true => Ev.bind (evE c ρ) fun w => Ev.of (cmpT op' y w)
    | .bl false => Ev.pure (.bl false)
    | _ => Ev.no
  | .ife c a b, ρ => Ev.bind (evT c ρ) fun k => if k then evE a ρ else evE b ρ
  | .tup es, ρ => Ev.bind (evEs es ρ) fun ts => Ev.of (if ts.length ≤ LIM then some (.tup ts) else none)
  | .lst es, ρ => Ev.bind (evEs es ρ) fun ts => Ev.of (if ts.length ≤ LIM then some (.lst ts) else none)
  | .dct ks vs, ρ => Ev.bind (evEs vs ρ) fun ts => Ev.of (if ks.length = ts.length ∧ ks.length ≤ 15 ∧ ks.Nodup then some (.dK (ks.map Sum.inr) ts) else none)
  | .idx a i, ρ => Ev.bind (evE a ρ) fun x => Ev.bind (evE i ρ) fun y => Ev.of (idxT x y)
  | .sl a lo hi, ρ => Ev.bind (evE a ρ) fun x => Ev.bind (evE lo ρ) fun l => Ev.bind (Ev.of (intT l)) fun i => Ev.bind (evE hi ρ) fun h => Ev.bind (Ev.of (intT h)) fun j => Ev.of (slT x (some i) (some j))
  | .slH a hi, ρ => Ev.bind (evE a ρ) fun x => Ev.bind (evE hi ρ) fun h => Ev.bind (Ev.of (intT h)) fun j => Ev.of (slT x none (some j))
  | .slL a lo, ρ => Ev.bind (evE a ρ) fun x => Ev.bind (evE lo ρ) fun l => Ev.bind (Ev.of (intT l)) fun i => Ev.of (slT x (some i) none)
  | .rev a, ρ => Ev.bind (evE a ρ) fun x => Ev.of (revT x)
  | .call f es, ρ => Ev.bind (evEs es ρ) fun ts => call f ts
  | .callK f es ks, ρ => Ev.bind (evEs es ρ) fun ts => call f (permG (pars f) ks ts)
  | .blt x es, ρ => Ev.bind (evEs es ρ) fun ts => Ev.of (bltT x ts)
  | .mth m a es, ρ => Ev.bind (evE a ρ) fun x => Ev.bind (evEs es ρ) fun ts => Ev.of (mthT m x ts)
  | .bget a k, ρ => Ev.bind (evE a ρ) (bagE fun b => (b.get k).map .int)
  | .blen a, ρ => Ev.bind (evE a ρ) (bagE fun b => some (.int b.cells.length))
  | .bcell a, ρ => Ev.bind (evE a ρ) (bagE fun b => (atI b.cells b.i).map .int)
  | .lc elt tg it c, ρ => Ev.bind (evI it ρ) fun items => Ev.bind (lcE tg (wipeV ρ (tgSlots tg)) (fun ρ' => Ev.bind (evT c ρ') fun k => if k then Ev.bind (evE elt ρ') fun y => Ev.pure (some y) else Ev.pure none) items) fun ys => Ev.pure (.lst ys)
  | .lc0 elt tg it, ρ => Ev.bind (evI it ρ) fun items => Ev.bind (lcE tg (wipeV ρ (tgSlots tg)) (fun ρ' => Ev.bind (evE elt ρ') fun y => Ev.pure (some y)) items) fun ys => Ev.pure (.lst ys)
def evT : Te → View → Ev Bool
  | .not a, ρ => Ev.bind (evT a ρ) fun k => Ev.pure (!k)
  | .and a b, ρ => Ev.bind (evT a ρ) fun k => if k then evT b ρ else Ev.pure false
  | .or a b, ρ => Ev.bind (evT a ρ) fun k => if k then Ev.pure true else evT b ρ
  | .tr e, ρ => Ev.bind (evE e ρ) fun x => Ev.of (truT x)
def evEs : Es → View → Ev (List T)
  | .nil, _ => Ev.pure []
  | .cons e r, ρ => Ev.bind (evE e ρ) fun x => Ev.bind (evEs r ρ) fun xs => Ev.pure (x :: xs)
def evI : It → View → Ev (List T)
  | .val e, ρ => Ev.bind (evE e ρ) fun x => Ev.of (seqT x)
  | .rng1 a, ρ => Ev.bind (evE a ρ) fun x => Ev.of ((intT x).bind fun j => rngT 0 j)
  | .rng2 a b, ρ => Ev.bind (evE a ρ) fun x => Ev.bind (evE b ρ) fun y => Ev.of ((intT x).bind fun i => (intT y).bind fun j => rngT i j)
  | .zip a b, ρ => Ev.bind (evE a ρ) fun x => Ev.bind (evE b ρ) fun y => Ev.of (zipT x y)
  | .enum a, ρ => Ev.bind (evE a ρ) fun x => Ev.of (enumT x)
end
end
end DI

set_option Elab.async false
set_option linter.all false
set_option maxRecDepth 100000
set_option maxHeartbeats 4000000
namespace DI
open PySem L2

/-! ### what the operations on values keep -/
def rTT (W : Wd) (g : T → T → Option T) : R2 := fun x y H Q => ∃ F b tx ty t, Sta W F H b ∧ Tr W F x tx ∧ Tr W F y ty ∧ g tx ty = some t ∧ ∀ v F' H', Post W F H b t v F' H' → Q v H'
def rTL (W : Wd) (g : List T → Option T) : List V → Hp → VK → Prop := fun xs H Q => ∃ F b ts t, Sta W F H b ∧ TrL W F xs ts ∧ g ts = some t ∧ ∀ v F' H', Post W F H b t v F' H' → Q v H'

section
variable {X : Cx} {W : Wd}

theorem tr_bl {F H : Hp} {b : Bag} {k : Bool} {Q : VK} (s : Sta W F H b) (h : ∀ v F' H', Post W F H b (.bl k) v F' H' → Q v H') : Q (.bl k) H := h _ F H (.same s (.bl k))
theorem tr_int {F H : Hp} {b : Bag} {k : Int} {Q : VK} (s : Sta W F H b) (h : ∀ v F' H', Post W F H b (.int k) v F' H' → Q v H') : Q (.int k) H := h _ F H (.same s (.int k))
theorem tr_str {F H : Hp} {b : Bag} {k : Str} {Q : VK} (s : Sta W F H b) (z : k.length ≤ LIM) (h : ∀ v F' H', Post W F H b (.str k) v F' H' → Q v H') : Q (.str k) H := h _ F H (.same s (.str k z))
theorem tr_lst {F H : Hp} {b : Bag} {ts : List T} {vs : List V} {Q : VK} (s : Sta W F H b) (z : ts.length ≤ LIM) (l : TrL W F vs ts) (h : ∀ v F' H', Post W F H b (.lst ts) v F' H' → Q v H') : ∀ p, H p = none → Q (.ref p) (upd H p (.lst vs)) :=
  fun p n => h _ _ _ (.lst s n z l)
theorem tr_tup {F H : Hp} {b : Bag} {ts : List T} {vs : List V} {Q : VK} (s : Sta W F H b) (z : ts.length ≤ LIM) (l : TrL W F vs ts) (h : ∀ v F' H', Post W F H b (.tup ts) v F' H' → Q v H') : ∀ p, H p = none → Q (.ref p) (upd H p (.tup vs)) :=
  fun p n => h _ _ _ (.tup s n z l)

theorem append_length (a b : Str) : (a ++ b).length = a.length + b.length := by
  show (a.cps ++ b.cps).size = _
  simp [Str.length]
theorem TrL.ne_nil {F : Hp} {vs : List V} {ts : List T} (l : TrL W F vs ts) : vs = [] ↔ ts = [] := by
  cases l <;> simp
theorem catT_some {α : Type} {a b r : List α} (h : catT a b = some r) : r = a ++ b ∧ a.length + b.length ≤ LIM := by
  unfold catT at h
  split at h
  · cases h; exact ⟨rfl, by assumption⟩
  · cases h
theorem wide_lt2 {i : Int} (h : wide i = true) : i.natAbs < 2 ^ 300 := of_decide_eq_true h

theorem op_addT (hK : X.K = W.K) : OpR X (binaryOp .Add) (rTT W addT) := by
  intro pins s σ H x y v u Q I rx ry h
  obtain ⟨F, b, tx, ty, t, st, hx, hy, e, q⟩ := h
  have hL := LIM_le
  cases hx <;> try (cases e)
  case int i =>
    cases hy <;> try (cases e)
    exact op_add pins s σ H _ _ v u Q I rx ry ⟨_, _, rfl, rfl, tr_int st q⟩
  case str a za =>
    cases hy with
    | str c zc =>
      simp only [addT] at e
      split at e
      · rename_i hz
        cases e
        exact op_add_str pins s σ H _ _ v u Q I rx ry ⟨_, _, rfl, rfl, Nat.le_trans hz LIM_le, tr_str st (by rw [append_length]; exact hz) q⟩
      · cases e
    | _ => cases e
  case lst a vs ts ha zs hl =>
    cases hy with
    | lst hb zb hl2 =>
      simp only [addT, Option.map_eq_some_iff] at e
      obtain ⟨r, e1, e2⟩ := e
      subst e2
      obtain ⟨rfl, hz⟩ := catT_some e1
      refine op_cat pins s σ H _ _ v u Q I rx ry ⟨_, _, _, _, rfl, rfl, st.lst ha, st.lst hb, ?_, tr_lst st (by rw [List.length_append]; exact hz) (hl.append hl2) q⟩
      rw [hl.length, hl2.length]; omega
    | _ => cases e
  case tup a vs ts ha zs hl =>
    cases hy with
    | tup hb zb hl2 =>
      simp only [addT, Option.map_eq_some_iff] at e
      obtain ⟨r, e1, e2⟩ := e
      subst e2
      obtain ⟨rfl, hz⟩ := catT_some e1
      refine op_catA pins s σ H _ _ v u Q I rx ry ⟨_, _, _, _, rfl, rfl, SqT.of (st.tup ha), SqT.of (st.tup hb), ?_, fun e0 => ?_, fun e0 e1 => ?_, fun e0 e1 => tr_tup st (by rw [List.length_append]; exact hz) (hl.append hl2) q⟩
      · rw [hl.length, hl2.length]; omega
      · subst e0
        cases hl
        exact q _ F H (.same st (.tup hb zb hl2))
      · subst e1
        cases hl2
        rw [List.append_nil] at q
        exact q _ F H (.same st (.tup ha zs hl))
    | _ => cases e

theorem op_mulT (hK : X.K = W.K) : OpR X (binaryOp .Mult) (rTT W mulT) := by
  intro pins s σ H x y v u Q I rx ry h
  obtain ⟨F, b, tx, ty, t, st, hx, hy, e, q⟩ := h
  have hL := LIM_le
  cases hx <;> try (cases e)
  case int i =>
    cases hy with
    | int j =>
      simp only [mulT] at e
      split at e
      · rename_i hw
        cases e
        unfold mulOk at hw
        simp only [Bool.or_eq_true, Bool.and_eq_true, decide_eq_true_eq] at hw
        rcases hw with (hw | hw) | hw
        · exact op_mul pins s σ H _ _ v u Q I rx ry ⟨_, _, rfl, rfl, .inl (by constructor <;> omega), tr_int st q⟩
        · exact op_mul pins s σ H _ _ v u Q I rx ry ⟨_, _, rfl, rfl, .inr (by constructor <;> omega), tr_int st q⟩
        · exact op_mulW pins s σ H _ _ v u Q I rx ry ⟨_, _, rfl, rfl, wide_mul (wide_lt2 hw.1) (wide_lt2 hw.2) (by decide) (by decide) (by decide), tr_int st q⟩
      · cases e
    | _ => cases e
  case lst a vs ts ha zs hl =>
    cases hy with
    | int k =>
      simp only [mulT] at e
      split at e
      · rename_i hw
        cases e
        refine op_rep pins s σ H _ _ v u Q I rx ry ⟨_, _, _, rfl, rfl, st.lst ha, by omega, by omega, ?_, tr_lst st ?_ (hl.rep k.toNat) q⟩
        · rw [hl.length]; omega
        · have : (List.replicate k.toNat ts).flatten.length = ts.length * k.toNat := by
            simp [List.length_flatten, Nat.mul_comm]
          omega
      · cases e
    | _ => cases e

theorem op_binT (hK : X.K = W.K) : ∀ op, OpR X (binaryOp op) (rTT W (binT op)) := by
  intro op
  cases op
  case Add => exact op_addT hK
  case Mult => exact op_mulT hK
  all_goals
    intro pins s σ H x y v u Q I rx ry h
    obtain ⟨F, b, tx, ty, t, st, hx, hy, e, q⟩ := h
  case Sub =>
    cases hx <;> try (cases e)
    cases hy <;> try (cases e)
    exact op_sub pins s σ H _ _ v u Q I rx ry ⟨_, _, rfl, rfl, tr_int st q⟩
  case FloorDiv =>
    cases hx <;> try (cases e)
    cases hy <;> try (cases e)
    simp only [binT] at e
    split at e
    · rename_i hw
      cases e
      exact op_fdivW pins s σ H _ _ v u Q I rx ry ⟨_, _, rfl, rfl, wide_div hw.1 (wide_lt2 hw.2) (by decide) (by decide), tr_int st q⟩
    · cases e
  case Mod =>
    cases hx <;> try (cases e)
    cases hy <;> try (cases e)
    simp only [binT] at e
    split at e
    · rename_i hw
      cases e
      exact op_mod pins s σ H _ _ v u Q I rx ry ⟨_, _, rfl, rfl, hw, tr_int st q⟩
    · cases e
  case Pow =>
    cases hx <;> try (cases e)
    cases hy <;> try (cases e)
    simp only [binT] at e
    split at e
    · rename_i hw
      cases e
      exact op_pow pins s σ H _ _ v u Q I rx ry ⟨_, _, rfl, rfl, ⟨hw.1, by omega, hw.2.2⟩, tr_int st q⟩
    · cases e
  all_goals cases e

/-! ### == -/
mutual
theorem Tr.dp {F H : Hp} {b : Bag} (st : Sta W F H b) : ∀ {v : V} {t : T} {d : PyData}, Tr W F v t → toD t = some d → Dp W.K H v d
  | _, _, _, .non, e => by cases e; exact .non
  | _, _, _, .bl k, e => by cases e; exact .bl k
  | _, _, _, .int i, e => by cases e; exact .int i
  | _, _, _, .str x z, e => by cases e; exact .str x
  | _, _, _, .ty n, e => by cases e
  | _, _, _, .cls h, e => by cases e
  | _, _, _, .tup h z l, e => by
    simp only [toD, Option.map_eq_some_iff] at e
    obtain ⟨ds, e1, e2⟩ := e
    subst e2
    exact .tup (SqT.of (st.tup h)) (TrL.dp st l e1)
  | _, _, _, .lst h z l, e => by
    simp only [toD, Option.map_eq_some_iff] at e
    obtain ⟨ds, e1, e2⟩ := e
    subst e2
    exact .lst (SqL.of (st.lst h)) (TrL.dp st l e1)
  | _, _, _, .dK h l, e => by cases e
  | _, _, _, .dT h l, e => by cases e
  | _, _, _, .obj h c l, e => by cases e
  | _, _, _, .bag, e => by cases e
theorem TrL.dp {F H : Hp} {b : Bag} (st : Sta W F H b) : ∀ {vs : List V} {ts : List T} {ds : List PyData}, TrL W F vs ts → toDs ts = some ds → DpAll W.K H vs ds
  | _, _, _, .nil, e => by cases e; exact .nil
  | _, _, _, .cons (t := t) (ts := ts) h l, e => by
    simp only [toDs] at e
    cases q : toD t with
    | none => rw [q] at e; cases e
    | some d =>
      cases q2 : toDs ts with
      | none => rw [q, q2] at e; cases e
      | some ds =>
        rw [q, q2] at e
        cases e
        exact .cons (Tr.dp st h q) (TrL.dp st l q2)
end
theorem eqD_some {x y : T} {k : Bool} (h : eqD x y = some k) : ∃ d e, toD x = some d ∧ toD y = some e ∧ SeqAt.shaped d = true ∧ SeqAt.shaped e = true ∧ k = PyData.eqv d e := by
  unfold eqD at h
  split at h
  · rename_i d e hd he
    split at h
    · rename_i hs
      cases h
      rw [Bool.and_eq_true] at hs
      exact ⟨d, e, hd, he, hs.1, hs.2, rfl⟩
    · cases h
  · cases h

theorem atomV_tr {F : Hp} {v : V} {t : T} {w : V} (h : Tr W F v t) (e : atomV t = some w) : v = w ∧ flatV v = true := by
  cases h <;> cases e <;> exact ⟨rfl, rfl⟩
theorem eqT_some {F : Hp} {v w : V} {x y : T} {k : Bool} (h : eqT x y = some k) (hv : Tr W F v x) (hw : Tr W F w y) : (scal v w = true ∧ k = decide (v = w)) ∨ eqD x y = some k := by
  unfold eqT at h
  split at h
  · rename_i v' w' e1 e2
    obtain ⟨rfl, _⟩ := atomV_tr hv e1
    obtain ⟨rfl, _⟩ := atomV_tr hw e2
    split at h
    · cases h; exact .inl ⟨by assumption, rfl⟩
    · exact .inr h
  · exact .inr h
theorem atomVs_tr {F : Hp} : ∀ {vs : List V} {ts : List T} {ws : List V}, TrL W F vs ts → atomVs ts = some ws → vs = ws ∧ vs.all flatV = true
  | _, _, _, .nil, e => by cases e; exact ⟨rfl, rfl⟩
  | _, _, _, .cons (t := t) (ts := ts) h l, e => by
    simp only [atomVs] at e
    cases q : atomV t with
    | none => rw [q] at e; cases e
    | some w =>
      cases q2 : atomVs ts with
      | none => rw [q, q2] at e; cases e
      | some ws =>
        rw [q, q2] at e
        cases e
        obtain ⟨e1, f1⟩ := atomV_tr h q
        obtain ⟨e2, f2⟩ := atomVs_tr l q2
        exact ⟨by rw [e1, e2], by rw [List.all_cons, f1, f2]; rfl⟩
theorem inSeq_some {x : T} {ts : List T} {k : Bool} (h : inSeq x ts = some k) : ∃ v vs, atomV x = some v ∧ atomVs ts = some vs ∧ k = inV v vs := by
  unfold inSeq at h
  split at h
  · rename_i v vs h1 h2
    cases h
    exact ⟨v, vs, h1, h2, rfl⟩
  · cases h

theorem op_inT (hK : X.K = W.K) (neg : Bool) : OpR X (compareOp (if neg then .NotIn else .In)) (rTT W fun x y => (inT x y).map fun k => .bl (if neg then !k else k)) := by
  intro pins s σ H x y v u Q I rx ry h
  obtain ⟨F, b, tx, ty, t, st, hx, hy, e, q⟩ := h
  simp only [Option.map_eq_some_iff] at e
  obtain ⟨k, e1, e2⟩ := e
  subst e2
  have q := tr_bl st q
  cases hy with
  | lst ha z hl =>
    obtain ⟨xv, vs, h1, h2, rfl⟩ := inSeq_some (show inSeq tx _ = some k from e1)
    obtain ⟨rfl, f1⟩ := atomV_tr hx h1
    obtain ⟨rfl, f2⟩ := atomVs_tr hl h2
    cases neg with
    | true => exact op_notIn_seq pins s σ H _ _ v u Q I rx ry ⟨_, _, rfl, .inl (SqL.of (st.lst ha)), f1, f2, q⟩
    | false => exact op_in_seq pins s σ H _ _ v u Q I rx ry ⟨_, _, rfl, .inl (SqL.of (st.lst ha)), f1, f2, q⟩
  | tup ha z hl =>
    obtain ⟨xv, vs, h1, h2, rfl⟩ := inSeq_some (show inSeq tx _ = some k from e1)
    obtain ⟨rfl, f1⟩ := atomV_tr hx h1
    obtain ⟨rfl, f2⟩ := atomVs_tr hl h2
    cases neg with
    | true => exact op_notIn_seq pins s σ H _ _ v u Q I rx ry ⟨_, _, rfl, .inr (SqT.of (st.tup ha)), f1, f2, q⟩
    | false => exact op_in_seq pins s σ H _ _ v u Q I rx ry ⟨_, _, rfl, .inr (SqT.of (st.tup ha)), f1, f2, q⟩
  | str z hz =>
    cases hx with
    | str c hc =>
      obtain ⟨⟨l⟩⟩ := c
      match l, e1 with
      | [c], e1 =>
        cases e1
        cases neg with
        | true => exact op_notIn_sign pins s σ H _ _ v u Q I rx ry ⟨_, _, rfl, rfl, q⟩
        | false => exact op_in_sign pins s σ H _ _ v u Q I rx ry ⟨_, _, rfl, rfl, q⟩
    | _ => cases e1
  | _ => cases e1

theorem op_cmpT (hK : X.K = W.K) (hu : X.A.units + 64 < cLine) : ∀ op, OpR X (compareOp op) (rTT W (cmpT op)) := by
  intro op
  cases op
  case In => exact op_inT hK false
  case NotIn => exact op_inT hK true
  all_goals
    intro pins s σ H x y v u Q I rx ry h
    obtain ⟨F, b, tx, ty, t, st, hx, hy, e, q⟩ := h
  case Eq =>
    simp only [cmpT, Option.map_eq_some_iff] at e
    obtain ⟨k, e1, e2⟩ := e
    subst e2
    rcases eqT_some e1 hx hy with ⟨hs, rfl⟩ | e1
    · exact op_eq pins s σ H _ _ v u Q I rx ry ⟨hs, tr_bl st q⟩
    obtain ⟨d, e, hd, he, sd, se, rfl⟩ := eqD_some e1
    exact op_eqD hu pins s σ H _ _ v u Q I rx ry ⟨d, e, by rw [hK]; exact Tr.dp st hx hd, by rw [hK]; exact Tr.dp st hy he, sd, se, tr_bl st q⟩
  case NotEq =>
    simp only [cmpT, Option.map_eq_some_iff] at e
    obtain ⟨k, e1, e2⟩ := e
    subst e2
    rcases eqT_some e1 hx hy with ⟨hs, rfl⟩ | e1
    · exact op_ne pins s σ H _ _ v u Q I rx ry ⟨hs, tr_bl st q⟩
    obtain ⟨d, e, hd, he, sd, se, rfl⟩ := eqD_some e1
    exact op_neD hu pins s σ H _ _ v u Q I rx ry ⟨d, e, by rw [hK]; exact Tr.dp st hx hd, by rw [hK]; exact Tr.dp st hy he, sd, se, tr_bl st q⟩
  case Lt =>
    cases hx <;> try (cases e)
    case int i =>
      cases hy <;> try (cases e)
      exact op_lt pins s σ H _ _ v u Q I rx ry ⟨_, _, rfl, rfl, tr_bl st q⟩
    case str i =>
      cases hy <;> try (cases e)
      exact op_lt_str pins s σ H _ _ v u Q I rx ry ⟨_, _, rfl, rfl, tr_bl st q⟩
  case LtE =>
    cases hx <;> try (cases e)
    cases hy <;> try (cases e)
    exact op_le pins s σ H _ _ v u Q I rx ry ⟨_, _, rfl, rfl, tr_bl st q⟩
  case Gt =>
    cases hx <;> try (cases e)
    cases hy <;> try (cases e)
    exact op_gt pins s σ H _ _ v u Q I rx ry ⟨_, _, rfl, rfl, tr_bl st q⟩
  case GtE =>
    cases hx <;> try (cases e)
    cases hy <;> try (cases e)
    exact op_ge pins s σ H _ _ v u Q I rx ry ⟨_, _, rfl, rfl, tr_bl st q⟩
  case Is =>
    cases hy <;> try (cases e)
    refine op_isN pins s σ H _ _ v u Q I rx ry ⟨rfl, ?_⟩
    have q := tr_bl st q
    cases hx <;> exact q
  case IsNot =>
    cases hy <;> try (cases e)
    refine op_notN pins s σ H _ _ v u Q I rx ry ⟨rfl, ?_⟩
    have q := tr_bl st q
    cases hx <;> exact q

/-! ### truth -/
theorem truV_of {F H : Hp} {b : Bag} {x : V} {t : T} {k : Bool} (st : Sta W F H b) (h : Tr W F x t) (e : truT t = some k) : TruV W.K x H k := by
  have hL := LIM_le
  cases h <;> cases e
  case non => rfl
  case bl => rfl
  case int => rfl
  case str x z => exact ⟨Nat.le_trans z hL, by
    show (x.length != 0) = ((x.length : Int) != 0)
    by_cases h : x.length = 0
    · rw [h]; rfl
    · have : ((x.length : Nat) : Int) ≠ 0 := by omega
      rw [bne_iff_ne.mpr h, bne_iff_ne.mpr this]⟩
  case tup ha z hl =>
    refine .inr (.inl ⟨_, SqT.of (st.tup ha), ?_⟩)
    cases hl <;> rfl
  case lst ha z hl =>
    refine .inl ⟨_, SqL.of (st.lst ha), ?_⟩
    cases hl <;> rfl

/-! ### subscripts, slices -/
theorem TrL.atI {F : Hp} {vs : List V} {ts : List T} {k : Int} {t : T} (l : TrL W F vs ts) (e : L2.atI ts k = some t) : ∃ v, L2.atI vs k = some v ∧ Tr W F v t := by
  unfold L2.atI at e ⊢
  rw [l.length]
  cases q : ixN ts.length k with
  | none => rw [q] at e; cases e
  | some j => rw [q] at e; exact l.get e
theorem ix_T (hK : X.K = W.K) : IxR X (rTT W idxT) := by
  intro value slice pins s σ H x y v u Q I rx ry h hs
  obtain ⟨F, b, tx, ty, t, st, hx, hy, e, q⟩ := h
  have hL := LIM_le
  cases hx <;> try (cases e)
  case tup ha z hl =>
    cases hy <;> try (cases e)
    obtain ⟨w, e1, h1⟩ := hl.atI e
    exact ix_tup value slice pins s σ H _ _ v u Q I rx ry ⟨_, _, _, _, rfl, rfl, SqT.of (st.tup ha), e1, q _ F H (.same st h1)⟩ hs
  case lst ha z hl =>
    cases hy <;> try (cases e)
    obtain ⟨w, e1, h1⟩ := hl.atI e
    exact ix_list value slice pins s σ H _ _ v u Q I rx ry ⟨_, _, _, _, rfl, rfl, SqL.of (st.lst ha), e1, q _ F H (.same st h1)⟩ hs
  case str z hz =>
    cases hy <;> try (cases e)
    simp only [idxT, Option.map_eq_some_iff] at e
    obtain ⟨c, e1, rfl⟩ := e
    exact ix_str value slice pins s σ H _ _ v u Q I rx ry ⟨_, _, _, rfl, rfl, Nat.le_trans hz hL, e1, tr_str st (by show 1 ≤ LIM; decide) q⟩ hs
def rTS (W : Wd) : V → Option Int → Option Int → Hp → VK → Prop := fun x lo hi H Q => ∃ F b tx t, Sta W F H b ∧ Tr W F x tx ∧ slT tx lo hi = some t ∧ ∀ v F' H', Post W F H b t v F' H' → Q v H'
theorem TrL.cut {F : Hp} {vs : List V} {ts : List T} (l : TrL W F vs ts) (lo hi : Option Int) : TrL W F (cutV vs lo hi) (cutT ts lo hi) := by
  unfold cutV cutT
  rw [l.length]
  exact (l.drop _).take _
theorem cutT_len (ts : List T) (lo hi : Option Int) : (cutT ts lo hi).length ≤ ts.length := by
  unfold cutT
  rw [List.length_take, List.length_drop]
  omega
theorem sl_T (hK : X.K = W.K) : SlR X (rTS W) := by
  intro pins s σ H x v vl vu lo hi sl Q I rx hs pl pu h
  obtain ⟨F, b, tx, t, st, hx, e, q⟩ := h
  have hL := LIM_le
  cases hx <;> cases e
  case tup a vs ts ha z hl =>
    refine sl_tupA pins s σ H _ v vl vu lo hi sl Q I rx hs pl pu ⟨_, _, rfl, SqT.of (st.tup ha), fun hw => ?_, fun hw => tr_tup st (Nat.le_trans (cutT_len _ _ _) z) (hl.cut lo hi) q⟩
    rw [hl.length] at hw
    have this : cutT ts lo hi = ts := by
      unfold cutT
      rw [hw.1, hw.2]
      simp
    rw [this] at q
    exact q _ F H (.same st (.tup ha z hl))
  case lst ha z hl =>
    exact sl_list pins s σ H _ v vl vu lo hi sl Q I rx hs pl pu ⟨_, _, rfl, SqL.of (st.lst ha), tr_lst st (Nat.le_trans (cutT_len _ _ _) z) (hl.cut lo hi) q⟩
  case str z hz =>
    exact sl_str pins s σ H _ v vl vu lo hi sl Q I rx hs pl pu ⟨_, rfl, Nat.le_trans hz hL, tr_str st (Nat.le_trans (cutS_length _ _ _) hz) q⟩
end
end DI

set_option Elab.async false
set_option linter.all false
set_option maxRecDepth 100000
set_option maxHeartbeats 4000000
namespace DI
open PySem L2

/-! ### texts in order: what a sorted list of texts is -/
theorem ltS_irrefl (x : Str) : ltS x x = false := by
  unfold ltS
  exact decide_eq_false (List.lt_irrefl _)
theorem ltS_trans {x y z : Str} (h : ltS x y = true) (k : ltS y z = true) : ltS x z = true := by
  unfold ltS at *
  exact decide_eq_true (List.lt_trans (of_decide_eq_true h) (of_decide_eq_true k))
theorem ltS_asymm {x y : Str} (h : ltS x y = true) : ltS y x = false := by
  cases q : ltS y x with
  | false => rfl
  | true => exact absurd (ltS_trans h q) (by rw [ltS_irrefl]; decide)
theorem ltS_total {x y : Str} (h : ltS x y = false) (k : ltS y x = false) : x = y := by
  unfold ltS at *
  have h1 : ¬ x.cps.toList < y.cps.toList := of_decide_eq_false h
  have h2 : ¬ y.cps.toList < x.cps.toList := of_decide_eq_false k
  have h3 : x.cps.toList = y.cps.toList := List.le_antisymm (List.not_lt.mp h2) (List.not_lt.mp h1)
  obtain ⟨⟨a⟩⟩ := x
  obtain ⟨⟨b⟩⟩ := y
  simp at h3
  rw [h3]
theorem leS_trans {x y z : Str} (h : ltS y x = false) (k : ltS z y = false) : ltS z x = false := by
  cases q : ltS z x with
  | false => rfl
  | true =>
    cases q2 : ltS x y with
    | true => rw [ltS_trans q q2] at k; cases k
    | false =>
      have := ltS_total q2 h
      subst this
      rw [q] at k; cases k
def RisS : List Str → Prop
  | [] => True
  | x :: r => (∀ y ∈ r, ltS y x = false) ∧ RisS r
theorem risS_mem {x : Str} : ∀ {l : List Str}, PyProof.Rows.risingS x l = true → (∀ y ∈ l, ltS y x = false) ∧ RisS l
  | [], _ => ⟨fun _ h => (nomatch h), trivial⟩
  | y :: r, h => by
    simp only [PyProof.Rows.risingS, Bool.and_eq_true, Bool.not_eq_true', PyProof.Rows.ltCps_eq] at h
    obtain ⟨h1, h2⟩ := h
    obtain ⟨h3, h4⟩ := risS_mem h2
    refine ⟨fun z hz => ?_, h3, h4⟩
    rcases List.mem_cons.mp hz with rfl | hz
    · exact h1
    · exact leS_trans h1 (h3 z hz)
theorem risS_of {l : List Str} (h : PyProof.Rows.sortedS l = true) : RisS l := by
  cases l with
  | nil => trivial
  | cons x r => exact risS_mem h
theorem insS_mem {x y : Str} : ∀ {l : List Str}, y ∈ insS x l ↔ y = x ∨ y ∈ l
  | [] => by simp [insS]
  | z :: r => by
    unfold insS
    split
    · simp [insS_mem (l := r)]
      constructor
      · rintro (h | h | h)
        · exact .inr (.inl h)
        · exact .inl h
        · exact .inr (.inr h)
      · rintro (h | h | h)
        · exact .inr (.inl h)
        · exact .inl h
        · exact .inr (.inr h)
    · simp
theorem insS_perm (x : Str) : ∀ l : List Str, (insS x l).Perm (x :: l)
  | [] => List.Perm.refl _
  | z :: r => by
    unfold insS
    split
    · exact ((insS_perm x r).cons z).trans (List.Perm.swap x z r)
    · exact List.Perm.refl _
theorem insS_ris (x : Str) : ∀ {l : List Str}, RisS l → RisS (insS x l)
  | [], _ => ⟨fun _ h => (nomatch h), trivial⟩
  | z :: r, h => by
    unfold insS
    split
    · rename_i hz
      refine ⟨fun y hy => ?_, insS_ris x h.2⟩
      rcases insS_mem.mp hy with rfl | hy
      · exact ltS_asymm hz
      · exact h.1 y hy
    · rename_i hz
      have hz : ltS z x = false := by simpa using hz
      refine ⟨fun y hy => ?_, h⟩
      rcases List.mem_cons.mp hy with rfl | hy
      · exact hz
      · exact leS_trans hz (h.1 y hy)
theorem sortS_perm : ∀ l : List Str, (sortS l).Perm l
  | [] => List.Perm.refl _
  | x :: r => (insS_perm x (sortS r)).trans ((sortS_perm r).cons x)
theorem sortS_ris : ∀ l : List Str, RisS (sortS l)
  | [] => trivial
  | x :: r => insS_ris x (sortS_ris r)
theorem risS_uniq : ∀ {l m : List Str}, RisS l → RisS m → l.Perm m → l = m
  | [], m, _, _, p => (List.nil_perm.mp p).symm
  | x :: r, [], _, _, p => by have := p.length_eq; simp at this
  | x :: r, y :: s, h, k, p => by
    have hx : x ∈ y :: s := p.subset (by simp)
    have hy : y ∈ x :: r := p.symm.subset (by simp)
    have e : x = y := by
      rcases List.mem_cons.mp hx with e | hx
      · exact e
      · rcases List.mem_cons.mp hy with e | hy
        · exact e.symm
        · exact ltS_total (k.1 x hx) (h.1 y hy)
    subst e
    rw [risS_uniq h.2 k.2 (List.Perm.cons_inv p)]

/-! ### the built-ins by values -/
section
variable {X : Cx} {W : Wd}
def biVal : Bi → Value
  | .len => .builtin "len"
  | .abs => .builtin "abs"
  | .all => .builtin "all"
  | .any => .builtin "any"
  | .isi => .builtin "isinstance"
  | .sorted => .builtin "sorted"
  | .list => .type "list"
  | .tuple => .type "tuple"
  | .int => .type "int"
  | .str => .type "str"
def biName : Bi → Str
  | .len => "len"
  | .abs => "abs"
  | .all => "all"
  | .any => "any"
  | .isi => "isinstance"
  | .sorted => "sorted"
  | .list => "list"
  | .tuple => "tuple"
  | .int => "int"
  | .str => "str"
theorem bi_boot (x : Bi) : bootBuiltins (biName x) = some (biVal x) := by
  cases x <;> decide +kernel

theorem boolsT_tr {F : Hp} : ∀ {vs : List V} {ts : List T} {bs : List Bool}, TrL W F vs ts → boolsT ts = some bs → vs = bs.map V.bl
  | _, _, _, .nil, e => by cases e; rfl
  | _, _, _, .cons h l, e => by
    cases h <;> try (cases e)
    simp only [boolsT, Option.map_eq_some_iff] at e
    obtain ⟨bs, e1, rfl⟩ := e
    rw [boolsT_tr l e1]
    rfl
theorem strsT_tr {F : Hp} : ∀ {vs : List V} {ts : List T} {xs : List Str}, TrL W F vs ts → strsT ts = some xs → vs = xs.map V.str ∧ ts = xs.map T.str ∧ ∀ x ∈ xs, x.length ≤ LIM
  | _, _, _, .nil, e => by cases e; exact ⟨rfl, rfl, fun _ h => by cases h⟩
  | _, _, _, .cons h l, e => by
    cases h <;> try (cases e)
    rename_i x z
    simp only [strsT, Option.map_eq_some_iff] at e
    obtain ⟨xs, e1, rfl⟩ := e
    obtain ⟨h1, h2, h3⟩ := strsT_tr l e1
    refine ⟨by rw [h1]; rfl, by rw [h2]; rfl, fun y hy => ?_⟩
    rcases List.mem_cons.mp hy with rfl | hy
    · exact z
    · exact h3 y hy

theorem kd_ty {F H : Hp} {b : Bag} {x : V} {t : T} {k : Kd} (st : Sta W F H b) (h : Tr W F x t) (e : kdOf t = some k) : TyX W.K H x (.type (kdName k)) := by
  cases h <;> cases e
  case non => exact .base .non
  case bl => exact .base (.bl _)
  case int => exact .base (.int _)
  case str => exact .base (.str _)
  case tup ha z hl => exact .base (.tup (st.tup ha))
  case lst ha z hl => exact .base (.lst (st.lst ha))
  case dK ha hl =>
    rcases st.fz _ _ ha with q | ⟨_, od, q⟩
    · exact .base (.dK q)
    · exact .fDict q
  case dT ha hl =>
    rcases st.fz _ _ ha with q | ⟨q, _⟩
    · exact .base (.dT q)
    · exact q.elim
theorem kd_kit (k c : Kd) (hc : c ≠ .non) : kitB (kdName k) (kdName c) = some (kdIs k c) := by
  cases k <;> cases c <;> first | exact absurd rfl hc | decide +kernel
theorem kdTy_some {n : String} {c : Kd} (h : kdTy n = some c) : n = kdName c ∧ c ≠ .non := by
  unfold kdTy at h
  split at h <;> cases h <;> exact ⟨rfl, by intro e; cases e⟩
theorem isiOne_some {F : Hp} {x : Kd} {c : V} {t : T} {r : Bool} (h : Tr W F c t) (e : isiOne x t = some r) : ∃ u, ClsV c u ∧ PySem.W.kitOne W.K (.type (kdName x)) u = some r := by
  cases h <;> try (cases e)
  rename_i n
  simp only [isiOne, Option.map_eq_some_iff] at e
  obtain ⟨k, e1, rfl⟩ := e
  obtain ⟨rfl, hk⟩ := kdTy_some e1
  exact ⟨_, .ty _, kit_ty (kd_kit x k hk)⟩
theorem isiAny_some {F : Hp} {x : Kd} : ∀ {cs : List V} {ts : List T} {r : Bool}, TrL W F cs ts → isiAny x ts = some r → ∃ us, Paired ClsV cs us ∧ PySem.W.kitAny W.K (.type (kdName x)) us = some r
  | _, _, _, .nil, e => by cases e; exact ⟨[], .nil, rfl⟩
  | _, _, r, .cons (t := t) (ts := ts) h l, e => by
    simp only [isiAny] at e
    cases q : isiOne x t with
    | none => rw [q] at e; cases e
    | some k =>
      cases q2 : isiAny x ts with
      | none => rw [q, q2] at e; cases e
      | some k2 =>
        rw [q, q2] at e
        cases e
        obtain ⟨u, hu, hk⟩ := isiOne_some h q
        obtain ⟨us, hus, hr⟩ := isiAny_some l q2
        refine ⟨u :: us, .cons hu hus, kitAny_cons hk (fun z => ?_) fun z => ?_⟩
        · rw [z]; exact hr
        · rw [z]; rfl

theorem chrs_trl {F : Hp} (s : Str) : TrL W F ((chrs s).map V.str) ((chrs s).map T.str) := TrL.strs _ fun x hx => by
  obtain ⟨c, _, rfl⟩ := List.mem_map.mp hx
  show 1 ≤ LIM
  decide
theorem cr_listS (hc : X.calm = true) : CallR X (.type "list") (fun xs H Q => ∃ z : Str, xs = [.str z] ∧ z.length ≤ sizeLine ∧ ∀ l, H l = none → Q (.ref l) (upd H l (.lst ((chrs z).map V.str)))) := by
  intro pins s σ H xs us Q I r h
  obtain ⟨z, rfl, hz, q⟩ := h
  obtain ⟨u, rfl, rx⟩ := vals1 r
  obtain ⟨t, rfl⟩ := rx
  refine PySem.call_list_str (I.ok.hd hc) z t (hn := hz) fun h' tk acc c' hk hS hacc => ?_
  refine ⟨.ref s.heap.objs.size, upd H s.heap.objs.size (.lst ((chrs z).map V.str)), I.laid (t' := tk) hk (Nat.le_refl _) ?_, rfl, q _ (I.hok.fresh (Nat.le_refl _))⟩
  have hl : ((chrs z).map V.str).length = z.length := by
    rw [List.length_map]; unfold chrs; rw [List.length_map, Array.length_toList]; rfl
  refine (show ObjOk X.prog X.w _ h' _ (.lst _) from ⟨by rw [hl]; exact hz, acc.toList, c', ?_, by rw [Array.toArray_toList]; exact hS⟩)
  have key : ∀ (l : List Nat) (vs : List Value), vs.length = l.length → (∀ (j : Nat) v, vs[j]? = some v → ∃ c u, l[j]? = some c ∧ v = Value.str ⟨#[c]⟩ u) → Vals ((l.map fun c => (⟨#[c]⟩ : Str)).map V.str) vs := by
    intro l
    induction l with
    | nil => intro vs hv _; cases vs with | nil => exact .nil | cons _ _ => cases hv
    | cons c r ih =>
      intro vs hv hj
      cases vs with
      | nil => cases hv
      | cons v vs =>
        obtain ⟨c', u, h1, h2⟩ := hj 0 v rfl
        simp at h1
        subst h1
        refine .cons ⟨u, h2⟩ (ih vs (by simpa using hv) fun j w hw => ?_)
        obtain ⟨c2, u2, h3, h4⟩ := hj (j + 1) w (by simpa using hw)
        exact ⟨c2, u2, by simpa using h3, h4⟩
  refine key z.cps.toList acc.toList (by rw [Array.length_toList, Array.length_toList]; exact hacc.1) fun j v hv => ?_
  obtain ⟨c, u, h1, h2⟩ := hacc.2 j v (by simpa using hv)
  exact ⟨c, u, by simpa using h1, h2⟩
theorem sortS_len (xs : List Str) : (sortS xs).length = xs.length := (sortS_perm xs).length_eq

theorem cr_T (hK : X.K = W.K) (hc : X.calm = true) : ∀ x, CallR X (biVal x) (rTL W (bltT x)) := by
  intro x pins s σ H xs us Q I r h
  obtain ⟨F, b, ts, t, st, hl, e, q⟩ := h
  have hL := LIM_le
  cases x
  case len =>
    match ts, hl, e with
    | [.str z], .cons (.str _ hz) .nil, e => cases e; exact call_len pins s σ H _ us Q I r ⟨_, _, rfl, ⟨Nat.le_trans hz hL, rfl⟩, tr_int st q⟩
    | [.lst zs], .cons (.lst ha hz hs) .nil, e => cases e; exact call_len pins s σ H _ us Q I r ⟨_, _, rfl, .inl ⟨_, SqL.of (st.lst ha), hs.length.symm⟩, tr_int st q⟩
    | [.tup zs], .cons (.tup ha hz hs) .nil, e => cases e; exact call_len pins s σ H _ us Q I r ⟨_, _, rfl, .inr ⟨_, SqT.of (st.tup ha), hs.length.symm⟩, tr_int st q⟩
  case abs =>
    match ts, hl, e with
    | [.int i], .cons (.int _) .nil, e => cases e; exact call_abs pins s σ H _ us Q I r ⟨_, rfl, tr_int st q⟩
  case all =>
    match ts, hl, e with
    | [.lst zs], .cons (.lst ha hz hs) .nil, e =>
      simp only [bltT, Option.map_eq_some_iff] at e
      obtain ⟨bs, e1, rfl⟩ := e
      have e2 := boolsT_tr hs e1
      subst e2
      exact cr_all hc pins s σ H _ us Q I r ⟨_, _, rfl, SqL.of (st.lst ha), tr_bl st q⟩
  case any =>
    match ts, hl, e with
    | [.lst zs], .cons (.lst ha hz hs) .nil, e =>
      simp only [bltT, Option.map_eq_some_iff] at e
      obtain ⟨bs, e1, rfl⟩ := e
      have e2 := boolsT_tr hs e1
      subst e2
      exact cr_any hc pins s σ H _ us Q I r ⟨_, _, rfl, SqL.of (st.lst ha), tr_bl st q⟩
  case isi =>
    match ts, hl, e with
    | [x, c], .cons hx (.cons hcl .nil), e =>
      simp only [bltT, Option.map_eq_some_iff] at e
      obtain ⟨k, e1, rfl⟩ := e
      have q := tr_bl st q
      unfold isiT at e1
      cases kx : kdOf x with
      | none => rw [kx] at e1; cases e1
      | some kd =>
        rw [kx] at e1
        have ty := kd_ty st hx kx
        cases hcl with
        | tup ha hz hs =>
          obtain ⟨us', hus, hr⟩ := isiAny_some hs (show isiAny kd _ = some k from e1)
          exact call_isiT pins s σ H _ us Q I r ⟨_, _, _, _, _, _, rfl, st.tup ha, hus, by rw [hK]; exact ty, by rw [hK]; exact hr, q⟩
        | ty n =>
          obtain ⟨u, hu, hr⟩ := isiOne_some (F := F) (.ty n) (show isiOne kd _ = some k from e1)
          exact call_isi pins s σ H _ us Q I r ⟨_, _, _, _, _, rfl, hu, by rw [hK]; exact ty, by rw [hK]; exact hr, q⟩
        | _ => cases e1
  case sorted =>
    match ts, hl, e with
    | [.lst zs], .cons (.lst ha hz hs) .nil, e =>
      simp only [bltT] at e
      cases q1 : strsT zs with
      | none => rw [q1] at e; cases e
      | some ys =>
        rw [q1] at e
        simp only at e
        split at e
        · rename_i h64
          cases e
          obtain ⟨e2, e3, e4⟩ := strsT_tr hs q1
          subst e2
          refine cr_sortedS pins s σ H _ us Q I r ⟨_, _, rfl, SqL.of (st.lst ha), h64, fun zs p hp hsr hn => ?_⟩
          have e5 : zs = sortS ys := risS_uniq (risS_of hsr) (sortS_ris ys) (hp.trans (sortS_perm ys).symm)
          subst e5
          refine tr_lst st ?_ (TrL.strs _ fun x hx => e4 x ((sortS_perm ys).subset hx)) q p hn
          rw [List.length_map, sortS_len]
          have : LIM = 1000000 := rfl
          omega
        · cases e
  case list =>
    match ts, hl, e with
    | [.lst zs], .cons (.lst ha hz hs) .nil, e => cases e; exact call_list_of pins s σ H _ us Q I r ⟨_, _, rfl, .inl (SqL.of (st.lst ha)), tr_lst st hz hs q⟩
    | [.tup zs], .cons (.tup ha hz hs) .nil, e => cases e; exact call_list_of pins s σ H _ us Q I r ⟨_, _, rfl, .inr (SqT.of (st.tup ha)), tr_lst st hz hs q⟩
    | [.str z], .cons (.str _ hz) .nil, e =>
      cases e
      refine cr_listS hc pins s σ H _ us Q I r ⟨_, rfl, Nat.le_trans hz hL, tr_lst st ?_ (chrs_trl z) q⟩
      rw [List.length_map]; unfold chrs; rw [List.length_map, Array.length_toList]; exact hz
  case tuple =>
    match ts, hl, e with
    | [.lst zs], .cons (.lst ha hz hs) .nil, e => cases e; exact call_tuple_of pins s σ H _ us Q I r ⟨_, _, rfl, .inl ⟨SqL.of (st.lst ha), tr_tup st hz hs q⟩⟩
    | [.tup zs], .cons (.tup ha hz hs) .nil, e => cases e; exact call_tuple_of pins s σ H _ us Q I r ⟨_, _, rfl, .inr ⟨SqT.of (st.tup ha), q _ F H (.same st (.tup ha hz hs))⟩⟩
  case int =>
    match ts, hl, e with
    | [.int i], .cons (.int _) .nil, e =>
      cases e
      obtain ⟨u, rfl, rx⟩ := vals1 r
      obtain ⟨t, rfl⟩ := rx
      exact PySem.call_int_int ⟨.int i, H, I, ⟨t, rfl⟩, tr_int st q⟩
  case str =>
    match ts, hl, e with
    | [.int i], .cons (.int _) .nil, e =>
      simp only [bltT] at e
      split at e
      · rename_i hw
        cases e
        have h1 := PySem.Flt.log2_lt_of (by decide : 0 < 300) (wide_lt2 hw.1)
        exact call_str_int pins s σ H _ us Q I r ⟨_, rfl, by omega, tr_str st hw.2 q⟩
      · cases e
end
end DI

set_option Elab.async false
set_option linter.all false
set_option maxRecDepth 100000
set_option maxHeartbeats 4000000
namespace DI
open PySem L2

/-! ### does a term say what a text says -/
structure Gm where
  con : List (Str × T)
  fn : Nat → Option Str
  kw : List (Nat × List Str)
structure Cc where
  N : List Str
  sc : Scope
  fnb : Str → Bool
def visB : Option NameKind → Bool
  | some .local => true
  | some .cell => true
  | some .free => true
  | _ => false
def locB (Γ : Cc) (x : Str) : Bool := match Γ.sc.names.lookup x with
  | some .local => true
  | some .cell => Γ.fnb x
  | _ => false
def glB (Γ : Cc) (x : Str) : Bool := (match Γ.sc.names.lookup x with
  | some .globalImplicit => true
  | _ => false) && !(x == ("__debug__" : Str))
def slB (Γ : Cc) (i : Nat) (x : Str) : Bool := decide (Γ.N[i]? = some x) && visB (Γ.sc.names.lookup x) && !(x == ("__debug__" : Str)) && !(x == ("__classdict__" : Str))
def eqA : T → T → Bool
  | .int i, .int j => decide (i = j)
  | .str x, .str y => decide (x = y)
  | .ty m, .ty n => decide (m = n)
  | _, _ => false
theorem eqA_eq {x y : T} (h : eqA x y = true) : x = y := by
  unfold eqA at h
  split at h
  · rw [of_decide_eq_true h]
  · rw [of_decide_eq_true h]
  · rw [of_decide_eq_true h]
  · cases h
def cnB : T → Const → Bool
  | .non, .none => true
  | .bl a, .bool b => a == b
  | .int i, .int j => decide (i = j)
  | .str x, .str y => decide (x = y) && decide (x.length ≤ LIM)
  | _, _ => false
def conB (G : Gm) (x : Str) (t : T) : Bool := match G.con.lookup x with
  | some u => eqA u t
  | none => false
def fnB (G : Gm) (Γ : Cc) (f : Nat) (x : Str) : Bool := decide (G.fn f = some x) && glB Γ x
/-- no star, no slice, no set -/
def plB : Expr → Bool
  | .Starred _ _ => false
  | .Slice _ _ _ _ => false
  | .Set _ _ _ => false
  | _ => true
def rcB : Expr → Bool
  | .Call (.Name _ _) [] [] _ => false
  | _ => true
/-- a test that is no and, or, not, comparison, conditional -/
def tsB : Expr → Bool
  | .UnaryOp .Not _ _ => false
  | .BoolOp _ _ _ => false
  | .IfExp _ _ _ _ => false
  | .Compare _ _ _ _ => false
  | _ => true
def meName : Me → Str
  | .join => "join"
def ownOf (N : List Str) (l : List Nat) : List (Str × Nat) := l.map fun i => (N.getD i Str.empty, i)
def Cc.blk (Γ : Cc) (scope : Scope) : Cc := ⟨Γ.N, relS scope Γ.sc, fun x => scope.names.lookup x == some .cell⟩
def tgB (Γ : Cc) : Tg → Expr → Bool
  | .name i, ex => (match ex with
    | .Name x _ => decide (Γ.N[i]? = some x) && locB Γ x
    | _ => false)
  | .tup a b, ex => (match ex with
    | .Tuple [x, y] _ _ => plB x && plB y && tgB Γ a x && tgB Γ b y
    | _ => false)
  | .tup3 a b c, ex => (match ex with
    | .Tuple [x, y, z] _ _ => plB x && plB y && plB z && tgB Γ a x && tgB Γ b y && tgB Γ c z
    | _ => false)
mutual
def chkE (G : Gm) : E → Cc → Expr → Bool
  | .var i, Γ, ex => (match ex with
    | .Name x _ => slB Γ i x
    | _ => false)
  | .con t, Γ, ex => (match ex with
    | .Constant c _ _ => cnB t c
    | _ => false)
  | .glob x t, Γ, ex => (match ex with
    | .Name y _ => decide (x = y) && glB Γ y && conB G y t
    | _ => false)
  | .bin op a b, Γ, ex => (match ex with
    | .BinOp l op' r _ => decide (op = op') && chkE G a Γ l && chkE G b Γ r
    | _ => false)
  | .neg a, Γ, ex => (match ex with
    | .UnaryOp .USub x _ => chkE G a Γ x
    | _ => false)
  | .not a, Γ, ex => (match ex with
    | .UnaryOp .Not x _ => chkE G a Γ x
    | _ => false)
  | .and a b, Γ, ex => (match ex with
    | .BoolOp .And [x, y] _ => chkE G a Γ x && chkE G b Γ y
    | .BoolOp .And (x :: y :: z :: r) pos => chkE G a Γ x && chkE G b Γ (.BoolOp .And (y :: z :: r) pos)
    | _ => false)
  | .or a b, Γ, ex => (match ex with
    | .BoolOp .Or [x, y] _ => chkE G a Γ x && chkE G b Γ y
    | .BoolOp .Or (x :: y :: z :: r) pos => chkE G a Γ x && chkE G b Γ (.BoolOp .Or (y :: z :: r) pos)
    | _ => false)
  | .cmp op a b, Γ, ex => (match ex with
    | .Compare l [op'] [r] _ => decide (op = op') && plB r && chkE G a Γ l && chkE G b Γ r
    | _ => false)
  | .chain op op' a b c, Γ, ex => (match ex with
    | .Compare l [o, o'] [m, r] _ => decide (op = o) && decide (op' = o') && plB r && chkE G a Γ l && chkE G b Γ m && chkE G c Γ r
    | _ => false)
  | .ife c a b, Γ, ex => (match ex with
    | .IfExp t x y _ => chkT G c Γ t && chkE G a Γ x && chkE G b Γ y
    | _ => false)
  | .tup es, Γ, ex => (match ex with
    | .Tuple xs _ _ => chkEs G es Γ xs
    | _ => false)
  | .lst es, Γ, ex => (match ex with
    | .List xs _ => chkEs G es Γ xs
    | _ => false)
  | .dct ks vs, Γ, ex => (match ex with
    | .Dict [] [] _ => decide (ks = []) && chkEs G vs Γ []
    | .Dict [some (.Constant (.str x) _ _)] [v] _ => decide (ks = [x]) && decide (x.length ≤ LIM) && chkEs G vs Γ [v]
    | _ => false)
  | .idx a i, Γ, ex => (match ex with
    | .Subscript x y _ => plB y && chkE G a Γ x && chkE G i Γ y
    | _ => false)
  | .sl a lo hi, Γ, ex => (match ex with
    | .Subscript x (.Slice (some l) (some h) none _) _ => chkE G a Γ x && chkE G lo Γ l && chkE G hi Γ h
    | _ => false)
  | .slH a hi, Γ, ex => (match ex with
    | .Subscript x (.Slice none (some h) none _) _ => chkE G a Γ x && chkE G hi Γ h
    | _ => false)
  | .slL a lo, Γ, ex => (match ex with
    | .Subscript x (.Slice (some l) none none _) _ => chkE G a Γ x && chkE G lo Γ l
    | _ => false)
  | .rev a, Γ, ex => (match ex with
    | .Subscript x (.Slice none none (some (.UnaryOp .USub (.Constant (.int 1) _ _) _)) _) _ => chkE G a Γ x
    | _ => false)
  | .call f es, Γ, ex => (match ex with
    | .Call (.Name x _) (e :: r) [] _ => fnB G Γ f x && chkEs G es Γ (e :: r)
    | _ => false)
  | .callK f es ks, Γ, ex => (match ex with
    | .Call (.Name x _) [] (k :: r) _ => fnB G Γ f x && decide ((f, ks) ∈ G.kw) && decide ((k :: r).map (·.arg) = ks.map some) && chkEs G es Γ ((k :: r).map (·.value))
    | _ => false)
  | .blt x es, Γ, ex => (match ex with
    | .Call (.Name y _) (e :: r) [] _ => decide (y = biName x) && glB Γ y && chkEs G es Γ (e :: r)
    | _ => false)
  | .mth m a es, Γ, ex => (match ex with
    | .Call (.Attribute o n ap) [e] [] cp => decide (n = meName m) && rcB o && (ap.endLine == cp.line) && chkE G a Γ o && chkEs G es Γ [e]
    | _ => false)
  | .bget a k, Γ, ex => (match ex with
    | .Subscript x (.Constant (.int i) _ _) _ => decide (i = (k : Int)) && decide (1 ≤ k ∧ k ≤ 4) && chkE G a Γ x
    | _ => false)
  | .blen a, Γ, ex => (match ex with
    | .Call (.Name y _) [.Subscript x (.Constant (.int 0) _ _) _] [] _ => decide (y = ("len" : Str)) && glB Γ y && chkE G a Γ x
    | _ => false)
  | .bcell a, Γ, ex => (match ex with
    | .Subscript (.Subscript x (.Constant (.int 0) _ _) _) (.Subscript y (.Constant (.int 1) _ _) _) _ => (match a with | .var _ => true | _ => false) && chkE G a Γ x && chkE G a Γ y
    | _ => false)
  | .lc elt tg it c, Γ, ex => (match ex with
    | .ListComp e [⟨t, i, [f], 0⟩] scope _ => plB i && chkI G it Γ t i && blkC Γ.N Γ.sc scope (ownOf Γ.N (tgSlots tg)) && tgB (Γ.blk scope) tg t && chkT G c (Γ.blk scope) f && chkE G elt (Γ.blk scope) e
    | _ => false)
  | .lc0 elt tg it, Γ, ex => (match ex with
    | .ListComp e [⟨t, i, [], 0⟩] scope _ => plB i && chkI G it Γ t i && blkC Γ.N Γ.sc scope (ownOf Γ.N (tgSlots tg)) && tgB (Γ.blk scope) tg t && chkE G elt (Γ.blk scope) e
    | _ => false)
def chkT (G : Gm) : Te → Cc → Expr → Bool
  | .tr e, Γ, ex => (tsB ex || (match ex with
    | .Compare _ _ _ _ => true
    | _ => false)) && chkE G e Γ ex
  | .not a, Γ, ex => (match ex with
    | .UnaryOp .Not x _ => chkT G a Γ x
    | _ => false)
  | .and a b, Γ, ex => (match ex with
    | .BoolOp .And [x, y] _ => chkT G a Γ x && chkT G b Γ y
    | .BoolOp .And (x :: y :: z :: r) pos => chkT G a Γ x && chkT G b Γ (.BoolOp .And (y :: z :: r) pos)
    | _ => false)
  | .or a b, Γ, ex => (match ex with
    | .BoolOp .Or [x, y] _ => chkT G a Γ x && chkT G b Γ y
    | .BoolOp .Or (x :: y :: z :: r) pos => chkT G a Γ x && chkT G b Γ (.BoolOp .Or (y :: z :: r) pos)
    | _ => false)
def chkEs (G : Gm) : Es → Cc → List Expr → Bool
  | .nil, Γ, xs => (match xs with
    | [] => true
    | _ => false)
  | .cons e r, Γ, xs => (match xs with
    | x :: s => plB x && chkE G e Γ x && chkEs G r Γ s
    | _ => false)
def chkI (G : Gm) : It → Cc → Expr → Expr → Bool
  | .val e, Γ, tg, ex => chkE G e Γ ex
  | .rng1 a, Γ, tg, ex => (match ex with
    | .Call (.Name y _) [x] [] _ => decide (y = ("range" : Str)) && glB Γ y && plB x && chkE G a Γ x
    | _ => false)
  | .rng2 a b, Γ, tg, ex => (match ex with
    | .Call (.Name n _) [x, y] [] _ => decide (n = ("range" : Str)) && glB Γ n && plB x && plB y && chkE G a Γ x && chkE G b Γ y
    | _ => false)
  | .zip a b, Γ, tg, ex => (match tg, ex with
    | .Tuple _ _ _, .Call (.Name n _) [x, y] [] _ => decide (n = ("zip" : Str)) && glB Γ n && plB x && plB y && chkE G a Γ x && chkE G b Γ y
    | _, _ => false)
  | .enum a, Γ, tg, ex => (match tg, ex with
    | .Tuple _ _ _, .Call (.Name n _) [x] [] _ => decide (n = ("enumerate" : Str)) && glB Γ n && plB x && chkE G a Γ x
    | _, _ => false)
end

/-! ### what a text's place has to offer -/
/-- a def's promise by its worth -/
def spF (W : Wd) (n : Nat) (c : List T → Ev T) : Sp := fun vs H Q _ => ∃ F b ts t b', vs.length = n ∧ Sta W F H b ∧ TrL W F vs ts ∧ c ts b = some (t, b') ∧ ∀ v F' H', Post W F H b' t v F' H' → Q v H'
/-- the defs: their addresses, their objects -/
structure Fns (P : Program) (w : World) (K : PySem.W.Frag) (mg : Str → Option Value) (base : Heap) (W : Wd) (G : Gm) (pars : Nat → List Str) (k : Nat) (call : Nat → List T → Ev T) : Prop where
  len : ∀ f ts b r, call f ts b = some r → ts.length = (pars f).length
  fn : ∀ f x, G.fn f = some x → ∃ a fd, FnOk P w K mg base CX0 k a fd (pars f) (spF W (pars f).length (call f)) ∧ mg x = some (.ref a) ∧ PySem.W.keepIn K (.ref a) = true ∧ Binds K fd (pars f) [] ∧
    ∀ ks, (f, ks) ∈ G.kw → ∀ (s : Shared) (ws : List Value), K.In s.heap → ws.length = ks.length → BindsTo s fd ⟨[], ks.zip ws⟩ ((pars f).zip (permG (pars f) ks ws))
structure CxI (X : Cx) (W : Wd) (G : Gm) (pars : Nat → List Str) (k : Nat) (call : Nat → List T → Ev T) (Γ : Cc) : Prop where
  K : X.K = W.K
  N : X.N = Γ.N
  nd : Γ.N.Nodup
  sc : X.env.scope = Γ.sc
  fnb : X.fn = Γ.fnb
  calm : X.calm = true
  xe : X.xe = fun _ _ => False
  room : Room k X.A
  con : ∀ x t, G.con.lookup x = some t → ∃ v u, (X.mg x = some u ∨ (X.mg x = none ∧ bootBuiltins x = some u ∧ x ≠ "__name__")) ∧ RelV v u ∧ ∀ F, Tr W F v t
  bi : ∀ x, X.mg (biName x) = none
  rng : X.mg "range" = none ∧ X.mg "zip" = none ∧ X.mg "enumerate" = none
  fns : Fns X.prog X.w X.K X.mg X.base W G pars k call
end DI

set_option Elab.async false
set_option linter.all false
set_option maxRecDepth 100000
set_option maxHeartbeats 4000000
namespace DI
open PySem L2 PyProof.Rows

/-! ### walks -/
def ItOk (W : Wd) (F0 : Hp) (J : L2.It) (items : List T) : Prop := ∀ F H b, Sub F0 F → Sta W F H b → ∀ i : Nat,
  (∀ t, items[i]? = some t → J.go i H ∧ ∀ x H', J.yld i H x H' → ∃ F', Post W F H b t x F' H') ∧ (items.length ≤ i → J.stop i H)
def rdI (W : Wd) (f : View → Ev (List T)) : TI := fun σ H R => ∃ F ρ b items b', Sta W F H b ∧ VRel W F σ ρ ∧ f ρ b = some (items, b') ∧
  ∀ J F' H', Grow F H F' → Keep W H H' → Sta W F' H' b' → ItOk W F' J items → items.length ≤ LIM → R J H'
theorem PI.imp {X : Cx} {tg e : Expr} {t t' : TI} (h : PI X tg e t) (k : ∀ σ H R, t' σ H R → t σ H R) : PI X tg e t' := ⟨fun pins s σ H R I q => h.run pins s σ H R I (k σ H R q)⟩
section
variable {X : Cx} {W : Wd} {F0 : Hp} {K : PySem.W.Frag}
theorem it_list {a : Addr} {vs : List V} {ts : List T} (h : F0 a = some (.lst vs)) (l : TrL W F0 vs ts) : ItOk W F0 (Itl K a) ts := by
  intro F H b hs st i
  have ha := st.lst (hs _ _ h)
  refine ⟨fun t e => ?_, fun hl => ⟨vs, SqL.of ha, by rw [l.length]; exact hl⟩⟩
  obtain ⟨v, e1, h1⟩ := l.get e
  refine ⟨⟨vs, v, SqL.of ha, e1⟩, fun x H' y => ?_⟩
  obtain ⟨rfl, y⟩ := y
  have := y vs (SqL.of ha)
  rw [e1] at this
  cases this
  exact ⟨F, .same st (h1.mono hs)⟩
theorem it_tup {a : Addr} {vs : List V} {ts : List T} (h : F0 a = some (.tup vs)) (l : TrL W F0 vs ts) : ItOk W F0 (Itt K a) ts := by
  intro F H b hs st i
  have ha := st.tup (hs _ _ h)
  refine ⟨fun t e => ?_, fun hl => ⟨vs, SqT.of ha, by rw [l.length]; exact hl⟩⟩
  obtain ⟨v, e1, h1⟩ := l.get e
  refine ⟨⟨vs, v, SqT.of ha, e1⟩, fun x H' y => ?_⟩
  obtain ⟨rfl, y⟩ := y
  have := y vs (SqT.of ha)
  rw [e1] at this
  cases this
  exact ⟨F, .same st (h1.mono hs)⟩
theorem chrs_length (x : Str) : (chrs x).length = x.length := by
  unfold chrs; rw [List.length_map, Array.length_toList]; rfl
theorem it_str {x : Str} : ItOk W F0 (Its x) ((chrs x).map .str) := by
  intro F H b hs st i
  refine ⟨fun t e => ?_, fun hl => by rw [List.length_map, chrs_length] at hl; exact hl⟩
  simp only [List.getElem?_map, chrs, Option.map_eq_some_iff] at e
  obtain ⟨c, ⟨d, e1, rfl⟩, rfl⟩ := e
  rw [Array.getElem?_toList] at e1
  have hi : i < x.cps.size := (Array.getElem?_eq_some_iff.mp e1).1
  refine ⟨hi, fun y H' q => ?_⟩
  obtain ⟨rfl, c', e2, rfl⟩ := q
  rw [e1] at e2
  cases e2
  exact ⟨F, .same st (.str _ (by show 1 ≤ LIM; decide))⟩
theorem it_rng {lo : Int} {n : Nat} : ItOk W F0 (Itr lo n) ((List.range n).map fun (k : Nat) => T.int (lo + (k : Int))) := by
  intro F H b hs st i
  refine ⟨fun t e => ?_, fun hl => by rw [List.length_map, List.length_range] at hl; exact hl⟩
  simp only [List.getElem?_map, Option.map_eq_some_iff] at e
  obtain ⟨k, e1, rfl⟩ := e
  have hi : i < n := by
    have := (List.getElem?_eq_some_iff.mp e1).1
    simpa using this
  have hk : k = i := by
    rw [List.getElem?_range hi] at e1
    exact (Option.some.inj e1).symm
  subst hk
  refine ⟨hi, fun y H' q => ?_⟩
  obtain ⟨rfl, rfl⟩ := q
  exact ⟨F, .same st (.int _)⟩
theorem TrL.zip_get {F : Hp} {vs us : List V} {ts rs : List T} {i : Nat} {t : T} (l : TrL W F vs ts) (m : TrL W F us rs) (e : ((ts.zip rs).map fun p => T.tup [p.1, p.2])[i]? = some t) :
    ∃ x y v u, t = .tup [x, y] ∧ vs[i]? = some v ∧ us[i]? = some u ∧ Tr W F v x ∧ Tr W F u y := by
  simp only [List.getElem?_map, Option.map_eq_some_iff] at e
  obtain ⟨⟨x, y⟩, e1, rfl⟩ := e
  rw [List.getElem?_zip_eq_some] at e1
  obtain ⟨v, h1, h2⟩ := l.get e1.1
  obtain ⟨u, h3, h4⟩ := m.get e1.2
  exact ⟨x, y, v, u, rfl, h1, h3, h2, h4⟩
theorem post_pair {F H : Hp} {b : Bag} {p : Addr} {v u : V} {x y : T} (st : Sta W F H b) (n : H p = none) (h1 : Tr W F v x) (h2 : Tr W F u y) : ∃ F', Post W F H b (.tup [x, y]) (.ref p) F' (upd H p (.tup [v, u])) :=
  ⟨_, Post.tup st n (by show 2 ≤ LIM; decide) (.cons h1 (.cons h2 .nil))⟩
theorem it_zipL {a c : Addr} {vs us : List V} {ts rs : List T} (h : F0 a = some (.lst vs)) (l : TrL W F0 vs ts) (h' : F0 c = some (.lst us)) (m : TrL W F0 us rs) : ItOk W F0 (Itz K a c) ((ts.zip rs).map fun p => T.tup [p.1, p.2]) := by
  intro F H b hs st i
  have ha := st.lst (hs _ _ h)
  have hc := st.lst (hs _ _ h')
  refine ⟨fun t e => ?_, fun hl => ⟨vs, us, SqL.of ha, SqL.of hc, ?_⟩⟩
  · obtain ⟨x, y, v, u, rfl, e1, e2, h1, h2⟩ := TrL.zip_get l m e
    refine ⟨⟨vs, us, v, u, SqL.of ha, SqL.of hc, e1, e2⟩, fun z H' q => ?_⟩
    obtain ⟨T, v', u', rfl, hn, rfl, q1, q2⟩ := q
    have e3 := q1 vs (SqL.of ha)
    have e4 := q2 us (SqL.of hc)
    rw [e1] at e3; cases e3
    rw [e2] at e4; cases e4
    exact post_pair st hn (h1.mono hs) (h2.mono hs)
  · rw [List.length_map, List.length_zip] at hl
    rw [l.length, m.length]
    omega
theorem it_zipT {a c : Addr} {vs us : List V} {ts rs : List T} (h : F0 a = some (.tup vs)) (l : TrL W F0 vs ts) (h' : F0 c = some (.tup us)) (m : TrL W F0 us rs) : ItOk W F0 (RZ.ItzT K a c) ((ts.zip rs).map fun p => T.tup [p.1, p.2]) := by
  intro F H b hs st i
  have ha := st.tup (hs _ _ h)
  have hc := st.tup (hs _ _ h')
  refine ⟨fun t e => ?_, fun hl => ⟨vs, us, SqT.of ha, SqT.of hc, ?_⟩⟩
  · obtain ⟨x, y, v, u, rfl, e1, e2, h1, h2⟩ := TrL.zip_get l m e
    refine ⟨⟨vs, us, v, u, SqT.of ha, SqT.of hc, e1, e2⟩, fun z H' q => ?_⟩
    obtain ⟨T, v', u', rfl, hn, rfl, q1, q2⟩ := q
    have e3 := q1 vs (SqT.of ha)
    have e4 := q2 us (SqT.of hc)
    rw [e1] at e3; cases e3
    rw [e2] at e4; cases e4
    exact post_pair st hn (h1.mono hs) (h2.mono hs)
  · rw [List.length_map, List.length_zip] at hl
    rw [l.length, m.length]
    omega
theorem it_enum {a : Addr} {vs : List V} {ts : List T} (h : F0 a = some (.lst vs)) (l : TrL W F0 vs ts) : ItOk W F0 (Ite K a) (ts.zipIdx.map fun p => T.tup [.int p.2, p.1]) := by
  intro F H b hs st i
  have ha := st.lst (hs _ _ h)
  refine ⟨fun t e => ?_, fun hl => ⟨vs, SqL.of ha, by rw [l.length]; simpa using hl⟩⟩
  simp only [List.getElem?_map, Option.map_eq_some_iff, List.getElem?_zipIdx] at e
  obtain ⟨p, ⟨x, e1, rfl⟩, rfl⟩ := e
  obtain ⟨v, e2, h2⟩ := l.get e1
  refine ⟨⟨vs, v, SqL.of ha, e2⟩, fun z H' q => ?_⟩
  obtain ⟨T, v', rfl, hn, rfl, q1⟩ := q
  have e3 := q1 vs (SqL.of ha)
  rw [e2] at e3; cases e3
  simp only [Nat.zero_add]
  exact post_pair st hn (.int _) (h2.mono hs)

/-- a list, a tuple or a text is walked -/
def iAny (K : PySem.W.Frag) (te : TE) : TI := fun σ H R => te σ H fun x H1 => (∃ a, x = .ref a ∧ (∃ xs, SqL K H1 a xs) ∧ R (Itl K a) H1) ∨ (∃ a, x = .ref a ∧ (∃ xs, SqT K H1 a xs) ∧ R (Itt K a) H1) ∨ ∃ s, x = .str s ∧ R (Its s) H1
theorem pi_any {tg l : Expr} {tl : TE} (hl : PE X l tl) : PI X tg l (iAny X.K tl) := by
  refine ⟨fun pins s σ H R I h => ?_⟩
  refine thn (hl.run pins s σ H _ I h) fun v s1 ⟨x, H1, I1, r1, q1⟩ => ?_
  rcases q1 with ⟨a, e, ⟨xs, hq⟩, q⟩ | ⟨a, e, ⟨xs, hq⟩, q⟩ | ⟨x, ex, q⟩
  · subst e
    cases r1
    obtain ⟨its, rv, p, hz⟩ := I1.list hq
    refine wpAny_pyIter_list p.isList ?_
    refine ⟨s1.heap.objs.size, [s1.heap.objs.size], _, _, H1, rfl, I1.kept (t' := s1.toks) fun b o e => Heap.get?_push_of_some _ e, turn_list a _, ⟨_, Heap.get?_push_size _ rfl, rfl, rfl⟩, fun b hb => ?_, q⟩
    have e : b = s1.heap.objs.size := by simpa using hb
    subst e
    exact I1.fpOk (Nat.le_refl _) (I1.hok.fresh (Nat.le_refl _))
  · subst e
    cases r1
    obtain ⟨its, rv, p, hz⟩ := I1.tuple hq
    refine wpAny_pyIter_tuple (show s1.heap.IsTuple a its.toArray from p) ?_
    refine ⟨s1.heap.objs.size, [s1.heap.objs.size], _, _, H1, rfl, I1.kept (t' := s1.toks) fun b o e => Heap.get?_push_of_some _ e, turn_tuple a _, ⟨_, Heap.get?_push_size _ rfl, rfl, rfl⟩, fun b hb => ?_, q⟩
    have e : b = s1.heap.objs.size := by simpa using hb
    subst e
    exact I1.fpOk (Nat.le_refl _) (I1.hok.fresh (Nat.le_refl _))
  · subst ex
    obtain ⟨t, rfl⟩ := r1
    cases ha : x.cps.all (· < 128)
    · exact wpAny_pyIter_wide ha (pi_one (tk := s1.toks) I1 _ (turn_str _ x t "str_iterator" (.inr rfl)) ⟨_, Heap.get?_push_size _ rfl, rfl, rfl⟩ q)
    · exact wpAny_pyIter_ascii ha (pi_one (tk := s1.toks) I1 _ (turn_str _ x t "str_ascii_iterator" (.inl rfl)) ⟨_, Heap.get?_push_size _ rfl, rfl, rfl⟩ q)
end
end DI

set_option Elab.async false
set_option linter.all false
set_option maxRecDepth 100000
set_option maxHeartbeats 4000000
namespace DI
open PySem L2

section
variable {X : Cx} {W : Wd} {G : Gm} {pars : Nat → List Str} {k : Nat} {call : Nat → List T → Ev T} {Γ : Cc}
theorem CxI.hu (c : CxI X W G pars k call Γ) : X.A.units + 64 < cLine := c.room.units
theorem star_of {e : Expr} {es : List Expr} {env : Env} (h : plB e = true) : starEach (e :: es) env = (false, eval e env) :: starEach es env := by
  cases e <;> first | rfl | cases h
theorem star_all : ∀ {es : List Expr} {env : Env}, (∀ e ∈ es, plB e = true) → ∀ pos, (backTo pos (starEach es env)).any (·.1) = false
  | [], _, _, _ => rfl
  | e :: es, env, h, pos => by
    rw [star_of (h e (by simp))]
    have ih := star_all (es := es) (env := env) (fun x hx => h x (by simp [hx])) pos
    show (backTo pos ((false, eval e env) :: starEach es env)).any (·.1) = false
    unfold backTo at ih ⊢
    rw [List.map_cons, List.any_cons, ih]
    rfl
theorem mark_of {e : Expr} {op : CmpOp} (h : plB e = true) : behindInMarks op e = false := by
  cases e <;> first | rfl | cases h
theorem plain_of {e : Expr} (h : plB e = true) : PlainIx e := by
  intro o i
  cases e <;> first | rfl | cases h
theorem fold_of {e : Expr} {env : Env} {x : Value} (h : plB e = true) : foldedSetIterable e env x = pure x := by
  cases e <;> first | rfl | cases h
theorem rc_of {o : Expr} {n : Str} {env : Env} {wh : Sem Value} (h : rcB o = true) : attributeBase o n env wh = wh := by
  cases o <;> try rfl
  rename_i f as kws pos
  cases f <;> try rfl
  cases as <;> try rfl
  cases kws <;> try rfl
  cases h
theorem chkEs_pl {es : Es} : ∀ {xs : List Expr}, chkEs G es Γ xs = true → ∀ e ∈ xs, plB e = true := by
  induction es using Es.rec (motive_1 := fun _ => True) (motive_2 := fun _ => True) (motive_4 := fun _ => True) with
  | nil =>
    intro xs h e he
    cases xs with
    | nil => cases he
    | cons _ _ => simp [chkEs] at h
  | cons e r _ ih =>
    intro xs h x hx
    cases xs with
    | nil => cases hx
    | cons y s =>
      simp only [chkEs, Bool.and_eq_true] at h
      rcases List.mem_cons.mp hx with rfl | hx
      · exact h.1.1
      · exact ih h.2 x hx
  | _ => trivial

theorem glB_of (c : CxI X W G pars k call Γ) {x : Str} (h : glB Γ x = true) : Gl X x ∧ (x == ("__debug__" : Str)) = false := by
  unfold glB at h
  rw [Bool.and_eq_true] at h
  obtain ⟨h1, h2⟩ := h
  refine ⟨?_, by simpa using h2⟩
  show X.env.scope.names.lookup x = some .globalImplicit
  rw [c.sc]
  split at h1
  · assumption
  · cases h1
theorem slB_of (c : CxI X W G pars k call Γ) {i : Nat} {x : Str} (h : slB Γ i x = true) : X.N[i]? = some x ∧ Vis X.env.scope x ∧ (x == ("__debug__" : Str)) = false ∧ (x == ("__classdict__" : Str)) = false := by
  unfold slB at h
  simp only [Bool.and_eq_true, decide_eq_true_eq, Bool.not_eq_true'] at h
  obtain ⟨⟨⟨h1, h2⟩, h3⟩, h4⟩ := h
  refine ⟨by rw [c.N]; exact h1, ?_, h3, h4⟩
  unfold Vis
  rw [c.sc]
  unfold visB at h2
  split at h2
  · exact .inl (by assumption)
  · exact .inr (.inl (by assumption))
  · exact .inr (.inr (by assumption))
  · cases h2
theorem locB_of (c : CxI X W G pars k call Γ) {x : Str} (h : locB Γ x = true) : Loc X.env.scope x ∧ (X.fn x = true ∨ X.env.scope.names.lookup x = some .local) := by
  unfold locB at h
  unfold L2.Loc
  rw [c.sc, c.fnb]
  split at h
  · exact ⟨.inl (by assumption), .inr (by assumption)⟩
  · exact ⟨.inr (by assumption), .inl h⟩
  · cases h
theorem CxI.blk (c : CxI X W G pars k call Γ) (s : Shared) (H : Hp) (scope : Scope) (C : Addr) (cl : List (Str × Addr)) (fp : List Addr) : CxI (X.blk s H scope (compEnvC scope cl C X.env) fp) W G pars k call (Γ.blk scope) :=
  ⟨c.K, c.N, c.nd, by show relS scope X.env.scope = relS scope Γ.sc; rw [c.sc], rfl, c.calm, rfl, c.room, c.con, c.bi, c.rng, c.fns⟩

/-! ### targets -/
theorem VRel.set {F : Hp} {σ : L2.St} {ρ : View} {i : Nat} {v : V} {t : T} (h : VRel W F σ ρ) (q : Tr W F v t) : VRel W F (σ.set i (some v)) (ρ.set i (some t)) := by
  refine ⟨by rw [List.length_set, List.length_set]; exact h.len, fun j u e => ?_⟩
  by_cases hj : i = j
  · subst hj
    have hl : i < ρ.length := by
      have := (List.getElem?_eq_some_iff.mp e).1
      simpa using this
    rw [List.getElem?_set_self hl] at e
    cases e
    exact ⟨v, by rw [List.getElem?_set_self (by rw [h.len]; exact hl)], q⟩
  · rw [List.getElem?_set_ne hj] at e ⊢
    exact h.get j u e
/-- the reading of a target -/
def rdG (W : Wd) (g : Tg) : TG := fun v σ H Q => ∃ F ρ b t ρ', Sta W F H b ∧ VRel W F σ ρ ∧ Tr W F v t ∧ tgV g t ρ = some ρ' ∧ ∀ σ', VRel W F σ' ρ' → (∀ j : Nat, j ∉ tgSlots g → σ'[j]? = σ[j]?) → Q σ' H
theorem PG.imp {e : Expr} {t t' : TG} (h : PG X e t) (q : ∀ v σ H Q, t' v σ H Q → t v σ H Q) : PG X e t' := ⟨fun pins s σ H v u Q I r z => h.run pins s σ H v u Q I r (q v σ H Q z)⟩
theorem snd_tg (c : CxI X W G pars k call Γ) : ∀ (g : Tg) (ex : Expr), tgB Γ g ex = true → PG X ex (rdG W g)
  | .name i, ex, h => by
    simp only [tgB] at h
    split at h
    · rename_i x pos
      rw [Bool.and_eq_true, decide_eq_true_eq] at h
      obtain ⟨h1, h2⟩ := locB_of c h.2
      refine PG.imp (pg_name (i := i) (by rw [c.N]; exact c.nd) (by rw [c.N]; exact h.1) h1 h2) fun v σ H Q q => ?_
      obtain ⟨F, ρ, b, t, ρ', st, vr, tr, e, q⟩ := q
      simp only [tgV] at e
      split at e
      · cases e
        exact q _ (vr.set tr) fun j hj => by
          rw [List.getElem?_set_ne (fun e => hj (by simp [tgSlots, e]))]
      · cases e
    · cases h
  | .tup a b, ex, h => by
    simp only [tgB] at h
    split at h
    · rename_i x y kk pos
      simp only [Bool.and_eq_true] at h
      obtain ⟨⟨⟨p1, p2⟩, h1⟩, h2⟩ := h
      have ga := snd_tg c a x h1
      have gb := snd_tg c b y h2
      have hx : ∀ {z : Expr} {zs : List Expr} {env : Env}, plB z = true → assignEach (z :: zs) env = (false, assign z env) :: assignEach zs env := by
        intro z zs env hz
        cases z <;> first | rfl | cases hz
      refine PG.imp (pg_tup (n := 2) c.calm (pgs_cons ga (pgs_cons gb pgs_nil (by rw [hx p2]; rfl)) (by rw [hx p1]; rfl)) (by rw [hx p1, hx p2]; rfl) (by rw [hx p1, hx p2]; rfl)) fun v σ H Q q => ?_
      obtain ⟨F, ρ, bg, t, ρ', st, vr, tr, e, q⟩ := q
      cases tr <;> try (cases e)
      rename_i ad vs ts ha z l
      match ts, l, e with
      | [t1, t2], .cons l1 (.cons l2 .nil), e =>
        simp only [tgV] at e
        cases e1 : tgV a t1 ρ with
        | none => rw [e1] at e; cases e
        | some ρ1 =>
          rw [e1] at e
          refine ⟨ad, _, rfl, by rw [c.K]; exact SqT.of (st.tup ha), rfl, _, _, rfl, F, ρ, bg, t1, ρ1, st, vr, l1, e1, fun σ1 v1 k1 => ⟨_, _, rfl, F, ρ1, bg, t2, ρ', st, v1, l2, e, fun σ2 v2 k2 => ⟨rfl, q σ2 v2 fun j hj => ?_⟩⟩⟩
          simp only [tgSlots, List.mem_append, not_or] at hj
          rw [k2 j hj.2, k1 j hj.1]
    · cases h
  | .tup3 a b d, ex, h => by
    simp only [tgB] at h
    split at h
    · rename_i x y w kk pos
      simp only [Bool.and_eq_true] at h
      obtain ⟨⟨⟨⟨⟨p1, p2⟩, p3⟩, h1⟩, h2⟩, h3⟩ := h
      have ga := snd_tg c a x h1
      have gb := snd_tg c b y h2
      have gd := snd_tg c d w h3
      have hx : ∀ {z : Expr} {zs : List Expr} {env : Env}, plB z = true → assignEach (z :: zs) env = (false, assign z env) :: assignEach zs env := by
        intro z zs env hz
        cases z <;> first | rfl | cases hz
      refine PG.imp (pg_tup (n := 3) c.calm (pgs_cons ga (pgs_cons gb (pgs_cons gd pgs_nil (by rw [hx p3]; rfl)) (by rw [hx p2]; rfl)) (by rw [hx p1]; rfl)) (by rw [hx p1, hx p2, hx p3]; rfl) (by rw [hx p1, hx p2, hx p3]; rfl)) fun v σ H Q q => ?_
      obtain ⟨F, ρ, bg, t, ρ', st, vr, tr, e, q⟩ := q
      cases tr <;> try (cases e)
      rename_i ad vs ts ha z l
      match ts, l, e with
      | [t1, t2, t3], .cons l1 (.cons l2 (.cons l3 .nil)), e =>
        simp only [tgV] at e
        cases e1 : tgV a t1 ρ with
        | none => rw [e1] at e; cases e
        | some ρ1 =>
          rw [e1] at e
          simp only at e
          cases e2 : tgV b t2 ρ1 with
          | none => rw [e2] at e; cases e
          | some ρ2 =>
            rw [e2] at e
            refine ⟨ad, _, rfl, by rw [c.K]; exact SqT.of (st.tup ha), rfl, _, _, rfl, F, ρ, bg, t1, ρ1, st, vr, l1, e1, fun σ1 v1 k1 => ⟨_, _, rfl, F, ρ1, bg, t2, ρ2, st, v1, l2, e2, fun σ2 v2 k2 => ⟨_, _, rfl, F, ρ2, bg, t3, ρ', st, v2, l3, e, fun σ3 v3 k3 => ⟨rfl, q σ3 v3 fun j hj => ?_⟩⟩⟩⟩
            simp only [tgSlots, List.mem_append, not_or] at hj
            rw [k3 j hj.2.2, k2 j hj.2.1, k1 j hj.1]
    · cases h
end
end DI

set_option Elab.async false
set_option linter.all false
set_option maxRecDepth 100000
set_option maxHeartbeats 8000000
namespace DI
open PySem L2

section
variable {W : Wd} {G : Gm} {pars : Nat → List Str} {k : Nat} {call : Nat → List T → Ev T}

/-- a place that F does not know is written -/
theorem Sta.hid {F H : Hp} {b : Bag} {p : Addr} {o : HO} (st : Sta W F H b) (hp : F p = none) (hB : p ≠ W.B) (hc : p ≠ W.c) : Sta W F (upd H p o) b := by
  refine ⟨fun a u e => ?_, st.fB, st.fc, by rw [upd_ne (Ne.symm hB)]; exact st.bag.1, by rw [upd_ne (Ne.symm hc)]; exact st.bag.2.1, st.bag.2.2⟩
  rw [upd_ne (ne_of_none e hp)]
  exact st.fz a u e
theorem Sta.neB {F H : Hp} {b : Bag} {p : Addr} (st : Sta W F H b) (n : H p = none) : p ≠ W.B := fun e => by
  have := st.bag.1; rw [← e, n] at this; cases this
theorem Sta.neC {F H : Hp} {b : Bag} {p : Addr} (st : Sta W F H b) (n : H p = none) : p ≠ W.c := fun e => by
  have := st.bag.2.1; rw [← e, n] at this; cases this

theorem lc_loop {σ : L2.St} {ρ : View} {F1 H1 : Hp} {b1 bE : Bag} {J : L2.It} {items ysA : List T} {tg : Tg} {f : View → Ev (Option T)} {tt : TT} {te : TE} {Qd : Hp → Prop} {D : Addr}
    (st1 : Sta W F1 H1 b1) (vr : VRel W F1 σ ρ) (ok : ItOk W F1 J items) (hz : items.length ≤ LIM) (hD : H1 D = none)
    (e : lcE tg (wipeV ρ (tgSlots tg)) f items b1 = some (ysA, bE))
    (turn : ∀ σ2 F H b ρ' o b' (R : Option V → Hp → Prop), Sta W F H b → VRel W F σ2 ρ' → f ρ' b = some (o, b') → (∀ (y : Option V) F' H', Grow F H F' → Keep W H H' → Sta W F' H' b' → (match o, y with
        | none, none => True
        | some t, some v => Tr W F' v t
        | _, _ => False) → R y H') →
      tt σ2 H fun c H3 => if c = true then te σ2 H3 fun y H4 => R (some y) H4 else R none H3)
    (hd : ∀ F H vs, Sta W F H bE → Grow F1 H1 F → Keep W H1 H → F D = none → H D = some (.lst vs) → TrL W F vs ysA → ysA.length ≤ LIM → Qd H) :
    ∃ Wv : Nat → Nat → Hp → Prop, (∃ m, Wv 0 m (upd H1 D (.lst []))) ∧ ∀ i m H, Wv i m H →
      (J.stop i H ∧ Qd H) ∨ (J.go i H ∧ ∃ Nx : Hp → Prop, (∀ H', Nx H' → ∃ m', m' < m ∧ Wv (i + 1) m' H') ∧ ∀ x H', J.yld i H x H' → rdG W tg x (L2.wipe σ (tgSlots tg)) H' fun σ2 H2 => L2.wipe σ2 (tgSlots tg) = L2.wipe σ (tgSlots tg) ∧ tt σ2 H2 fun b H3 =>
        if b = true then te σ2 H3 fun y H4 => ∃ acc, H4 D = some (.lst acc) ∧ acc.length < sizeLine ∧ Nx (upd H4 D (.lst (acc ++ [y]))) else Nx H3) := by
  have nB := st1.neB hD
  have nC := st1.neC hD
  have fD := st1.free hD
  let Iv : Nat → Hp → Prop := fun i H => i ≤ items.length ∧ ∃ F b vs ys rest, Grow F1 H1 F ∧ Keep W H1 H ∧ Sta W F H b ∧ F D = none ∧ H D = some (.lst vs) ∧ TrL W F vs ys ∧ ys.length ≤ i ∧ lcE tg (wipeV ρ (tgSlots tg)) f (items.drop i) b = some (rest, bE) ∧ ys ++ rest = ysA
  refine ⟨fun i m H => m = items.length - i ∧ Iv i H, ⟨items.length, by simp, Nat.zero_le _, F1, b1, [], [], ysA, Grow.refl _ _, Keep.new hD, st1.hid fD nB nC, fD, upd_same, .nil, Nat.le_refl _, by rw [List.drop_zero]; exact e, rfl⟩, ?_⟩
  rintro i m H ⟨rfl, hi, F, b, vs, ys, rest, gr, kp, st, fd, hd', tl, hy, el, ea⟩
  obtain ⟨ok1, ok2⟩ := ok F H b gr.sub st i
  by_cases hlt : i < items.length
  · have ei : items[i]? = some items[i] := by simp [hlt]
    obtain ⟨go, yl⟩ := ok1 _ ei
    refine .inr ⟨go, Iv (i + 1), fun H' q => ⟨items.length - (i + 1), by omega, rfl, q⟩, fun x H' hy' => ?_⟩
    obtain ⟨F', p⟩ := yl x H' hy'
    rw [List.drop_eq_getElem_cons hlt] at el
    simp only [lcE] at el
    obtain ⟨ρ', b', e1', ela⟩ := bind_some el
    clear el
    obtain ⟨e1, hbb⟩ := of_some e1'
    clear e1'
    obtain ⟨o, b2, e2, elb⟩ := bind_some ela
    clear ela
    obtain ⟨r2, b3, e3, elc⟩ := bind_some elb
    clear elb
    cases elc
    subst hbb
    have kp' := kp.trans p.keep
    have gr' := gr.trans kp st.bag p.grow
    have fD' : F' D = none := by
      cases q : F' D with
      | none => rfl
      | some u =>
        rcases p.grow.new D u q with z | z
        · rw [fd] at z; cases z
        · rw [hd'] at z; cases z
    have hdD : H' D = some (.lst vs) := p.keep D _ hd' nB
    refine ⟨F', wipeV ρ (tgSlots tg), b', _, ρ', p.sta, ((vr.mono gr'.sub).wipe _), p.tr, e1, fun σ2 v2 k2 => ⟨?_, ?_⟩⟩
    · apply List.ext_getElem?
      intro j
      rw [wipe_get, wipe_get]
      have hl : σ2.length = σ.length := by
        have h1 := v2.len
        have h2 : ∀ (g : Tg) (t : T) (ρ ρ' : View), tgV g t ρ = some ρ' → ρ'.length = ρ.length := by
          intro g
          induction g with
          | name i => intro t ρ ρ' e; simp only [tgV] at e; split at e <;> cases e; simp
          | tup a b iha ihb =>
            intro t ρ ρ' e
            match t, e with
            | .tup [x, y], e =>
              simp only [tgV] at e
              cases q : tgV a x ρ with
              | none => rw [q] at e; cases e
              | some ρ1 => rw [q] at e; rw [ihb _ _ _ e, iha _ _ _ q]
          | tup3 a b c iha ihb ihc =>
            intro t ρ ρ' e
            match t, e with
            | .tup [x, y, z], e =>
              simp only [tgV] at e
              cases q : tgV a x ρ with
              | none => rw [q] at e; cases e
              | some ρ1 =>
                rw [q] at e
                simp only at e
                cases q2 : tgV b y ρ1 with
                | none => rw [q2] at e; cases e
                | some ρ2 => rw [q2] at e; rw [ihc _ _ _ e, ihb _ _ _ q2, iha _ _ _ q]
        rw [h1, h2 _ _ _ _ e1, ← ((vr.mono gr'.sub).wipe (tgSlots tg)).len, wipe_length]
      rw [hl]
      by_cases hj : j ∈ tgSlots tg
      · rw [if_pos hj, if_pos hj]
      · rw [if_neg hj, if_neg hj, k2 j hj, wipe_get, if_neg hj]
    · have cases2 : ∀ (ysN : List T) (vsN : List V) (Fn Hn : Hp), Grow F' H' Fn → Keep W H1 Hn → Sta W Fn Hn b2 → TrL W Fn vsN ysN → ysN.length ≤ i + 1 → ysN ++ r2 = ysA → Hn D = some (.lst vsN) → Iv (i + 1) Hn := by
        intro ysN vsN Fn Hn g1 k1 s1 t1 l1 a1 d1
        refine ⟨hlt, Fn, b2, vsN, ysN, r2, gr'.trans kp' p.sta.bag g1, k1, s1, ?_, d1, t1, l1, e3, a1⟩
        cases q : Fn D with
        | none => rfl
        | some u =>
          rcases g1.new D u q with z | z
          · rw [fD'] at z; cases z
          · rw [hdD] at z; cases z
      refine turn σ2 F' H' b' ρ' o b2 (fun y H4 => match y with
        | some y => ∃ acc, H4 D = some (.lst acc) ∧ acc.length < sizeLine ∧ Iv (i + 1) (upd H4 D (.lst (acc ++ [y])))
        | none => Iv (i + 1) H4) p.sta v2 e2 fun y F4 H4 g4 k4 s4 q4 => ?_
      have hd4 : H4 D = some (.lst vs) := k4 D _ hdD nB
      have f4 : F4 D = none := by
        cases q : F4 D with
        | none => rfl
        | some u =>
          rcases g4.new D u q with z | z
          · rw [fD'] at z; cases z
          · rw [hdD] at z; cases z
      have tl4 : TrL W F4 vs ys := (tl.mono p.grow.sub).mono g4.sub
      cases o with
      | none =>
        cases y with
        | some _ => exact q4.elim
        | none =>
          exact cases2 ys vs F4 H4 g4 (kp'.trans k4) s4 tl4 (by omega) ea hd4
      | some t =>
        cases y with
        | none => exact q4.elim
        | some v =>
          refine ⟨vs, hd4, ?_, ?_⟩
          · have h1 := tl.length
            have h2 := LIM_lt
            omega
          · have k5 : Keep W H1 (upd H4 D (.lst (vs ++ [v]))) := fun a u h n => by
              rw [upd_ne (ne_of_none h hD)]
              exact (kp'.trans k4) a u h n
            exact cases2 (ys ++ [t]) (vs ++ [v]) F4 _ g4 k5 (s4.hid f4 nB nC) (tl4.append (.cons q4 .nil)) (by simp; omega) (by rw [← ea]; simp [consO]) upd_same
  · have hii : i = items.length := by omega
    subst hii
    rw [List.drop_length] at el
    cases el
    rw [List.append_nil] at ea
    subst ea
    exact .inl ⟨ok2 (Nat.le_refl _), hd F H vs st gr kp fd hd' tl (Nat.le_trans hy hz)⟩
end
end DI

set_option Elab.async false
set_option linter.all false
set_option maxRecDepth 100000
set_option maxHeartbeats 8000000
namespace DI
open PySem L2

section
variable {W : Wd} {G : Gm} {pars : Nat → List Str} {k : Nat} {call : Nat → List T → Ev T}

/-! ### one rule an expression -/
section
variable {X : Cx} {Γ : Cc}
theorem se_var (c : CxI X W G pars k call Γ) {i : Nat} {ex : Expr} (h : chkE G (.var i) Γ ex = true) : PE X ex (rdE W (evE call pars (.var i))) := by
  simp only [chkE] at h
  split at h
  · rename_i x pos
    obtain ⟨h1, h2, h3, h4⟩ := slB_of c h
    refine PE.imp (pe_var h1 h2 h3 h4) fun σ H Q q => ?_
    obtain ⟨F, ρ, b, t, b', st, vr, e, q⟩ := q
    obtain ⟨ek1, rfl⟩ := of_some (show Ev.of _ b = some (t, b') from e)
    have e' : ρ[i]? = some (some t) := by
      split at ek1
      · cases ek1; assumption
      · cases ek1
    obtain ⟨v, e2, tr⟩ := vr.get i t e'
    exact ⟨v, e2, q v F H (.same st tr)⟩
  · cases h
theorem se_con (c : CxI X W G pars k call Γ) {t : T} {ex : Expr} (h : chkE G (.con t) Γ ex = true) : PE X ex (rdE W (evE call pars (.con t))) := by
  simp only [chkE] at h
  split at h
  · rename_i cc j pos
    have go : ∀ {v : V}, (∀ F, Tr W F v t) → PE X (.Constant cc j pos) (tC v) → PE X (.Constant cc j pos) (rdE W (evE call pars (.con t))) := fun {v} ht hp => by
      refine PE.imp hp fun σ H Q q => ?_
      obtain ⟨F, ρ, b, t', b', st, vr, e, q⟩ := q
      cases (show some (t, b) = some (t', b') from e)
      exact q v F H (.same st (ht F))
    unfold cnB at h
    split at h
    · exact go (fun F => .non) pe_non
    · rw [beq_iff_eq] at h; subst h; exact go (fun F => .bl _) pe_bl
    · rw [decide_eq_true_eq] at h; subst h; exact go (fun F => .int _) pe_int
    · rw [Bool.and_eq_true, decide_eq_true_eq, decide_eq_true_eq] at h
      obtain ⟨rfl, h⟩ := h
      exact go (fun F => .str _ h) pe_str
    · cases h
  · cases h
theorem se_glob (c : CxI X W G pars k call Γ) {x : Str} {t : T} {ex : Expr} (h : chkE G (.glob x t) Γ ex = true) : PE X ex (rdE W (evE call pars (.glob x t))) := by
  simp only [chkE] at h
  split at h
  · rename_i y pos
    simp only [Bool.and_eq_true, decide_eq_true_eq] at h
    obtain ⟨⟨rfl, h1⟩, h2⟩ := h
    obtain ⟨g1, g2⟩ := glB_of c h1
    unfold conB at h2
    split at h2
    · rename_i u hu
      have := eqA_eq h2
      subst this
      obtain ⟨v, w, hw, rv, tr⟩ := c.con x u hu
      have go : PE X (.Name x pos) (tC v) := by
        rcases hw with hw | ⟨hw, hb, hn⟩
        · exact pe_glob g1 hw rv g2
        · exact pe_bltn g1 hw hb rv hn g2
      refine PE.imp go fun σ H Q q => ?_
      obtain ⟨F, ρ, b, t', b', st, vr, e, q⟩ := q
      cases (show some (u, b) = some (t', b') from e)
      exact q v F H (.same st (tr F))
    · cases h2
  · cases h
theorem se_op2 {a b : E} {l r : Expr} {rr : R2} {g : T → T → Option T} {e' : E} {ex : Expr} (ha : PE X l (rdE W (evE call pars a))) (hb : PE X r (rdE W (evE call pars b)))
    (hr : ∀ x y H Q, rTT W g x y H Q → rr x y H Q) (hx : PE X ex (tOp rr (rdE W (evE call pars a)) (rdE W (evE call pars b))))
    (he : ∀ ρ, evE call pars e' ρ = Ev.bind (evE call pars a ρ) fun x => Ev.bind (evE call pars b ρ) fun y => Ev.of (g x y)) : PE X ex (rdE W (evE call pars e')) := by
  refine PE.imp hx fun σ H Q q => ?_
  obtain ⟨F, ρ, bg, t, b', st, vr, e, q⟩ := q
  rw [he] at e
  obtain ⟨x, b1, e1, ek2⟩ := bind_some e
  obtain ⟨y, b2, e2, ek3⟩ := bind_some ek2
  obtain ⟨ek4, hb'⟩ := of_some ek3
  subst hb'
  exact ⟨F, ρ, bg, x, b1, st, vr, e1, fun v1 F1 H1 p1 => ⟨F1, ρ, b1, y, b', p1.sta, vr.mono p1.grow.sub, e2, fun v2 F2 H2 p2 => hr _ _ _ _ ⟨F2, b', x, y, t, p2.sta, p1.tr.mono p2.grow.sub, p2.tr, ek4, fun v F' H' p => q v F' H' (p1.trans (p2.trans p))⟩⟩⟩
/-- the truth of a value -/
theorem se_tru {a : E} {σ : L2.St} {H : Hp} {Q : Bool → V → Hp → Prop} {F : Hp} {ρ : View} {b b1 : Bag} {x : T} {kk : Bool} (hK : X.K = W.K) (st : Sta W F H b) (vr : VRel W F σ ρ) (e1 : evE call pars a ρ b = some (x, b1)) (e2 : truT x = some kk)
    (q : ∀ v F1 H1, Post W F H b1 x v F1 H1 → Q kk v H1) : rdE W (evE call pars a) σ H fun v H1 => ∃ c, TruV X.K v H1 c ∧ Q c v H1 :=
  ⟨F, ρ, b, x, b1, st, vr, e1, fun v F1 H1 p => ⟨kk, by rw [hK]; exact truV_of p.sta p.tr e2, q v F1 H1 p⟩⟩
theorem se_not (c : CxI X W G pars k call Γ) {a : E} {x : Expr} {pos : Pos} (ha : PE X x (rdE W (evE call pars a))) : PE X (.UnaryOp .Not x pos) (rdE W (evE call pars (.not a))) := by
  refine PE.imp (pe_notT ha) fun σ H Q q => ?_
  obtain ⟨F, ρ, bg, t, b', st, vr, e, q⟩ := q
  obtain ⟨y, b1, e1, ek5⟩ := bind_some (show Ev.bind _ _ bg = some (t, b') from e)
  obtain ⟨ek6, hb'⟩ := of_some ek5
  subst hb'
  rw [Option.map_eq_some_iff] at ek6
  obtain ⟨kk, e2, rfl⟩ := ek6
  exact se_tru (Q := fun c v H1 => Q (.bl (!c)) H1) c.K st vr e1 e2 fun v F1 H1 p => q _ F1 H1 ⟨p.grow, p.keep, p.sta, .bl _⟩
theorem se_and (c : CxI X W G pars k call Γ) {a b : E} {x y : Expr} {r : List Expr} {pos : Pos} (ha : PE X x (rdE W (evE call pars a))) (hb : PE X (.BoolOp .And (y :: r) pos) (rdE W (evE call pars b))) :
    PE X (.BoolOp .And (x :: y :: r) pos) (rdE W (evE call pars (.and a b))) := by
  refine PE.imp (pe_andT ha hb) fun σ H Q q => ?_
  obtain ⟨F, ρ, bg, t, b', st, vr, e, q⟩ := q
  obtain ⟨z, b1, e1, ek7⟩ := bind_some (show Ev.bind _ _ bg = some (t, b') from e)
  obtain ⟨kk, e2, ek8⟩ := bind_of ek7
  refine se_tru (Q := fun c v H1 => if c = true then rdE W (evE call pars b) σ H1 Q else Q v H1) c.K st vr e1 e2 fun v F1 H1 p => ?_
  cases kk with
  | true =>
    rw [if_pos rfl]
    exact ⟨F1, ρ, b1, t, b', p.sta, vr.mono p.grow.sub, ek8, fun v F' H' p' => q v F' H' (p.trans p')⟩
  | false =>
    rw [if_neg Bool.false_ne_true]
    cases (show some (z, b1) = some (t, b') from ek8)
    exact q v F1 H1 p
theorem se_or (c : CxI X W G pars k call Γ) {a b : E} {x y : Expr} {r : List Expr} {pos : Pos} (ha : PE X x (rdE W (evE call pars a))) (hb : PE X (.BoolOp .Or (y :: r) pos) (rdE W (evE call pars b))) :
    PE X (.BoolOp .Or (x :: y :: r) pos) (rdE W (evE call pars (.or a b))) := by
  refine PE.imp (pe_orT ha hb) fun σ H Q q => ?_
  obtain ⟨F, ρ, bg, t, b', st, vr, e, q⟩ := q
  obtain ⟨z, b1, e1, ek10⟩ := bind_some (show Ev.bind _ _ bg = some (t, b') from e)
  obtain ⟨kk, e2, ek11⟩ := bind_of ek10
  refine se_tru (Q := fun c v H1 => if c = true then Q v H1 else rdE W (evE call pars b) σ H1 Q) c.K st vr e1 e2 fun v F1 H1 p => ?_
  cases kk with
  | true =>
    rw [if_pos rfl]
    cases (show some (z, b1) = some (t, b') from ek11)
    exact q v F1 H1 p
  | false =>
    rw [if_neg Bool.false_ne_true]
    exact ⟨F1, ρ, b1, t, b', p.sta, vr.mono p.grow.sub, ek11, fun v F' H' p' => q v F' H' (p.trans p')⟩
theorem se_chain (c : CxI X W G pars k call Γ) {op op' : CmpOp} {a b d : E} {x y z : Expr} {pos : Pos} (ha : PE X x (rdE W (evE call pars a))) (hb : PE X y (rdE W (evE call pars b))) (hd : PE X z (rdE W (evE call pars d))) (hp : plB z = true) :
    PE X (.Compare x [op, op'] [y, z] pos) (rdE W (evE call pars (.chain op op' a b d))) := by
  refine PE.imp (pe_chain (op_cmpT c.K c.hu op) (op_cmpT c.K c.hu op') ha hb hd (by show behindInMarks op' z = false; exact mark_of hp)) fun σ H Q q => ?_
  obtain ⟨F, ρ, bg, t, b', st, vr, e, q⟩ := q
  obtain ⟨u, b1, e1, ek13⟩ := bind_some (show Ev.bind _ _ bg = some (t, b') from e)
  obtain ⟨w, b2, e2, ek14⟩ := bind_some ek13
  obtain ⟨m, e3, ek15⟩ := bind_of ek14
  refine ⟨F, ρ, bg, u, b1, st, vr, e1, fun v1 F1 H1 p1 => ⟨F1, ρ, b1, w, b2, p1.sta, vr.mono p1.grow.sub, e2, fun v2 F2 H2 p2 => ⟨F2, b2, u, w, m, p2.sta, p1.tr.mono p2.grow.sub, p2.tr, e3, fun v3 F3 H3 p3 => ?_⟩⟩⟩
  have p123 := p1.trans (p2.trans p3)
  cases p3.tr with
  | bl kk =>
    refine ⟨kk, rfl, ?_⟩
    cases kk with
    | true =>
      rw [if_pos rfl]
      obtain ⟨n, b4, e4, ek17⟩ := bind_some (show Ev.bind _ _ b2 = some (t, b') from ek15)
      obtain ⟨ek18, hb4⟩ := of_some ek17
      subst hb4
      refine ⟨F3, ρ, b2, n, b', p3.sta, (vr.mono p123.grow.sub), e4, fun v4 F4 H4 p4 => ⟨F4, b', w, n, t, p4.sta, (p2.tr.mono p3.grow.sub).mono p4.grow.sub, p4.tr, ek18, fun v F' H' p => q v F' H' (p123.trans (p4.trans p))⟩⟩
    | false =>
      rw [if_neg Bool.false_ne_true]
      cases (show some (T.bl false, b2) = some (t, b') from ek15)
      exact q _ F3 H3 p123
  | _ => cases ek15
/-- a value as a test -/
theorem st_val (c : CxI X W G pars k call Γ) {a : E} {x : Expr} (ha : PE X x (rdE W (evE call pars a))) (hx : tsB x = true) : PT X x (rdT W (evT call pars (.tr a))) := by
  refine PT.imp (pt_truth ha (fun wh => by cases x <;> first | rfl | cases hx | (rename_i op _ _; cases op <;> first | rfl | cases hx))) fun σ H Q q => ?_
  obtain ⟨F, ρ, bg, t, b', st, vr, e, q⟩ := q
  obtain ⟨z, b1, e1, ek19⟩ := bind_some (show Ev.bind _ _ bg = some (t, b') from e)
  obtain ⟨ek20, hb'⟩ := of_some ek19
  subst hb'
  exact se_tru (Q := fun c v H1 => Q c H1) c.K st vr e1 ek20 fun v F1 H1 p => q F1 H1 p.grow p.keep p.sta
/-- a comparison as a test -/
theorem st_tst {a : E} {x : Expr} {te : TE} (ha : ∀ σ H Q, rdE W (evE call pars a) σ H Q → te σ H Q) (hx : PT X x (tTest te)) (hb : ∀ ρ b t b', evE call pars a ρ b = some (t, b') → ∃ kk, t = .bl kk) : PT X x (rdT W (evT call pars (.tr a))) := by
  refine PT.imp hx fun σ H Q q => ?_
  obtain ⟨F, ρ, bg, t, b', st, vr, e, q⟩ := q
  obtain ⟨z, b1, e1, ek21⟩ := bind_some (show Ev.bind _ _ bg = some (t, b') from e)
  obtain ⟨ek22, hb'⟩ := of_some ek21
  subst hb'
  obtain ⟨kk, rfl⟩ := hb _ _ _ _ e1
  cases ek22
  refine ha _ _ _ ⟨F, ρ, bg, _, b', st, vr, e1, fun v F1 H1 p => ?_⟩
  cases p.tr
  exact ⟨_, rfl, q F1 H1 p.grow p.keep p.sta⟩
theorem cmpT_bl {op : CmpOp} {x y t : T} (h : cmpT op x y = some t) : ∃ kk, t = .bl kk := by
  unfold cmpT at h
  split at h
  case h_1 => rw [Option.map_eq_some_iff] at h; obtain ⟨_, _, rfl⟩ := h; exact ⟨_, rfl⟩
  case h_2 => rw [Option.map_eq_some_iff] at h; obtain ⟨_, _, rfl⟩ := h; exact ⟨_, rfl⟩
  case h_7 => rw [Option.map_eq_some_iff] at h; obtain ⟨_, _, rfl⟩ := h; exact ⟨_, rfl⟩
  case h_8 => rw [Option.map_eq_some_iff] at h; obtain ⟨_, _, rfl⟩ := h; exact ⟨_, rfl⟩
  all_goals (split at h <;> cases h <;> exact ⟨_, rfl⟩)
end
end
end DI

set_option Elab.async false
set_option linter.all false
set_option maxRecDepth 100000
set_option maxHeartbeats 8000000
namespace DI
open PySem L2

section
variable {W : Wd} {G : Gm} {pars : Nat → List Str} {k : Nat} {call : Nat → List T → Ev T}
section
variable {X : Cx} {Γ : Cc}

theorem sa_nil : PA X [] (rdA W (evEs call pars .nil)) := by
  refine PA.imp pa_nil fun σ H Q q => ?_
  obtain ⟨F, ρ, bg, t, b', st, vr, e, q⟩ := q
  cases (show some (([] : List T), bg) = some (t, b') from e)
  exact q [] F H ⟨Grow.refl _ _, Keep.refl _ _, st, .nil⟩
theorem sa_cons {e : E} {r : Es} {x : Expr} {xs : List Expr} (he : PE X x (rdE W (evE call pars e))) (hr : PA X xs (rdA W (evEs call pars r))) (hp : plB x = true) : PA X (x :: xs) (rdA W (evEs call pars (.cons e r))) := by
  refine PA.imp (pa_cons he hr (star_of hp)) fun σ H Q q => ?_
  obtain ⟨F, ρ, bg, t, b', st, vr, e, q⟩ := q
  obtain ⟨y, b1, e1, ea⟩ := bind_some (show Ev.bind _ _ bg = some (t, b') from e)
  obtain ⟨ys, b2, e2, eb⟩ := bind_some ea
  cases (show some (y :: ys, b2) = some (t, b') from eb)
  exact ⟨F, ρ, bg, y, b1, st, vr, e1, fun v1 F1 H1 p1 => ⟨F1, ρ, b1, ys, b', p1.sta, vr.mono p1.grow.sub, e2, fun vs F2 H2 p2 => q _ F2 H2 ⟨p1.grow.trans p1.keep p1.sta.bag p2.grow, p1.keep.trans p2.keep, p2.sta, .cons (p1.tr.mono p2.grow.sub) p2.tr⟩⟩⟩
theorem PostL.end {F H F' H' F'' H'' : Hp} {b b' : Bag} {ts : List T} {vs : List V} {t : T} {v : V} (p : PostL W F H b ts vs F' H') (q : Post W F' H' b' t v F'' H'') : Post W F H b' t v F'' H'' :=
  ⟨p.grow.trans p.keep p.sta.bag q.grow, p.keep.trans q.keep, q.sta, q.tr⟩
/-- arguments, then a function of their worth -/
theorem se_args {es : Es} {xs : List Expr} {ex : Expr} {r : List V → Hp → VK → Prop} {e' : E} {g : List T → Ev T} (hx : PE X ex (fun σ H Q => rdA W (evEs call pars es) σ H fun vs H1 => r vs H1 Q))
    (he : ∀ ρ, evE call pars e' ρ = Ev.bind (evEs call pars es ρ) g)
    (hr : ∀ vs H Q F b ts t b', Sta W F H b → TrL W F vs ts → g ts b = some (t, b') → (∀ v F' H', Post W F H b' t v F' H' → Q v H') → r vs H Q) : PE X ex (rdE W (evE call pars e')) := by
  refine PE.imp hx fun σ H Q q => ?_
  obtain ⟨F, ρ, bg, t, b', st, vr, e, q⟩ := q
  rw [he] at e
  obtain ⟨ts, b1, e1, ea⟩ := bind_some e
  exact ⟨F, ρ, bg, ts, b1, st, vr, e1, fun vs F1 H1 p1 => hr vs H1 Q F1 b1 ts t b' p1.sta p1.tr ea fun v F' H' p => q v F' H' (p1.end p)⟩
theorem se_tup {es : Es} {xs : List Expr} {n : Nat} {pos : Pos} (ha : PA X xs (rdA W (evEs call pars es))) : PE X (.Tuple xs n pos) (rdE W (evE call pars (.tup es))) := by
  refine se_args (xs := xs) (pe_tup ha) (fun ρ => rfl) fun vs H Q F b ts t b' st tl e q => ?_
  obtain ⟨e, hb⟩ := of_some e
  split at e
  · rename_i hl
    cases e
    subst hb
    refine ⟨by rw [tl.length]; exact Nat.le_trans hl LIM_le, tr_tup st hl tl q⟩
  · cases e
theorem se_lst {es : Es} {xs : List Expr} {pos : Pos} (ha : PA X xs (rdA W (evEs call pars es))) : PE X (.List xs pos) (rdE W (evE call pars (.lst es))) := by
  refine se_args (xs := xs) (pe_lst ha) (fun ρ => rfl) fun vs H Q F b ts t b' st tl e q => ?_
  obtain ⟨e, hb⟩ := of_some e
  split at e
  · rename_i hl
    cases e
    subst hb
    refine ⟨by rw [tl.length]; exact Nat.le_trans hl LIM_le, tr_lst st hl tl q⟩
  · cases e
theorem se_call (c : CxI X W G pars k call Γ) {f : Nat} {es : Es} {x : Str} {e : Expr} {r : List Expr} {p pos : Pos} (hf : fnB G Γ f x = true) (ha : PA X (e :: r) (rdA W (evEs call pars es))) (hp : ∀ z ∈ e :: r, plB z = true) :
    PE X (.Call (.Name x p) (e :: r) [] pos) (rdE W (evE call pars (.call f es))) := by
  unfold fnB at hf
  rw [Bool.and_eq_true, decide_eq_true_eq] at hf
  obtain ⟨g1, g2⟩ := glB_of c hf.2
  obtain ⟨a, fd, ok, hm, hk, hb, _⟩ := c.fns.fn f x hf.1
  refine se_args (xs := e :: r) (pe_call (E := E0) (dvs := []) ok c.room g1 hm hk hb .nil pass0 ha g2 (star_of (hp e (by simp))) (star_all (fun z hz => hp z (by simp [hz])) pos)) (fun ρ => rfl) fun vs H Q F b ts t b' st tl e q => ?_
  rw [List.append_nil]
  exact ⟨F, b, ts, t, b', by rw [tl.length]; exact c.fns.len f ts b _ e, st, tl, e, q⟩
theorem permG_rel {α β : Type} {R : α → β → Prop} {ps ks : List Str} {xs : List α} {ys : List β} (h : Paired R xs ys) : Paired R (permG ps ks xs) (permG ps ks ys) := by
  have key : ∀ (ks : List Str) (xs : List α) (ys : List β) (p : Str), Paired R xs ys → (∃ x y, (ks.zip xs).lookup p = some x ∧ (ks.zip ys).lookup p = some y ∧ R x y) ∨ ((ks.zip xs).lookup p = none ∧ (ks.zip ys).lookup p = none) := by
    intro ks
    induction ks with
    | nil => intro xs ys p h; exact .inr ⟨rfl, rfl⟩
    | cons q ks ih =>
      intro xs ys p h
      cases h with
      | nil => exact .inr ⟨rfl, rfl⟩
      | cons r t =>
        simp only [List.zip_cons_cons, List.lookup_cons]
        cases hq : p == q with
        | true => exact .inl ⟨_, _, rfl, rfl, r⟩
        | false => exact ih _ _ p t
  unfold permG
  induction ps with
  | nil => exact .nil
  | cons p ps ih =>
    rw [List.filterMap_cons, List.filterMap_cons]
    rcases key ks xs ys p h with ⟨x, y, e1, e2, r⟩ | ⟨e1, e2⟩
    · rw [e1, e2]; exact .cons r ih
    · rw [e1, e2]; exact ih
theorem TrL.paired {F : Hp} : ∀ {vs : List V} {ts : List T}, TrL W F vs ts → Paired (Tr W F) vs ts
  | _, _, .nil => .nil
  | _, _, .cons h l => .cons h (TrL.paired l)
theorem TrL.of_paired {F : Hp} : ∀ {vs : List V} {ts : List T}, Paired (Tr W F) vs ts → TrL W F vs ts
  | _, _, .nil => .nil
  | _, _, .cons h l => .cons h (TrL.of_paired l)
theorem PK.imp {kws : List Keyword} {t t' : TA} (h : PK X kws t) (q : ∀ σ H Q, t' σ H Q → t σ H Q) : PK X kws t' := ⟨fun pos pins s σ H Q I z => h.run pos pins s σ H Q I (q σ H Q z)⟩
theorem sk_nil : PK X [] (rdA W (evEs call pars .nil)) := by
  refine PK.imp pk_nil fun σ H Q q => ?_
  obtain ⟨F, ρ, bg, t, b', st, vr, e, q⟩ := q
  cases (show some (([] : List T), bg) = some (t, b') from e)
  exact q [] F H ⟨Grow.refl _ _, Keep.refl _ _, st, .nil⟩
theorem sk_cons {e : E} {r : Es} {x : Expr} {kws : List Keyword} {nm : Option Str} {kp : Pos} (he : PE X x (rdE W (evE call pars e))) (hr : PK X kws (rdA W (evEs call pars r))) : PK X (⟨nm, x, kp⟩ :: kws) (rdA W (evEs call pars (.cons e r))) := by
  refine PK.imp (pk_cons he hr) fun σ H Q q => ?_
  obtain ⟨F, ρ, bg, t, b', st, vr, e, q⟩ := q
  obtain ⟨y, b1, e1, ea⟩ := bind_some (show Ev.bind _ _ bg = some (t, b') from e)
  obtain ⟨ys, b2, e2, eb⟩ := bind_some ea
  cases (show some (y :: ys, b2) = some (t, b') from eb)
  exact ⟨F, ρ, bg, y, b1, st, vr, e1, fun v1 F1 H1 p1 => ⟨F1, ρ, b1, ys, b', p1.sta, vr.mono p1.grow.sub, e2, fun vs F2 H2 p2 => q _ F2 H2 ⟨p1.grow.trans p1.keep p1.sta.bag p2.grow, p1.keep.trans p2.keep, p2.sta, .cons (p1.tr.mono p2.grow.sub) p2.tr⟩⟩⟩
theorem kw_all {kws : List Keyword} {env : Env} {pos : Pos} {ks : List Str} (h : kws.map (·.arg) = ks.map some) : (backToKw pos (keywordEach kws env)).all (·.1.isSome) = true ∧ (backToKw pos (keywordEach kws env)).filterMap (·.1) = ks ∧ (backToKw pos (keywordEach kws env)).any (·.1.isNone) = false := by
  induction kws generalizing ks with
  | nil =>
    cases ks with
    | nil => exact ⟨rfl, rfl, rfl⟩
    | cons _ _ => cases h
  | cons kw r ih =>
    cases ks with
    | nil => cases h
    | cons x ks =>
      obtain ⟨nm, e, p⟩ := kw
      simp only [List.map_cons, List.cons.injEq] at h
      obtain ⟨h1, h2⟩ := h
      subst h1
      obtain ⟨i1, i2, i3⟩ := ih h2
      refine ⟨?_, ?_, ?_⟩
      · show (true && (backToKw pos (keywordEach r env)).all (·.1.isSome)) = true
        rw [i1]; rfl
      · show x :: (backToKw pos (keywordEach r env)).filterMap (·.1) = _
        rw [i2]
      · show (false || (backToKw pos (keywordEach r env)).any (·.1.isNone)) = false
        rw [i3]; rfl
theorem se_callK (c : CxI X W G pars k call Γ) {f : Nat} {es : Es} {ks : List Str} {x : Str} {kws : List Keyword} {p pos : Pos} (hf : fnB G Γ f x = true) (hkw : (f, ks) ∈ G.kw) (hks : kws.map (·.arg) = ks.map some) (ha : PK X kws (rdA W (evEs call pars es))) (hl : ∀ ρ b ts b', evEs call pars es ρ b = some (ts, b') → ts.length = ks.length) :
    PE X (.Call (.Name x p) [] kws pos) (rdE W (evE call pars (.callK f es ks))) := by
  unfold fnB at hf
  rw [Bool.and_eq_true, decide_eq_true_eq] at hf
  obtain ⟨g1, g2⟩ := glB_of c hf.2
  obtain ⟨a, fd, ok, hm, hk, hb, hbk⟩ := c.fns.fn f x hf.1
  obtain ⟨k1, k2, k3⟩ := kw_all (env := X.env) (pos := pos) hks
  refine ⟨fun pins s σ H Q I h => ?_⟩
  obtain ⟨F, ρ, bg, t, b', st, vr, e, q⟩ := h
  obtain ⟨ts, b1, e1, ea⟩ := bind_some (show Ev.bind _ _ bg = some (t, b') from e)
  refine wpAny_Call_Name_kw (ld_glob I g1 hm ?_ g2)
  refine PySem.W.callWith_KW0 (h₀ := X.base) I.ok.mod.kin hk k1 (thn (ha.run pos pins s σ H (fun vs H1 => vs.length = ks.length ∧ spF W (pars f).length (call f) (permG (pars f) ks vs) H1 Q E0) I ⟨F, ρ, bg, ts, b1, st, vr, e1, fun vs F1 H1 p1 => ⟨by rw [p1.tr.length]; exact hl _ _ _ _ e1, F1, b1, permG (pars f) ks ts, t, b', ?_, p1.sta, TrL.of_paired (permG_rel p1.tr.paired), ea, fun v F' H' p => q v F' H' (p1.end p)⟩⟩) fun ws s2 ⟨zs, H2, I2, rz, l1, q2⟩ => ⟨I2.kIn, ?_⟩) (by rw [k3]; rfl)
  · have h1 := c.fns.len f _ _ _ ea
    rw [← h1]
    exact (permG_rel p1.tr.paired).length
  · rw [k2]
    have r2 : Vals (permG (pars f) ks zs) (permG (pars f) ks ws) := permG_rel rz
    refine wpAny_call (codeAny_mono (ok.run X.A X.stack s2 H2 ⟨[] ++ [], ks.zip ws⟩ (permG (pars f) ks ws) (permG (pars f) ks zs) Q E0 c.room I2.env0 (hbk ks hkw s2 ws I2.kIn (by rw [← rz.length]; exact l1)) r2 q2) fun r s' hq => ?_)
    cases r with
    | error e => exact pass0 pins σ H2 s2 e s' I2 hq
    | ok fl =>
      cases fl with
      | ret u => exact I2.after hq
      | next => exact False.elim hq
      | brk => exact False.elim hq
      | cont => exact False.elim hq
theorem se_blt (c : CxI X W G pars k call Γ) {x : Bi} {es : Es} {y : Str} {e : Expr} {r : List Expr} {p pos : Pos} (hy : y = biName x) (hg : glB Γ y = true) (ha : PA X (e :: r) (rdA W (evEs call pars es))) (hp : ∀ z ∈ e :: r, plB z = true) :
    PE X (.Call (.Name y p) (e :: r) [] pos) (rdE W (evE call pars (.blt x es))) := by
  subst hy
  obtain ⟨g1, g2⟩ := glB_of c hg
  have cr := cr_T (X := X) (W := W) c.K c.calm x
  have hb := bi_boot x
  have hm := c.bi x
  have hn : biName x ≠ "__name__" := by cases x <;> decide +kernel
  have h1 := star_of (es := r) (env := X.env) (hp e (by simp))
  have h2 := star_all (es := r) (env := X.env) (fun z hz => hp z (by simp [hz])) pos
  refine se_args (xs := e :: r) (r := rTL W (bltT x)) (g := fun ts => Ev.of (bltT x ts)) ?_ (fun ρ => rfl) fun vs H Q F b ts t b' st tl e q => ?_
  · cases x
    case len => exact pe_callB cr g1 hm hb ha hn g2 h1 h2
    case abs => exact pe_callB cr g1 hm hb ha hn g2 h1 h2
    case all => exact pe_callB cr g1 hm hb ha hn g2 h1 h2
    case any => exact pe_callB cr g1 hm hb ha hn g2 h1 h2
    case isi => exact pe_callB cr g1 hm hb ha hn g2 h1 h2
    case sorted => exact pe_callB cr g1 hm hb ha hn g2 h1 h2
    case list => exact pe_callTy cr g1 hm hb ha hn g2 h1 h2
    case tuple => exact pe_callTy cr g1 hm hb ha hn g2 h1 h2
    case int => exact pe_callTy cr g1 hm hb ha hn g2 h1 h2
    case str => exact pe_callTy cr g1 hm hb ha hn g2 h1 h2
  · obtain ⟨ea, hb'⟩ := of_some e
    clear e
    subst hb'
    exact ⟨F, b', ts, t, st, tl, ea, q⟩
theorem join_len (a : Str) : ∀ ys : List Str, (Str.join a ys).length ≤ (ys.map (·.length)).sum + ys.length * a.length
  | [] => Nat.zero_le _
  | [x] => by
    show x.length ≤ x.length + 0 + (0 + 1) * a.length
    omega
  | x :: y :: r => by
    have ih := join_len a (y :: r)
    show (x ++ a ++ Str.join a (y :: r)).length ≤ _
    rw [append_length, append_length, List.map_cons, List.sum_cons, List.length_cons, Nat.succ_mul]
    omega
theorem txt_join (a : Str) (ys : List Str) : Txt.join a ys = Str.join a ys := PySem.StrLaws.glued_eq_join a ys
theorem se_mth (c : CxI X W G pars k call Γ) {m : Me} {a : E} {es : Es} {o e : Expr} {n : Str} {ap cp : Pos} (hn : n = meName m) (hr : rcB o = true) (hl : (ap.endLine == cp.line) = true) (ho : PE X o (rdE W (evE call pars a))) (ha : PA X [e] (rdA W (evEs call pars es))) (hp : plB e = true)
    (h1 : ∃ d, es = .cons d .nil ∧ PE X e (rdE W (evE call pars d))) : PE X (.Call (.Attribute o n ap) [e] [] cp) (rdE W (evE call pars (.mth m a es))) := by
  subst hn
  obtain ⟨d, rfl, hd⟩ := h1
  cases m
  refine PE.imp (pe_join ho hd (star_of hp) (rc_of hr) hl) fun σ H Q q => ?_
  obtain ⟨F, ρ, bg, t, b', st, vr, e, q⟩ := q
  obtain ⟨x, b1, e1, ea⟩ := bind_some (show Ev.bind _ _ bg = some (t, b') from e)
  obtain ⟨ts, b2, e2, eb⟩ := bind_some ea
  obtain ⟨ec, hb'⟩ := of_some eb
  obtain ⟨y, b3, e3, ed⟩ := bind_some (show Ev.bind _ _ b1 = some (ts, b2) from e2)
  obtain ⟨ys, b4, e4, ee⟩ := bind_some ed
  cases (show some (([] : List T), b3) = some (ys, b4) from e4)
  cases (show some ([y], b3) = some (ts, b2) from ee)
  subst hb'
  match x, y, ec with
  | .str sep, .lst zs, ec =>
    simp only [mthT] at ec
    cases q1 : strsT zs with
    | none => rw [q1] at ec; cases ec
    | some xs =>
      rw [q1] at ec
      simp only at ec
      split at ec
      · rename_i hz
        cases ec
        refine ⟨F, ρ, bg, _, b1, st, vr, e1, fun v1 F1 H1 p1 => ⟨?_, F1, ρ, b1, _, b', p1.sta, vr.mono p1.grow.sub, e3, fun v2 F2 H2 p2 => ?_⟩⟩
        · cases p1.tr; exact ⟨_, rfl⟩
        · have p12 := p1.trans p2
          cases p1.tr
          cases p2.tr with
          | lst ha' hz' hs =>
            obtain ⟨h2, h3, h4⟩ := strsT_tr hs q1
            subst h2
            refine ⟨_, _, xs, rfl, rfl, .inl (SqL.of (p2.sta.lst ha')), Nat.le_trans hz (by decide), ?_⟩
            rw [txt_join]
            exact q _ F2 H2 ⟨p12.grow, p12.keep, p12.sta, .str _ (Nat.le_trans (join_len _ _) hz)⟩
      · cases ec
end
end
end DI

set_option Elab.async false
set_option linter.all false
set_option maxRecDepth 100000
set_option maxHeartbeats 8000000
namespace DI
open PySem L2 PySem.Spec PyProof.Rows HT

section
variable {prog : Program} {w : World} {A : Around} {E : Value → Shared → Prop} {s : Shared}
theorem applied_rev {sl : Addr} {vs : Value} {n : Nat} {Q : Int × Int × Nat → Shared → Prop} (hs : s.heap.IsSliceOf sl .none .none vs) (ps : IsPart vs (some (-1)))
    (h : Q (((n : Int) - 1), -1, n) s) : wpAny (model prog w) A (Builtin.Slice.sliceApplied (.ref sl) (pure (n : Int))) Q E s := by
  obtain ⟨os, hos, hcs, hds⟩ := id hs
  unfold Builtin.Slice.sliceApplied Builtin.Slice.sliceFields
  refine wpAny_bind (wpAny_bind (wpAny_field hos hds (x := .none) rfl (wpAny_bind (wpAny_field hos hds (x := .none) rfl (wpAny_bind (wpAny_field hos hds (x := vs) rfl (wpAny_pure ?_)))))))
  refine wpAny_bind (slicePart_ ps ?_)
  show wpAny _ _ (if ((-1 : Int) == 0) = true then _ else _) _ _ s
  rw [if_neg (by decide)]
  refine wpAny_bind (slicePart_none (wpAny_bind (slicePart_none (wpAny_bind (wpAny_pure ?_)))))
  show wpAny _ _ (pure (((n : Int) - 1), (-1 : Int), Builtin.Slice.slicePlaces ((n : Int) - 1) (-1) (-1))) _ _ s
  have e : Builtin.Slice.slicePlaces ((n : Int) - 1) (-1) (-1) = n := by
    unfold Builtin.Slice.slicePlaces
    have h1 : ¬ ((-1 : Int) > 0) := by omega
    simp only [h1, if_false]
    split
    · rw [show (- -1 : Int) = 1 by decide, Int.ediv_one]; omega
    · omega
  rw [e]
  exact wpAny_pure h
theorem pick_rev (xs : Array Value) : ((List.range xs.size).filterMap fun (m : Nat) => xs[(((xs.size : Int) - 1) + (m : Int) * (-1)).toNat]?).toArray = xs.toList.reverse.toArray := by
  have e := PySem.W.krv_range xs.size
  have e2 : ((List.range xs.size).filterMap fun (m : Nat) => xs[(((xs.size : Int) - 1) + (m : Int) * (-1)).toNat]?) = (((List.range xs.size).map fun k => xs.size - 1 - k).filterMap (xs[·]?)) := by
    rw [List.filterMap_map]
    congr 1
    funext m
    have : (((xs.size : Int) - 1) + (m : Int) * (-1)).toNat = xs.size - 1 - m := by omega
    rw [this]
    rfl
  rw [e2, e, List.filterMap_reverse, PySem.W.krv_all]
theorem getItem_tuple_rev {t sl : Addr} {items : Array Value} {vs : Value} {Q : Value → Shared → Prop} (ht : IsTup s.heap t items) (hs : s.heap.IsSliceOf sl .none .none vs) (ps : IsPart vs (some (-1)))
    (h : Q (.ref s.heap.objs.size) { s with heap := s.heap.push { cls := .type "tuple", data := .seq items.toList.reverse.toArray } })
    (hsz : items.size ≤ sizeLine) : wpAny (model prog w) A (getItem (.ref t) (.ref sl)) Q E s := by
  have htake : sizeOk (.seq items.toList.reverse.toArray) := by
    show items.toList.reverse.toArray.size ≤ sizeLine
    rw [List.size_toArray, List.length_reverse, Array.length_toList]
    exact hsz
  obtain ⟨os, hos, hcs, hds⟩ := id hs
  have hTs : s.TypeIs (.ref sl) "slice" := ⟨os, hos, hcs⟩
  unfold getItem
  try with_reducible refine wpAny_holding ?_
  first | refine wpAny_bind (wpAny_pure ?_) | skip
  refine wpAny_bind (wpAny_sequenceKey ht.typeIs (by decide) ?_)
  refine wpAny_bind (wpAny_callSpecial?_slot (name := Str.ofString "__getitem__") ht.typeIs PyProof.Rows.slot_tuple_getitem
    (wpAny_call_entry PyProof.Rows.slot_tuple_getitem ht.typeIs entry_tuple_getitem ?_ (args_tuple_getitem _ _)))
  show wpAny _ _ (Builtin.Tuple.tupleItemsOf (.ref t) >>= _) _ _ s
  refine wpAny_bind (tupleItemsOf_ ht ?_)
  refine wpAny_bind (wpAny_typeOf hTs ?_)
  rw [if_pos (by decide)]
  refine wpAny_bind (applied_rev hs ps ?_)
  have hno : ¬ ((((items.size : Int) - 1) == 0 && (-1 : Int) == 1 && items.size == items.size) = true) := by
    intro q
    rw [Bool.and_eq_true, Bool.and_eq_true] at q
    have q1 : (-1 : Int) = 1 := eq_of_beq q.1.2
    omega
  show wpAny _ _ (if (((items.size : Int) - 1) == 0 && (-1 : Int) == 1 && items.size == items.size) = true then _ else _) _ _ s
  rw [if_neg hno, pick_rev]
  first
    | exact wpAny_bind (m := Builtin.Tuple.tupleExact _) (wpAny_newObj_type (wpAny_pure ⟨_, rfl, wpAny_pure h⟩) htake)
    | exact wpAny_bind (m := Builtin.Tuple.tupleExact _) (wpAny_newObj_type (wpAny_bind (wpAny_pure (wpAny_pure ⟨_, rfl, wpAny_pure h⟩))) htake)
    | exact wpAny_bind (wpAny_bind (m := Builtin.Tuple.tupleExact _) (wpAny_newObj_type (wpAny_pure (wpAny_pure ⟨_, rfl, wpAny_pure h⟩)) htake))
    | exact wpAny_bind (wpAny_bind (m := Builtin.Tuple.tupleExact _) (wpAny_newObj_type (wpAny_pure ⟨_, rfl, wpAny_pure h⟩) htake))
end
section
variable {X : Cx}
def tRevX (K : PySem.W.Frag) (te : TE) : TE := fun σ H Q => te σ H fun x H1 => ∃ a xs, x = .ref a ∧ ((SqL K H1 a xs ∧ ∀ p, H1 p = none → Q (.ref p) (upd H1 p (.lst xs.reverse))) ∨ (SqT K H1 a xs ∧ ∀ p, H1 p = none → Q (.ref p) (upd H1 p (.tup xs.reverse))))
theorem pe_revX {e : Expr} {te : TE} {k : Nat} {p1 p2 p3 pos : Pos} (he : PE X e te) : PE X (.Subscript e (.Slice none none (some (.UnaryOp .USub (.Constant (.int 1) k p1) p2)) p3) pos) (tRevX X.K te) := by
  refine ⟨fun pins s σ H Q I h => ?_⟩
  refine Subscript_ (thn (he.run pins s σ H _ I h) fun v s1 ⟨x, H1, I1, r1, q1⟩ => ?_)
  obtain ⟨a, xs, ex, q⟩ := q1
  subst ex
  cases r1
  have hst : PO X (some (.UnaryOp .USub (.Constant (.int 1) k p1) p2)) (tPart (tUn (rU fun i => .int (-i)) (tC (.int 1)))) := po_some (pe_un un_neg pe_int)
  refine wpAny_Slice (thn (po_none.run pins s1 σ H1 (fun o H2 => o = none ∧ H2 = H1) I1 ⟨rfl, rfl⟩) fun vl s2 ⟨l, H2, I2, pl, el, e2⟩ => ?_)
  subst el e2
  refine thn (po_none.run pins s2 σ H2 (fun o H3 => o = none ∧ H3 = H2) I2 ⟨rfl, rfl⟩) fun vu s3 ⟨u, H3, I3, pu, eu, e3⟩ => ?_
  subst eu e3
  refine thn (hst.run pins s3 σ H3 (fun o H4 => o = some (-1) ∧ H4 = H3) I3 ⟨1, rfl, -1, rfl, rfl, rfl⟩) fun vs s4 ⟨o, H4, I4, ps, eo, e4⟩ => ?_
  subst eo e4
  have I5 : Inv X pins σ H4 { s4 with heap := s4.heap.push { cls := .type "slice", data := .fields #[vl, vu, vs] } } := I4.kept (t' := s4.toks) fun b ob q => Heap.get?_push_of_some _ q
  rcases q with ⟨hx, q⟩ | ⟨hx, q⟩
  · obtain ⟨its, r, ht, hz⟩ := I5.list hx
    have hlen := r.length
    show wpAny (model X.prog X.w) X.A (subscriptTail e (.Slice none none (some (.UnaryOp .USub (.Constant (.int 1) k p1) p2)) p3) (.ref a) (.ref s4.heap.objs.size)) (EP X pins σ Q) X.xe { s4 with heap := s4.heap.push { cls := .type "slice", data := .fields #[vl, vu, vs] } }
    refine tail_any (ops := [.ref a, .ref s4.heap.objs.size]) ht.isList.typeIs (PySem.slot_list_getitem.lookup) ?_ (by with_unfolding_all rfl)
    refine wpAny_getItem_list_slice ht.isList (Heap.IsSliceOf.new _ vl vu vs) pl pu ps (by decide) ?_ (by rw [List.size_toArray]; omega)
    rw [PySem.W.krv_pick]
    refine ⟨.ref _, _, I5.laid (t' := s4.toks) (o := .lst xs.reverse) (fun b ob q => Heap.get?_push_of_some _ q) (Nat.le_refl _) ?_, rfl, q _ (I5.hok.fresh (Nat.le_refl _))⟩
    exact ⟨by rw [List.length_reverse]; exact hz, _, 0, r.reverse, Heap.get?_push_size _ rfl⟩
  · obtain ⟨its, r, ht, hz⟩ := I5.tuple hx
    have hlen := r.length
    show wpAny (model X.prog X.w) X.A (subscriptTail e (.Slice none none (some (.UnaryOp .USub (.Constant (.int 1) k p1) p2)) p3) (.ref a) (.ref s4.heap.objs.size)) (EP X pins σ Q) X.xe { s4 with heap := s4.heap.push { cls := .type "slice", data := .fields #[vl, vu, vs] } }
    cases pl
    cases pu
    refine tail_any (ops := [.ref a, .ref s4.heap.objs.size]) ht.typeIs (PyProof.Rows.slot_tuple_getitem.lookup) ?_ (by with_unfolding_all rfl)
    refine getItem_tuple_rev ht (Heap.IsSliceOf.new _ _ _ vs) ps ?_ (by rw [List.size_toArray]; omega)
    refine ⟨.ref _, _, I5.laid (t' := s4.toks) (o := .tup xs.reverse) (fun b ob q => Heap.get?_push_of_some _ q) (Nat.le_refl _) ?_, rfl, q _ (I5.hok.fresh (Nat.le_refl _))⟩
    exact ⟨by rw [List.length_reverse]; exact hz, _, r.reverse, IsTup.new _ _⟩
end
end DI

set_option Elab.async false
set_option linter.all false
set_option maxRecDepth 100000
set_option maxHeartbeats 8000000
namespace DI
open PySem L2

section
variable {W : Wd} {G : Gm} {pars : Nat → List Str} {k : Nat} {call : Nat → List T → Ev T}
section
variable {X : Cx} {Γ : Cc}
theorem intT_some {F : Hp} {v : V} {t : T} {i : Int} (h : Tr W F v t) (e : intT t = some i) : v = .int i ∧ t = .int i := by
  cases h <;> cases e
  exact ⟨rfl, rfl⟩
/-- a slice's part -/
theorem part_of {a : E} {σ : L2.St} {H : Hp} {Q : Option Int → Hp → Prop} {F : Hp} {ρ : View} {b b1 : Bag} {x : T} {i : Int} (st : Sta W F H b) (vr : VRel W F σ ρ) (e1 : evE call pars a ρ b = some (x, b1)) (e2 : intT x = some i)
    (q : ∀ v F1 H1, Post W F H b1 x v F1 H1 → Q (some i) H1) : tPart (rdE W (evE call pars a)) σ H Q :=
  ⟨F, ρ, b, x, b1, st, vr, e1, fun v F1 H1 p => ⟨i, (intT_some p.tr e2).1, q v F1 H1 p⟩⟩
theorem se_sl (c : CxI X W G pars k call Γ) {a lo hi : E} {x l h : Expr} {p2 pos : Pos} (ha : PE X x (rdE W (evE call pars a))) (hl : PE X l (rdE W (evE call pars lo))) (hh : PE X h (rdE W (evE call pars hi))) :
    PE X (.Subscript x (.Slice (some l) (some h) none p2) pos) (rdE W (evE call pars (.sl a lo hi))) := by
  refine PE.imp (pe_slice (sl_T c.K) ha (po_some hl) (po_some hh)) fun σ H Q q => ?_
  obtain ⟨F, ρ, bg, t, b', st, vr, e, q⟩ := q
  obtain ⟨y, b1, e1, ea⟩ := bind_some (show Ev.bind _ _ bg = some (t, b') from e)
  obtain ⟨tl, b2, e2, eb⟩ := bind_some ea
  obtain ⟨i, e3, ec⟩ := bind_of eb
  obtain ⟨th, b3, e4, ed⟩ := bind_some ec
  obtain ⟨j, e5, ee⟩ := bind_of ed
  obtain ⟨ef, hb'⟩ := of_some ee
  clear ee ed ec eb ea e
  subst hb'
  exact ⟨F, ρ, bg, y, b1, st, vr, e1, fun v1 F1 H1 p1 => part_of p1.sta (vr.mono p1.grow.sub) e2 e3 fun v2 F2 H2 p2 => part_of p2.sta ((vr.mono p1.grow.sub).mono p2.grow.sub) e4 e5 fun v3 F3 H3 p3 =>
    ⟨F3, b', y, t, p3.sta, (p1.tr.mono p2.grow.sub).mono p3.grow.sub, ef, fun v F' H' p => q v F' H' (p1.trans (p2.trans (p3.trans p)))⟩⟩
theorem se_slH (c : CxI X W G pars k call Γ) {a hi : E} {x h : Expr} {p2 pos : Pos} (ha : PE X x (rdE W (evE call pars a))) (hh : PE X h (rdE W (evE call pars hi))) :
    PE X (.Subscript x (.Slice none (some h) none p2) pos) (rdE W (evE call pars (.slH a hi))) := by
  refine PE.imp (pe_slice (sl_T c.K) ha po_none (po_some hh)) fun σ H Q q => ?_
  obtain ⟨F, ρ, bg, t, b', st, vr, e, q⟩ := q
  obtain ⟨y, b1, e1, ea⟩ := bind_some (show Ev.bind _ _ bg = some (t, b') from e)
  obtain ⟨th, b3, e4, ed⟩ := bind_some ea
  obtain ⟨j, e5, ee⟩ := bind_of ed
  obtain ⟨ef, hb'⟩ := of_some ee
  clear ee ed ea e
  subst hb'
  exact ⟨F, ρ, bg, y, b1, st, vr, e1, fun v1 F1 H1 p1 => show tPart (rdE W (evE call pars hi)) σ H1 (fun u H3 => rTS W v1 none u H3 Q) from part_of p1.sta (vr.mono p1.grow.sub) e4 e5 fun v3 F3 H3 p3 =>
    ⟨F3, b', y, t, p3.sta, p1.tr.mono p3.grow.sub, ef, fun v F' H' p => q v F' H' (p1.trans (p3.trans p))⟩⟩
theorem se_slL (c : CxI X W G pars k call Γ) {a lo : E} {x l : Expr} {p2 pos : Pos} (ha : PE X x (rdE W (evE call pars a))) (hl : PE X l (rdE W (evE call pars lo))) :
    PE X (.Subscript x (.Slice (some l) none none p2) pos) (rdE W (evE call pars (.slL a lo))) := by
  refine PE.imp (pe_slice (sl_T c.K) ha (po_some hl) po_none) fun σ H Q q => ?_
  obtain ⟨F, ρ, bg, t, b', st, vr, e, q⟩ := q
  obtain ⟨y, b1, e1, ea⟩ := bind_some (show Ev.bind _ _ bg = some (t, b') from e)
  obtain ⟨th, b3, e4, ed⟩ := bind_some ea
  obtain ⟨j, e5, ee⟩ := bind_of ed
  obtain ⟨ef, hb'⟩ := of_some ee
  clear ee ed ea e
  subst hb'
  exact ⟨F, ρ, bg, y, b1, st, vr, e1, fun v1 F1 H1 p1 => part_of p1.sta (vr.mono p1.grow.sub) e4 e5 fun v3 F3 H3 p3 =>
    ⟨F3, b', y, t, p3.sta, p1.tr.mono p3.grow.sub, ef, fun v F' H' p => q v F' H' (p1.trans (p3.trans p))⟩⟩
theorem se_rev (c : CxI X W G pars k call Γ) {a : E} {x : Expr} {n : Nat} {p1 p2 p3 pos : Pos} (ha : PE X x (rdE W (evE call pars a))) : PE X (.Subscript x (.Slice none none (some (.UnaryOp .USub (.Constant (.int 1) n p1) p2)) p3) pos) (rdE W (evE call pars (.rev a))) := by
  refine PE.imp (pe_revX ha) fun σ H Q q => ?_
  obtain ⟨F, ρ, bg, t, b', st, vr, e, q⟩ := q
  obtain ⟨y, b1, e1, ea⟩ := bind_some (show Ev.bind _ _ bg = some (t, b') from e)
  obtain ⟨ef, hb'⟩ := of_some ea
  clear ea e
  subst hb'
  refine ⟨F, ρ, bg, y, b', st, vr, e1, fun v1 F1 H1 p1 => ?_⟩
  have hp := p1
  cases hp.tr <;> try (cases ef)
  · rename_i ad vs ts h1 h2 h3
    exact ⟨ad, vs, rfl, .inr ⟨SqT.of (p1.sta.tup h1), tr_tup p1.sta (by rw [List.length_reverse]; exact h2) h3.reverse fun v F' H' p => q v F' H' (p1.trans p)⟩⟩
  · rename_i ad vs ts h1 h2 h3
    exact ⟨ad, vs, rfl, .inl ⟨SqL.of (p1.sta.lst h1), tr_lst p1.sta (by rw [List.length_reverse]; exact h2) h3.reverse fun v F' H' p => q v F' H' (p1.trans p)⟩⟩
theorem se_neg {a : E} {x : Expr} {pos : Pos} (ha : PE X x (rdE W (evE call pars a))) : PE X (.UnaryOp .USub x pos) (rdE W (evE call pars (.neg a))) := by
  refine PE.imp (pe_un un_neg ha) fun σ H Q q => ?_
  obtain ⟨F, ρ, bg, t, b', st, vr, e, q⟩ := q
  obtain ⟨y, b1, e1, ea⟩ := bind_some (show Ev.bind _ _ bg = some (t, b') from e)
  obtain ⟨ef, hb'⟩ := of_some ea
  clear ea e
  subst hb'
  rw [Option.map_eq_some_iff] at ef
  obtain ⟨i, e2, rfl⟩ := ef
  exact ⟨F, ρ, bg, y, b', st, vr, e1, fun v1 F1 H1 p1 => ⟨i, (intT_some p1.tr e2).1, q _ F1 H1 ⟨p1.grow, p1.keep, p1.sta, .int _⟩⟩⟩
theorem se_dct0 {ks : List Str} {vs : Es} {pos : Pos} (hk : ks = []) (hv : vs = .nil) : PE X (.Dict [] [] pos) (rdE W (evE call pars (.dct ks vs))) := by
  subst hk hv
  refine PE.imp pe_dnewK fun σ H Q q => ?_
  obtain ⟨F, ρ, bg, t, b', st, vr, e, q⟩ := q
  cases (show some (T.dK [] [], bg) = some (t, b') from e)
  intro p n
  exact q _ _ _ (Post.laid st n (Tr.dK (kvs := []) upd_same .nil))
theorem se_dct1 {ks : List Str} {x : Str} {d : E} {v : Expr} {n : Nat} {kp pos : Pos} (hk : ks = [x]) (hx : x.length ≤ LIM) (hd : PE X v (rdE W (evE call pars d))) : PE X (.Dict [some (.Constant (.str x) n kp)] [v] pos) (rdE W (evE call pars (.dct ks (.cons d .nil)))) := by
  subst hk
  refine PE.imp (pe_disp (pps_cons pe_str hd pps_nil) rfl rfl (fun z => by cases z) (by show 1 ≤ 15; decide)) fun σ H Q q => ?_
  obtain ⟨F, ρ, bg, t, b', st, vr, e, q⟩ := q
  obtain ⟨ts, b1, e1, ea⟩ := bind_some (show Ev.bind _ _ bg = some (t, b') from e)
  obtain ⟨y, b2, e2, eb⟩ := bind_some (show Ev.bind _ _ bg = some (ts, b1) from e1)
  cases (show some ([y], b2) = some (ts, b1) from eb)
  obtain ⟨ef, hb'⟩ := of_some ea
  clear ea eb e e1
  subst hb'
  rw [if_pos ⟨rfl, by show 1 ≤ 15; decide, by simp⟩] at ef
  cases ef
  intro p hp
  have nB := st.neB hp
  have nC := st.neC hp
  have fp := st.free hp
  refine ⟨F, ρ, bg, y, b', st.hid fp nB nC, vr, e2, fun v1 F1 H1 p1 => ?_⟩
  have hp1 : H1 p = some (.dK []) := p1.keep p _ upd_same nB
  have f1 : F1 p = none := by
    cases qq : F1 p with
    | none => rfl
    | some u =>
      rcases p1.grow.new p u qq with z | z
      · rw [fp] at z; cases z
      · rw [upd_same] at z; cases z
  refine ⟨hp1, [(Sum.inr x, v1)], rfl, by show 1 ≤ 15; decide, ?_⟩
  refine q _ (upd F1 p (.dK [(Sum.inr x, v1)])) _ ⟨⟨fun a o h => ?_, fun a o h => ?_⟩, fun a o h n => ?_, ⟨fun a o h => ?_, ?_, ?_, ?_, ?_, st.bag.2.2⟩, ?_⟩
  · rw [upd_ne (ne_of_none (p1.grow.sub a o h) f1)]
    exact p1.grow.sub a o h
  · by_cases ha : a = p
    · subst ha; exact .inr hp
    · rw [upd_ne ha] at h
      rcases p1.grow.new a o h with z | z
      · exact .inl z
      · rw [upd_ne ha] at z; exact .inr z
  · have ha : a ≠ p := ne_of_none h hp
    rw [upd_ne ha]
    exact p1.keep a o (by rw [upd_ne ha]; exact h) n
  · by_cases ha : a = p
    · subst ha; rw [upd_same] at h ⊢; exact .inl h
    · rw [upd_ne ha] at h ⊢; exact p1.sta.fz a o h
  · rw [upd_ne (Ne.symm nB)]; exact p1.sta.fB
  · rw [upd_ne (Ne.symm nC)]; exact p1.sta.fc
  · rw [upd_ne (Ne.symm nB)]; exact p1.sta.bag.1
  · rw [upd_ne (Ne.symm nC)]; exact p1.sta.bag.2.1
  · refine Tr.dK (kvs := [(Sum.inr x, v1)]) upd_same (.cons (p1.tr.mono fun a o h => ?_) .nil)
    rw [upd_ne (ne_of_none h f1)]
    exact h

/-! ### the bag -/
theorem bag_tr {F : Hp} {v : V} (h : Tr W F v .bag) : v = .ref W.B := by cases h; rfl
theorem bag_at {H : Hp} {b : Bag} (h : BagAt W H b) : SqL W.K H W.B [.ref W.c, .int b.i, .int b.j, .int b.s, .int b.n] := SqL.of h.1
theorem bagE_some {f : Bag → Option T} {t r : T} {b b' : Bag} (h : bagE f t b = some (r, b')) : t = .bag ∧ f b = some r ∧ b' = b := by
  unfold bagE at h
  split at h
  · split at h
    · cases h; exact ⟨rfl, by assumption, rfl⟩
    · cases h
  · cases h
theorem bag_get {b : Bag} {c : Addr} {k : Nat} {i : Int} (h : b.get k = some i) : atI [V.ref c, .int b.i, .int b.j, .int b.s, .int b.n] (k : Int) = some (.int i) := by
  match k, h with
  | 1, h => cases h; rfl
  | 2, h => cases h; rfl
  | 3, h => cases h; rfl
  | 4, h => cases h; rfl
theorem se_bget (c : CxI X W G pars k call Γ) {a : E} {n : Nat} {x : Expr} {j : Nat} {kp pos : Pos} (ha : PE X x (rdE W (evE call pars a))) : PE X (.Subscript x (.Constant (.int (n : Int)) j kp) pos) (rdE W (evE call pars (.bget a n))) := by
  refine PE.imp (pe_ix ix_list ha pe_int (fun _ _ => rfl)) fun σ H Q q => ?_
  obtain ⟨F, ρ, bg, t, b', st, vr, e, q⟩ := q
  obtain ⟨y, b1, e1, ea⟩ := bind_some (show Ev.bind _ _ bg = some (t, b') from e)
  obtain ⟨rfl, e2, hb⟩ := bagE_some ea
  clear ea e
  subst hb
  rw [Option.map_eq_some_iff] at e2
  obtain ⟨i, e3, rfl⟩ := e2
  refine ⟨F, ρ, bg, .bag, b', st, vr, e1, fun v1 F1 H1 p1 => ?_⟩
  refine ⟨W.B, _, (n : Int), .int i, bag_tr p1.tr, rfl, by rw [c.K]; exact bag_at p1.sta.bag, bag_get e3, q _ F1 H1 ⟨p1.grow, p1.keep, p1.sta, .int i⟩⟩
theorem se_blen (c : CxI X W G pars k call Γ) {a : E} {x : Expr} {j : Nat} {kp p1 p2 pos : Pos} (hg : glB Γ "len" = true) (ha : PE X x (rdE W (evE call pars a))) : PE X (.Call (.Name "len" p1) [.Subscript x (.Constant (.int 0) j kp) p2] [] pos) (rdE W (evE call pars (.blen a))) := by
  obtain ⟨g1, g2⟩ := glB_of c hg
  refine PE.imp (pe_callB call_len_seq g1 (c.bi .len) PySem.boot_len (pa_cons (pe_ix ix_list ha pe_int (fun _ _ => rfl)) pa_nil) (by decide) g2) fun σ H Q q => ?_
  obtain ⟨F, ρ, bg, t, b', st, vr, e, q⟩ := q
  obtain ⟨y, b1, e1, ea⟩ := bind_some (show Ev.bind _ _ bg = some (t, b') from e)
  obtain ⟨rfl, e2, hb⟩ := bagE_some ea
  clear ea e
  subst hb
  cases e2
  refine ⟨F, ρ, bg, .bag, b', st, vr, e1, fun v1 F1 H1 p1 => ?_⟩
  refine ⟨W.B, _, 0, .ref W.c, bag_tr p1.tr, rfl, by rw [c.K]; exact bag_at p1.sta.bag, rfl, W.c, _, rfl, .inl (SqL.of p1.sta.bag.2.1), ?_⟩
  rw [List.length_map]
  exact q _ F1 H1 ⟨p1.grow, p1.keep, p1.sta, .int _⟩
theorem atI_map {xs : List Int} {i v : Int} (h : atI xs i = some v) : atI (xs.map V.int) i = some (.int v) := by
  unfold atI at h ⊢
  rw [List.length_map]
  cases q : ixN xs.length i with
  | none => rw [q] at h; cases h
  | some j =>
    rw [q] at h
    show (xs.map V.int)[j]? = _
    rw [List.getElem?_map]
    have h : xs[j]? = some v := h
    rw [h]
    rfl
theorem se_bcell (c : CxI X W G pars k call Γ) {a : E} {x y : Expr} {j j2 : Nat} {kp kp2 p1 p2 pos : Pos} (ha : PE X x (rdE W (evE call pars a))) (hy : PE X y (rdE W (evE call pars a))) (hv : ∃ i, a = .var i) :
    PE X (.Subscript (.Subscript x (.Constant (.int 0) j kp) p1) (.Subscript y (.Constant (.int 1) j2 kp2) p2) pos) (rdE W (evE call pars (.bcell a))) := by
  refine PE.imp (pe_ix ix_list (pe_ix ix_list ha pe_int (fun _ _ => rfl)) (pe_ix ix_list hy pe_int (fun _ _ => rfl)) (fun _ _ => rfl)) fun σ H Q q => ?_
  obtain ⟨F, ρ, bg, t, b', st, vr, e, q⟩ := q
  obtain ⟨z, b1, e1, ea⟩ := bind_some (show Ev.bind _ _ bg = some (t, b') from e)
  obtain ⟨rfl, e2, hb⟩ := bagE_some ea
  clear ea e
  subst hb
  rw [Option.map_eq_some_iff] at e2
  obtain ⟨v, e3, rfl⟩ := e2
  obtain ⟨i, rfl⟩ := hv
  have hb : bg = b' := (of_some (show Ev.of _ bg = some (T.bag, b') from e1)).2.symm
  subst hb
  refine ⟨F, ρ, bg, .bag, bg, st, vr, e1, fun v1 F1 H1 p1 => ?_⟩
  refine ⟨W.B, _, 0, .ref W.c, bag_tr p1.tr, rfl, by rw [c.K]; exact bag_at p1.sta.bag, rfl, ?_⟩
  refine ⟨F1, ρ, bg, .bag, bg, p1.sta, vr.mono p1.grow.sub, e1, fun v2 F2 H2 p2 => ?_⟩
  refine ⟨W.B, _, 1, .int bg.i, bag_tr p2.tr, rfl, by rw [c.K]; exact bag_at p2.sta.bag, rfl, ?_⟩
  have p12 := p1.trans p2
  exact ⟨W.c, _, bg.i, .int v, rfl, rfl, SqL.of p2.sta.bag.2.1, atI_map e3, q _ F2 H2 ⟨p12.grow, p12.keep, p12.sta, .int v⟩⟩
/-! ### walks of terms -/
theorem si_val (c : CxI X W G pars k call Γ) {a : E} {tg x : Expr} (ha : PE X x (rdE W (evE call pars a))) : PI X tg x (rdI W (evI call pars (.val a))) := by
  refine PI.imp (pi_any ha) fun σ H R q => ?_
  obtain ⟨F, ρ, bg, ts, b', st, vr, e, q⟩ := q
  obtain ⟨y, b1, e1, ea⟩ := bind_some (show Ev.bind _ _ bg = some (ts, b') from e)
  obtain ⟨ef, hb'⟩ := of_some ea
  clear ea e
  subst hb'
  refine ⟨F, ρ, bg, y, b', st, vr, e1, fun v1 F1 H1 p1 => ?_⟩
  have hp := p1
  cases hp.tr <;> try (cases ef)
  case str x hz => exact .inr (.inr ⟨_, rfl, q _ F1 H1 p1.grow p1.keep p1.sta it_str (by rw [List.length_map, chrs_length]; exact hz)⟩)
  case tup ha hz hl => exact .inr (.inl ⟨_, rfl, ⟨_, SqT.of (p1.sta.tup ha)⟩, q _ F1 H1 p1.grow p1.keep p1.sta (it_tup ha hl) hz⟩)
  case lst ha hz hl => exact .inl ⟨_, rfl, ⟨_, SqL.of (p1.sta.lst ha)⟩, q _ F1 H1 p1.grow p1.keep p1.sta (it_list ha hl) hz⟩
theorem rngT_some {lo hi : Int} {ts : List T} (h : rngT lo hi = some ts) : (-1000000 ≤ lo ∧ lo ≤ 1000000 ∧ -1000000 ≤ hi ∧ hi ≤ 1000000 ∧ hi - lo ≤ 1000000) ∧ ts = (List.range (hi - lo).toNat).map fun (k : Nat) => T.int (lo + (k : Int)) := by
  unfold rngT at h
  split at h
  · cases h; exact ⟨by assumption, rfl⟩
  · cases h
theorem rng_len {lo hi : Int} (h : hi - lo ≤ 1000000) : ((List.range (hi - lo).toNat).map fun (k : Nat) => T.int (lo + (k : Int))).length ≤ LIM := by
  rw [List.length_map, List.length_range]
  have : LIM = 1000000 := rfl
  omega
theorem si_rng1 (c : CxI X W G pars k call Γ) {a : E} {tg x : Expr} {p pos : Pos} (hg : glB Γ "range" = true) (hp : plB x = true) (ha : PE X x (rdE W (evE call pars a))) : PI X tg (.Call (.Name "range" p) [x] [] pos) (rdI W (evI call pars (.rng1 a))) := by
  obtain ⟨g1, g2⟩ := glB_of c hg
  refine PI.imp (pi_range1 g1 c.rng.1 (pa_cons ha pa_nil (star_of hp)) (star_of hp)) fun σ H R q => ?_
  obtain ⟨F, ρ, bg, ts, b', st, vr, e, q⟩ := q
  obtain ⟨y, b1, e1, ea⟩ := bind_some (show Ev.bind _ _ bg = some (ts, b') from e)
  obtain ⟨ef, hb'⟩ := of_some ea
  clear ea e
  subst hb'
  rw [Option.bind_eq_some_iff] at ef
  obtain ⟨j, e2, e3⟩ := ef
  obtain ⟨hj, rfl⟩ := rngT_some e3
  refine ⟨F, ρ, bg, y, b', st, vr, e1, fun v1 F1 H1 p1 => ?_⟩
  obtain ⟨rfl, _⟩ := intT_some p1.tr e2
  refine ⟨j, rfl, by omega, by omega, ?_⟩
  have e0 : (j - 0).toNat = j.toNat := by rw [Int.sub_zero]
  have := q (Itr 0 (j - 0).toNat) F1 H1 p1.grow p1.keep p1.sta it_rng (rng_len (by omega))
  rw [e0] at this
  exact this
theorem si_rng2 (c : CxI X W G pars k call Γ) {a d : E} {tg x y : Expr} {p pos : Pos} (hg : glB Γ "range" = true) (hp : plB x = true) (hp2 : plB y = true) (ha : PE X x (rdE W (evE call pars a))) (hd : PE X y (rdE W (evE call pars d))) :
    PI X tg (.Call (.Name "range" p) [x, y] [] pos) (rdI W (evI call pars (.rng2 a d))) := by
  obtain ⟨g1, g2⟩ := glB_of c hg
  refine PI.imp (pi_range2 g1 c.rng.1 (pa_cons ha (pa_cons hd pa_nil (star_of hp2)) (star_of hp)) (by rw [star_of hp, star_of hp2]; rfl) (star_of hp2)) fun σ H R q => ?_
  obtain ⟨F, ρ, bg, ts, b', st, vr, e, q⟩ := q
  obtain ⟨u, b1, e1, ea⟩ := bind_some (show Ev.bind _ _ bg = some (ts, b') from e)
  obtain ⟨w, b2, e2, eb⟩ := bind_some ea
  obtain ⟨ef, hb'⟩ := of_some eb
  clear ea e eb
  subst hb'
  rw [Option.bind_eq_some_iff] at ef
  obtain ⟨i, e3, ef⟩ := ef
  rw [Option.bind_eq_some_iff] at ef
  obtain ⟨j, e4, e5⟩ := ef
  obtain ⟨hj, rfl⟩ := rngT_some e5
  refine ⟨F, ρ, bg, u, b1, st, vr, e1, fun v1 F1 H1 p1 => ⟨F1, ρ, b1, w, b', p1.sta, vr.mono p1.grow.sub, e2, fun v2 F2 H2 p2 => ?_⟩⟩
  obtain ⟨rfl, _⟩ := intT_some p1.tr e3
  obtain ⟨rfl, _⟩ := intT_some p2.tr e4
  have p12 := p1.trans p2
  exact ⟨i, j, rfl, ⟨by omega, by omega, by omega, by omega⟩, q _ F2 H2 p12.grow p12.keep p12.sta it_rng (rng_len hj.2.2.2.2)⟩
theorem zip_len {xs ys : List T} (h : xs.length ≤ LIM) : ((xs.zip ys).map fun p => T.tup [p.1, p.2]).length ≤ LIM := by
  rw [List.length_map, List.length_zip]
  omega
theorem si_zip (c : CxI X W G pars k call Γ) {a d : E} {x y : Expr} {elts : List Expr} {kk : Nat} {tpos p pos : Pos} (hg : glB Γ "zip" = true) (hp : plB x = true) (hp2 : plB y = true) (ha : PE X x (rdE W (evE call pars a))) (hd : PE X y (rdE W (evE call pars d))) :
    PI X (.Tuple elts kk tpos) (.Call (.Name "zip" p) [x, y] [] pos) (rdI W (evI call pars (.zip a d))) := by
  obtain ⟨g1, g2⟩ := glB_of c hg
  refine PI.imp (RZ.pi_zipA g1 c.rng.2.1 (pa_cons ha (pa_cons hd pa_nil (star_of hp2)) (star_of hp)) (star_of hp) (star_all (fun z hz => by simp at hz; subst hz; exact hp2) pos)) fun σ H R q => ?_
  obtain ⟨F, ρ, bg, ts, b', st, vr, e, q⟩ := q
  obtain ⟨u, b1, e1, ea⟩ := bind_some (show Ev.bind _ _ bg = some (ts, b') from e)
  obtain ⟨w, b2, e2, eb⟩ := bind_some ea
  obtain ⟨ef, hb'⟩ := of_some eb
  clear ea e eb
  subst hb'
  refine ⟨F, ρ, bg, u, b1, st, vr, e1, fun v1 F1 H1 p1 => ⟨F1, ρ, b1, w, b', p1.sta, vr.mono p1.grow.sub, e2, fun v2 F2 H2 p2 => ?_⟩⟩
  have p12 := p1.trans p2
  have t1 := p1.tr.mono p2.grow.sub
  have t2 := p2.tr
  cases t1 <;> try (cases ef)
  case tup h1 z1 l1 =>
    cases t2 <;> try (cases ef)
    rename_i h2 z2 l2
    exact ⟨_, _, _, _, rfl, .inr ⟨SqT.of (p2.sta.tup h1), SqT.of (p2.sta.tup h2), q _ F2 H2 p12.grow p12.keep p12.sta (it_zipT h1 l1 h2 l2) (zip_len z1)⟩⟩
  case lst h1 z1 l1 =>
    cases t2 <;> try (cases ef)
    rename_i h2 z2 l2
    exact ⟨_, _, _, _, rfl, .inl ⟨SqL.of (p2.sta.lst h1), SqL.of (p2.sta.lst h2), q _ F2 H2 p12.grow p12.keep p12.sta (it_zipL h1 l1 h2 l2) (zip_len z1)⟩⟩
theorem si_enum (c : CxI X W G pars k call Γ) {a : E} {x : Expr} {elts : List Expr} {kk : Nat} {tpos p pos : Pos} (hg : glB Γ "enumerate" = true) (hp : plB x = true) (ha : PE X x (rdE W (evE call pars a))) :
    PI X (.Tuple elts kk tpos) (.Call (.Name "enumerate" p) [x] [] pos) (rdI W (evI call pars (.enum a))) := by
  obtain ⟨g1, g2⟩ := glB_of c hg
  refine PI.imp (pi_enum g1 c.rng.2.2 (pa_cons ha pa_nil (star_of hp)) (star_of hp)) fun σ H R q => ?_
  obtain ⟨F, ρ, bg, ts, b', st, vr, e, q⟩ := q
  obtain ⟨u, b1, e1, ea⟩ := bind_some (show Ev.bind _ _ bg = some (ts, b') from e)
  obtain ⟨ef, hb'⟩ := of_some ea
  clear ea e
  subst hb'
  refine ⟨F, ρ, bg, u, b', st, vr, e1, fun v1 F1 H1 p1 => ?_⟩
  have t1 := p1.tr
  cases t1 <;> try (cases ef)
  rename_i h1 z1 l1
  exact ⟨_, _, rfl, SqL.of (p1.sta.lst h1), q _ F1 H1 p1.grow p1.keep p1.sta (it_enum h1 l1) (by simp; exact z1)⟩
end
end
end DI

set_option Elab.async false
set_option linter.all false
set_option maxRecDepth 100000
set_option maxHeartbeats 8000000
namespace DI
open PySem L2

section
variable {W : Wd} {G : Gm} {pars : Nat → List Str} {k : Nat} {call : Nat → List T → Ev T}
theorem own_map (N : List Str) (l : List Nat) : (ownOf N l).map (·.2) = l := by
  unfold ownOf
  rw [List.map_map]
  exact List.map_id' l
section
variable {X : Cx} {Γ : Cc}
/-- what a comprehension of the reading tLc gives -/
theorem lc_read {tg : Tg} {it : It} {f : View → Ev (Option T)} {tt : TT} {te : TE} {e' : E} {ex : Expr}
    (hx : PE X ex (tLc (rdI W (evI call pars it)) (rdG W tg) tt te (tgSlots tg)))
    (he : ∀ ρ, evE call pars e' ρ = Ev.bind (evI call pars it ρ) fun items => Ev.bind (lcE tg (wipeV ρ (tgSlots tg)) f items) fun ys => Ev.pure (.lst ys))
    (turn : ∀ σ2 F H b ρ' o b' (R : Option V → Hp → Prop), Sta W F H b → VRel W F σ2 ρ' → f ρ' b = some (o, b') → (∀ (y : Option V) F' H', Grow F H F' → Keep W H H' → Sta W F' H' b' → (match o, y with
        | none, none => True
        | some t, some v => Tr W F' v t
        | _, _ => False) → R y H') →
      tt σ2 H fun c H3 => if c = true then te σ2 H3 fun y H4 => R (some y) H4 else R none H3) : PE X ex (rdE W (evE call pars e')) := by
  refine PE.imp hx fun σ H Q q => ?_
  obtain ⟨F, ρ, bg, t, b', st, vr, e, q⟩ := q
  rw [he] at e
  obtain ⟨items, b1, e1, ea⟩ := bind_some e
  obtain ⟨ys, b2, e2, eb⟩ := bind_some ea
  cases (show some (T.lst ys, b2) = some (t, b') from eb)
  refine ⟨F, ρ, bg, items, b1, st, vr, e1, fun J F1 H1 g1 k1 s1 ok hz D hD => ?_⟩
  refine lc_loop s1 (vr.mono g1.sub) ok hz hD e2 turn fun F2 H2 vs s2 g2 k2 fD hd tl hl => ?_
  refine q _ (upd F2 D (.lst vs)) H2 ⟨⟨fun a o h => ?_, fun a o h => ?_⟩, k1.trans k2, ⟨fun a o h => ?_, ?_, ?_, s2.bag⟩, .lst upd_same hl (tl.mono fun a o h => ?_)⟩
  · have := g2.sub a o (g1.sub a o h)
    rw [upd_ne (ne_of_none this fD)]
    exact this
  · by_cases ha : a = D
    · subst ha; exact .inr (k1.free s1.bag hD)
    · rw [upd_ne ha] at h
      rcases (g1.trans k1 s1.bag g2).new a o h with z | z
      · exact .inl z
      · exact .inr z
  · by_cases ha : a = D
    · subst ha; rw [upd_same] at h; cases h; exact .inl hd
    · rw [upd_ne ha] at h; exact s2.fz a o h
  · rw [upd_ne (Ne.symm (s1.neB hD))]; exact s2.fB
  · rw [upd_ne (Ne.symm (s1.neC hD))]; exact s2.fc
  · rw [upd_ne (ne_of_none h fD)]; exact h
theorem se_lc (c : CxI X W G pars k call Γ) {elt : E} {tg : Tg} {it : It} {cd : Te} {e t i f : Expr} {scope : Scope} {pos : Pos} (hp : plB i = true) (hi : PI X t i (rdI W (evI call pars it))) (hb : blkC Γ.N Γ.sc scope (ownOf Γ.N (tgSlots tg)) = true) (hg : tgB (Γ.blk scope) tg t = true)
    (hc : ∀ {X' : Cx}, CxI X' W G pars k call (Γ.blk scope) → PT X' f (rdT W (evT call pars cd))) (he : ∀ {X' : Cx}, CxI X' W G pars k call (Γ.blk scope) → PE X' e (rdE W (evE call pars elt))) :
    PE X (.ListComp e [⟨t, i, [f], 0⟩] scope pos) (rdE W (evE call pars (.lc elt tg it cd))) := by
  have ok : BlkOk X.N X.env.scope scope (ownOf Γ.N (tgSlots tg)) := by rw [c.N, c.sc]; exact blkOk_by hb
  have hx := pe_lc (pos := pos) (elt := e) (ifs := [f]) c.calm (by rw [c.N]; exact c.nd) hi ok (fun s H C cl fp => snd_tg (c.blk s H scope C cl fp) tg t hg) (fun s H C cl fp => pts_one (hc (c.blk s H scope C cl fp))) (fun s H C cl fp => he (c.blk s H scope C cl fp)) (fun x => fold_of hp)
  rw [own_map] at hx
  refine lc_read hx (fun ρ => rfl) fun σ2 F H b ρ' o b' R st vr e q => ?_
  obtain ⟨kk, b1, e1, ea⟩ := bind_some e
  refine ⟨F, ρ', b, kk, b1, st, vr, e1, fun F1 H1 g1 k1 s1 => ?_⟩
  cases kk with
  | false =>
    rw [if_neg Bool.false_ne_true]
    cases (show some ((none : Option T), b1) = some (o, b') from ea)
    exact q none F1 H1 g1 k1 s1 trivial
  | true =>
    rw [if_pos rfl]
    obtain ⟨y, b2, e2, eb⟩ := bind_some (show Ev.bind _ _ b1 = some (o, b') from ea)
    cases (show some (some y, b2) = some (o, b') from eb)
    exact ⟨F1, ρ', b1, y, b', s1, vr.mono g1.sub, e2, fun v F' H' p => q (some v) F' H' (g1.trans k1 s1.bag p.grow) (k1.trans p.keep) p.sta p.tr⟩
theorem se_lc0 (c : CxI X W G pars k call Γ) {elt : E} {tg : Tg} {it : It} {e t i : Expr} {scope : Scope} {pos : Pos} (hp : plB i = true) (hi : PI X t i (rdI W (evI call pars it))) (hb : blkC Γ.N Γ.sc scope (ownOf Γ.N (tgSlots tg)) = true) (hg : tgB (Γ.blk scope) tg t = true)
    (he : ∀ {X' : Cx}, CxI X' W G pars k call (Γ.blk scope) → PE X' e (rdE W (evE call pars elt))) :
    PE X (.ListComp e [⟨t, i, [], 0⟩] scope pos) (rdE W (evE call pars (.lc0 elt tg it))) := by
  have ok : BlkOk X.N X.env.scope scope (ownOf Γ.N (tgSlots tg)) := by rw [c.N, c.sc]; exact blkOk_by hb
  have hx := pe_lc (pos := pos) (elt := e) (ifs := []) c.calm (by rw [c.N]; exact c.nd) hi ok (fun s H C cl fp => snd_tg (c.blk s H scope C cl fp) tg t hg) (fun s H C cl fp => pts_nil) (fun s H C cl fp => he (c.blk s H scope C cl fp)) (fun x => fold_of hp)
  rw [own_map] at hx
  refine lc_read hx (fun ρ => rfl) fun σ2 F H b ρ' o b' R st vr e q => ?_
  show if true = true then rdE W (evE call pars elt) σ2 H (fun y H4 => R (some y) H4) else R none H
  rw [if_pos rfl]
  obtain ⟨y, b2, e2, eb⟩ := bind_some (show Ev.bind _ _ b = some (o, b') from e)
  cases (show some (some y, b2) = some (o, b') from eb)
  exact ⟨F, ρ', b, y, b', st, vr, e2, fun v F' H' p => q (some v) F' H' p.grow p.keep p.sta p.tr⟩
end

/-- a chain of and, or is tested whatever its whole is -/
theorem pw_of {X : Cx} {op : BoolOp} {xs : List Expr} {pos : Pos} {t : TT} (h : PT X (.BoolOp op xs pos) t) : PW X (.BoolOp op xs pos) t := ⟨fun wh pins s σ H Q I q => h.run pins s σ H Q I q⟩
theorem chain_rd {op op' : CmpOp} {a b d : E} {σ : L2.St} {H : Hp} {Q : VK} (q : rdE W (evE call pars (.chain op op' a b d)) σ H Q) : tChain (rTT W (cmpT op)) (rTT W (cmpT op')) (rdE W (evE call pars a)) (rdE W (evE call pars b)) (rdE W (evE call pars d)) σ H Q := by
  obtain ⟨F, ρ, bg, t, b', st, vr, e, q⟩ := q
  obtain ⟨u, b1, e1, ek13⟩ := bind_some (show Ev.bind _ _ bg = some (t, b') from e)
  obtain ⟨w, b2, e2, ek14⟩ := bind_some ek13
  obtain ⟨m, e3, ek15⟩ := bind_of ek14
  refine ⟨F, ρ, bg, u, b1, st, vr, e1, fun v1 F1 H1 p1 => ⟨F1, ρ, b1, w, b2, p1.sta, vr.mono p1.grow.sub, e2, fun v2 F2 H2 p2 => ⟨F2, b2, u, w, m, p2.sta, p1.tr.mono p2.grow.sub, p2.tr, e3, fun v3 F3 H3 p3 => ?_⟩⟩⟩
  have p123 := p1.trans (p2.trans p3)
  cases p3.tr with
  | bl kk =>
    refine ⟨kk, rfl, ?_⟩
    cases kk with
    | true =>
      rw [if_pos rfl]
      obtain ⟨n, b4, e4, ek17⟩ := bind_some (show Ev.bind _ _ b2 = some (t, b') from ek15)
      obtain ⟨ek18, hb4⟩ := of_some ek17
      clear ek17 ek15 ek14 ek13 e
      subst hb4
      refine ⟨F3, ρ, b2, n, b', p3.sta, (vr.mono p123.grow.sub), e4, fun v4 F4 H4 p4 => ⟨F4, b', w, n, t, p4.sta, (p2.tr.mono p3.grow.sub).mono p4.grow.sub, p4.tr, ek18, fun v F' H' p => q v F' H' (p123.trans (p4.trans p))⟩⟩
    | false =>
      rw [if_neg Bool.false_ne_true]
      cases (show some (T.bl false, b2) = some (t, b') from ek15)
      exact q _ F3 H3 p123
  | _ => cases ek15
/-- a term's length -/
theorem evEs_len : ∀ {es : Es} {xs : List Expr} {Γ : Cc}, chkEs G es Γ xs = true → ∀ ρ b ts b', evEs call pars es ρ b = some (ts, b') → ts.length = xs.length := by
  intro es
  induction es using Es.rec (motive_1 := fun _ => True) (motive_2 := fun _ => True) (motive_4 := fun _ => True) with
  | nil =>
    intro xs Γ h ρ b ts b' e
    cases xs with
    | nil => cases (show some (([] : List T), b) = some (ts, b') from e); rfl
    | cons _ _ => simp [chkEs] at h
  | cons d r _ ih =>
    intro xs Γ h ρ b ts b' e
    cases xs with
    | nil => simp [chkEs] at h
    | cons y s =>
      simp only [chkEs, Bool.and_eq_true] at h
      obtain ⟨u, b1, e1, ea⟩ := bind_some (show Ev.bind _ _ b = some (ts, b') from e)
      obtain ⟨us, b2, e2, eb⟩ := bind_some ea
      cases (show some (u :: us, b2) = some (ts, b') from eb)
      rw [List.length_cons, List.length_cons, ih h.2 _ _ _ _ e2]
  | _ => trivial

/-! ### THE RULE: a term that says what the text says is what the text is worth -/
mutual
theorem sndE : ∀ (e : E) {X : Cx} {Γ : Cc} {ex : Expr}, CxI X W G pars k call Γ → chkE G e Γ ex = true → PE X ex (rdE W (evE call pars e))
  | .var i, X, Γ, ex, c, h => se_var c h
  | .con t, X, Γ, ex, c, h => se_con c h
  | .glob x t, X, Γ, ex, c, h => se_glob c h
  | .bin op a b, X, Γ, ex, c, h => by
    simp only [chkE] at h
    split at h
    · simp only [Bool.and_eq_true, decide_eq_true_eq] at h
      obtain ⟨⟨rfl, h1⟩, h2⟩ := h
      have ha := sndE a c h1
      have hb := sndE b c h2
      exact se_op2 ha hb (fun _ _ _ _ q => q) (pe_op (op_binT c.K op) ha hb) fun ρ => rfl
    · cases h
  | .neg a, X, Γ, ex, c, h => by
    simp only [chkE] at h
    split at h
    · exact se_neg (sndE a c h)
    · cases h
  | .not a, X, Γ, ex, c, h => by
    simp only [chkE] at h
    split at h
    · exact se_not c (sndE a c h)
    · cases h
  | .and a b, X, Γ, ex, c, h => by
    simp only [chkE] at h
    split at h
    · rw [Bool.and_eq_true] at h
      exact se_and c (sndE a c h.1) (pe_one (sndE b c h.2))
    · rw [Bool.and_eq_true] at h
      exact se_and c (sndE a c h.1) (sndE b c h.2)
    · cases h
  | .or a b, X, Γ, ex, c, h => by
    simp only [chkE] at h
    split at h
    · rw [Bool.and_eq_true] at h
      exact se_or c (sndE a c h.1) (pe_one (sndE b c h.2))
    · rw [Bool.and_eq_true] at h
      exact se_or c (sndE a c h.1) (sndE b c h.2)
    · cases h
  | .cmp op a b, X, Γ, ex, c, h => by
    simp only [chkE] at h
    split at h
    · simp only [Bool.and_eq_true, decide_eq_true_eq] at h
      obtain ⟨⟨⟨rfl, hp⟩, h1⟩, h2⟩ := h
      have ha := sndE a c h1
      have hb := sndE b c h2
      exact se_op2 ha hb (fun _ _ _ _ q => q) (pe_cmpR (op_cmpT c.K c.hu op) ha hb (mark_of hp)) fun ρ => rfl
    · cases h
  | .chain op op' a b d, X, Γ, ex, c, h => by
    simp only [chkE] at h
    split at h
    · simp only [Bool.and_eq_true, decide_eq_true_eq] at h
      obtain ⟨⟨⟨⟨⟨rfl, rfl⟩, hp⟩, h1⟩, h2⟩, h3⟩ := h
      exact se_chain c (sndE a c h1) (sndE b c h2) (sndE d c h3) hp
    · cases h
  | .ife t a b, X, Γ, ex, c, h => by
    simp only [chkE] at h
    split at h
    · simp only [Bool.and_eq_true] at h
      obtain ⟨⟨h1, h2⟩, h3⟩ := h
      refine PE.imp (pe_ifExp (sndT t c h1) (sndE a c h2) (sndE b c h3)) fun σ H Q q => ?_
      obtain ⟨F, ρ, bg, t, b', st, vr, e, q⟩ := q
      obtain ⟨kk, b1, e1, ea⟩ := bind_some (show Ev.bind _ _ bg = some (t, b') from e)
      refine ⟨F, ρ, bg, kk, b1, st, vr, e1, fun F1 H1 g1 k1 s1 => ?_⟩
      have go : ∀ {v F' H'}, Post W F1 H1 b' t v F' H' → Q v H' := fun {v F' H'} p => q v F' H' ⟨g1.trans k1 s1.bag p.grow, k1.trans p.keep, p.sta, p.tr⟩
      cases kk with
      | true => exact iteT ⟨F1, ρ, b1, t, b', s1, vr.mono g1.sub, ea, fun v F' H' p => go p⟩
      | false => exact iteF ⟨F1, ρ, b1, t, b', s1, vr.mono g1.sub, ea, fun v F' H' p => go p⟩
    · cases h
  | .tup es, X, Γ, ex, c, h => by
    simp only [chkE] at h
    split at h
    · exact se_tup (sndA es c h).1
    · cases h
  | .lst es, X, Γ, ex, c, h => by
    simp only [chkE] at h
    split at h
    · exact se_lst (sndA es c h).1
    · cases h
  | .dct ks vs, X, Γ, ex, c, h => by
    simp only [chkE] at h
    split at h
    · rw [Bool.and_eq_true, decide_eq_true_eq] at h
      obtain ⟨h1, h2⟩ := h
      refine se_dct0 h1 ?_
      cases vs with
      | nil => rfl
      | cons _ _ => simp [chkEs] at h2
    · simp only [Bool.and_eq_true, decide_eq_true_eq] at h
      obtain ⟨⟨h1, h2⟩, h3⟩ := h
      match vs, h3 with
      | .cons d .nil, h3 =>
        simp only [chkEs, Bool.and_eq_true] at h3
        exact se_dct1 h1 h2 (sndE d c h3.1.2)
      | .nil, h3 => simp [chkEs] at h3
      | .cons d (.cons _ _), h3 => simp [chkEs] at h3
    · cases h
  | .idx a i, X, Γ, ex, c, h => by
    simp only [chkE] at h
    split at h
    · simp only [Bool.and_eq_true] at h
      obtain ⟨⟨hp, h1⟩, h2⟩ := h
      have ha := sndE a c h1
      have hb := sndE i c h2
      exact se_op2 ha hb (fun _ _ _ _ q => q) (pe_ix (ix_T c.K) ha hb (plain_of hp)) fun ρ => rfl
    · cases h
  | .sl a lo hi, X, Γ, ex, c, h => by
    simp only [chkE] at h
    split at h
    · simp only [Bool.and_eq_true] at h
      exact se_sl c (sndE a c h.1.1) (sndE lo c h.1.2) (sndE hi c h.2)
    · cases h
  | .slH a hi, X, Γ, ex, c, h => by
    simp only [chkE] at h
    split at h
    · simp only [Bool.and_eq_true] at h
      exact se_slH c (sndE a c h.1) (sndE hi c h.2)
    · cases h
  | .slL a lo, X, Γ, ex, c, h => by
    simp only [chkE] at h
    split at h
    · simp only [Bool.and_eq_true] at h
      exact se_slL c (sndE a c h.1) (sndE lo c h.2)
    · cases h
  | .rev a, X, Γ, ex, c, h => by
    simp only [chkE] at h
    split at h
    · exact se_rev c (sndE a c h)
    · cases h
  | .call f es, X, Γ, ex, c, h => by
    simp only [chkE] at h
    split at h
    · simp only [Bool.and_eq_true] at h
      exact se_call c h.1 (sndA es c h.2).1 (chkEs_pl h.2)
    · cases h
  | .callK f es ks, X, Γ, ex, c, h => by
    simp only [chkE] at h
    split at h
    · rename_i x p kw r pos
      simp only [Bool.and_eq_true, decide_eq_true_eq] at h
      obtain ⟨⟨⟨h1, h2⟩, h3⟩, h4⟩ := h
      refine se_callK c h1 h2 h3 ((sndA es c h4).2 _ rfl) fun ρ b ts b' e => ?_
      rw [evEs_len h4 ρ b ts b' e, List.length_map]
      have := congrArg List.length h3
      rw [List.length_map, List.length_map] at this
      exact this
    · cases h
  | .blt x es, X, Γ, ex, c, h => by
    simp only [chkE] at h
    split at h
    · simp only [Bool.and_eq_true, decide_eq_true_eq] at h
      obtain ⟨⟨h1, h2⟩, h3⟩ := h
      exact se_blt c h1 h2 (sndA es c h3).1 (chkEs_pl h3)
    · cases h
  | .mth m a es, X, Γ, ex, c, h => by
    simp only [chkE] at h
    split at h
    · simp only [Bool.and_eq_true, decide_eq_true_eq] at h
      obtain ⟨⟨⟨⟨h1, h2⟩, h3⟩, h4⟩, h5⟩ := h
      refine se_mth c h1 h2 h3 (sndE a c h4) (sndA es c h5).1 (chkEs_pl h5 _ (by simp)) ?_
      match es, h5 with
      | .cons d .nil, h5 =>
        simp only [chkEs, Bool.and_eq_true] at h5
        exact ⟨d, rfl, sndE d c h5.1.2⟩
      | .nil, h5 => simp [chkEs] at h5
      | .cons d (.cons _ _), h5 => simp [chkEs] at h5
    · cases h
  | .bget a n, X, Γ, ex, c, h => by
    simp only [chkE] at h
    split at h
    · simp only [Bool.and_eq_true, decide_eq_true_eq] at h
      obtain ⟨⟨rfl, h1⟩, h2⟩ := h
      exact se_bget c (sndE a c h2)
    · cases h
  | .blen a, X, Γ, ex, c, h => by
    simp only [chkE] at h
    split at h
    · simp only [Bool.and_eq_true, decide_eq_true_eq] at h
      obtain ⟨⟨rfl, h1⟩, h2⟩ := h
      exact se_blen c h1 (sndE a c h2)
    · cases h
  | .bcell a, X, Γ, ex, c, h => by
    simp only [chkE] at h
    split at h
    · simp only [Bool.and_eq_true] at h
      obtain ⟨⟨h0, h1⟩, h2⟩ := h
      refine se_bcell c (sndE a c h1) (sndE a c h2) ?_
      split at h0
      · exact ⟨_, rfl⟩
      · cases h0
    · cases h
  | .lc elt tg it cd, X, Γ, ex, c, h => by
    simp only [chkE] at h
    split at h
    · simp only [Bool.and_eq_true] at h
      obtain ⟨⟨⟨⟨⟨h1, h2⟩, h3⟩, h4⟩, h5⟩, h6⟩ := h
      exact se_lc c h1 (sndI it c h2) h3 h4 (fun c' => sndT cd c' h5) (fun c' => sndE elt c' h6)
    · cases h
  | .lc0 elt tg it, X, Γ, ex, c, h => by
    simp only [chkE] at h
    split at h
    · simp only [Bool.and_eq_true] at h
      obtain ⟨⟨⟨⟨h1, h2⟩, h3⟩, h4⟩, h6⟩ := h
      exact se_lc0 c h1 (sndI it c h2) h3 h4 (fun c' => sndE elt c' h6)
    · cases h
theorem sndT : ∀ (t : Te) {X : Cx} {Γ : Cc} {ex : Expr}, CxI X W G pars k call Γ → chkT G t Γ ex = true → PT X ex (rdT W (evT call pars t))
  | .tr e, X, Γ, ex, c, h => by
    simp only [chkT, Bool.and_eq_true, Bool.or_eq_true] at h
    obtain ⟨h1, h2⟩ := h
    have he := sndE e c h2
    rcases h1 with h1 | h1
    · exact st_val c he h1
    · split at h1
      · rename_i l ops cs pos
        cases e <;> try (simp [chkE] at h2)
        case cmp op a b =>
          split at h2
          · rename_i heq
            simp only [Expr.Compare.injEq] at heq
            obtain ⟨rfl, rfl, rfl, rfl⟩ := heq
            simp only [Bool.and_eq_true, decide_eq_true_eq] at h2
            obtain ⟨⟨⟨rfl, hp⟩, h3⟩, h4⟩ := h2
            have ha := sndE a c h3
            have hb := sndE b c h4
            refine st_tst (te := tOp (rTT W (cmpT op)) (rdE W (evE call pars a)) (rdE W (evE call pars b))) (fun σ H Q q => ?_) (pt_cmpR (op_cmpT c.K c.hu op) ha hb (mark_of hp)) fun ρ b1 t b' e => ?_
            · obtain ⟨F, ρ, bg, t, b', st, vr, e, q⟩ := q
              obtain ⟨x, b1, e1, ea⟩ := bind_some (show Ev.bind _ _ bg = some (t, b') from e)
              obtain ⟨y, b2, e2, eb⟩ := bind_some ea
              obtain ⟨ec, hb'⟩ := of_some eb
              clear eb ea e
              subst hb'
              exact ⟨F, ρ, bg, x, b1, st, vr, e1, fun v1 F1 H1 p1 => ⟨F1, ρ, b1, y, b', p1.sta, vr.mono p1.grow.sub, e2, fun v2 F2 H2 p2 => ⟨F2, b', x, y, t, p2.sta, p1.tr.mono p2.grow.sub, p2.tr, ec, fun v F' H' p => q v F' H' (p1.trans (p2.trans p))⟩⟩⟩
            · obtain ⟨x, b1', e1, ea⟩ := bind_some (show Ev.bind _ _ b1 = some (t, b') from e)
              obtain ⟨y, b2, e2, eb⟩ := bind_some ea
              exact cmpT_bl (of_some eb).1
          · cases h2
        case chain op op' a b d =>
          split at h2
          · rename_i heq
            simp only [Expr.Compare.injEq] at heq
            obtain ⟨rfl, rfl, rfl, rfl⟩ := heq
            simp only [Bool.and_eq_true, decide_eq_true_eq] at h2
            obtain ⟨⟨⟨⟨⟨rfl, rfl⟩, hp⟩, h3⟩, h4⟩, h5⟩ := h2
            have ha := sndE a c h3
            have hb := sndE b c h4
            have hd := sndE d c h5
            refine st_tst (te := tChain (rTT W (cmpT op)) (rTT W (cmpT op')) (rdE W (evE call pars a)) (rdE W (evE call pars b)) (rdE W (evE call pars d))) (fun σ H Q q => ?_) (pt_chain (op_cmpT c.K c.hu op) (op_cmpT c.K c.hu op') ha hb hd (mark_of (op := op') hp)) fun ρ b1 t b' e => ?_
            · exact chain_rd q
            · obtain ⟨x, b1', e1, ea⟩ := bind_some (show Ev.bind _ _ b1 = some (t, b') from e)
              obtain ⟨y, b2, e2, eb⟩ := bind_some ea
              obtain ⟨z, e3, ec⟩ := bind_of eb
              split at ec
              · obtain ⟨u, b3, e4, ed⟩ := bind_some ec
                exact cmpT_bl (of_some ed).1
              · cases ec; exact ⟨_, rfl⟩
              · cases ec
          · cases h2
      · cases h1
  | .not a, X, Γ, ex, c, h => by
    simp only [chkT] at h
    split at h
    · refine PT.imp (pt_not (sndT a c h)) fun σ H Q q => ?_
      obtain ⟨F, ρ, bg, t, b', st, vr, e, q⟩ := q
      obtain ⟨kk, b1, e1, ea⟩ := bind_some (show Ev.bind _ _ bg = some (t, b') from e)
      cases (show some (!kk, b1) = some (t, b') from ea)
      exact ⟨F, ρ, bg, kk, b', st, vr, e1, fun F1 H1 g1 k1 s1 => q F1 H1 g1 k1 s1⟩
    · cases h
  | .and a b, X, Γ, ex, c, h => by
    simp only [chkT] at h
    have go : ∀ {x y : Expr} {r : List Expr} {pos : Pos}, PT X x (rdT W (evT call pars a)) → PW X (.BoolOp .And (y :: r) pos) (rdT W (evT call pars b)) → PT X (.BoolOp .And (x :: y :: r) pos) (rdT W (evT call pars (.and a b))) := fun {x y r pos} h1 h2 => by
      refine PT.imp (pw_and h1 h2).pt fun σ H Q q => ?_
      obtain ⟨F, ρ, bg, t, b', st, vr, e, q⟩ := q
      obtain ⟨kk, b1, e1, ea⟩ := bind_some (show Ev.bind _ _ bg = some (t, b') from e)
      refine ⟨F, ρ, bg, kk, b1, st, vr, e1, fun F1 H1 g1 k1 s1 => ?_⟩
      cases kk with
      | true => exact iteT ⟨F1, ρ, b1, t, b', s1, vr.mono g1.sub, ea, fun F' H' g k s => q F' H' (g1.trans k1 s1.bag g) (k1.trans k) s⟩
      | false =>
        cases (show some (false, b1) = some (t, b') from ea)
        exact iteF (q F1 H1 g1 k1 s1)
    split at h
    · rw [Bool.and_eq_true] at h
      exact go (sndT a c h.1) (pw_and1 (sndT b c h.2))
    · rw [Bool.and_eq_true] at h
      exact go (sndT a c h.1) (pw_of (sndT b c h.2))
    · cases h
  | .or a b, X, Γ, ex, c, h => by
    simp only [chkT] at h
    have go : ∀ {x y : Expr} {r : List Expr} {pos : Pos}, PT X x (rdT W (evT call pars a)) → PW X (.BoolOp .Or (y :: r) pos) (rdT W (evT call pars b)) → PT X (.BoolOp .Or (x :: y :: r) pos) (rdT W (evT call pars (.or a b))) := fun {x y r pos} h1 h2 => by
      refine PT.imp (pw_or h1 h2).pt fun σ H Q q => ?_
      obtain ⟨F, ρ, bg, t, b', st, vr, e, q⟩ := q
      obtain ⟨kk, b1, e1, ea⟩ := bind_some (show Ev.bind _ _ bg = some (t, b') from e)
      refine ⟨F, ρ, bg, kk, b1, st, vr, e1, fun F1 H1 g1 k1 s1 => ?_⟩
      cases kk with
      | false => exact iteF ⟨F1, ρ, b1, t, b', s1, vr.mono g1.sub, ea, fun F' H' g k s => q F' H' (g1.trans k1 s1.bag g) (k1.trans k) s⟩
      | true =>
        cases (show some (true, b1) = some (t, b') from ea)
        exact iteT (q F1 H1 g1 k1 s1)
    split at h
    · rw [Bool.and_eq_true] at h
      exact go (sndT a c h.1) (pw_or1 (sndT b c h.2))
    · rw [Bool.and_eq_true] at h
      exact go (sndT a c h.1) (pw_of (sndT b c h.2))
    · cases h
theorem sndA : ∀ (es : Es) {X : Cx} {Γ : Cc} {xs : List Expr}, CxI X W G pars k call Γ → chkEs G es Γ xs = true → PA X xs (rdA W (evEs call pars es)) ∧ ∀ kws : List Keyword, kws.map (·.value) = xs → PK X kws (rdA W (evEs call pars es))
  | .nil, X, Γ, xs, c, h => by
    simp only [chkEs] at h
    split at h
    · exact ⟨sa_nil, fun kws e => by
        cases kws with
        | nil => exact sk_nil
        | cons _ _ => cases e⟩
    · cases h
  | .cons e r, X, Γ, xs, c, h => by
    simp only [chkEs] at h
    split at h
    · simp only [Bool.and_eq_true] at h
      have he := sndE e c h.1.2
      have hr := sndA r c h.2
      exact ⟨sa_cons he hr.1 h.1.1, fun kws e => by
        cases kws with
        | nil => cases e
        | cons kw ks =>
          obtain ⟨nm, x, kp⟩ := kw
          simp only [List.map_cons, List.cons.injEq] at e
          obtain ⟨rfl, e⟩ := e
          exact sk_cons he (hr.2 ks e)⟩
    · cases h
theorem sndI : ∀ (it : It) {X : Cx} {Γ : Cc} {tg ex : Expr}, CxI X W G pars k call Γ → chkI G it Γ tg ex = true → PI X tg ex (rdI W (evI call pars it))
  | .val e, X, Γ, tg, ex, c, h => si_val c (sndE e c h)
  | .rng1 a, X, Γ, tg, ex, c, h => by
    simp only [chkI] at h
    split at h
    · simp only [Bool.and_eq_true, decide_eq_true_eq] at h
      obtain ⟨⟨⟨rfl, h1⟩, h2⟩, h3⟩ := h
      exact si_rng1 c h1 h2 (sndE a c h3)
    · cases h
  | .rng2 a b, X, Γ, tg, ex, c, h => by
    simp only [chkI] at h
    split at h
    · simp only [Bool.and_eq_true, decide_eq_true_eq] at h
      obtain ⟨⟨⟨⟨⟨rfl, h1⟩, h2⟩, h3⟩, h4⟩, h5⟩ := h
      exact si_rng2 c h1 h2 h3 (sndE a c h4) (sndE b c h5)
    · cases h
  | .zip a b, X, Γ, tg, ex, c, h => by
    simp only [chkI] at h
    split at h
    · simp only [Bool.and_eq_true, decide_eq_true_eq] at h
      obtain ⟨⟨⟨⟨⟨rfl, h1⟩, h2⟩, h3⟩, h4⟩, h5⟩ := h
      exact si_zip c h1 h2 h3 (sndE a c h4) (sndE b c h5)
    · cases h
  | .enum a, X, Γ, tg, ex, c, h => by
    simp only [chkI] at h
    split at h
    · simp only [Bool.and_eq_true, decide_eq_true_eq] at h
      obtain ⟨⟨⟨rfl, h1⟩, h2⟩, h3⟩ := h
      exact si_enum c h1 h2 (sndE a c h3)
    · cases h
end
end
end DI

set_option Elab.async false
set_option linter.all false
set_option maxRecDepth 100000
set_option maxHeartbeats 8000000
namespace DI
open PySem L2

/-! ### statements as terms. bs: the places whose own lists an expression may see -/
mutual
inductive S where
  | asg (i : Nat) (bs : List Nat) (e : E)
  | new (i : Nat) (bs : List Nat) (e : E)
  | par2 (i j : Nat) (bs : List Nat) (a b : E)
  | app (i : Nat) (bs : List Nat) (e : E)
  | bset (i k : Nat) (e : E)
  | ite (bs : List Nat) (c : Te) (a b : Ss)
  | for_ (g : Tg) (bs : List Nat) (it : It) (body : Ss)
  | whl (bs : List Nat) (c : Te) (body : Ss)
  | ret (bs : List Nat) (e : E)
  | retN
  | pass
  | brk
  | cont
inductive Ss where
  | nil
  | cons (s : S) (r : Ss)
end
/-- a place: nothing, a worth, a list of one's own -/
inductive Sl where
  | un
  | val (t : T)
  | own (ts : List T)
  deriving Inhabited
inductive Out where
  | nx (ss : List Sl)
  | ret (t : T)
  | bk (ss : List Sl)
  | ct (ss : List Sl)
def isAtom : T → Bool
  | .non => true
  | .bl _ => true
  | .int _ => true
  | .str _ => true
  | .ty _ => true
  | _ => false
def viewA (bs : List Nat) : Nat → List Sl → View
  | _, [] => []
  | i, .un :: r => none :: viewA bs (i + 1) r
  | i, .val t :: r => some t :: viewA bs (i + 1) r
  | i, .own ts :: r => (if bs.contains i then some (.lst ts) else none) :: viewA bs (i + 1) r
def frzA (bs : List Nat) : Nat → List Sl → List Sl
  | _, [] => []
  | i, .own ts :: r => (if bs.contains i then .val (.lst ts) else .own ts) :: frzA bs (i + 1) r
  | i, s :: r => s :: frzA bs (i + 1) r
/-- behind an expression of the worth t -/
def frz (bs : List Nat) (t : T) (ss : List Sl) : List Sl := if bs.isEmpty then ss else if isAtom t then ss else frzA bs 0 ss
def tgS : Tg → T → List Sl → Option (List Sl)
  | .name i, t, ss => if i < ss.length then some (ss.set i (.val t)) else none
  | .tup a b, .tup [x, y], ss => match tgS a x ss with
    | some s1 => tgS b y s1
    | none => none
  | .tup3 a b c, .tup [x, y, z], ss => match tgS a x ss with
    | some s1 => match tgS b y s1 with
      | some s2 => tgS c z s2
      | none => none
    | none => none
  | _, _, _ => none
def lstT : T → Option (List T)
  | .lst ts => some ts
  | _ => none
def forL (g : Tg) (f : List Sl → Ev Out) : List T → List Sl → Ev Out
  | [], ss => Ev.pure (.nx ss)
  | t :: r, ss => Ev.bind (Ev.of (tgS g t ss)) fun s1 => Ev.bind (f s1) fun o => match o with
    | .nx s2 => forL g f r s2
    | .ct s2 => forL g f r s2
    | .bk s2 => Ev.pure (.nx s2)
    | .ret t => Ev.pure (.ret t)
def whlL (c : List Sl → Ev Bool) (f : List Sl → Ev Out) : Nat → List Sl → Ev Out
  | 0, _ => Ev.no
  | n + 1, ss => Ev.bind (c ss) fun k => if k then Ev.bind (f ss) fun o => match o with
      | .nx s2 => whlL c f n s2
      | .ct s2 => whlL c f n s2
      | .bk s2 => Ev.pure (.nx s2)
      | .ret t => Ev.pure (.ret t)
    else Ev.pure (.nx ss)
def WF : Nat := 1000000
def bagSet (s : Option Sl) (t : T) (k : Nat) (b : Bag) : Option Bag := match s, t with
  | some (.val .bag), .int v => b.put v k
  | _, _ => none
def bagW (f : Bag → Option Bag) (o : Out) : Ev Out := fun b => match f b with
  | some b' => some (o, b')
  | none => none
section
variable (call : Nat → List T → Ev T) (pars : Nat → List Str)
def evX (bs : List Nat) (e : E) (ss : List Sl) : Ev T := evE call pars e (viewA bs 0 ss)
def evC (bs : List Nat) (e : Te) (ss : List Sl) : Ev Bool := evT call pars e (viewA bs 0 ss)
mutual
def ex : S → List Sl → Ev Out
  | .asg i bs e, ss => Ev.bind (evX call pars bs e ss) fun t => Ev.of (if i < ss.length then some (.nx ((frz bs t ss).set i (.val t))) else none)
  | .new i bs e, ss => Ev.bind (evX call pars bs e ss) fun t => Ev.bind (Ev.of (lstT t)) fun ts => Ev.of (if i < ss.length ∧ bs = [] then some (.nx (ss.set i (.own ts))) else none)
  | .par2 i j bs a b, ss => Ev.bind (evX call pars bs a ss) fun x => Ev.bind (evX call pars bs b ss) fun y => Ev.of (if i < ss.length ∧ j < ss.length ∧ bs = [] ∧ i ≠ j then some (.nx ((ss.set i (.val x)).set j (.val y))) else none)
  | .app i bs e, ss => Ev.bind (evX call pars bs e ss) fun t => Ev.of (match ss[i]? with
    | some (.own ts) => if ts.length < LIM ∧ (isAtom t ∨ bs = []) then some (.nx (ss.set i (.own (ts ++ [t])))) else none
    | _ => none)
  | .bset i k e, ss => Ev.bind (evX call pars [] e ss) fun t => bagW (bagSet ss[i]? t k) (.nx ss)
  | .ite bs c a b, ss => Ev.bind (evC call pars bs c ss) fun k => if k then exs a ss else exs b ss
  | .for_ g bs it body, ss => Ev.bind (evI call pars it (viewA bs 0 ss)) fun items => forL g (exs body) items (if bs.isEmpty then ss else frzA bs 0 ss)
  | .whl bs c body, ss => whlL (evC call pars bs c) (exs body) WF ss
  | .ret bs e, ss => Ev.bind (evX call pars bs e ss) fun t => Ev.pure (.ret t)
  | .retN, _ => Ev.pure (.ret .non)
  | .pass, ss => Ev.pure (.nx ss)
  | .brk, ss => Ev.pure (.bk ss)
  | .cont, ss => Ev.pure (.ct ss)
def exs : Ss → List Sl → Ev Out
  | .nil, ss => Ev.pure (.nx ss)
  | .cons s r, ss => Ev.bind (ex s ss) fun o => match o with
    | .nx s1 => exs r s1
    | .ret t => Ev.pure (.ret t)
    | .bk s1 => Ev.pure (.bk s1)
    | .ct s1 => Ev.pure (.ct s1)
end
/-- a def's worth -/
def runF (n : Nat) (body : Ss) (as : List T) : Ev T := Ev.bind (exs call pars body (as.map .val ++ List.replicate (n - as.length) .un)) fun o => match o with
  | .ret t => Ev.pure t
  | .nx _ => Ev.pure .non
  | _ => Ev.no
end

/-! ### does a statement's term say what its text says -/
def cpB : Expr → Bool
  | .ListComp _ _ _ _ => false
  | .SetComp _ _ _ _ => false
  | .DictComp _ _ _ _ _ => false
  | _ => true
def newB : E → Bool
  | .lst _ => true
  | _ => false
mutual
def chkS (G : Gm) : S → Cc → Stmt → Bool
  | .asg i bs e, Γ, st => (match st with
    | .Assign [.Name x _] v _ => decide (Γ.N[i]? = some x) && locB Γ x && cpB v && chkE G e Γ v
    | _ => false)
  | .new i bs e, Γ, st => (match st with
    | .Assign [.Name x _] v _ => decide (Γ.N[i]? = some x) && locB Γ x && cpB v && newB e && chkE G e Γ v
    | _ => false)
  | .par2 i j bs a b, Γ, st => (match st with
    | .Assign [.Tuple [.Name x px, .Name y py] _ _] (.Tuple [u, v] _ _) _ => decide (Γ.N[i]? = some x) && decide (Γ.N[j]? = some y) && decide (Γ.sc.names.lookup x = some .local) && decide (Γ.sc.names.lookup y = some .local) && decide (x ≠ y) &&
      (px.line == py.line) && plB u && plB v && !(foldedForSure 8 u && foldedForSure 8 v) && !(constantsAlone 8 u && constantsAlone 8 v) && chkE G a Γ u && chkE G b Γ v && (match Γ.sc.kind with | .function => true | _ => false)
    | _ => false)
  | .app i bs e, Γ, st => (match st with
    | .Expr (.Call (.Attribute (.Name x _) n ap) [v] [] cp) _ => slB Γ i x && decide (n = ("append" : Str)) && (ap.endLine == cp.line) && plB v && chkE G e Γ v
    | _ => false)
  | .bset i k e, Γ, st => (match st with
    | .Assign [.Subscript (.Name x _) (.Constant (.int n) _ _) _] v _ => slB Γ i x && decide (n = (k : Int)) && cpB v && chkE G e Γ v
    | _ => false)
  | .ite bs c a b, Γ, st => (match st with
    | .If t x y _ => chkT G c Γ t && chkSs G a Γ x && chkSs G b Γ y
    | _ => false)
  | .for_ g bs it body, Γ, st => (match st with
    | .For t i b [] _ => plB i && chkI G it Γ t i && tgB Γ g t && chkSs G body Γ b
    | _ => false)
  | .whl bs c body, Γ, st => (match st with
    | .While t b [] _ => chkT G c Γ t && chkSs G body Γ b
    | _ => false)
  | .ret bs e, Γ, st => (match st with
    | .Return (some v) _ => chkE G e Γ v
    | _ => false)
  | .retN, Γ, st => (match st with
    | .Return none _ => true
    | _ => false)
  | .pass, Γ, st => (match st with
    | .Pass _ => true
    | _ => false)
  | .brk, Γ, st => (match st with
    | .Break _ => true
    | _ => false)
  | .cont, Γ, st => (match st with
    | .Continue _ => true
    | _ => false)
def chkSs (G : Gm) : Ss → Cc → List Stmt → Bool
  | .nil, Γ, sts => (match sts with
    | [] => true
    | _ => false)
  | .cons s r, Γ, sts => (match sts with
    | x :: y => chkS G s Γ x && chkSs G r Γ y
    | _ => false)
end
end DI

set_option Elab.async false
set_option linter.all false
set_option maxRecDepth 100000
set_option maxHeartbeats 8000000
namespace DI
open PySem L2

/-! ### places and the heap -/
structure Bd (W : Wd) (F0 H0 F H : Hp) (b : Bag) : Prop where
  grow : Grow F0 H0 F
  keep : Keep W H0 H
  sta : Sta W F H b
structure SRel (W : Wd) (F H H0 : Hp) (P : Nat → Addr) (σ : L2.St) (ss : List Sl) : Prop where
  len : σ.length = ss.length
  val : ∀ (i : Nat) t, ss[i]? = some (.val t) → ∃ v, σ[i]? = some (some v) ∧ Tr W F v t
  own : ∀ (i : Nat) ts, ss[i]? = some (.own ts) → σ[i]? = some (some (.ref (P i))) ∧ F (P i) = none ∧ H0 (P i) = none ∧ P i ≠ W.B ∧ P i ≠ W.c ∧ ts.length ≤ LIM ∧ ∃ vs, H (P i) = some (.lst vs) ∧ TrL W F vs ts
  sep : ∀ (i j : Nat) ts us, i ≠ j → ss[i]? = some (.own ts) → ss[j]? = some (.own us) → P i ≠ P j

def slV (bs : List Nat) (i : Nat) : Sl → Option T
  | .un => none
  | .val t => some t
  | .own ts => if bs.contains i then some (.lst ts) else none
def slF (bs : List Nat) (i : Nat) : Sl → Sl
  | .own ts => if bs.contains i then .val (.lst ts) else .own ts
  | s => s
theorem viewA_get (bs : List Nat) : ∀ (ss : List Sl) (k i : Nat), (viewA bs k ss)[i]? = ss[i]?.map (slV bs (k + i))
  | [], k, i => by simp [viewA]
  | s :: r, k, 0 => by cases s <;> simp [viewA, slV]
  | s :: r, k, i + 1 => by
    have ih := viewA_get bs r (k + 1) i
    have e : k + 1 + i = k + (i + 1) := by omega
    rw [e] at ih
    cases s <;> simpa [viewA] using ih
theorem viewA_len (bs : List Nat) : ∀ (ss : List Sl) (k : Nat), (viewA bs k ss).length = ss.length
  | [], k => rfl
  | s :: r, k => by cases s <;> simp [viewA, viewA_len bs r]
theorem frzA_get (bs : List Nat) : ∀ (ss : List Sl) (k i : Nat), (frzA bs k ss)[i]? = ss[i]?.map (slF bs (k + i))
  | [], k, i => by simp [frzA]
  | s :: r, k, 0 => by cases s <;> simp [frzA, slF]
  | s :: r, k, i + 1 => by
    have ih := frzA_get bs r (k + 1) i
    have e : k + 1 + i = k + (i + 1) := by omega
    rw [e] at ih
    cases s <;> simpa [frzA] using ih
theorem frzA_len (bs : List Nat) : ∀ (ss : List Sl) (k : Nat), (frzA bs k ss).length = ss.length
  | [], k => rfl
  | s :: r, k => by cases s <;> simp [frzA, frzA_len bs r]
theorem slF_nil (i : Nat) (s : Sl) : slF [] i s = s := by cases s <;> rfl
theorem frzA_nil (ss : List Sl) (k : Nat) : frzA [] k ss = ss := by
  apply List.ext_getElem?
  intro i
  rw [frzA_get]
  cases ss[i]? with
  | none => rfl
  | some s => simp [slF_nil]
theorem slV_nil_own (i : Nat) (ts : List T) : slV [] i (.own ts) = none := rfl

section
variable {W : Wd} {F0 H0 F H : Hp} {P : Nat → Addr} {σ : L2.St} {ss : List Sl} {b : Bag}
open Classical in
/-- the lists of the places bs are seen -/
theorem borrow (sr : SRel W F H H0 P σ ss) (bd : Bd W F0 H0 F H b) (bs : List Nat) : ∃ F1, Sub F F1 ∧ Sta W F1 H b ∧ VRel W F1 σ (viewA bs 0 ss) ∧ (∀ a o, F1 a = some o → F a = some o ∨ H0 a = none) ∧
    (∀ (j : Nat) us, ss[j]? = some (.own us) → bs.contains j = false → F1 (P j) = none) ∧ (∀ (j : Nat) us, ss[j]? = some (.own us) → bs.contains j = true → Tr W F1 (.ref (P j)) (.lst us)) := by
  let L : Addr → Prop := fun a => ∃ (j : Nat) (us : List T), bs.contains j = true ∧ ss[j]? = some (.own us) ∧ a = P j
  let F1 : Hp := fun a => if L a then H a else F a
  have hin : ∀ (j : Nat) us, ss[j]? = some (.own us) → bs.contains j = true → F1 (P j) = H (P j) := fun j us h hb => if_pos ⟨j, us, hb, h, rfl⟩
  have hout : ∀ a, ¬ L a → F1 a = F a := fun a h => if_neg h
  have hsub : Sub F F1 := fun a o h => by
    have : ¬ L a := by
      rintro ⟨j, us, _, hj, rfl⟩
      have := (sr.own j us hj).2.1
      rw [this] at h; cases h
    rw [hout a this]; exact h
  have hnB : ¬ L W.B := by
    rintro ⟨j, us, _, hj, e⟩
    exact (sr.own j us hj).2.2.2.1 e.symm
  have hnc : ¬ L W.c := by
    rintro ⟨j, us, _, hj, e⟩
    exact (sr.own j us hj).2.2.2.2.1 e.symm
  have htr : ∀ (j : Nat) us, ss[j]? = some (.own us) → bs.contains j = true → Tr W F1 (.ref (P j)) (.lst us) := fun j us h hb => by
    obtain ⟨_, _, _, _, _, hl, vs, hv, tl⟩ := sr.own j us h
    exact .lst (by rw [hin j us h hb]; exact hv) hl (tl.mono hsub)
  refine ⟨F1, hsub, ⟨fun a o h => ?_, by rw [hout _ hnB]; exact bd.sta.fB, by rw [hout _ hnc]; exact bd.sta.fc, bd.sta.bag⟩, ⟨by rw [viewA_len]; exact sr.len, fun i t e => ?_⟩, fun a o h => ?_, fun j us h hb => ?_, htr⟩
  · by_cases hL : L a
    · have e : F1 a = H a := if_pos hL
      rw [e] at h; exact .inl h
    · rw [hout a hL] at h; exact bd.sta.fz a o h
  · rw [viewA_get, Option.map_eq_some_iff] at e
    obtain ⟨s, e1, e2⟩ := e
    rw [Nat.zero_add] at e2
    cases s with
    | un => cases e2
    | val u =>
      cases e2
      obtain ⟨v, h1, h2⟩ := sr.val i _ e1
      exact ⟨v, h1, h2.mono hsub⟩
    | own ts =>
      simp only [slV] at e2
      split at e2
      · rename_i hb
        cases e2
        exact ⟨_, (sr.own i ts e1).1, htr i ts e1 hb⟩
      · cases e2
  · by_cases hL : L a
    · obtain ⟨j, us, _, hj, rfl⟩ := hL
      exact .inr (sr.own j us hj).2.2.1
    · rw [hout a hL] at h; exact .inl h
  · have hL : ¬ L (P j) := by
      rintro ⟨i, ts, hi, hs, e⟩
      by_cases hij : j = i
      · subst hij; rw [hb] at hi; cases hi
      · exact sr.sep j i us ts hij h hs e
    rw [hout _ hL]
    exact (sr.own j us h).2.1
/-- the frozen part forgotten again -/
theorem Sta.back {F' H' : Hp} {b b' : Bag} (st : Sta W F H b) (st' : Sta W F' H' b') (h : Sub F F') : Sta W F H' b' := ⟨fun a o e => st'.fz a o (h a o e), st.fB, st.fc, st'.bag⟩
theorem SRel.keep {H' : Hp} (sr : SRel W F H H0 P σ ss) (k : Keep W H H') : SRel W F H' H0 P σ ss :=
  ⟨sr.len, sr.val, fun i ts e => by
    obtain ⟨h1, h2, h3, h4, h5, h6, vs, h7, h8⟩ := sr.own i ts e
    exact ⟨h1, h2, h3, h4, h5, h6, vs, k _ _ h7 h4, h8⟩, sr.sep⟩
theorem atom_tr {F F' : Hp} {v : V} {t : T} (h : Tr W F v t) (e : isAtom t = true) : Tr W F' v t := by
  cases h with
  | non => exact .non
  | bl b => exact .bl b
  | int i => exact .int i
  | str x z => exact .str x z
  | ty n => exact .ty n
  | _ => cases e
/-- behind an expression: the places of bs are frozen -/
theorem afterF {bs : List Nat} {F1 F' H' : Hp} {b' : Bag} (sr : SRel W F H H0 P σ ss) (bd : Bd W F0 H0 F H b) (hs : Sub F F1) (hn : ∀ a o, F1 a = some o → F a = some o ∨ H0 a = none)
    (h1 : ∀ (j : Nat) us, ss[j]? = some (.own us) → bs.contains j = false → F1 (P j) = none) (h2 : ∀ (j : Nat) us, ss[j]? = some (.own us) → bs.contains j = true → Tr W F1 (.ref (P j)) (.lst us)) (pg : Grow F1 H F') (pk : Keep W H H') (ps : Sta W F' H' b') :
    Bd W F0 H0 F' H' b' ∧ SRel W F' H' H0 P σ (frzA bs 0 ss) := by
  have grow : Grow F0 H0 F' := by
    refine ⟨(bd.grow.sub.trans hs).trans pg.sub, fun a o e => ?_⟩
    rcases pg.new a o e with z | z
    · rcases hn a o z with z | z
      · exact bd.grow.new a o z
      · exact .inr z
    · exact .inr (bd.keep.free bd.sta.bag z)
  refine ⟨⟨grow, bd.keep.trans pk, ps⟩, ?_⟩
  have key : ∀ (i : Nat) (s' : Sl), (frzA bs 0 ss)[i]? = some s' → ∃ s, ss[i]? = some s ∧ slF bs i s = s' := fun i s' e => by
    rw [frzA_get, Option.map_eq_some_iff, Nat.zero_add] at e
    exact e
  refine ⟨by rw [frzA_len]; exact sr.len, fun i u e => ?_, fun i ts e => ?_, fun i j ts us hij e e' => ?_⟩
  · obtain ⟨s, e1, e2⟩ := key i _ e
    cases s with
    | un => cases e2
    | val w =>
      cases e2
      obtain ⟨x, hx, ht⟩ := sr.val i _ e1
      exact ⟨x, hx, (ht.mono hs).mono pg.sub⟩
    | own ts =>
      simp only [slF] at e2
      split at e2
      · rename_i hb
        cases e2
        exact ⟨_, (sr.own i ts e1).1, (h2 i ts e1 hb).mono pg.sub⟩
      · cases e2
  · obtain ⟨s, e1, e2⟩ := key i _ e
    cases s with
    | un => cases e2
    | val w => cases e2
    | own us =>
      simp only [slF] at e2
      split at e2
      · cases e2
      · rename_i hb
        cases e2
        obtain ⟨a1, a2, a3, a4, a5, a6, vs, a7, a8⟩ := sr.own i ts e1
        refine ⟨a1, ?_, a3, a4, a5, a6, vs, pk _ _ a7 a4, (a8.mono hs).mono pg.sub⟩
        cases q : F' (P i) with
        | none => rfl
        | some u =>
          rcases pg.new _ u q with z | z
          · rw [h1 i ts e1 (by simpa using hb)] at z; cases z
          · rw [a7] at z; cases z
  · obtain ⟨s, e1, e2⟩ := key i _ e
    obtain ⟨s', e3, e4⟩ := key j _ e'
    have g : ∀ {i : Nat} {s : Sl} {ts : List T}, slF bs i s = .own ts → s = .own ts := fun {i s ts} q => by
      cases s with
      | un => cases q
      | val w => cases q
      | own us => simp only [slF] at q; split at q <;> cases q; rfl
    exact sr.sep i j ts us hij (by rw [e1, g e2]) (by rw [e3, g e4])
/-- behind an expression -/
theorem after {bs : List Nat} {F1 F' H' : Hp} {b' : Bag} {t : T} {v : V} (sr : SRel W F H H0 P σ ss) (bd : Bd W F0 H0 F H b) (hs : Sub F F1) (hn : ∀ a o, F1 a = some o → F a = some o ∨ H0 a = none)
    (h1 : ∀ (j : Nat) us, ss[j]? = some (.own us) → bs.contains j = false → F1 (P j) = none) (h2 : ∀ (j : Nat) us, ss[j]? = some (.own us) → bs.contains j = true → Tr W F1 (.ref (P j)) (.lst us)) (p : Post W F1 H b' t v F' H') :
    ∃ F2, Bd W F0 H0 F2 H' b' ∧ SRel W F2 H' H0 P σ (frz bs t ss) ∧ Tr W F2 v t := by
  by_cases hA : bs.isEmpty = false ∧ isAtom t = true
  · refine ⟨F, ⟨bd.grow, bd.keep.trans p.keep, bd.sta.back p.sta (hs.trans p.grow.sub)⟩, ?_, atom_tr p.tr hA.2⟩
    unfold frz
    rw [hA.1, hA.2]
    exact sr.keep p.keep
  · have ef : frz bs t ss = frzA bs 0 ss := by
      unfold frz
      cases e1 : bs.isEmpty with
      | true =>
        have : bs = [] := by simpa using e1
        subst this
        rw [frzA_nil]; rfl
      | false =>
        cases e2 : isAtom t with
        | true => exact absurd ⟨e1, e2⟩ hA
        | false => rfl
    rw [ef]
    obtain ⟨a, c⟩ := afterF sr bd hs hn h1 h2 p.grow p.keep p.sta
    exact ⟨F', a, c, p.tr⟩
theorem SRel.vrel (sr : SRel W F H H0 P σ ss) : VRel W F σ (viewA [] 0 ss) := by
  refine ⟨by rw [viewA_len]; exact sr.len, fun i t e => ?_⟩
  rw [viewA_get, Option.map_eq_some_iff, Nat.zero_add] at e
  obtain ⟨s, e1, e2⟩ := e
  cases s with
  | un => cases e2
  | val u => cases e2; exact sr.val i _ e1
  | own ts => cases e2
theorem SRel.mono {F' : Hp} (sr : SRel W F H H0 P σ ss) (g : Grow F H F') : SRel W F' H H0 P σ ss :=
  ⟨sr.len, fun i t e => let ⟨v, a, c⟩ := sr.val i t e; ⟨v, a, c.mono g.sub⟩, fun i ts e => by
    obtain ⟨h1, h2, h3, h4, h5, h6, vs, h7, h8⟩ := sr.own i ts e
    refine ⟨h1, ?_, h3, h4, h5, h6, vs, h7, h8.mono g.sub⟩
    cases q : F' (P i) with
    | none => rfl
    | some u =>
      rcases g.new _ u q with z | z
      · rw [h2] at z
        cases z
      · rw [h7] at z
        exact (nomatch z), sr.sep⟩
/-- a worth is stored -/
theorem SRel.set {i : Nat} {v : V} {t : T} (sr : SRel W F H H0 P σ ss) (h : Tr W F v t) : SRel W F H H0 P (σ.set i (some v)) (ss.set i (.val t)) := by
  refine ⟨by rw [List.length_set, List.length_set]; exact sr.len, fun j u e => ?_, fun j ts e => ?_, fun j l ts us hjl e e' => ?_⟩
  · by_cases hj : i = j
    · subst hj
      have hl : i < ss.length := by have := (List.getElem?_eq_some_iff.mp e).1; simpa using this
      rw [List.getElem?_set_self hl] at e
      cases e
      exact ⟨v, by rw [List.getElem?_set_self (by rw [sr.len]; exact hl)], h⟩
    · rw [List.getElem?_set_ne hj] at e ⊢
      exact sr.val j u e
  · by_cases hj : i = j
    · subst hj
      have hl : i < ss.length := by have := (List.getElem?_eq_some_iff.mp e).1; simpa using this
      rw [List.getElem?_set_self hl] at e
      cases e
    · rw [List.getElem?_set_ne hj] at e ⊢
      exact sr.own j ts e
  · have g : ∀ {j : Nat} {ts}, (ss.set i (.val t))[j]? = some (.own ts) → ss[j]? = some (.own ts) := fun {j ts} q => by
      by_cases hj : i = j
      · subst hj
        have hl : i < ss.length := by have := (List.getElem?_eq_some_iff.mp q).1; simpa using this
        rw [List.getElem?_set_self hl] at q
        cases q
      · rw [List.getElem?_set_ne hj] at q; exact q
    exact sr.sep j l ts us hjl (g e) (g e')
/-- a list of one's own is stored -/
theorem SRel.setOwn {i : Nat} {p : Addr} {ts : List T} {vs : List V} (sr : SRel W F H H0 P σ ss) (hF : F p = none) (hH0 : H0 p = none) (hB : p ≠ W.B) (hc : p ≠ W.c) (hl : ts.length ≤ LIM) (hv : H p = some (.lst vs)) (tl : TrL W F vs ts)
    (hne : ∀ (j : Nat) us, j ≠ i → ss[j]? = some (.own us) → P j ≠ p) : SRel W F H H0 (fun j => if j = i then p else P j) (σ.set i (some (.ref p))) (ss.set i (.own ts)) := by
  have g : ∀ {j : Nat} {s : Sl}, j ≠ i → (ss.set i (.own ts))[j]? = some s → ss[j]? = some s := fun {j s} hj q => by
    rw [List.getElem?_set_ne (Ne.symm hj)] at q; exact q
  have gi : ∀ {s : Sl}, (ss.set i (.own ts))[i]? = some s → s = .own ts ∧ i < ss.length := fun {s} q => by
    have hl : i < ss.length := by have := (List.getElem?_eq_some_iff.mp q).1; simpa using this
    rw [List.getElem?_set_self hl] at q
    exact ⟨(Option.some.inj q).symm, hl⟩
  refine ⟨by rw [List.length_set, List.length_set]; exact sr.len, fun j u e => ?_, fun j us e => ?_, fun j l us ws hjl e e' => ?_⟩
  · by_cases hj : j = i
    · subst hj; obtain ⟨z, _⟩ := gi e; cases z
    · rw [List.getElem?_set_ne (Ne.symm hj)]
      exact sr.val j u (g hj e)
  · by_cases hj : j = i
    · subst hj
      obtain ⟨z, hl'⟩ := gi e
      cases z
      simp only [if_true]
      exact ⟨by rw [List.getElem?_set_self (by rw [sr.len]; exact hl')], hF, hH0, hB, hc, hl, vs, hv, tl⟩
    · simp only [if_neg hj]
      rw [List.getElem?_set_ne (Ne.symm hj)]
      exact sr.own j us (g hj e)
  · show (if j = i then p else P j) ≠ (if l = i then p else P l)
    by_cases hj : j = i
    · have hl' : l ≠ i := fun q => hjl (hj.trans q.symm)
      rw [if_pos hj, if_neg hl']
      exact (hne l ws hl' (g hl' e')).symm
    · rw [if_neg hj]
      by_cases hl' : l = i
      · rw [if_pos hl']; exact hne j us hj (g hj e)
      · rw [if_neg hl']; exact sr.sep j l us ws hjl (g hj e) (g hl' e')

/-! ### targets -/
theorem tgS_len : ∀ {g : Tg} {t : T} {ss s' : List Sl}, tgS g t ss = some s' → s'.length = ss.length := by
  intro g
  induction g with
  | name i => intro t ss s' e; simp only [tgS] at e; split at e <;> cases e; simp
  | tup a b iha ihb =>
    intro t ss s' e
    match t, e with
    | .tup [x, y], e =>
      simp only [tgS] at e
      cases q : tgS a x ss with
      | none => rw [q] at e; cases e
      | some s1 => rw [q] at e; rw [ihb e, iha q]
  | tup3 a b c iha ihb ihc =>
    intro t ss s' e
    match t, e with
    | .tup [x, y, z], e =>
      simp only [tgS] at e
      cases q : tgS a x ss with
      | none => rw [q] at e; cases e
      | some s1 =>
        rw [q] at e
        simp only at e
        cases q2 : tgS b y s1 with
        | none => rw [q2] at e; cases e
        | some s2 => rw [q2] at e; rw [ihc e, ihb q2, iha q]
theorem viewA_set (ss : List Sl) (i : Nat) (t : T) : viewA [] 0 (ss.set i (.val t)) = (viewA [] 0 ss).set i (some t) := by
  apply List.ext_getElem?
  intro j
  rw [viewA_get]
  by_cases hj : i = j
  · subst hj
    by_cases hl : i < ss.length
    · rw [List.getElem?_set_self hl, List.getElem?_set_self (by rw [viewA_len]; exact hl)]; rfl
    · rw [List.getElem?_eq_none (by simpa using hl), List.getElem?_eq_none (by rw [List.length_set, viewA_len]; omega)]; rfl
  · rw [List.getElem?_set_ne hj, List.getElem?_set_ne hj, viewA_get]
theorem tgS_view : ∀ {g : Tg} {t : T} {ss s' : List Sl}, tgS g t ss = some s' → tgV g t (viewA [] 0 ss) = some (viewA [] 0 s') := by
  intro g
  induction g with
  | name i =>
    intro t ss s' e
    simp only [tgS] at e
    split at e
    · rename_i hl
      cases e
      simp only [tgV]
      rw [if_pos (by rw [viewA_len]; exact hl), viewA_set]
    · cases e
  | tup a b iha ihb =>
    intro t ss s' e
    match t, e with
    | .tup [x, y], e =>
      simp only [tgS] at e
      cases q : tgS a x ss with
      | none => rw [q] at e; cases e
      | some s1 =>
        rw [q] at e
        simp only [tgV]
        rw [iha q]
        exact ihb e
  | tup3 a b c iha ihb ihc =>
    intro t ss s' e
    match t, e with
    | .tup [x, y, z], e =>
      simp only [tgS] at e
      cases q : tgS a x ss with
      | none => rw [q] at e; cases e
      | some s1 =>
        rw [q] at e
        simp only at e
        cases q2 : tgS b y s1 with
        | none => rw [q2] at e; cases e
        | some s2 =>
          rw [q2] at e
          simp only [tgV]
          rw [iha q]
          simp only
          rw [ihb q2]
          exact ihc e
theorem tgS_own : ∀ {g : Tg} {t : T} {ss s' : List Sl} {j : Nat} {us : List T}, tgS g t ss = some s' → s'[j]? = some (.own us) → ss[j]? = some (.own us) ∧ j ∉ tgSlots g := by
  intro g
  induction g with
  | name i =>
    intro t ss s' j us e h
    simp only [tgS] at e
    split at e
    · rename_i hl
      cases e
      by_cases hj : i = j
      · subst hj
        rw [List.getElem?_set_self hl] at h
        cases h
      · rw [List.getElem?_set_ne hj] at h
        exact ⟨h, by simp [tgSlots, Ne.symm hj]⟩
    · cases e
  | tup a b iha ihb =>
    intro t ss s' j us e h
    match t, e with
    | .tup [x, y], e =>
      simp only [tgS] at e
      cases q : tgS a x ss with
      | none => rw [q] at e; cases e
      | some s1 =>
        rw [q] at e
        obtain ⟨h1, n1⟩ := ihb e h
        obtain ⟨h2, n2⟩ := iha q h1
        exact ⟨h2, by simp [tgSlots, n1, n2]⟩
  | tup3 a b c iha ihb ihc =>
    intro t ss s' j us e h
    match t, e with
    | .tup [x, y, z], e =>
      simp only [tgS] at e
      cases q : tgS a x ss with
      | none => rw [q] at e; cases e
      | some s1 =>
        rw [q] at e
        simp only at e
        cases q2 : tgS b y s1 with
        | none => rw [q2] at e; cases e
        | some s2 =>
          rw [q2] at e
          obtain ⟨h1, n1⟩ := ihc e h
          obtain ⟨h2, n2⟩ := ihb q2 h1
          obtain ⟨h3, n3⟩ := iha q h2
          exact ⟨h3, by simp [tgSlots, n1, n2, n3]⟩
theorem SRel.tg {g : Tg} {t : T} {s' : List Sl} {σ' : L2.St} (sr : SRel W F H H0 P σ ss) (e : tgS g t ss = some s') (v : VRel W F σ' (viewA [] 0 s')) (hk : ∀ j : Nat, j ∉ tgSlots g → σ'[j]? = σ[j]?) : SRel W F H H0 P σ' s' := by
  refine ⟨by rw [v.len, viewA_len], fun i u h => ?_, fun i us h => ?_, fun i j us ws hij h h' => ?_⟩
  · exact v.get i u (by rw [viewA_get, h]; rfl)
  · obtain ⟨h1, n1⟩ := tgS_own e h
    rw [hk i n1]
    exact sr.own i us h1
  · exact sr.sep i j us ws hij (tgS_own e h).1 (tgS_own e h').1
end
end DI

set_option Elab.async false
set_option linter.all false
set_option maxRecDepth 100000
set_option maxHeartbeats 8000000
namespace DI
open PySem L2

def EndsOk (W : Wd) (F0 H0 : Hp) (b' : Bag) (o : Out) (D : Ends) : Prop := match o with
  | .nx s' => ∀ F' H' P' σ', Bd W F0 H0 F' H' b' → SRel W F' H' H0 P' σ' s' → D.nx σ' H'
  | .ret t => ∀ v F' H', Bd W F0 H0 F' H' b' → Tr W F' v t → D.rt v H'
  | .bk s' => ∀ F' H' P' σ', Bd W F0 H0 F' H' b' → SRel W F' H' H0 P' σ' s' → D.bk σ' H'
  | .ct s' => ∀ F' H' P' σ', Bd W F0 H0 F' H' b' → SRel W F' H' H0 P' σ' s' → D.ct σ' H'
def rdS (W : Wd) (f : List Sl → Ev Out) : TS := fun D σ H => ∃ F0 H0 F P ss b o b', Bd W F0 H0 F H b ∧ SRel W F H H0 P σ ss ∧ f ss b = some (o, b') ∧ EndsOk W F0 H0 b' o D

section
variable {W : Wd} {G : Gm} {pars : Nat → List Str} {k : Nat} {call : Nat → List T → Ev T}
section
variable {X : Cx} {Γ : Cc}
/-- an expression in a statement -/
theorem x_read {bs : List Nat} {e : E} {F0 H0 F H : Hp} {P : Nat → Addr} {σ : L2.St} {ss : List Sl} {b b' : Bag} {t : T} {Q : VK} (bd : Bd W F0 H0 F H b) (sr : SRel W F H H0 P σ ss) (ev : evX call pars bs e ss b = some (t, b'))
    (q : ∀ v F2 H', Bd W F0 H0 F2 H' b' → SRel W F2 H' H0 P σ (frz bs t ss) → Tr W F2 v t → Keep W H H' → Q v H') : rdE W (evE call pars e) σ H Q := by
  obtain ⟨F1, hs, st1, vr, hn, h1, h2⟩ := borrow sr bd bs
  refine ⟨F1, viewA bs 0 ss, b, t, b', st1, vr, ev, fun v F' H' p => ?_⟩
  obtain ⟨F2, bd2, sr2, tr⟩ := after sr bd hs hn h1 h2 p
  exact q v F2 H' bd2 sr2 tr p.keep
theorem c_read {bs : List Nat} {e : Te} {F0 H0 F H : Hp} {P : Nat → Addr} {σ : L2.St} {ss : List Sl} {b b' : Bag} {t : Bool} {Q : Bool → Hp → Prop} (bd : Bd W F0 H0 F H b) (sr : SRel W F H H0 P σ ss) (ev : evC call pars bs e ss b = some (t, b'))
    (q : ∀ H', Bd W F0 H0 F H' b' → SRel W F H' H0 P σ ss → Q t H') : rdT W (evT call pars e) σ H Q := by
  obtain ⟨F1, hs, st1, vr, hn, h1, h2⟩ := borrow sr bd bs
  refine ⟨F1, viewA bs 0 ss, b, t, b', st1, vr, ev, fun F' H' g kp st' => ?_⟩
  exact q H' ⟨bd.grow, bd.keep.trans kp, bd.sta.back st' (hs.trans g.sub)⟩ (sr.keep kp)
theorem sw_of {v : Expr} {tg : Option Expr} {l : Nat} {env : Env} (h : cpB v = true) : swapsWith v tg l env = pure false := by
  cases v <;> first | rfl | cases h
theorem ss_asg (c : CxI X W G pars k call Γ) {i : Nat} {bs : List Nat} {e : E} {x : Str} {v : Expr} {p pos : Pos} (h1 : Γ.N[i]? = some x) (h2 : locB Γ x = true) (h3 : cpB v = true) (he : PE X v (rdE W (evE call pars e))) : PS X (.Assign [.Name x p] v pos) (rdS W (ex call pars (.asg i bs e))) := by
  obtain ⟨l1, l2⟩ := locB_of c h2
  refine PS.imp (ps_set (i := i) (by rw [c.N]; exact c.nd) (by rw [c.N]; exact h1) l1 he (sw_of h3) l2) fun D σ H q => ?_
  obtain ⟨F0, H0, F, P, ss, b, o, b', bd, sr, ev, q⟩ := q
  obtain ⟨t, b1, e1, ea⟩ := bind_some (show Ev.bind _ _ b = some (o, b') from ev)
  obtain ⟨eb, hb⟩ := of_some ea
  clear ea ev
  subst hb
  split at eb
  · cases eb
    exact x_read bd sr e1 fun v F2 H' bd2 sr2 tr _ => q F2 H' P _ bd2 (sr2.set tr)
  · cases eb
theorem ss_new (c : CxI X W G pars k call Γ) {i : Nat} {bs : List Nat} {es : Es} {x : Str} {xs : List Expr} {p p2 pos : Pos} (h1 : Γ.N[i]? = some x) (h2 : locB Γ x = true) (ha : PA X xs (rdA W (evEs call pars es))) : PS X (.Assign [.Name x p] (.List xs p2) pos) (rdS W (ex call pars (.new i bs (.lst es)))) := by
  obtain ⟨l1, l2⟩ := locB_of c h2
  refine PS.imp (ps_set (i := i) (by rw [c.N]; exact c.nd) (by rw [c.N]; exact h1) l1 (pe_lst ha) rfl l2) fun D σ H q => ?_
  obtain ⟨F0, H0, F, P, ss, b, o, b', bd, sr, ev, q⟩ := q
  obtain ⟨t, b1, e1, ea⟩ := bind_some (show Ev.bind _ _ b = some (o, b') from ev)
  obtain ⟨ts, e2, eb⟩ := bind_of ea
  obtain ⟨ec, hb⟩ := of_some eb
  clear eb ea ev
  subst hb
  split at ec
  · rename_i hc
    cases ec
    obtain ⟨hi, rfl⟩ := hc
    obtain ⟨us, b2, e3, ed⟩ := bind_some (show Ev.bind _ _ b = some (t, b') from e1)
    obtain ⟨ee, hb⟩ := of_some ed
    clear ed e1
    subst hb
    split at ee
    · rename_i hl
      cases ee
      cases e2
      refine ⟨F, viewA [] 0 ss, b, ts, b', bd.sta, sr.vrel, e3, fun vs F1 H1 pl => ⟨by rw [pl.tr.length]; exact Nat.le_trans hl LIM_le, fun p hp => ?_⟩⟩
      have f1 := pl.sta.free hp
      have hp0 : H p = none := pl.keep.free pl.sta.bag hp
      have hp00 : H0 p = none := bd.keep.free bd.sta.bag hp0
      have sr1 : SRel W F1 H1 H0 P σ ss := (sr.mono pl.grow).keep pl.keep
      have sr2 : SRel W F1 (upd H1 p (.lst vs)) H0 P σ ss := sr1.keep (Keep.new hp)
      have bd1 : Bd W F0 H0 F1 (upd H1 p (.lst vs)) b' := ⟨bd.grow.trans bd.keep bd.sta.bag pl.grow, (bd.keep.trans pl.keep).trans (Keep.new hp), pl.sta.hid f1 (pl.sta.neB hp) (pl.sta.neC hp)⟩
      refine q F1 _ _ _ bd1 (sr2.setOwn f1 hp00 (pl.sta.neB hp) (pl.sta.neC hp) hl upd_same pl.tr fun j ws hj hw e => ?_)
      obtain ⟨_, _, _, _, _, _, vs', h7, _⟩ := sr1.own j ws hw
      rw [e, hp] at h7
      cases h7
    · cases ee
  · cases ec
theorem ss_app (c : CxI X W G pars k call Γ) {i : Nat} {bs : List Nat} {e : E} {x : Str} {v : Expr} {p ap cp pos : Pos} (h1 : slB Γ i x = true) (h2 : (ap.endLine == cp.line) = true) (h3 : plB v = true) (he : PE X v (rdE W (evE call pars e))) :
    PS X (.Expr (.Call (.Attribute (.Name x p) "append" ap) [v] [] cp) pos) (rdS W (ex call pars (.app i bs e))) := by
  obtain ⟨l1, l2, l3, l4⟩ := slB_of c h1
  refine PS.imp (ps_expr (pe_bm PySem.F.plainAttrs_list PySem.F.slot_list_append PySem.F.type_list_append mt_append (pe_var l1 l2 l3 l4) (pa_cons he pa_nil (star_of h3)) rfl (by rw [star_of h3]; rfl) h2 (star_of h3) rfl) rfl) fun D σ H q => ?_
  obtain ⟨F0, H0, F, P, ss, b, o, b', bd, sr, ev, q⟩ := q
  obtain ⟨t, b1, e1, ea⟩ := bind_some (show Ev.bind _ _ b = some (o, b') from ev)
  obtain ⟨eb, hb⟩ := of_some ea
  clear ea ev
  subst hb
  split at eb
  · rename_i ts hts
    split at eb
    · rename_i hc
      cases eb
      obtain ⟨a1, a2, a3, a4, a5, a6, vs, a7, a8⟩ := sr.own i ts hts
      refine ⟨_, a1, .inl ⟨rfl, _, SqL.of a7⟩, x_read bd sr e1 fun y F2 H' bd2 sr2 tr kp => ?_⟩
      have ef : frz bs t ss = ss := by
        unfold frz
        rcases hc.2 with z | z
        · rw [z]; simp
        · subst z; rfl
      rw [ef] at sr2
      obtain ⟨c1, c2, c3, c4, c5, c6, vs2, c7, c8⟩ := sr2.own i ts hts
      refine ⟨P i, vs2, y, rfl, rfl, c7, ?_, ?_⟩
      · have h1 := c8.length
        have h2 := LIM_lt
        omega
      · have hset : (ss.set i (.own (ts ++ [t]))) = (ss.set i (.own (ts ++ [t]))) := rfl
        have hk : Keep W H0 (upd H' (P i) (.lst (vs2 ++ [y]))) := fun a u h n => by
          rw [upd_ne (ne_of_none h c3)]
          exact bd2.keep a u h n
        have bd3 : Bd W F0 H0 F2 (upd H' (P i) (.lst (vs2 ++ [y]))) b' := ⟨bd2.grow, hk, bd2.sta.hid c2 c4 c5⟩
        -- all other lists of one's own stand elsewhere
        have sr3 : SRel W F2 (upd H' (P i) (.lst (vs2 ++ [y]))) H0 P σ (ss.set i .un) := by
          have g : ∀ {j : Nat} {s : Sl}, (ss.set i .un)[j]? = some s → s = .un ∨ (j ≠ i ∧ ss[j]? = some s) := fun {j s} qq => by
            by_cases hj : i = j
            · subst hj
              have hl : i < ss.length := by have := (List.getElem?_eq_some_iff.mp qq).1; simpa using this
              rw [List.getElem?_set_self hl] at qq
              exact .inl (Option.some.inj qq).symm
            · rw [List.getElem?_set_ne hj] at qq; exact .inr ⟨Ne.symm hj, qq⟩
          refine ⟨by rw [List.length_set]; exact sr2.len, fun j u h => ?_, fun j us h => ?_, fun j l us ws hjl h h' => ?_⟩
          · rcases g h with z | ⟨_, z⟩
            · cases z
            · exact sr2.val j u z
          · rcases g h with z | ⟨hj, z⟩
            · cases z
            · obtain ⟨d1, d2, d3, d4, d5, d6, vs3, d7, d8⟩ := sr2.own j us z
              exact ⟨d1, d2, d3, d4, d5, d6, vs3, by rw [upd_ne (sr2.sep j i us ts hj z hts)]; exact d7, d8⟩
          · rcases g h with z | ⟨hj, z⟩
            · cases z
            · rcases g h' with z' | ⟨hl, z'⟩
              · cases z'
              · exact sr2.sep j l us ws hjl z z'
        have sr4 := sr3.setOwn (i := i) (p := P i) (ts := ts ++ [t]) (vs := vs2 ++ [y]) c2 c3 c4 c5 (by rw [List.length_append]; show _ ≤ _; have := hc.1; simp; omega) upd_same (c8.append (.cons tr .nil)) (fun j us hj hw => by
          rw [List.getElem?_set_ne (Ne.symm hj)] at hw
          exact sr2.sep j i us ts hj hw hts)
        have hσ : σ.set i (some (.ref (P i))) = σ := by
          apply List.ext_getElem?
          intro j
          by_cases hj : i = j
          · subst hj
            have hl : i < σ.length := (List.getElem?_eq_some_iff.mp c1).1
            rw [List.getElem?_set_self hl, c1]
          · rw [List.getElem?_set_ne hj]
        have hss : (ss.set i .un).set i (.own (ts ++ [t])) = ss.set i (.own (ts ++ [t])) := List.set_set ..
        rw [hσ, hss] at sr4
        exact q F2 _ _ _ bd3 sr4
    · cases eb
  · cases eb
theorem ss_ret {bs : List Nat} {e : E} {v : Expr} {pos : Pos} (he : PE X v (rdE W (evE call pars e))) : PS X (.Return (some v) pos) (rdS W (ex call pars (.ret bs e))) := by
  refine PS.imp (ps_ret he) fun D σ H q => ?_
  obtain ⟨F0, H0, F, P, ss, b, o, b', bd, sr, ev, q⟩ := q
  obtain ⟨t, b1, e1, ea⟩ := bind_some (show Ev.bind _ _ b = some (o, b') from ev)
  cases (show some (Out.ret t, b1) = some (o, b') from ea)
  exact x_read bd sr e1 fun v F2 H' bd2 sr2 tr _ => q v F2 H' bd2 tr
theorem EndsOk.nx {F0 H0 : Hp} {b' : Bag} {o : Out} {D : Ends} {f : St → Hp → Prop} (h : EndsOk W F0 H0 b' o D) (hn : ∀ s', o ≠ .nx s') : EndsOk W F0 H0 b' o { D with nx := f } := by
  cases o with
  | nx s' => exact absurd rfl (hn s')
  | ret t => exact h
  | bk s' => exact h
  | ct s' => exact h
theorem ss_seq {s : S} {r : Ss} {st : Stmt} {sts : List Stmt} (h1 : PS X st (rdS W (ex call pars s))) (h2 : PSs X sts (rdS W (exs call pars r))) : PSs X (st :: sts) (rdS W (exs call pars (.cons s r))) := by
  refine PSs.imp (pss_cons h1 h2) fun D σ H q => ?_
  obtain ⟨F0, H0, F, P, ss, b, o, b', bd, sr, ev, q⟩ := q
  obtain ⟨o1, b1, e1, ea⟩ := bind_some (show Ev.bind _ _ b = some (o, b') from ev)
  refine ⟨F0, H0, F, P, ss, b, o1, b1, bd, sr, e1, ?_⟩
  cases o1 with
  | nx s1 => exact fun F' H' P' σ' bd' sr' => ⟨F0, H0, F', P', s1, b1, o, b', bd', sr', ea, q⟩
  | ret t => cases (show some (Out.ret t, b1) = some (o, b') from ea); exact q
  | bk s1 => cases (show some (Out.bk s1, b1) = some (o, b') from ea); exact q
  | ct s1 => cases (show some (Out.ct s1, b1) = some (o, b') from ea); exact q
theorem ss_ite {bs : List Nat} {t : Te} {a d : Ss} {tx : Expr} {xs ys : List Stmt} {pos : Pos} (ht : PT X tx (rdT W (evT call pars t))) (ha : PSs X xs (rdS W (exs call pars a))) (hd : PSs X ys (rdS W (exs call pars d))) : PS X (.If tx xs ys pos) (rdS W (ex call pars (.ite bs t a d))) := by
  refine PS.imp (ps_if ht ha hd) fun D σ H q => ?_
  obtain ⟨F0, H0, F, P, ss, b, o, b', bd, sr, ev, q⟩ := q
  obtain ⟨kk, b1, e1, ea⟩ := bind_some (show Ev.bind _ _ b = some (o, b') from ev)
  refine c_read bd sr e1 fun H' bd2 sr2 => ?_
  cases kk with
  | true => exact iteT ⟨F0, H0, F, P, ss, b1, o, b', bd2, sr2, ea, q⟩
  | false => exact iteF ⟨F0, H0, F, P, ss, b1, o, b', bd2, sr2, ea, q⟩
theorem ss_for (c : CxI X W G pars k call Γ) {g : Tg} {bs : List Nat} {it : It} {body : Ss} {t i : Expr} {sts : List Stmt} {pos : Pos} (hp : plB i = true) (hi : PI X t i (rdI W (evI call pars it))) (hg : tgB Γ g t = true) (hb : PSs X sts (rdS W (exs call pars body))) :
    PS X (.For t i sts [] pos) (rdS W (ex call pars (.for_ g bs it body))) := by
  refine PS.imp (ps_for (by rw [c.xe]; exact PassesOwn.never) c.calm hi (snd_tg c g t hg) hb (fun x => fold_of hp)) fun D σ H q => ?_
  obtain ⟨F0, H0, F, P, ss, b, o, b', bd, sr, ev, q⟩ := q
  obtain ⟨items, b1, e1, ea⟩ := bind_some (show Ev.bind _ _ b = some (o, b') from ev)
  obtain ⟨F1, hs, st1, vr, hn, h1, h2⟩ := borrow sr bd bs
  refine ⟨F1, viewA bs 0 ss, b, items, b1, st1, vr, e1, fun J F2 H2 g2 k2 s2 ok hz => ?_⟩
  -- the places of bs are frozen from now on
  obtain ⟨bd3, sr3⟩ := afterF (bs := bs) sr bd hs hn h1 h2 g2 k2 s2
  have es : (if bs.isEmpty then ss else frzA bs 0 ss) = frzA bs 0 ss := by
    cases e : bs.isEmpty with
    | true =>
      have : bs = [] := by simpa using e
      subst this
      rw [frzA_nil]; rfl
    | false => rfl
  have ea : forL g (exs call pars body) items (if bs.isEmpty then ss else frzA bs 0 ss) b1 = some (o, b') := ea
  rw [es] at ea
  refine ⟨fun n m σ H => m = items.length - n ∧ n ≤ items.length ∧ ∃ F P ss b, Bd W F0 H0 F H b ∧ SRel W F H H0 P σ ss ∧ Sub F2 F ∧ forL g (exs call pars body) (items.drop n) ss b = some (o, b'), ⟨items.length, by simp, Nat.zero_le _, F2, P, _, b1, bd3, sr3, Sub.refl _, by rw [List.drop_zero]; exact ea⟩, ?_⟩
  rintro n m σ' H' ⟨rfl, hn', F', P', s', bb, bd', sr', sub', el⟩
  obtain ⟨ok1, ok2⟩ := ok F' H' bb sub' bd'.sta n
  by_cases hlt : n < items.length
  · have ei : items[n]? = some items[n] := by simp [hlt]
    obtain ⟨go, yl⟩ := ok1 _ ei
    rw [List.drop_eq_getElem_cons hlt] at el
    simp only [forL] at el
    obtain ⟨sa, esa, ela⟩ := bind_of el
    obtain ⟨o1, b2, e2, elb⟩ := bind_some ela
    refine .inr ⟨go, fun σ H => n + 1 ≤ items.length ∧ ∃ F P ss b, Bd W F0 H0 F H b ∧ SRel W F H H0 P σ ss ∧ Sub F2 F ∧ forL g (exs call pars body) (items.drop (n + 1)) ss b = some (o, b'), fun σ2 H3 qq => ⟨items.length - (n + 1), by omega, rfl, qq.1, qq.2⟩, fun x H3 hy => ?_⟩
    obtain ⟨F3, p⟩ := yl x H3 hy
    have bdp : Bd W F0 H0 F3 H3 bb := ⟨bd'.grow.trans bd'.keep bd'.sta.bag p.grow, bd'.keep.trans p.keep, p.sta⟩
    have srp : SRel W F3 H3 H0 P' σ' s' := (sr'.mono p.grow).keep p.keep
    refine ⟨F3, viewA [] 0 s', bb, _, viewA [] 0 sa, p.sta, srp.vrel, p.tr, tgS_view esa, fun σ3 v3 k3 => ?_⟩
    have sr4 := srp.tg esa v3 k3
    -- the body stands over the loop's own entry: what it knows grows on
    refine ⟨F3, H0, F3, P', sa, bb, o1, b2, ⟨Grow.refl _ _, bdp.keep, bdp.sta⟩, sr4, e2, ?_⟩
    have lift : ∀ {F4 H4 : Hp} {b4 : Bag}, Bd W F3 H0 F4 H4 b4 → Bd W F0 H0 F4 H4 b4 ∧ Sub F2 F4 := fun {F4 H4 b4} z => by
      refine ⟨⟨⟨bdp.grow.sub.trans z.grow.sub, fun a u h => ?_⟩, z.keep, z.sta⟩, (sub'.trans p.grow.sub).trans z.grow.sub⟩
      rcases z.grow.new a u h with w | w
      · exact bdp.grow.new a u w
      · exact .inr w
    cases o1 with
    | nx s2 => exact fun F4 H4 P4 σ4 bd4 sr4 => ⟨hlt, F4, P4, s2, b2, (lift bd4).1, sr4, (lift bd4).2, elb⟩
    | ct s2 => exact fun F4 H4 P4 σ4 bd4 sr4 => ⟨hlt, F4, P4, s2, b2, (lift bd4).1, sr4, (lift bd4).2, elb⟩
    | bk s2 =>
      cases (show some (Out.nx s2, b2) = some (o, b') from elb)
      exact fun F4 H4 P4 σ4 bd4 sr4 => q F4 H4 P4 σ4 (lift bd4).1 sr4
    | ret u =>
      cases (show some (Out.ret u, b2) = some (o, b') from elb)
      exact fun v F4 H4 bd4 tr => q v F4 H4 (lift bd4).1 tr
  · have hii : n = items.length := by omega
    subst hii
    rw [List.drop_length] at el
    cases (show some (Out.nx s', bb) = some (o, b') from el)
    exact .inl ⟨ok2 (Nat.le_refl _), q F' H' P' σ' bd' sr'⟩
theorem ss_whl (c : CxI X W G pars k call Γ) {bs : List Nat} {t : Te} {body : Ss} {tx : Expr} {sts : List Stmt} {pos : Pos} (ht : PT X tx (rdT W (evT call pars t))) (hb : PSs X sts (rdS W (exs call pars body))) : PS X (.While tx sts [] pos) (rdS W (ex call pars (.whl bs t body))) := by
  refine PS.imp (ps_while (by rw [c.xe]; exact PassesOwn.never) ht hb) fun D σ H q => ?_
  obtain ⟨F0, H0, F, P, ss, b, o, b', bd, sr, ev, q⟩ := q
  refine ⟨fun m σ H => ∃ F P ss b, Bd W F0 H0 F H b ∧ SRel W F H H0 P σ ss ∧ whlL (evC call pars bs t) (exs call pars body) m ss b = some (o, b'), ⟨WF, F, P, ss, b, bd, sr, ev⟩, ?_⟩
  rintro m σ' H' ⟨F', P', s', bb, bd', sr', el⟩
  cases m with
  | zero => cases el
  | succ m =>
    simp only [whlL] at el
    obtain ⟨kk, b1, e1, ela⟩ := bind_some el
    refine c_read bd' sr' e1 fun H2 bd2 sr2 => ?_
    cases kk with
    | false =>
      cases (show some (Out.nx s', b1) = some (o, b') from ela)
      exact iteF (q F' H2 P' σ' bd2 sr2)
    | true =>
      refine iteT ?_
      obtain ⟨o1, b2, e2, elb⟩ := bind_some (show Ev.bind _ _ b1 = some (o, b') from ela)
      refine ⟨fun σ H => ∃ F P ss b, Bd W F0 H0 F H b ∧ SRel W F H H0 P σ ss ∧ whlL (evC call pars bs t) (exs call pars body) m ss b = some (o, b'), fun σ2 H3 qq => ⟨m, Nat.lt_succ_self m, qq⟩, F0, H0, F', P', s', b1, o1, b2, bd2, sr2, e2, ?_⟩
      cases o1 with
      | nx s2 => exact fun F4 H4 P4 σ4 bd4 sr4 => ⟨F4, P4, s2, b2, bd4, sr4, elb⟩
      | ct s2 => exact fun F4 H4 P4 σ4 bd4 sr4 => ⟨F4, P4, s2, b2, bd4, sr4, elb⟩
      | bk s2 =>
        cases (show some (Out.nx s2, b2) = some (o, b') from elb)
        exact q
      | ret u =>
        cases (show some (Out.ret u, b2) = some (o, b') from elb)
        exact q
end
end
end DI

set_option Elab.async false
set_option linter.all false
set_option maxRecDepth 100000
set_option maxHeartbeats 8000000
namespace DI
open PySem L2

section
variable {W : Wd} {G : Gm} {pars : Nat → List Str} {k : Nat} {call : Nat → List T → Ev T}
section
variable {X : Cx} {Γ : Cc}
theorem sw2 {x y : Str} {px py pt pt2 : Pos} {kt k2 : Nat} {u v : Expr} {env : Env} (hk : env.scope.kind = .function) (hx : env.scope.names.lookup x = some .local) (hy : env.scope.names.lookup y = some .local) (hl : (px.line == py.line) = true) (hn : x ≠ y)
    (hu : plB u = true) (hv : plB v = true) (hf : (foldedForSure 8 u && foldedForSure 8 v) = false) (hc : (constantsAlone 8 u && constantsAlone 8 v) = false) :
    swappedStores [.Tuple [.Name x px, .Name y py] kt pt] (.Tuple [u, v] k2 pt2) env = pure (some [x, y]) := by
  have e1 : env.blockKind = .function := by
    unfold Env.blockKind
    rw [hk]
    rfl
  have e2 : env.kindOf x = some .local := hx
  have e3 : env.kindOf y = some .local := hy
  have e4 : py.line = px.line := (beq_iff_eq.mp hl).symm
  have e6 : ([x, y] : List Str).eraseDups = [x, y] := by
    have : (y == x) = false := beq_eq_false_iff_ne.mpr (Ne.symm hn)
    simp [List.eraseDups_cons, this]
  simp only [swappedStores]
  simp [e1, e2, e3, e4, e6, hf, hc, Expr.pos]
  intro h
  exfalso
  rcases h with h | h
  · cases u <;> first | (cases hu; done) | (cases h; done)
  · cases v <;> first | (cases hv; done) | (cases h; done)
theorem ss_par2 (c : CxI X W G pars k call Γ) {i j : Nat} {bs : List Nat} {a d : E} {x y : Str} {u v : Expr} {px py pt pt2 pos : Pos} {kt k2 : Nat} (hk : Γ.sc.kind = .function) (h1 : Γ.N[i]? = some x) (h2 : Γ.N[j]? = some y) (hx : Γ.sc.names.lookup x = some .local) (hy : Γ.sc.names.lookup y = some .local) (hn : x ≠ y) (hl : (px.line == py.line) = true)
    (hu : plB u = true) (hv : plB v = true) (hf : (foldedForSure 8 u && foldedForSure 8 v) = false) (hc : (constantsAlone 8 u && constantsAlone 8 v) = false) (ha : PE X u (rdE W (evE call pars a))) (hd : PE X v (rdE W (evE call pars d))) :
    PS X (.Assign [.Tuple [.Name x px, .Name y py] kt pt] (.Tuple [u, v] k2 pt2) pos) (rdS W (ex call pars (.par2 i j bs a d))) := by
  have hij : i ≠ j := fun e => hn (by subst e; rw [h1] at h2; exact Option.some.inj h2)
  refine PS.imp (ps_par (i := i) (j := j) c.calm (by rw [c.N]; exact c.nd) (by rw [c.N]; exact h1) (by rw [c.N]; exact h2) hij (by rw [c.sc]; exact hx) (by rw [c.sc]; exact hy) (pa_cons ha (pa_cons hd pa_nil (star_of hv)) (star_of hu)) (sw2 (by rw [c.sc]; exact hk) (by rw [c.sc]; exact hx) (by rw [c.sc]; exact hy) hl hn hu hv hf hc) rfl) fun D σ H q => ?_
  obtain ⟨F0, H0, F, P, ss, b, o, b', bd, sr, ev, q⟩ := q
  obtain ⟨t1, b1, e1, ea⟩ := bind_some (show Ev.bind _ _ b = some (o, b') from ev)
  obtain ⟨t2, b2, e2, eb⟩ := bind_some ea
  obtain ⟨ec, hb⟩ := of_some eb
  clear eb ea ev
  subst hb
  split at ec
  · rename_i hcond
    cases ec
    obtain ⟨_, _, rfl, _⟩ := hcond
    refine x_read bd sr e1 fun v1 F2 H' bd2 sr2 tr _ => ?_
    have sr2 : SRel W F2 H' H0 P σ ss := sr2
    obtain ⟨F1, hs, st1, vr, hn', g1, g2⟩ := borrow sr2 bd2 []
    refine ⟨F1, viewA [] 0 ss, b1, t2, b', st1, vr, e2, fun v2 F3 H3 p => ?_⟩
    obtain ⟨bd3, sr3⟩ := afterF (bs := []) sr2 bd2 hs hn' g1 g2 p.grow p.keep p.sta
    rw [frzA_nil] at sr3
    refine ⟨v1, v2, rfl, q F3 H3 P _ bd3 ((sr3.set ((tr.mono hs).mono p.grow.sub)).set p.tr)⟩
  · cases ec
theorem bag_put {b b' : Bag} {c : Addr} {v : Int} {k : Nat} (h : b.put v k = some b') : ∃ j, ixN 5 (k : Int) = some j ∧ ([V.ref c, .int b.i, .int b.j, .int b.s, .int b.n].set j (.int v)) = [V.ref c, .int b'.i, .int b'.j, .int b'.s, .int b'.n] ∧ b'.cells = b.cells := by
  match k, h with
  | 1, h => cases h; exact ⟨1, rfl, rfl, rfl⟩
  | 2, h => cases h; exact ⟨2, rfl, rfl, rfl⟩
  | 3, h => cases h; exact ⟨3, rfl, rfl, rfl⟩
  | 4, h => cases h; exact ⟨4, rfl, rfl, rfl⟩
theorem ss_bset (c : CxI X W G pars k call Γ) {i n : Nat} {e : E} {x : Str} {v : Expr} {j : Nat} {p kp sp pos : Pos} (h1 : slB Γ i x = true) (h3 : cpB v = true) (he : PE X v (rdE W (evE call pars e))) :
    PS X (.Assign [.Subscript (.Name x p) (.Constant (.int (n : Int)) j kp) sp] v pos) (rdS W (ex call pars (.bset i n e))) := by
  obtain ⟨l1, l2, l3, l4⟩ := slB_of c h1
  refine PS.imp (ps_asg he (pg_sub (pe_var l1 l2 l3 l4) pe_int set_list) (by unfold swapsWithSole; exact sw_of h3) (by cases v <;> rfl) rfl) fun D σ H q => ?_
  obtain ⟨F0, H0, F, P, ss, b, o, b', bd, sr, ev, q⟩ := q
  obtain ⟨t, b1, e1, ea⟩ := bind_some (show Ev.bind _ _ b = some (o, b') from ev)
  obtain ⟨b2, hb2, rfl, rfl⟩ : ∃ b2, bagSet ss[i]? t n b1 = some b2 ∧ o = .nx ss ∧ b' = b2 := by
    unfold bagW at ea
    split at ea
    · cases ea; exact ⟨_, by assumption, rfl, rfl⟩
    · cases ea
  clear ea ev
  obtain ⟨v', hs, rfl, hb3⟩ : ∃ v', ss[i]? = some (.val .bag) ∧ t = .int v' ∧ b1.put v' n = some b' := by
    unfold bagSet at hb2
    split at hb2
    · exact ⟨_, by assumption, rfl, hb2⟩
    · cases hb2
  refine x_read bd sr e1 fun w F2 H' bd2 sr2 tr _ => ?_
  have sr2 : SRel W F2 H' H0 P σ ss := sr2
  obtain ⟨bv, e2, tb⟩ := sr2.val i _ hs
  have eb := bag_tr tb
  subst eb
  cases tr
  obtain ⟨jj, hj, hset, hcells⟩ := bag_put (c := W.c) hb3
  refine ⟨_, e2, W.B, _, (n : Int), jj, rfl, rfl, bd2.sta.bag.1, hj, ?_⟩
  rw [hset]
  have hk : Keep W H' (upd H' W.B (.lst [V.ref W.c, .int b'.i, .int b'.j, .int b'.s, .int b'.n])) := fun a u h n => by rw [upd_ne n]; exact h
  refine q F2 _ P σ ⟨bd2.grow, bd2.keep.trans hk, ⟨fun a u h => ?_, bd2.sta.fB, bd2.sta.fc, upd_same, ?_, bd2.sta.bag.2.2⟩⟩ (sr2.keep hk)
  · rw [upd_ne (ne_of_none h bd2.sta.fB)]
    exact bd2.sta.fz a u h
  · rw [upd_ne (Ne.symm bd2.sta.bag.2.2), hcells]
    exact bd2.sta.bag.2.1
end
mutual
theorem sndS : ∀ (s : S) {X : Cx} {Γ : Cc} {st : Stmt}, CxI X W G pars k call Γ → chkS G s Γ st = true → PS X st (rdS W (ex call pars s))
  | .asg i bs e, X, Γ, st, c, h => by
    simp only [chkS] at h
    split at h
    · simp only [Bool.and_eq_true, decide_eq_true_eq] at h
      obtain ⟨⟨⟨h1, h2⟩, h3⟩, h4⟩ := h
      exact ss_asg c h1 h2 h3 (sndE e c h4)
    · cases h
  | .new i bs e, X, Γ, st, c, h => by
    simp only [chkS] at h
    split at h
    · simp only [Bool.and_eq_true, decide_eq_true_eq] at h
      obtain ⟨⟨⟨⟨h1, h2⟩, h3⟩, h4⟩, h5⟩ := h
      cases e <;> try (cases h4)
      rename_i es
      simp only [chkE] at h5
      split at h5
      · exact ss_new c h1 h2 (sndA es c h5).1
      · cases h5
    · cases h
  | .par2 i j bs a b, X, Γ, st, c, h => by
    simp only [chkS] at h
    split at h
    · simp only [Bool.and_eq_true, decide_eq_true_eq, Bool.not_eq_true'] at h
      obtain ⟨⟨⟨⟨⟨⟨⟨⟨⟨⟨⟨⟨h1, h2⟩, h3⟩, h4⟩, h5⟩, h6⟩, h7⟩, h8⟩, h9⟩, h10⟩, h11⟩, h12⟩, h13⟩ := h
      refine ss_par2 c ?_ h1 h2 h3 h4 h5 h6 h7 h8 h9 h10 (sndE a c h11) (sndE b c h12)
      split at h13
      · assumption
      · cases h13
    · cases h
  | .app i bs e, X, Γ, st, c, h => by
    simp only [chkS] at h
    split at h
    · simp only [Bool.and_eq_true, decide_eq_true_eq] at h
      obtain ⟨⟨⟨⟨h1, rfl⟩, h3⟩, h4⟩, h5⟩ := h
      exact ss_app c h1 h3 h4 (sndE e c h5)
    · cases h
  | .bset i n e, X, Γ, st, c, h => by
    simp only [chkS] at h
    split at h
    · simp only [Bool.and_eq_true, decide_eq_true_eq] at h
      obtain ⟨⟨⟨h1, rfl⟩, h3⟩, h4⟩ := h
      exact ss_bset c h1 h3 (sndE e c h4)
    · cases h
  | .ite bs t a b, X, Γ, st, c, h => by
    simp only [chkS] at h
    split at h
    · simp only [Bool.and_eq_true] at h
      obtain ⟨⟨h1, h2⟩, h3⟩ := h
      exact ss_ite (sndT t c h1) (sndSs a c h2) (sndSs b c h3)
    · cases h
  | .for_ g bs it body, X, Γ, st, c, h => by
    simp only [chkS] at h
    split at h
    · simp only [Bool.and_eq_true] at h
      obtain ⟨⟨⟨h1, h2⟩, h3⟩, h4⟩ := h
      exact ss_for c h1 (sndI it c h2) h3 (sndSs body c h4)
    · cases h
  | .whl bs t body, X, Γ, st, c, h => by
    simp only [chkS] at h
    split at h
    · simp only [Bool.and_eq_true] at h
      exact ss_whl c (sndT t c h.1) (sndSs body c h.2)
    · cases h
  | .ret bs e, X, Γ, st, c, h => by
    simp only [chkS] at h
    split at h
    · exact ss_ret (sndE e c h)
    · cases h
  | .retN, X, Γ, st, c, h => by
    simp only [chkS] at h
    split at h
    · refine PS.imp ps_retN fun D σ H q => ?_
      obtain ⟨F0, H0, F, P, ss, b, o, b', bd, sr, ev, q⟩ := q
      cases (show some (Out.ret .non, b) = some (o, b') from ev)
      exact q .non F H bd .non
    · cases h
  | .pass, X, Γ, st, c, h => by
    simp only [chkS] at h
    split at h
    · refine PS.imp ps_pass fun D σ H q => ?_
      obtain ⟨F0, H0, F, P, ss, b, o, b', bd, sr, ev, q⟩ := q
      cases (show some (Out.nx ss, b) = some (o, b') from ev)
      exact q F H P σ bd sr
    · cases h
  | .brk, X, Γ, st, c, h => by
    simp only [chkS] at h
    split at h
    · refine PS.imp ps_break fun D σ H q => ?_
      obtain ⟨F0, H0, F, P, ss, b, o, b', bd, sr, ev, q⟩ := q
      cases (show some (Out.bk ss, b) = some (o, b') from ev)
      exact q F H P σ bd sr
    · cases h
  | .cont, X, Γ, st, c, h => by
    simp only [chkS] at h
    split at h
    · refine PS.imp ps_continue fun D σ H q => ?_
      obtain ⟨F0, H0, F, P, ss, b, o, b', bd, sr, ev, q⟩ := q
      cases (show some (Out.ct ss, b) = some (o, b') from ev)
      exact q F H P σ bd sr
    · cases h
theorem sndSs : ∀ (s : Ss) {X : Cx} {Γ : Cc} {sts : List Stmt}, CxI X W G pars k call Γ → chkSs G s Γ sts = true → PSs X sts (rdS W (exs call pars s))
  | .nil, X, Γ, sts, c, h => by
    simp only [chkSs] at h
    split at h
    · refine PSs.imp pss_nil fun D σ H q => ?_
      obtain ⟨F0, H0, F, P, ss, b, o, b', bd, sr, ev, q⟩ := q
      cases (show some (Out.nx ss, b) = some (o, b') from ev)
      exact q F H P σ bd sr
    · cases h
  | .cons s r, X, Γ, sts, c, h => by
    simp only [chkSs] at h
    split at h
    · simp only [Bool.and_eq_true] at h
      exact ss_seq (sndS s c h.1) (sndSs r c h.2)
    · cases h
end

/-! ### defs -/
/-- a def's text, its names -/
def fnsB (N ps : List Str) (sc : Scope) : Bool :=
  (match sc.kind with | .function => true | _ => false) && !sc.isCoroutine && !sc.isGenerator && decide N.Nodup && decide (N.take ps.length = ps) && (ps.all fun x => match sc.names.lookup x with
    | some .local => true
    | some .cell => true
    | _ => false) && sc.names.all fun y => match y.2 with
      | .free => false
      | _ => true
theorem fnsB_of {N ps : List Str} {sc : Scope} (h : fnsB N ps sc = true) : FnScope N ps sc := by
  unfold fnsB at h
  simp only [Bool.and_eq_true, decide_eq_true_eq, Bool.not_eq_true', List.all_eq_true] at h
  obtain ⟨⟨⟨⟨⟨⟨h1, h2⟩, h3⟩, h4⟩, h5⟩, h6⟩, h7⟩ := h
  refine ⟨?_, h2, h3, h4, h5, fun x hx => ?_, fun y hy e => ?_⟩
  · split at h1
    · assumption
    · cases h1
  · have := h6 x hx
    split at this
    · exact .inl (by assumption)
    · exact .inr (by assumption)
    · cases this
  · have := h7 y hy
    rw [e] at this
    cases this
theorem srel_start {F H : Hp} {vs : List V} {ts : List T} {n : Nat} (tl : TrL W F vs ts) : SRel W F H H (fun _ => 0) (vs.map some ++ List.replicate (n - vs.length) none) (ts.map .val ++ List.replicate (n - ts.length) .un) := by
  have hl := tl.length
  have own : ∀ (i : Nat) us, (ts.map Sl.val ++ List.replicate (n - ts.length) Sl.un)[i]? = some (.own us) → False := fun i us e => by
    by_cases hi : i < ts.length
    · rw [List.getElem?_append_left (by simpa using hi), List.getElem?_map] at e
      cases q : ts[i]? with
      | none => rw [q] at e; cases e
      | some t => rw [q] at e; cases e
    · rw [List.getElem?_append_right (by simpa using hi), List.getElem?_replicate] at e
      split at e <;> cases e
  refine ⟨by simp [hl], fun i t e => ?_, fun i us e => (own i us e).elim, fun i j us ws _ e => (own i us e).elim⟩
  by_cases hi : i < ts.length
  · rw [List.getElem?_append_left (by simpa using hi), List.getElem?_map] at e
    cases q : ts[i]? with
    | none => rw [q] at e; cases e
    | some t' =>
      rw [q] at e
      cases e
      obtain ⟨v, h1, h2⟩ := tl.get q
      refine ⟨v, ?_, h2⟩
      rw [List.getElem?_append_left (by simp; omega), List.getElem?_map, h1]
      rfl
  · rw [List.getElem?_append_right (by simpa using hi), List.getElem?_replicate] at e
    split at e <;> cases e
/-- THE RULE for a def -/
theorem fn_snd {P : Program} {w : World} {mg : Str → Option Value} {base : Heap} {f : Nat} {x qual : Str} {st : Stmt} {a : Addr} {fd : FuncData} {N : List Str} {body : Ss} (Fu : Fun W.K x qual st a fd) (hs : fnsB N (pars f) (defScope st) = true)
    (hc : chkSs G body ⟨N, defScope st, fun _ => true⟩ (defBody st) = true) (fns : Fns P w W.K mg base W G pars k call)
    (con : ∀ x t, G.con.lookup x = some t → ∃ v u, (mg x = some u ∨ (mg x = none ∧ bootBuiltins x = some u ∧ x ≠ "__name__")) ∧ RelV v u ∧ ∀ F, Tr W F v t) (bi : ∀ x, mg (biName x) = none) (rng : mg "range" = none ∧ mg "zip" = none ∧ mg "enumerate" = none) :
    FnOk P w W.K mg base CX0 (k + 1) a fd (pars f) (spF W (pars f).length (runF call pars N.length body)) := by
  have S := fnsB_of hs
  refine Fu.ok S (fun vs H Q E h => let ⟨_, _, _, _, _, h, _⟩ := h; h) fun cdv A outer s H vs Q E hr h => ?_
  obtain ⟨F, b, ts, t, b', hl, st0, tl, ev, q⟩ := h
  refine ⟨_, sndSs (W := W) (G := G) (pars := pars) (k := k) (call := call) body (Γ := ⟨N, defScope st, fun _ => true⟩) ⟨rfl, rfl, S.nd, rfl, rfl, rfl, rfl, hr, con, bi, rng, fns⟩ hc, ?_⟩
  obtain ⟨o, b1, e1, ea⟩ := bind_some (show Ev.bind _ _ b = some (t, b') from ev)
  refine ⟨F, H, F, fun _ => 0, ts.map .val ++ List.replicate (N.length - ts.length) .un, b, o, b1, ⟨Grow.refl _ _, Keep.refl _ _, st0⟩, srel_start tl, e1, ?_⟩
  cases o with
  | ret u =>
    cases (show some (u, b1) = some (t, b') from ea)
    exact fun v F' H' bd tr => q v F' H' ⟨bd.grow, bd.keep, bd.sta, tr⟩
  | nx s1 =>
    cases (show some (T.non, b1) = some (t, b') from ea)
    exact fun F' H' P' σ' bd sr => q .non F' H' ⟨bd.grow, bd.keep, bd.sta, .non⟩
  | bk s1 => cases ea
  | ct s1 => cases ea
end
end DI

set_option Elab.async false
set_option linter.all false
set_option maxRecDepth 100000
set_option maxHeartbeats 8000000
namespace DI
open PySem L2

/-! ### a table of defs -/
structure FnD where
  name : Str
  ps : List Str
  N : List Str
  body : Ss
def parsT (tab : List FnD) (f : Nat) : List Str := match tab[f]? with
  | some d => d.ps
  | none => []
def callI (tab : List FnD) : Nat → Nat → List T → Ev T
  | 0, _, _ => Ev.no
  | k + 1, f, ts => match tab[f]? with
    | some d => if ts.length = d.ps.length then runF (callI tab k) (parsT tab) d.N.length d.body ts else Ev.no
    | none => Ev.no
def gmT (tab : List FnD) (con : List (Str × T)) (kw : List (Nat × List Str)) : Gm := ⟨con, fun f => (tab[f]?).map (·.name), kw⟩
/-- what the top has to say of a def -/
structure DefAt (K : PySem.W.Frag) (mg : Str → Option Value) (tab : List FnD) (con : List (Str × T)) (kw : List (Nat × List Str)) (f : Nat) (d : FnD) : Prop where
  ex : ∃ a fd st qual, Fun K d.name qual st a fd ∧ fnsB d.N d.ps (defScope st) = true ∧ chkSs (gmT tab con kw) d.body ⟨d.N, defScope st, fun _ => true⟩ (defBody st) = true ∧ mg d.name = some (.ref a) ∧ Binds K fd d.ps [] ∧
    ∀ ks, (f, ks) ∈ kw → ∀ (s : Shared) (ws : List Value), K.In s.heap → ws.length = ks.length → BindsTo s fd ⟨[], ks.zip ws⟩ (d.ps.zip (permG d.ps ks ws))
structure ModAt (K : PySem.W.Frag) (mg : Str → Option Value) (con : List (Str × T)) : Prop where
  con : ∀ x t, con.lookup x = some t → ∃ v u, (mg x = some u ∨ (mg x = none ∧ bootBuiltins x = some u ∧ x ≠ "__name__")) ∧ RelV v u ∧ ∀ (W : Wd) F, Tr W F v t
  bi : ∀ x, mg (biName x) = none
  rng : mg "range" = none ∧ mg "zip" = none ∧ mg "enumerate" = none
theorem fns_all {P : Program} {w : World} {mg : Str → Option Value} {base : Heap} {W : Wd} {tab : List FnD} {con : List (Str × T)} {kw : List (Nat × List Str)} (M : ModAt W.K mg con) (D : ∀ f d, tab[f]? = some d → DefAt W.K mg tab con kw f d) :
    ∀ k, Fns P w W.K mg base W (gmT tab con kw) (parsT tab) k (callI tab k)
  | 0 => ⟨fun f ts b r h => (nomatch h), fun f x hf => by
      simp only [gmT, Option.map_eq_some_iff] at hf
      obtain ⟨d, hd, rfl⟩ := hf
      obtain ⟨a, fd, st, qual, Fu, _, _, hm, hb, hk⟩ := (D f d hd).ex
      have ep : parsT tab f = d.ps := by unfold parsT; rw [hd]
      refine ⟨a, fd, ⟨fun vs H Q E h => let ⟨_, _, _, _, _, h, _⟩ := h; h, fun A outer s H args us vs Q E hr he hb hv h => ?_⟩, hm, Fu.kp, by rw [ep]; exact hb, fun ks hks s ws hK hl => by rw [ep]; exact hk ks hks s ws hK hl⟩
      obtain ⟨_, _, _, _, _, _, _, _, h, _⟩ := h
      exact (nomatch h)⟩
  | k + 1 => by
    have ih := fns_all (P := P) (w := w) (base := base) M D k
    refine ⟨fun f ts b r h => ?_, fun f x hf => ?_⟩
    · unfold callI at h
      unfold parsT
      cases hd : tab[f]? with
      | none => rw [hd] at h; cases h
      | some d =>
        rw [hd] at h
        simp only at h
        split at h
        · assumption
        · cases h
    · simp only [gmT, Option.map_eq_some_iff] at hf
      obtain ⟨d, hd, rfl⟩ := hf
      obtain ⟨a, fd, st, qual, Fu, h1, h2, hm, hb, hk⟩ := (D f d hd).ex
      have ep : parsT tab f = d.ps := by unfold parsT; rw [hd]
      have ok := fn_snd (W := W) (G := gmT tab con kw) (pars := parsT tab) (k := k) (call := callI tab k) (P := P) (w := w) (mg := mg) (base := base) (f := f) (N := d.N) (body := d.body) Fu (by rw [ep]; exact h1) h2 ih (fun x t h => let ⟨v, u, h1, h2, h3⟩ := M.con x t h; ⟨v, u, h1, h2, h3 W⟩) M.bi M.rng
      refine ⟨a, fd, FnOk.imp ok fun vs H Q E h => ?_, hm, Fu.kp, by rw [ep]; exact hb, fun ks hks s ws hK hl => by rw [ep]; exact hk ks hks s ws hK hl⟩
      obtain ⟨F, b, ts, t, b', hl, st, tl, e, q⟩ := h
      refine ⟨F, b, ts, t, b', hl, st, tl, ?_, q⟩
      have e : callI tab (k + 1) f ts b = some (t, b') := e
      unfold callI at e
      rw [hd] at e
      simp only at e
      split at e
      · exact e
      · cases e

/-! ### the bag's making, the law -/
/-- the bag that a script makes -/
def bag0 (ns : List Int) : Bag := ⟨ns, 0, 0, 12030 + 31 * ns.length, 0⟩
def spBag (K : PySem.W.Frag) : Sp := fun vs H Q _ => ∃ (a : Addr) (ns : List Int), vs = [.ref a] ∧ SqL K H a (ns.map V.int) ∧ ns.length ≤ 63 ∧
  ∀ (B c : Addr) (H' : Hp), B ≠ c → H' B = some (.lst [.ref c, .int 0, .int 0, .int (12030 + 31 * ns.length), .int 0]) → H' c = some (.lst (ns.map V.int)) → Q (.ref B) H'
def spLaw (K : PySem.W.Frag) : Sp := fun vs H Q _ => ∃ (a : Addr) (ns : List Int), vs = [.ref a] ∧ SqL K H a (ns.map V.int) ∧ ns.length ≤ 63 ∧ ∀ H', Q (.bl true) H'
section
variable {P : Program} {w : World} {K : PySem.W.Frag} {mg : Str → Option Value} {base : Heap}
/-- _law_bag -/
theorem ok_bag {qual : Str} {st : Stmt} {f : Addr} {fd : FuncData} {p1 p2 p3 p4 p5 p6 p7 p8 p9 p10 p11 p12 p13 p14 p15 p16 p17 p18 p19 p20 p21 : Pos} {j1 j2 j3 j4 j5 j6 : Nat} (Fu : Fun K "_law_bag" qual st f fd)
    (hs : fnsB ["_law_script", "_law_cells"] ["_law_script"] (defScope st) = true)
    (hb : defBody st = [.Assign [.Name "_law_cells" p1] (.Call (.Name "list" p2) [.Subscript (.Name "_law_script" p3) (.Slice none (some (.Constant (.int 63) j1 p4)) none p5) p6] [] p7) p8,
      .Return (some (.List [.Name "_law_cells" p9, .Constant (.int 0) j2 p10, .Constant (.int 0) j3 p11, .BinOp (.Constant (.int 12030) j4 p12) .Add (.BinOp (.Constant (.int 31) j5 p13) .Mult (.Call (.Name "len" p14) [.Name "_law_cells" p15] [] p16) p17) p18, .Constant (.int 0) j6 p19] p20)) p21])
    (hg : (defScope st).names.lookup ("list" : Str) = some .globalImplicit ∧ (defScope st).names.lookup ("len" : Str) = some .globalImplicit ∧ (defScope st).names.lookup ("_law_cells" : Str) = some .local ∧ (defScope st).names.lookup ("_law_script" : Str) = some .local) (hl : mg "list" = none) (hn : mg "len" = none) :
    FnOk P w K mg base CX0 1 f fd ["_law_script"] (spBag K) := by
  have S := fnsB_of hs
  obtain ⟨g1, g2, g3, g4⟩ := hg
  refine Fu.ok S (fun vs H Q E h => ?_) (fun cdv A outer s H vs Q E hr h => ?_)
  · obtain ⟨a, ns, rfl, _⟩ := h
    rfl
  · obtain ⟨a, ns, rfl, hS, hlen, q⟩ := h
    rw [hb]
    refine ⟨_, pss_cons (ps_set (i := 1) S.nd rfl (.inl g3) (pe_callTy call_list_of g1 hl PyProof.Rows.boot_list (pa_cons (pe_slice sl_list (pe_var (i := 0) rfl (.inl g4)) po_none (po_some pe_int)) pa_nil)))
      (pss_one (ps_ret (pe_lst (pa_cons (pe_var (i := 1) rfl (.inl g3)) (pa_cons pe_int (pa_cons pe_int (pa_cons (pe_op op_add pe_int (pe_op op_mul pe_int (pe_callB call_len_seq g2 hn PySem.boot_len (pa_cons (pe_var (i := 1) rfl (.inl g3)) pa_nil)))) (pa_cons pe_int pa_nil)))))))), ?_⟩
    refine ⟨_, rfl, 63, rfl, a, _, rfl, hS, fun p hp => ?_⟩
    have ec : cutV (ns.map V.int) none (some 63) = ns.map V.int := by
      unfold cutV
      rw [HT.sIx_none, List.length_map]
      have : HT.sIx ns.length ns.length (some 63) = ns.length := by
        show (if (63 : Int) < 0 then ((63 : Int) + (ns.length : Int)).toNat else min (63 : Int).toNat ns.length) = ns.length
        rw [if_neg (by decide)]
        show min 63 ns.length = ns.length
        omega
      rw [this, List.drop_zero, Nat.sub_zero]
      exact List.take_of_length_le (by rw [List.length_map]; exact Nat.le_refl _)
    rw [ec]
    refine ⟨p, _, rfl, .inl (SqL.of upd_same), fun l hl' => ?_⟩
    refine ⟨_, rfl, _, rfl, l, _, rfl, .inl (SqL.of upd_same), _, _, rfl, rfl, .inl ⟨by decide, by decide⟩, _, _, rfl, rfl, ?_⟩
    refine ⟨by show 5 ≤ sizeLine; decide, fun B hB => ?_⟩
    have hne : l ≠ B := fun e => by subst e; rw [upd_same] at hB; cases hB
    refine q B l _ (Ne.symm hne) ?_ ?_
    · rw [upd_same]
      simp
    · rw [upd_ne hne, upd_same]
/-- law: the bag, then the rest -/
theorem ok_law {tab : List FnD} {con : List (Str × T)} {kw : List (Nat × List Str)} {k : Nat} {N : List Str} {body : Ss} {qual : Str} {st : Stmt} {f fB : Addr} {fd fdB : FuncData} {p1 p2 p3 p4 p5 : Pos} {rest : List Stmt} (M : ModAt K mg con) (D : ∀ f d, tab[f]? = some d → DefAt K mg tab con kw f d) (Fu : Fun K "law" qual st f fd)
    (hs : fnsB N ["_law_script"] (defScope st) = true) (hN : N[0]? = some ("_law_script" : Str) ∧ N[1]? = some ("_law_bag_here" : Str))
    (hb : defBody st = .Assign [.Name "_law_bag_here" p1] (.Call (.Name "_law_bag" p2) [.Name "_law_script" p3] [] p4) p5 :: rest)
    (hc : chkSs (gmT tab con kw) body ⟨N, defScope st, fun _ => true⟩ rest = true)
    (hg : (defScope st).names.lookup ("_law_bag" : Str) = some .globalImplicit) (hv : visB ((defScope st).names.lookup ("_law_script" : Str)) = true) (hv2 : locB ⟨N, defScope st, fun _ => true⟩ "_law_bag_here" = true)
    (GB : FnOk P w K mg base CX0 1 fB fdB ["_law_script"] (spBag K)) (hm : mg "_law_bag" = some (.ref fB)) (hkB : PySem.W.keepIn K (.ref fB) = true) (bB : Binds K fdB ["_law_script"] [])
    (law : ∀ ns : List Int, ns.length ≤ 63 → ∃ b', exs (callI tab (k + 1)) (parsT tab) body (.un :: .val .bag :: List.replicate (N.length - 2) .un) (bag0 ns) = some (.ret (.bl true), b')) :
    FnOk P w K mg base CX0 (k + 2) f fd ["_law_script"] (spLaw K) := by
  have S := fnsB_of hs
  refine Fu.ok S (fun vs H Q E h => ?_) (fun cdv A outer s H vs Q E hr h => ?_)
  · obtain ⟨a, ns, rfl, _⟩ := h
    rfl
  · obtain ⟨a, ns, rfl, hS, hlen, q⟩ := h
    rw [hb]
    have cx : ∀ (B c : Addr), CxI (cxOf CX0 P w K mg base N qual (defScope st) f cdv A outer s H E).nox ⟨K, B, c, fun _ => none⟩ (gmT tab con kw) (parsT tab) (k + 1) (callI tab (k + 1)) ⟨N, defScope st, fun _ => true⟩ := fun B c =>
      ⟨rfl, rfl, S.nd, rfl, rfl, rfl, rfl, hr, fun x t h => let ⟨v, u, h1, h2, h3⟩ := M.con x t h; ⟨v, u, h1, h2, h3 _⟩, M.bi, M.rng, fns_all (W := ⟨K, B, c, fun _ => none⟩) M D (k + 1)⟩
    have rst : PSs (cxOf CX0 P w K mg base N qual (defScope st) f cdv A outer s H E).nox rest (fun D σ H => ∃ B c, rdS ⟨K, B, c, fun _ => none⟩ (exs (callI tab (k + 1)) (parsT tab) body) D σ H) :=
      ⟨fun pins s σ H D I ⟨B, c, h⟩ => (sndSs body (cx B c) hc).run pins s σ H D I h⟩
    have vs0 : Vis (defScope st) "_law_script" := by
      unfold visB at hv
      split at hv
      · exact .inl (by assumption)
      · exact .inr (.inl (by assumption))
      · exact .inr (.inr (by assumption))
      · cases hv
    obtain ⟨l1, l2⟩ := locB_of (cx 0 0) hv2
    refine ⟨_, pss_cons (ps_set (i := 1) S.nd hN.2 l1 (pe_call (E := E0) (dvs := []) GB (hr.mono (Nat.succ_le_succ (Nat.zero_le _))) hg hm hkB bB .nil pass0 (pa_cons (pe_var (i := 0) hN.1 vs0 (by decide) (by decide)) pa_nil)) rfl l2) rst, ?_⟩
    have hlN : 2 ≤ N.length := (List.getElem?_eq_some_iff.mp hN.2).1
    have e0 : (start N [V.ref a])[0]? = some (some (.ref a)) := rfl
    refine ⟨_, e0, a, ns, rfl, hS, hlen, fun B c H' hBc hB hc' => ?_⟩
    obtain ⟨b', ev⟩ := law ns hlen
    refine ⟨B, c, fun _ => none, fun _ => none, fun _ => none, fun _ => 0, _, bag0 ns, _, b', ⟨Grow.refl _ _, fun a o h _ => (nomatch h), ⟨fun a o h => (nomatch h), rfl, rfl, hB, hc', hBc⟩⟩, ?_, ev, ?_⟩
    · have hst : start N [V.ref a] = some (.ref a) :: List.replicate (N.length - 1) none := rfl
      have hst2 : (start N [V.ref a]).set 1 (some (.ref B)) = some (.ref a) :: some (.ref B) :: List.replicate (N.length - 2) none := by
        rw [hst]
        have : N.length - 1 = (N.length - 2) + 1 := by omega
        rw [this, List.replicate_succ]
        rfl
      rw [hst2]
      refine ⟨by simp, fun i t e => ?_, fun i ts e => ?_, fun i j ts us _ e => ?_⟩
      · match i, e with
        | 0, e => cases e
        | 1, e => cases e; exact ⟨_, rfl, .bag⟩
        | i + 2, e =>
          simp only [List.getElem?_cons_succ, List.getElem?_replicate] at e
          split at e <;> cases e
      · match i, e with
        | 0, e => cases e
        | 1, e => cases e
        | i + 2, e =>
          simp only [List.getElem?_cons_succ, List.getElem?_replicate] at e
          split at e <;> cases e
      · match i, e with
        | 0, e => cases e
        | 1, e => cases e
        | i + 2, e =>
          simp only [List.getElem?_cons_succ, List.getElem?_replicate] at e
          split at e <;> cases e
    · intro v F' H'' bd tr
      cases tr
      exact q H''
end
end DI

set_option Elab.async false
set_option linter.all false
set_option maxRecDepth 100000
set_option maxHeartbeats 8000000
namespace DI
open PySem L2

/-! ### what runs through -/
def BagOk (b : Bag) : Prop := 0 ≤ b.i ∧ b.i ≤ b.cells.length ∧ 0 ≤ b.j ∧ 0 ≤ b.s ∧ b.s < 2147483323
/-- m runs through from b, and Q holds of what it gives -/
def Ok {α : Type} (m : Ev α) (b : Bag) (Q : α → Bag → Prop) : Prop := ∃ a b', m b = some (a, b') ∧ Q a b'
section
variable {α β : Type} {b : Bag} {Q : α → Bag → Prop}
theorem Ok.bind {m : Ev β} {f : β → Ev α} (h : Ok m b fun x b1 => Ok (f x) b1 Q) : Ok (Ev.bind m f) b Q := by
  obtain ⟨x, b1, e1, y, b2, e2, q⟩ := h
  exact ⟨y, b2, by unfold Ev.bind; rw [e1]; exact e2, q⟩
theorem Ok.pure {a : α} (h : Q a b) : Ok (Ev.pure a) b Q := ⟨a, b, rfl, h⟩
theorem Ok.of {o : Option α} {a : α} (e : o = some a) (h : Q a b) : Ok (Ev.of o) b Q := ⟨a, b, by unfold Ev.of; rw [e], h⟩
theorem Ok.mono {m : Ev α} {R : α → Bag → Prop} (h : Ok m b R) (k : ∀ a b', R a b' → Q a b') : Ok m b Q := by
  obtain ⟨a, b', e, r⟩ := h
  exact ⟨a, b', e, k a b' r⟩
theorem Ok.eq {m : Ev α} {a : α} {b' : Bag} (e : m b = some (a, b')) (h : Q a b') : Ok m b Q := ⟨a, b', e, h⟩
end
theorem mul_right {i j : Int} (h : j.natAbs < 2 ^ 64) : mulOk i j = true := by
  unfold mulOk
  rw [decide_eq_true h]
  simp
theorem mul_left {i j : Int} (h : i.natAbs < 2 ^ 64) : mulOk i j = true := by
  unfold mulOk
  rw [decide_eq_true h]
  simp
/-- the drawing -/
def drawB : Ss := (.cons (.bset 0 4 (.bin .Add (.bget (.var 0) 4) (.con (.int 1))))
    (.cons (.ite [] (.and (.tr (.cmp .Eq (.bget (.var 0) 2) (.con (.int 0)))) (.tr (.cmp .Lt (.bget (.var 0) 1) (.blen (.var 0))))) (.cons (.asg 3 [] (.blt .abs (.cons (.bcell (.var 0)) .nil)))
    (.cons (.bset 0 1 (.bin .Add (.bget (.var 0) 1) (.con (.int 1))))
    (.cons (.ite [] (.tr (.cmp .GtE (.var 3) (.bin .Pow (.con (.int 10)) (.con (.int 18))))) (.cons (.bset 0 2 (.var 3))
    .nil) (.cons (.bset 0 3 (.bin .Mod (.blt .int (.cons (.bin .Add (.bin .Add (.bin .Mult (.bget (.var 0) 3) (.con (.int 40993))) (.bin .Mult (.bin .Mod (.blt .int (.cons (.var 3) .nil)) (.con (.int 2147483111))) (.con (.int 769)))) (.con (.int 41))) .nil)) (.con (.int 2147483323))))
    .nil))
    .nil))) .nil)
    (.cons (.ite [] (.tr (.cmp .Gt (.bget (.var 0) 2) (.con (.int 0)))) (.cons (.asg 4 [] (.bin .Mod (.blt .int (.cons (.bget (.var 0) 2) .nil)) (.var 1)))
    (.cons (.bset 0 2 (.bin .FloorDiv (.bget (.var 0) 2) (.var 1)))
    (.cons (.ret [] (.var 4))
    .nil))) .nil)
    (.cons (.asg 2 [] (.bget (.var 0) 3))
    (.cons (.bset 0 3 (.bin .Mod (.blt .int (.cons (.bin .Add (.bin .Add (.bin .Add (.bin .Pow (.var 2) (.con (.int 3))) (.bin .Mult (.var 2) (.con (.int 27611)))) (.bin .Mult (.bget (.var 0) 4) (.con (.int 1299709)))) (.con (.int 52361))) .nil)) (.con (.int 2147483323))))
    (.cons (.ret [] (.bin .Mod (.blt .int (.cons (.bin .Add (.bin .FloorDiv (.bget (.var 0) 3) (.con (.int 67))) (.bin .Mult (.bin .Mod (.blt .int (.cons (.bget (.var 0) 3) .nil)) (.con (.int 7919))) (.con (.int 53)))) .nil)) (.var 1)))
    .nil))))))
section
variable {call : Nat → List T → Ev T} {pars : Nat → List Str}
theorem seq_nx {s : S} {r : Ss} {ss : List Sl} {b : Bag} {Q : Out → Bag → Prop} (h : Ok (ex call pars s ss) b fun o b1 => match o with
    | .nx s1 => Ok (exs call pars r s1) b1 Q
    | o => Q o b1) : Ok (exs call pars (.cons s r) ss) b Q := by
  refine Ok.bind (h.mono fun o b1 q => ?_)
  cases o with
  | nx s1 => exact q
  | ret t => exact Ok.pure q
  | bk s1 => exact Ok.pure q
  | ct s1 => exact Ok.pure q
end
end DI

set_option Elab.async false
set_option linter.all false
set_option maxRecDepth 100000
set_option maxHeartbeats 8000000
namespace DI
open PySem L2
@[simp] theorem eqT_int (i j : Int) : eqT (.int i) (.int j) = some (decide (i = j)) := by
  show some (decide (V.int i = V.int j)) = _
  rw [dec_int, Bool.beq_eq_decide_eq]
@[simp] theorem eqT_bl (i j : Bool) : eqT (.bl i) (.bl j) = some (decide (i = j)) := by
  cases i <;> cases j <;> rfl
@[simp] theorem eqT_str (i j : Str) : eqT (.str i) (.str j) = some (decide (i = j)) := by
  show some (decide (V.str i = V.str j)) = _
  congr 1
  exact decide_eq_decide.mpr ⟨fun h => V.str.inj h, fun h => by rw [h]⟩
@[simp] theorem truT_bl (b : Bool) : truT (.bl b) = some b := rfl
@[simp] theorem cmpT_eq (x y : T) : cmpT .Eq x y = (eqT x y).map .bl := rfl
@[simp] theorem cmpT_ne (x y : T) : cmpT .NotEq x y = (eqT x y).map fun b => .bl (!b) := rfl
@[simp] theorem cmpT_in (x y : T) : cmpT .In x y = (inT x y).map .bl := rfl
@[simp] theorem cmpT_notin (x y : T) : cmpT .NotIn x y = (inT x y).map fun b => .bl (!b) := rfl
@[simp] theorem cmpT_lt (i j : Int) : cmpT .Lt (.int i) (.int j) = some (.bl (decide (i < j))) := rfl
@[simp] theorem cmpT_ltS (i j : Str) : cmpT .Lt (.str i) (.str j) = some (.bl (ltS i j)) := rfl
@[simp] theorem cmpT_le (i j : Int) : cmpT .LtE (.int i) (.int j) = some (.bl (decide (i ≤ j))) := rfl
@[simp] theorem cmpT_gt (i j : Int) : cmpT .Gt (.int i) (.int j) = some (.bl (decide (j < i))) := rfl
@[simp] theorem cmpT_ge (i j : Int) : cmpT .GtE (.int i) (.int j) = some (.bl (decide (j ≤ i))) := rfl
@[simp] theorem binT_add (x y : T) : binT .Add x y = addT x y := rfl
@[simp] theorem addT_int (i j : Int) : addT (.int i) (.int j) = some (.int (i + j)) := rfl
@[simp] theorem binT_sub (i j : Int) : binT .Sub (.int i) (.int j) = some (.int (i - j)) := rfl
@[simp] theorem binT_mul (x y : T) : binT .Mult x y = mulT x y := rfl
@[simp] theorem mulT_int (i j : Int) : mulT (.int i) (.int j) = if mulOk i j then some (.int (i * j)) else none := rfl
@[simp] theorem binT_mod (i j : Int) : binT .Mod (.int i) (.int j) = if 0 < j then some (.int (i % j)) else none := rfl
@[simp] theorem binT_div (i j : Int) : binT .FloorDiv (.int i) (.int j) = if 0 < j ∧ wide j then some (.int (i / j)) else none := rfl
@[simp] theorem binT_pow (i j : Int) : binT .Pow (.int i) (.int j) = if 0 ≤ j ∧ j ≤ 1000 ∧ i.natAbs < 2 ^ 64 then some (.int (i ^ j.toNat)) else none := rfl
@[simp] theorem blt_int (i : Int) : bltT .int [.int i] = some (.int i) := rfl
@[simp] theorem blt_abs (i : Int) : bltT .abs [.int i] = some (.int (if i < 0 then -i else i)) := rfl
@[simp] theorem blt_len_str (s : Str) : bltT .len [.str s] = some (.int s.length) := rfl
@[simp] theorem blt_len_lst (s : List T) : bltT .len [.lst s] = some (.int s.length) := rfl
@[simp] theorem blt_len_tup (s : List T) : bltT .len [.tup s] = some (.int s.length) := rfl
@[simp] theorem blt_isi (x c : T) : bltT .isi [x, c] = (isiT x c).map .bl := rfl
section
variable {call : Nat → List T → Ev T} {pars : Nat → List Str}
theorem draw_pos (b : Bag) (m : Int) (hj : 0 < b.j) (hm : 0 < m) (hw : wide m = true) : runF call pars 5 drawB [.bag, .int m] b = some (.int (b.j % m), { b with n := b.n + 1, j := b.j / m }) := by
  have h0 : ¬ b.j = 0 := by omega
  simp [runF, drawB, exs, ex, evX, evC, viewA, evE, evT, evEs, Ev.bind, Ev.pure, Ev.of, bagE, Bag.get, Bag.put, bagW, bagSet, frz, h0, hj, hm, hw]
/-- the seed's turn -/
def seedN (b : Bag) : Int := (b.s ^ 3 + b.s * 27611 + b.n * 1299709 + 52361) % 2147483323
theorem draw_seed (b : Bag) (m : Int) (ok : BagOk b) (hj : b.j = 0) (hi : b.i = b.cells.length) (hm : 0 < m) :
    ∃ d s', runF call pars 5 drawB [.bag, .int m] b = some (.int (d % m), { b with n := b.n + 1, s := s' }) ∧ 0 ≤ s' ∧ s' < 2147483323 := by
  obtain ⟨h1, h2, h3, h4, h5⟩ := ok
  have hs : b.s.natAbs < 18446744073709551616 := by omega
  have m1 : mulOk b.s 27611 = true := mul_right (by decide)
  have m2 : mulOk (b.n + 1) 1299709 = true := mul_right (by decide)
  have m3 : ∀ x : Int, mulOk x 53 = true := fun x => mul_right (by decide)
  have w67 : wide 67 = true := by decide +kernel
  refine ⟨(b.s ^ 3 + b.s * 27611 + (b.n + 1) * 1299709 + 52361) % 2147483323 / 67 + (b.s ^ 3 + b.s * 27611 + (b.n + 1) * 1299709 + 52361) % 2147483323 % 7919 * 53, (b.s ^ 3 + b.s * 27611 + (b.n + 1) * 1299709 + 52361) % 2147483323, ?_, by omega, by omega⟩
  simp [runF, drawB, exs, ex, evX, evC, viewA, evE, evT, evEs, Ev.bind, Ev.pure, Ev.of, bagE, Bag.get, Bag.put, bagW, bagSet, frz, hj, hi, hm, hs, m1, m2, m3, w67]
theorem atI_in {α : Type} {xs : List α} {i : Int} (h0 : 0 ≤ i) (h1 : i < xs.length) : ∃ v, atI xs i = some v ∧ v ∈ xs := by
  have hl : i.toNat < xs.length := by omega
  refine ⟨xs[i.toNat], ?_, List.getElem_mem hl⟩
  unfold atI ixN
  rw [if_pos h0, if_pos h1]
  show xs[i.toNat]? = _
  simp [hl]
theorem draw_cell (b : Bag) (m : Int) (ok : BagOk b) (hj : b.j = 0) (hi : b.i < b.cells.length) (hm : 0 < m) (hw : wide m = true) :
    Ok (runF call pars 5 drawB [.bag, .int m]) b fun t b' => BagOk b' ∧ ∃ d, t = .int d ∧ 0 ≤ d ∧ d < m := by
  obtain ⟨h1, h2, h3, h4, h5⟩ := ok
  obtain ⟨v, ev, _⟩ := atI_in h1 hi
  have hs : b.s.natAbs < 18446744073709551616 := by omega
  have m1 : ∀ x : Int, mulOk x 27611 = true := fun x => mul_right (by decide)
  have m2 : ∀ x : Int, mulOk x 1299709 = true := fun x => mul_right (by decide)
  have m3 : ∀ x : Int, mulOk x 53 = true := fun x => mul_right (by decide)
  have m4 : ∀ x : Int, mulOk x 40993 = true := fun x => mul_right (by decide)
  have m5 : ∀ x : Int, mulOk x 769 = true := fun x => mul_right (by decide)
  have w67 : wide 67 = true := by decide +kernel
  generalize hv : (if v < 0 then -v else v) = c
  have hc : 0 ≤ c := by rw [← hv]; split <;> omega
  by_cases hbig : 1000000000000000000 ≤ c
  · have hp : 0 < c := by omega
    refine Ok.eq (a := .int (c % m)) (b' := { b with n := b.n + 1, i := b.i + 1, j := c / m }) ?_ ⟨⟨by show 0 ≤ b.i + 1; omega, by show b.i + 1 ≤ (b.cells.length : Int); omega, by show 0 ≤ c / m; exact Int.ediv_nonneg hc (by omega), h4, h5⟩, _, rfl, Int.emod_nonneg _ (by omega), Int.emod_lt_of_pos _ hm⟩
    simp [runF, drawB, exs, ex, evX, evC, viewA, evE, evT, evEs, Ev.bind, Ev.pure, Ev.of, bagE, Bag.get, Bag.put, bagW, bagSet, frz, hj, hi, hm, hw, ev, hv, hbig, hp]
  · have hbig' : ¬ 1000000000000000000 ≤ c := hbig
    generalize hs1 : (b.s * 40993 + c % 2147483111 * 769 + 41) % 2147483323 = s1
    have hs1' : 0 ≤ s1 ∧ s1 < 2147483323 := by rw [← hs1]; omega
    have hs2 : s1.natAbs < 18446744073709551616 := by omega
    generalize hs3 : (s1 ^ 3 + s1 * 27611 + (b.n + 1) * 1299709 + 52361) % 2147483323 = s2
    have hs3' : 0 ≤ s2 ∧ s2 < 2147483323 := by rw [← hs3]; omega
    refine Ok.eq (a := .int ((s2 / 67 + s2 % 7919 * 53) % m)) (b' := { b with n := b.n + 1, i := b.i + 1, s := s2 }) ?_ ⟨⟨by show 0 ≤ b.i + 1; omega, by show b.i + 1 ≤ (b.cells.length : Int); omega, h3, hs3'.1, hs3'.2⟩, _, rfl, Int.emod_nonneg _ (by omega), Int.emod_lt_of_pos _ hm⟩
    simp [runF, drawB, exs, ex, evX, evC, viewA, evE, evT, evEs, Ev.bind, Ev.pure, Ev.of, bagE, Bag.get, Bag.put, bagW, bagSet, frz, hj, hi, hm, hw, ev, hv, hbig', m1, m2, m3, m4, m5, w67, hs1, hs2, hs3]
/-- THE DRAW: some number below m, the bag as good as before -/
theorem draw_ok (b : Bag) (m : Int) (ok : BagOk b) (hm : 0 < m) (hw : wide m = true) : Ok (runF call pars 5 drawB [.bag, .int m]) b fun t b' => BagOk b' ∧ ∃ d, t = .int d ∧ 0 ≤ d ∧ d < m := by
  by_cases hj : b.j = 0
  · by_cases hi : b.i < b.cells.length
    · exact draw_cell b m ok hj hi hm hw
    · obtain ⟨h1, h2, h3, h4, h5⟩ := id ok
      obtain ⟨d, s', e, a1, a2⟩ := draw_seed (call := call) (pars := pars) b m ok hj (by omega) hm
      exact Ok.eq e ⟨⟨h1, h2, h3, a1, a2⟩, _, rfl, Int.emod_nonneg _ (by omega), Int.emod_lt_of_pos _ hm⟩
  · obtain ⟨h1, h2, h3, h4, h5⟩ := id ok
    exact Ok.eq (draw_pos b m (by omega) hm hw) ⟨⟨h1, h2, Int.ediv_nonneg h3 (by omega), h4, h5⟩, _, rfl, Int.emod_nonneg _ (by omega), Int.emod_lt_of_pos _ hm⟩
theorem bag0_ok (ns : List Int) (h : ns.length ≤ 63) : BagOk (bag0 ns) := by
  refine ⟨Int.le_refl _, ?_, Int.le_refl _, ?_, ?_⟩
  · show (0 : Int) ≤ ns.length; omega
  · show (0 : Int) ≤ 12030 + 31 * ns.length; omega
  · show (12030 + 31 * ns.length : Int) < 2147483323; omega
end
end DI

set_option Elab.async false
set_option linter.all false
set_option maxRecDepth 100000
set_option maxHeartbeats 8000000
namespace DI
open PySem L2

/-! ### comprehensions -/
theorem lcE_map {i : Nat} {ρ : View} {f : View → Ev (Option T)} {g : T → T} {b : Bag} (hi : i < ρ.length) : ∀ {items : List T}, (∀ t ∈ items, f (ρ.set i (some t)) b = some (some (g t), b)) → lcE (.name i) ρ f items b = some (items.map g, b)
  | [], _ => rfl
  | t :: r, h => by
    have h1 := h t (by simp)
    have ih := lcE_map hi (items := r) fun t ht => h t (by simp [ht])
    simp only [lcE, Ev.bind, Ev.of, tgV, if_pos hi, h1, ih, Ev.pure, consO, List.map_cons]
theorem lcE_filter {i : Nat} {ρ : View} {f : View → Ev (Option T)} {p : T → Bool} {b : Bag} (hi : i < ρ.length) : ∀ {items : List T}, (∀ t ∈ items, f (ρ.set i (some t)) b = some (if p t then some t else none, b)) → lcE (.name i) ρ f items b = some (items.filter p, b)
  | [], _ => rfl
  | t :: r, h => by
    have h1 := h t (by simp)
    have ih := lcE_filter hi (items := r) fun t ht => h t (by simp [ht])
    cases hp : p t with
    | true =>
      rw [hp] at h1
      simp [lcE, Ev.bind, Ev.of, tgV, hi, h1, ih, Ev.pure, consO, List.filter_cons, hp]
    | false =>
      rw [hp] at h1
      simp [lcE, Ev.bind, Ev.of, tgV, hi, h1, ih, Ev.pure, consO, List.filter_cons, hp]
theorem lcE_map2 {i j : Nat} {ρ : View} {f : View → Ev (Option T)} {g : T → T → T} {b : Bag} (hi : i < ρ.length) (hj : j < ρ.length) : ∀ {items : List (T × T)}, (∀ p ∈ items, f ((ρ.set i (some p.1)).set j (some p.2)) b = some (some (g p.1 p.2), b)) →
    lcE (.tup (.name i) (.name j)) ρ f (items.map fun p => .tup [p.1, p.2]) b = some (items.map fun p => g p.1 p.2, b)
  | [], _ => rfl
  | p :: r, h => by
    have h1 := h p (by simp)
    have ih := lcE_map2 hi hj (items := r) fun t ht => h t (by simp [ht])
    have hj' : j < (ρ.set i (some p.1)).length := by rw [List.length_set]; exact hj
    simp only [List.map_cons, lcE, Ev.bind, Ev.of, tgV, if_pos hi, if_pos hj', h1, ih, Ev.pure, consO]
/-- each turn draws -/
theorem lcE_ok {i : Nat} {ρ : View} {f : View → Ev (Option T)} {R : T → Prop} (hi : i < ρ.length) : ∀ {items : List T} {b : Bag}, BagOk b → (∀ t ∈ items, ∀ b, BagOk b → Ok (f (ρ.set i (some t))) b fun o b' => BagOk b' ∧ ∃ y, o = some y ∧ R y) →
    Ok (lcE (.name i) ρ f items) b fun ys b' => BagOk b' ∧ ys.length = items.length ∧ ∀ y ∈ ys, R y
  | [], b, ok, _ => Ok.pure ⟨ok, rfl, fun _ h => (nomatch h)⟩
  | t :: r, b, ok, h => by
    refine Ok.bind (Ok.of (by simp only [tgV, if_pos hi]) (Ok.bind ((h t (by simp) b ok).mono fun o b1 q => ?_)))
    obtain ⟨ok1, y, rfl, hy⟩ := q
    refine Ok.bind ((lcE_ok hi ok1 fun t ht => h t (by simp [ht])).mono fun ys b2 q => ?_)
    obtain ⟨ok2, hl, hr⟩ := q
    exact Ok.pure ⟨ok2, by simp [consO, hl], fun z hz => by
      simp only [consO, List.mem_cons] at hz
      rcases hz with rfl | hz
      · exact hy
      · exact hr z hz⟩
/-! ### loops -/
theorem forL_ok {g : Tg} {f : List Sl → Ev Out} {I : List Sl → Prop} {J : List T → List Sl → Bag → Prop} : ∀ {items : List T} {ss : List Sl} {b : Bag} {Q : Out → Bag → Prop}, J items ss b →
    (∀ t r ss b, J (t :: r) ss b → ∃ s1, tgS g t ss = some s1 ∧ Ok (f s1) b fun o b' => match o with
      | .nx s2 => J r s2 b'
      | .ct s2 => J r s2 b'
      | .bk s2 => Q (.nx s2) b'
      | .ret t => Q (.ret t) b') → (∀ ss b, J [] ss b → Q (.nx ss) b) → Ok (forL g f items ss) b Q
  | [], ss, b, Q, h, _, hd => Ok.pure (hd ss b h)
  | t :: r, ss, b, Q, h, hs, hd => by
    obtain ⟨s1, e1, h1⟩ := hs t r ss b h
    refine Ok.bind (Ok.of e1 (Ok.bind (h1.mono fun o b1 q => ?_)))
    cases o with
    | nx s2 => exact forL_ok (I := I) q hs hd
    | ct s2 => exact forL_ok (I := I) q hs hd
    | bk s2 => exact Ok.pure q
    | ret u => exact Ok.pure q
theorem boolsT_map (bs : List Bool) : boolsT (bs.map .bl) = some bs := by
  induction bs with
  | nil => rfl
  | cons a r ih => simp [boolsT, ih]
theorem strsT_map (xs : List Str) : strsT (xs.map .str) = some xs := by
  induction xs with
  | nil => rfl
  | cons a r ih => simp [strsT, ih]
theorem atomVs_strs (xs : List Str) : atomVs (xs.map .str) = some (xs.map V.str) := by
  induction xs with
  | nil => rfl
  | cons a r ih => simp [atomVs, atomV, ih]
theorem inT_strs (x : Str) (xs : List Str) : inT (.str x) (.lst (xs.map .str)) = some (decide (x ∈ xs)) := by
  show inSeq (.str x) (xs.map .str) = _
  unfold inSeq
  rw [atomVs_strs]
  show some (inV (.str x) (xs.map V.str)) = _
  congr 1
  unfold inV
  rw [List.any_map]
  induction xs with
  | nil => rfl
  | cons a r ih =>
    rw [List.any_cons, ih]
    show ((a == x) || decide (x ∈ r)) = _
    by_cases h : a = x
    · subst h; simp
    · have h' : ¬ x = a := fun e => h e.symm
      rw [beq_eq_false_iff_ne.mpr h]; simp [h']
/-! ### texts -/
theorem str_ext {x y : Str} (h : x.cps.toList = y.cps.toList) : x = y := by
  obtain ⟨⟨a⟩⟩ := x
  obtain ⟨⟨c⟩⟩ := y
  simp at h
  rw [h]
theorem len_list (x : Str) : x.length = x.cps.toList.length := by simp [Str.length]
theorem append_list (x y : Str) : (x ++ y).cps.toList = x.cps.toList ++ y.cps.toList := by
  show (x.cps ++ y.cps).toList = _
  simp
theorem join_empty (ys : List Str) : (Str.join (Str.ofString "") ys).cps.toList = (ys.map fun y => y.cps.toList).flatten := by
  have e0 : (Str.ofString "").cps.toList = [] := by decide +kernel
  induction ys with
  | nil => rfl
  | cons y r ih =>
    cases r with
    | nil => simp [Str.join]
    | cons z r =>
      show (y ++ Str.ofString "" ++ Str.join (Str.ofString "") (z :: r)).cps.toList = _
      rw [append_list, append_list, e0, ih]
      simp
/-- letters -/
def isL (c : Nat) : Bool := decide (97 ≤ c ∧ c ≤ 122)
def letS : Str := Str.ofString "abcdefghijklmnopqrstuvwxyz"
theorem let_list : letS.cps.toList = [97, 98, 99, 100, 101, 102, 103, 104, 105, 106, 107, 108, 109, 110, 111, 112, 113, 114, 115, 116, 117, 118, 119, 120, 121, 122] := by decide +kernel
theorem let_mem (c : Nat) : decide (c ∈ letS.cps.toList) = isL c := by
  rw [let_list]
  unfold isL
  refine decide_eq_decide.mpr ⟨fun h => ?_, fun h => ?_⟩
  · simp at h; omega
  · simp; omega
def lets (s : Str) : Bool := s.cps.toList.all isL
def nameS (s : Str) : Bool := decide (1 ≤ s.length) && decide (s.length ≤ 6) && lets s
def nameT : T → Bool
  | .str s => nameS s
  | _ => false
end DI

set_option Elab.async false
set_option linter.all false
set_option maxRecDepth 100000
set_option maxHeartbeats 8000000
namespace DI
open PySem L2

/-! ### running by rewriting -/
@[simp] theorem evb_pure {α β : Type} (x : α) (f : α → Ev β) : Ev.bind (Ev.pure x) f = f x := rfl
@[simp] theorem evb_ofs {α β : Type} (x : α) (f : α → Ev β) : Ev.bind (Ev.of (some x)) f = f x := rfl
@[simp] theorem evb_assoc {α β γ : Type} (m : Ev α) (f : α → Ev β) (g : β → Ev γ) : Ev.bind (Ev.bind m f) g = Ev.bind m fun x => Ev.bind (f x) g := by
  funext b
  unfold Ev.bind
  cases m b with
  | none => rfl
  | some p => rfl
@[simp] theorem of_somes {α : Type} (x : α) : Ev.of (some x) = Ev.pure x := rfl
/-- a place that is no list of one's own -/
def sl : Option T → Sl
  | none => .un
  | some t => .val t
@[simp] theorem viewA_nil (bs : List Nat) (i : Nat) : viewA bs i [] = [] := rfl
@[simp] theorem viewA_sl (bs : List Nat) (i : Nat) (o : Option T) (r : List Sl) : viewA bs i (sl o :: r) = o :: viewA bs (i + 1) r := by
  cases o <;> rfl
@[simp] theorem viewA_val (bs : List Nat) (i : Nat) (t : T) (r : List Sl) : viewA bs i (.val t :: r) = some t :: viewA bs (i + 1) r := rfl
@[simp] theorem viewA_un (bs : List Nat) (i : Nat) (r : List Sl) : viewA bs i (.un :: r) = none :: viewA bs (i + 1) r := rfl
@[simp] theorem viewA_own (bs : List Nat) (i : Nat) (ts : List T) (r : List Sl) : viewA bs i (.own ts :: r) = (if bs.contains i then some (.lst ts) else none) :: viewA bs (i + 1) r := rfl
theorem frzA_sl (bs : List Nat) (i : Nat) (o : Option T) (r : List Sl) : frzA bs i (sl o :: r) = sl o :: frzA bs (i + 1) r := by
  cases o <;> rfl
section
variable {call : Nat → List T → Ev T} {pars : Nat → List Str} {r : Ss} {ss : List Sl} {b : Bag} {Q : Out → Bag → Prop}
theorem st_asg {i : Nat} {bs : List Nat} {e : E} {R : T → Bag → Prop} (h : Ok (evE call pars e (viewA bs 0 ss)) b R) (hi : i < ss.length) (k : ∀ t b', R t b' → Ok (exs call pars r ((frz bs t ss).set i (.val t))) b' Q) : Ok (exs call pars (.cons (.asg i bs e) r) ss) b Q := by
  refine seq_nx ?_
  unfold ex
  refine Ok.bind (h.mono fun t b' q => ?_)
  rw [if_pos hi]
  exact Ok.of rfl (k t b' q)
theorem st_if {bs : List Nat} {c : Te} {x y : Ss} {R : Bool → Bag → Prop} (h : Ok (evT call pars c (viewA bs 0 ss)) b R) (k : ∀ t b', R t b' → Ok (if t then exs call pars x ss else exs call pars y ss) b' fun o b1 => match o with
    | .nx s1 => Ok (exs call pars r s1) b1 Q
    | o => Q o b1) : Ok (exs call pars (.cons (.ite bs c x y) r) ss) b Q := by
  refine seq_nx ?_
  unfold ex
  exact Ok.bind (h.mono k)
/-- a test that fails -/
theorem st_skip {bs : List Nat} {c : Te} {x : Ss} {R : Bag → Prop} (h : Ok (evT call pars c (viewA bs 0 ss)) b fun t b' => t = false ∧ R b') (k : ∀ b', R b' → Ok (exs call pars r ss) b' Q) : Ok (exs call pars (.cons (.ite bs c x .nil) r) ss) b Q := by
  refine st_if h fun t b' q => ?_
  obtain ⟨rfl, q⟩ := q
  rw [if_neg Bool.false_ne_true]
  exact Ok.eq (a := .nx ss) (b' := b') (by unfold exs; rfl) (k b' q)
theorem st_for {g : Tg} {bs : List Nat} {it : It} {body : Ss} {R : List T → Bag → Prop} (h : Ok (evI call pars it (viewA bs 0 ss)) b R) (k : ∀ ts b', R ts b' → Ok (forL g (exs call pars body) ts (if bs.isEmpty then ss else frzA bs 0 ss)) b' fun o b1 => match o with
    | .nx s1 => Ok (exs call pars r s1) b1 Q
    | o => Q o b1) : Ok (exs call pars (.cons (.for_ g bs it body) r) ss) b Q := by
  refine seq_nx ?_
  unfold ex
  exact Ok.bind (h.mono k)
theorem st_ret {bs : List Nat} {e : E} {R : T → Bag → Prop} (h : Ok (evE call pars e (viewA bs 0 ss)) b R) (k : ∀ t b', R t b' → Q (.ret t) b') : Ok (exs call pars (.cons (.ret bs e) r) ss) b Q := by
  refine seq_nx ?_
  unfold ex
  exact Ok.bind (h.mono fun t b' q => Ok.pure (k t b' q))
theorem st_nil (h : Q (.nx ss) b) : Ok (exs call pars .nil ss) b Q := Ok.pure h
theorem run_ok {n : Nat} {body : Ss} {as : List T} {R : T → Bag → Prop} (h : Ok (exs call pars body (as.map .val ++ List.replicate (n - as.length) .un)) b fun o b' => ∃ t, o = .ret t ∧ R t b') : Ok (runF call pars n body as) b R := by
  unfold runF
  refine Ok.bind (h.mono fun o b' q => ?_)
  obtain ⟨t, rfl, q⟩ := q
  exact Ok.pure q
end
theorem wide_small {m : Int} (h0 : 0 < m) (h1 : m ≤ 10 ^ 18) : wide m = true := by
  unfold wide
  rw [decide_eq_true_iff]
  have : m.natAbs ≤ 10 ^ 18 := by omega
  exact Nat.lt_of_le_of_lt this (by decide +kernel)
/-! ### what each term is, one rewriting each -/
def chn (z : T) (m : Ev T) : Ev T := match z with
  | .bl true => m
  | .bl false => Ev.pure (.bl false)
  | _ => Ev.no
@[simp] theorem chn_bl (p : Bool) (m : Ev T) : chn (.bl p) m = if p = true then m else Ev.pure (.bl false) := by
  cases p <;> rfl
def lcB (call : Nat → List T → Ev T) (pars : Nat → List Str) (elt : E) (tg : Tg) (ρ : View) (items : List T) : Ev (List T) := lcE tg (wipeV ρ (tgSlots tg)) (fun ρ' => Ev.bind (evE call pars elt ρ') fun y => Ev.pure (some y)) items
def lcC (call : Nat → List T → Ev T) (pars : Nat → List Str) (elt : E) (tg : Tg) (c : Te) (ρ : View) (items : List T) : Ev (List T) := lcE tg (wipeV ρ (tgSlots tg)) (fun ρ' => Ev.bind (evT call pars c ρ') fun k => if k then Ev.bind (evE call pars elt ρ') fun y => Ev.pure (some y) else Ev.pure none) items
section
variable {call : Nat → List T → Ev T} {pars : Nat → List Str} {ρ : View}
@[simp] theorem e_var (i : Nat) : evE call pars (.var i) ρ = Ev.of (match ρ[i]? with | some (some t) => some t | _ => none) := rfl
@[simp] theorem e_con (t : T) : evE call pars (.con t) ρ = Ev.pure t := rfl
@[simp] theorem e_glob (x : Str) (t : T) : evE call pars (.glob x t) ρ = Ev.pure t := rfl
@[simp] theorem e_bin (op : Operator) (a b : E) : evE call pars (.bin op a b) ρ = Ev.bind (evE call pars a ρ) fun x => Ev.bind (evE call pars b ρ) fun y => Ev.of (binT op x y) := rfl
@[simp] theorem e_neg (a : E) : evE call pars (.neg a) ρ = Ev.bind (evE call pars a ρ) fun x => Ev.of ((intT x).map fun i => .int (-i)) := rfl
@[simp] theorem e_not (a : E) : evE call pars (.not a) ρ = Ev.bind (evE call pars a ρ) fun x => Ev.of ((truT x).map fun b => .bl (!b)) := rfl
@[simp] theorem e_and (a b : E) : evE call pars (.and a b) ρ = Ev.bind (evE call pars a ρ) fun x => Ev.bind (Ev.of (truT x)) fun k => if k = true then evE call pars b ρ else Ev.pure x := rfl
@[simp] theorem e_or (a b : E) : evE call pars (.or a b) ρ = Ev.bind (evE call pars a ρ) fun x => Ev.bind (Ev.of (truT x)) fun k => if k = true then Ev.pure x else evE call pars b ρ := rfl
@[simp] theorem e_cmp (op : CmpOp) (a b : E) : evE call pars (.cmp op a b) ρ = Ev.bind (evE call pars a ρ) fun x => Ev.bind (evE call pars b ρ) fun y => Ev.of (cmpT op x y) := rfl
@[simp] theorem e_chain (op op' : CmpOp) (a b c : E) : evE call pars (.chain op op' a b c) ρ = Ev.bind (evE call pars a ρ) fun x => Ev.bind (evE call pars b ρ) fun y => Ev.bind (Ev.of (cmpT op x y)) fun z => chn z (Ev.bind (evE call pars c ρ) fun w => Ev.of (cmpT op' y w)) := rfl
@[simp] theorem e_ife (c : Te) (a b : E) : evE call pars (.ife c a b) ρ = Ev.bind (evT call pars c ρ) fun k => if k = true then evE call pars a ρ else evE call pars b ρ := rfl
@[simp] theorem e_tup (es : Es) : evE call pars (.tup es) ρ = Ev.bind (evEs call pars es ρ) fun ts => Ev.of (if ts.length ≤ LIM then some (.tup ts) else none) := rfl
@[simp] theorem e_lst (es : Es) : evE call pars (.lst es) ρ = Ev.bind (evEs call pars es ρ) fun ts => Ev.of (if ts.length ≤ LIM then some (.lst ts) else none) := rfl
@[simp] theorem e_dct (ks : List Str) (vs : Es) : evE call pars (.dct ks vs) ρ = Ev.bind (evEs call pars vs ρ) fun ts => Ev.of (if ks.length = ts.length ∧ ks.length ≤ 15 ∧ ks.Nodup then some (.dK (ks.map Sum.inr) ts) else none) := rfl
@[simp] theorem e_idx (a i : E) : evE call pars (.idx a i) ρ = Ev.bind (evE call pars a ρ) fun x => Ev.bind (evE call pars i ρ) fun y => Ev.of (idxT x y) := rfl
@[simp] theorem e_sl (a lo hi : E) : evE call pars (.sl a lo hi) ρ = Ev.bind (evE call pars a ρ) fun x => Ev.bind (evE call pars lo ρ) fun l => Ev.bind (Ev.of (intT l)) fun i => Ev.bind (evE call pars hi ρ) fun h => Ev.bind (Ev.of (intT h)) fun j => Ev.of (slT x (some i) (some j)) := rfl
@[simp] theorem e_slH (a hi : E) : evE call pars (.slH a hi) ρ = Ev.bind (evE call pars a ρ) fun x => Ev.bind (evE call pars hi ρ) fun h => Ev.bind (Ev.of (intT h)) fun j => Ev.of (slT x none (some j)) := rfl
@[simp] theorem e_slL (a lo : E) : evE call pars (.slL a lo) ρ = Ev.bind (evE call pars a ρ) fun x => Ev.bind (evE call pars lo ρ) fun l => Ev.bind (Ev.of (intT l)) fun i => Ev.of (slT x (some i) none) := rfl
@[simp] theorem e_rev (a : E) : evE call pars (.rev a) ρ = Ev.bind (evE call pars a ρ) fun x => Ev.of (revT x) := rfl
@[simp] theorem e_call (f : Nat) (es : Es) : evE call pars (.call f es) ρ = Ev.bind (evEs call pars es ρ) fun ts => call f ts := rfl
@[simp] theorem e_callK (f : Nat) (es : Es) (ks : List Str) : evE call pars (.callK f es ks) ρ = Ev.bind (evEs call pars es ρ) fun ts => call f (permG (pars f) ks ts) := rfl
@[simp] theorem e_blt (x : Bi) (es : Es) : evE call pars (.blt x es) ρ = Ev.bind (evEs call pars es ρ) fun ts => Ev.of (bltT x ts) := rfl
@[simp] theorem e_mth (m : Me) (a : E) (es : Es) : evE call pars (.mth m a es) ρ = Ev.bind (evE call pars a ρ) fun x => Ev.bind (evEs call pars es ρ) fun ts => Ev.of (mthT m x ts) := rfl
@[simp] theorem e_lc (elt : E) (tg : Tg) (it : It) (c : Te) : evE call pars (.lc elt tg it c) ρ = Ev.bind (evI call pars it ρ) fun items => Ev.bind (lcC call pars elt tg c ρ items) fun ys => Ev.pure (.lst ys) := rfl
@[simp] theorem e_lc0 (elt : E) (tg : Tg) (it : It) : evE call pars (.lc0 elt tg it) ρ = Ev.bind (evI call pars it ρ) fun items => Ev.bind (lcB call pars elt tg ρ items) fun ys => Ev.pure (.lst ys) := rfl
@[simp] theorem t_not (a : Te) : evT call pars (.not a) ρ = Ev.bind (evT call pars a ρ) fun k => Ev.pure (!k) := rfl
@[simp] theorem t_and (a b : Te) : evT call pars (.and a b) ρ = Ev.bind (evT call pars a ρ) fun k => if k = true then evT call pars b ρ else Ev.pure false := rfl
@[simp] theorem t_or (a b : Te) : evT call pars (.or a b) ρ = Ev.bind (evT call pars a ρ) fun k => if k = true then Ev.pure true else evT call pars b ρ := rfl
@[simp] theorem t_tr (e : E) : evT call pars (.tr e) ρ = Ev.bind (evE call pars e ρ) fun x => Ev.of (truT x) := rfl
@[simp] theorem es_nil : evEs call pars .nil ρ = Ev.pure [] := rfl
@[simp] theorem es_cons (e : E) (r : Es) : evEs call pars (.cons e r) ρ = Ev.bind (evE call pars e ρ) fun x => Ev.bind (evEs call pars r ρ) fun xs => Ev.pure (x :: xs) := rfl
@[simp] theorem i_val (e : E) : evI call pars (.val e) ρ = Ev.bind (evE call pars e ρ) fun x => Ev.of (seqT x) := rfl
@[simp] theorem i_rng1 (a : E) : evI call pars (.rng1 a) ρ = Ev.bind (evE call pars a ρ) fun x => Ev.of ((intT x).bind fun j => rngT 0 j) := rfl
@[simp] theorem i_rng2 (a b : E) : evI call pars (.rng2 a b) ρ = Ev.bind (evE call pars a ρ) fun x => Ev.bind (evE call pars b ρ) fun y => Ev.of ((intT x).bind fun i => (intT y).bind fun j => rngT i j) := rfl
@[simp] theorem i_zip (a b : E) : evI call pars (.zip a b) ρ = Ev.bind (evE call pars a ρ) fun x => Ev.bind (evE call pars b ρ) fun y => Ev.of (zipT x y) := rfl
@[simp] theorem i_enum (a : E) : evI call pars (.enum a) ρ = Ev.bind (evE call pars a ρ) fun x => Ev.of (enumT x) := rfl
end
@[simp] theorem ok_pure {α : Type} {a : α} {b : Bag} {Q : α → Bag → Prop} : Ok (Ev.pure a) b Q ↔ Q a b := ⟨fun ⟨a', b', e, q⟩ => by cases e; exact q, Ok.pure⟩
theorem Ok.get {α : Type} {m : Ev α} {b : Bag} {a : α} (h : Ok m b fun x b' => x = a ∧ b' = b) : m b = some (a, b) := by
  obtain ⟨x, b', e, rfl, rfl⟩ := h
  exact e
/-- a part whose worth is known -/
theorem Ok.at {α β : Type} {m : Ev β} {f : β → Ev α} {b b' : Bag} {a : β} {Q : α → Bag → Prop} (e : m b = some (a, b')) (h : Ok (f a) b' Q) : Ok (Ev.bind m f) b Q := Ok.bind ⟨a, b', e, h⟩
theorem Ok.then {α β : Type} {m : Ev β} {f : β → Ev α} {b : Bag} {R : β → Bag → Prop} {Q : α → Bag → Prop} (e : Ok m b R) (h : ∀ x b', R x b' → Ok (f x) b' Q) : Ok (Ev.bind m f) b Q := Ok.bind (e.mono h)
@[simp] theorem seqT_lst (ts : List T) : seqT (.lst ts) = some ts := rfl
@[simp] theorem seqT_tup (ts : List T) : seqT (.tup ts) = some ts := rfl
@[simp] theorem seqT_str (s : Str) : seqT (.str s) = some ((chrs s).map .str) := rfl
@[simp] theorem intT_int (i : Int) : intT (.int i) = some i := rfl
@[simp] theorem idxT_lst (ts : List T) (k : Int) : idxT (.lst ts) (.int k) = atI ts k := rfl
@[simp] theorem idxT_tup (ts : List T) (k : Int) : idxT (.tup ts) (.int k) = atI ts k := rfl
@[simp] theorem idxT_str (s : Str) (k : Int) : idxT (.str s) (.int k) = (atI s.cps.toList k).map fun c => .str ⟨#[c]⟩ := rfl
@[simp] theorem slT_str (s : Str) (lo hi : Option Int) : slT (.str s) lo hi = some (.str (cutS s lo hi)) := rfl
@[simp] theorem slT_lst (s : List T) (lo hi : Option Int) : slT (.lst s) lo hi = some (.lst (cutT s lo hi)) := rfl
@[simp] theorem slT_tup (s : List T) (lo hi : Option Int) : slT (.tup s) lo hi = some (.tup (cutT s lo hi)) := rfl
@[simp] theorem revT_tup (s : List T) : revT (.tup s) = some (.tup s.reverse) := rfl
@[simp] theorem revT_lst (s : List T) : revT (.lst s) = some (.lst s.reverse) := rfl
@[simp] theorem blt_all (ts : List T) : bltT .all [.lst ts] = (boolsT ts).map fun bs => .bl (bs.all id) := rfl
@[simp] theorem blt_any (ts : List T) : bltT .any [.lst ts] = (boolsT ts).map fun bs => .bl (bs.any id) := rfl
@[simp] theorem blt_listL (ts : List T) : bltT .list [.lst ts] = some (.lst ts) := rfl
@[simp] theorem blt_listT (ts : List T) : bltT .list [.tup ts] = some (.lst ts) := rfl
@[simp] theorem blt_listS (s : Str) : bltT .list [.str s] = some (.lst ((chrs s).map .str)) := rfl
@[simp] theorem blt_tupL (ts : List T) : bltT .tuple [.lst ts] = some (.tup ts) := rfl
@[simp] theorem blt_tupT (ts : List T) : bltT .tuple [.tup ts] = some (.tup ts) := rfl
@[simp] theorem zip_lst (xs ys : List T) : zipT (.lst xs) (.lst ys) = some ((xs.zip ys).map fun p => .tup [p.1, p.2]) := rfl
@[simp] theorem zip_tup (xs ys : List T) : zipT (.tup xs) (.tup ys) = some ((xs.zip ys).map fun p => .tup [p.1, p.2]) := rfl
@[simp] theorem cmpT_is (x : T) : cmpT .Is x .non = some (.bl (isNon x)) := rfl
@[simp] theorem truT_str (x : Str) : truT (.str x) = some (x.length != 0) := rfl
@[simp] theorem truT_lst (x : List T) : truT (.lst x) = some (!x.isEmpty) := rfl
@[simp] theorem bools_comp {α : Type} (f : α → Bool) (l : List α) : boolsT (l.map (T.bl ∘ f)) = some (l.map f) := by
  rw [← List.map_map, boolsT_map]
@[simp] theorem bools_fun {α : Type} (f : α → Bool) (l : List α) : boolsT (l.map fun x => T.bl (f x)) = some (l.map f) := bools_comp f l
@[simp] theorem strs_comp {α : Type} (f : α → Str) (l : List α) : strsT (l.map (T.str ∘ f)) = some (l.map f) := by
  rw [← List.map_map, strsT_map]
@[simp] theorem bools_map (bs : List Bool) : boolsT (bs.map .bl) = some bs := boolsT_map bs
@[simp] theorem strs_map (xs : List Str) : strsT (xs.map .str) = some xs := strsT_map xs
theorem lim_le {n : Nat} (h : n ≤ 100000) : n ≤ LIM := Nat.le_trans h (by decide)
end DI
namespace DI
open PySem L2
section
variable {call : Nat → List T → Ev T} {pars : Nat → List Str} {r : Ss} {ss : List Sl} {b : Bag} {Q : Out → Bag → Prop}
theorem st_new {i : Nat} {e : E} {R : List T → Bag → Prop} (h : Ok (evE call pars e (viewA [] 0 ss)) b fun t b' => ∃ ts, t = .lst ts ∧ R ts b') (hi : i < ss.length) (k : ∀ ts b', R ts b' → Ok (exs call pars r (ss.set i (.own ts))) b' Q) : Ok (exs call pars (.cons (.new i [] e) r) ss) b Q := by
  refine seq_nx ?_
  unfold ex
  refine Ok.bind (h.mono fun t b' q => ?_)
  obtain ⟨ts, rfl, q⟩ := q
  refine Ok.bind (Ok.of rfl ?_)
  rw [if_pos ⟨hi, rfl⟩]
  exact Ok.of rfl (k ts b' q)
theorem st_app {i : Nat} {bs : List Nat} {e : E} {ts : List T} {R : T → Bag → Prop} (h : Ok (evE call pars e (viewA bs 0 ss)) b R) (hi : ss[i]? = some (.own ts)) (hl : ts.length < LIM) (k : ∀ t b', R t b' → (isAtom t = true ∨ bs = []) ∧ Ok (exs call pars r (ss.set i (.own (ts ++ [t])))) b' Q) : Ok (exs call pars (.cons (.app i bs e) r) ss) b Q := by
  refine seq_nx ?_
  unfold ex
  refine Ok.bind (h.mono fun t b' q => ?_)
  obtain ⟨h1, h2⟩ := k t b' q
  rw [hi]
  simp only
  rw [if_pos ⟨hl, h1⟩]
  exact Ok.of rfl h2
end
/-! ### lists of texts against the empty list -/
def stOk (s : Str) : Bool := PyData.strOk s
theorem toDs_strs (xs : List Str) : toDs (xs.map .str) = some (xs.map PyData.str) := by
  induction xs with
  | nil => rfl
  | cons a r ih => simp [toDs, toD, ih]
theorem lay_strs (xs : List Str) (h : ∀ x ∈ xs, PyData.strOk x = true) : SeqAt.shaped (.list (xs.map PyData.str)) = true := by
  unfold SeqAt.shaped
  rw [Bool.and_eq_true]
  constructor
  · show PyData.canLayAll0 (xs.map PyData.str) = true
    induction xs with
    | nil => rfl
    | cons a r ih =>
      show (PyData.strOk a && PyData.canLayAll0 (r.map PyData.str)) = true
      rw [h a (by simp), ih fun x hx => h x (by simp [hx])]
      rfl
  · have : PyData.depth (.list (xs.map PyData.str)) ≤ 1 := by
      clear h
      have : PyData.depthAll (xs.map PyData.str) = 0 := by
        induction xs with
        | nil => rfl
        | cons a r ih => simp [PyData.depthAll, PyData.depth, ih]
      simp [PyData.depth, this]
    rw [decide_eq_true_iff]
    omega
theorem eqT_empty (xs : List Str) (h : ∀ x ∈ xs, PyData.strOk x = true) : eqT (.lst (xs.map .str)) (.lst []) = some xs.isEmpty := by
  show eqD _ _ = _
  unfold eqD
  have e1 : toD (.lst (xs.map .str)) = some (.list (xs.map PyData.str)) := by
    simp [toD, toDs_strs]
  have e2 : toD (.lst []) = some (.list []) := rfl
  have e3 : SeqAt.shaped (.list []) = true := by decide +kernel
  rw [e1, e2]
  simp only [lay_strs xs h, e3]
  cases xs <;> rfl
theorem lets_strOk {x : Str} (h : lets x = true) : PyData.strOk x = true := by
  unfold lets at h
  rw [List.all_eq_true] at h
  unfold PyData.strOk
  have : ∀ c ∈ x.cps.toList, c < 1114112 := by
    intro c hc
    have := h c hc
    unfold isL at this
    simp at this
    omega
  rw [Array.all_eq_true]
  intro i hi
  exact decide_eq_true (this _ (by simp))
/-! ### cuts of texts -/
theorem cutS_list (s : Str) (lo hi : Option Int) : (cutS s lo hi).cps.toList = (s.cps.toList.drop (HT.sIx s.length 0 lo)).take (HT.sIx s.length s.length hi - HT.sIx s.length 0 lo) := by
  unfold cutS
  simp
theorem lets_cut {s : Str} (lo hi : Option Int) (h : lets s = true) : lets (cutS s lo hi) = true := by
  unfold lets at *
  rw [cutS_list]
  rw [List.all_eq_true] at *
  intro c hc
  exact h c (List.mem_of_mem_drop (List.mem_of_mem_take hc))
theorem lets_app {x y : Str} (h : lets x = true) (h' : lets y = true) : lets (x ++ y) = true := by
  unfold lets at *
  rw [append_list, List.all_append, h, h']
  rfl
theorem len_app (x y : Str) : (x ++ y).length = x.length + y.length := by
  rw [len_list, append_list, List.length_append, ← len_list, ← len_list]
theorem len_cut (s : Str) (lo hi : Option Int) : (cutS s lo hi).length = min (HT.sIx s.length s.length hi - HT.sIx s.length 0 lo) (s.length - HT.sIx s.length 0 lo) := by
  rw [len_list, cutS_list, List.length_take, List.length_drop, ← len_list]
theorem len_cutH (s : Str) (k : Nat) : (cutS s none (some (k : Int))).length = min k s.length := by
  rw [len_cut, HT.sIx_none, HT.sIx_nat]
  omega
theorem nodup_len {α : Type} [DecidableEq α] : ∀ {l m : List α}, l.Nodup → (∀ x ∈ l, x ∈ m) → l.length ≤ m.length
  | [], _, _, _ => Nat.zero_le _
  | a :: l, m, h, hs => by
    obtain ⟨h1, h2⟩ := List.nodup_cons.mp h
    have hm := hs a (by simp)
    have := nodup_len (l := l) (m := m.erase a) h2 fun x hx => (List.mem_erase_of_ne (fun e : x = a => h1 (by rw [← e]; exact hx))).mpr (hs x (by simp [hx]))
    rw [List.length_erase_of_mem hm] at this
    have hp : 0 < m.length := List.length_pos_of_mem hm
    simp only [List.length_cons]
    omega
end DI

set_option Elab.async false
set_option linter.all false
set_option maxRecDepth 100000
set_option maxHeartbeats 8000000
namespace DI
open PySem L2

/-! ### the top's facts, gathered -/
def AllAt (P : Nat → FnD → Prop) : Nat → List FnD → Prop
  | _, [] => True
  | n, d :: r => P n d ∧ AllAt P (n + 1) r
theorem allAt_get {P : Nat → FnD → Prop} : ∀ {l : List FnD} {n : Nat}, AllAt P n l → ∀ f d, l[f]? = some d → P (n + f) d
  | [], _, _, f, d, h => by simp at h
  | a :: r, n, h, 0, d, e => by
    simp at e
    subst e
    exact h.1
  | a :: r, n, h, f + 1, d, e => by
    have := allAt_get h.2 f d (by simpa using e)
    have e : n + (f + 1) = n + 1 + f := by omega
    rw [e]
    exact this
theorem defs_all {P : Nat → FnD → Prop} {l : List FnD} (h : AllAt P 0 l) (f : Nat) (d : FnD) (e : l[f]? = some d) : P f d := by
  have := allAt_get h f d e
  rw [Nat.zero_add] at this
  exact this
def AllC (P : Str → T → Prop) : List (Str × T) → Prop
  | [] => True
  | p :: r => P p.1 p.2 ∧ AllC P r
theorem allC_get {P : Str → T → Prop} : ∀ {l : List (Str × T)}, AllC P l → ∀ x t, l.lookup x = some t → P x t
  | [], _, x, t, h => by cases h
  | (y, u) :: r, h, x, t, e => by
    rw [List.lookup_cons] at e
    by_cases hx : x = y
    · subst hx
      simp at e
      subst e
      exact h.1
    · have : (x == y) = false := by simpa using hx
      rw [this] at e
      exact allC_get h.2 x t e
def AtG (mg : Str → Option Value) (x : Str) (t : T) : Prop := ∃ v u, (mg x = some u ∨ (mg x = none ∧ bootBuiltins x = some u ∧ x ≠ "__name__")) ∧ RelV v u ∧ ∀ (W : Wd) F, Tr W F v t
theorem atg_str {mg : Str → Option Value} {x y : Str} {k : Tok} (h : mg x = some (.str y k)) (hl : y.length ≤ LIM) : AtG mg x (.str y) := ⟨.str y, .str y k, .inl h, ⟨k, rfl⟩, fun W F => .str _ hl⟩
theorem atg_int {mg : Str → Option Value} {x : Str} {i : Int} {k : Tok} (h : mg x = some (.int i k)) : AtG mg x (.int i) := ⟨.int i, .int i k, .inl h, ⟨k, rfl⟩, fun W F => .int _⟩
theorem atg_ty {mg : Str → Option Value} {x : Str} {n : String} (h : mg x = none) (hb : bootBuiltins x = some (.type n)) (hn : x ≠ "__name__") : AtG mg x (.ty n) := ⟨.ty n, .type n, .inr ⟨h, hb, hn⟩, rfl, fun W F => .ty _⟩
theorem walk {l : PySem.W.OpenLaw} {q : Program} {loose : List Str} {XP : (Str → Option Value) → Heap → Prop} {YP : World → Heap → Prop} {d : DefRec} {K : Params → PySem.W.Frag} (hn : l.most = some 63) (hdf : d.params.defaults = [])
    (hY : ∀ (w : World) (h : Heap), YP w h → (K w.params).In h)
    (F : ∀ (w : World) (mg : Str → Option Value) (fa : Addr) (h : Heap), (K w.params).In h → h.Ns mainGlobals mg → mg d.name = some (.ref fa) →
      ∃ fd : FuncData, (∀ (s : Shared) (u : Value), BindsTo s fd ⟨[u], []⟩ [("_law_script", u)]) ∧ ∀ base : Heap, (K w.params).In base → base.Ns mainGlobals mg → FnOk l.prog w (K w.params) mg base CX0 40 fa fd ["_law_script"] (spLaw (K w.params))) :
    PySem.W.WalkO q loose XP YP l.row.toRowW d [] (fun f vs => PySem.call f vs) :=
  L2.walk_of (n := 63) (k := 40) (x := "_law_script") (CX := fun _ => CX0) (sp := fun w => spLaw (K w.params)) hn (by decide) hdf ⟨rfl, by decide, by decide⟩ hY F (fun _ _ a ns hl _ hS => ⟨a, ns, rfl, hS, hl, fun _ => rfl⟩) fun _ _ _ _ _ z => z
end DI

set_option Elab.async false
set_option maxRecDepth 100000
set_option maxHeartbeats 8000000
namespace K01
open PySem L2 DI
def top (i : Nat) : Stmt := PySem.Challenge.pw_deedranks_k01_words_judged.main.body.getD i (.Pass ⟨0, 0, 0, 0⟩)
/-- is_whole -/
def b0 : Ss := (.cons (.ret [] (.and (.blt .isi (.cons (.var 0) (.cons (.glob (Str.ofString "int") (.ty "int")) .nil))) (.not (.blt .isi (.cons (.var 0) (.cons (.glob (Str.ofString "bool") (.ty "bool")) .nil))))))
    .nil)
def d0 : FnD := ⟨(Str.ofString "is_whole"), [(Str.ofString "value")], [(Str.ofString "value")], b0⟩
def s0 : Stmt := top 5
/-- is_number -/
def b1 : Ss := (.cons (.ret [] (.and (.call 0 (.cons (.var 0) .nil)) (.chain .LtE .LtE (.var 1) (.var 0) (.var 2))))
    .nil)
def d1 : FnD := ⟨(Str.ofString "is_number"), [(Str.ofString "value"), (Str.ofString "least"), (Str.ofString "most")], [(Str.ofString "value"), (Str.ofString "least"), (Str.ofString "most")], b1⟩
def s1 : Stmt := top 6
/-- is_name -/
def b2 : Ss := (.cons (.ite [] (.or (.not (.tr (.blt .isi (.cons (.var 0) (.cons (.glob (Str.ofString "str") (.ty "str")) .nil))))) (.not (.tr (.chain .LtE .LtE (.con (.int 1)) (.blt .len (.cons (.var 0) .nil)) (.glob (Str.ofString "MOST_LETTERS") (.int 6)))))) (.cons (.ret [] (.con (.bl false)))
    .nil) .nil)
    (.cons (.ret [] (.blt .all (.cons (.lc0 (.cmp .In (.var 1) (.glob (Str.ofString "LETTERS") (.str (Str.ofString "abcdefghijklmnopqrstuvwxyz")))) (.name 1) (.val (.var 0))) .nil)))
    .nil))
def d2 : FnD := ⟨(Str.ofString "is_name"), [(Str.ofString "value")], [(Str.ofString "value"), (Str.ofString "letter")], b2⟩
def s2 : Stmt := top 7
/-- is_lot -/
def b3 : Ss := (.cons (.ite [] (.or (.not (.tr (.blt .isi (.cons (.var 0) (.cons (.glob (Str.ofString "tuple") (.ty "tuple")) .nil))))) (.not (.tr (.chain .LtE .LtE (.con (.int 1)) (.blt .len (.cons (.var 0) .nil)) (.glob (Str.ofString "MOST_PARCELS") (.int 12)))))) (.cons (.ret [] (.con (.bl false)))
    .nil) .nil)
    (.cons (.ite [] (.not (.tr (.blt .all (.cons (.lc0 (.call 2 (.cons (.var 2) .nil)) (.name 2) (.val (.var 0))) .nil)))) (.cons (.ret [] (.con (.bl false)))
    .nil) .nil)
    (.cons (.ret [] (.blt .all (.cons (.lc0 (.cmp .Lt (.idx (.var 0) (.bin .Sub (.var 1) (.con (.int 1)))) (.idx (.var 0) (.var 1))) (.name 1) (.rng2 (.con (.int 1)) (.blt .len (.cons (.var 0) .nil)))) .nil)))
    .nil)))
def d3 : FnD := ⟨(Str.ofString "is_lot"), [(Str.ofString "value")], [(Str.ofString "value"), (Str.ofString "at"), (Str.ofString "name")], b3⟩
def s3 : Stmt := top 8
/-- is_amount -/
def b4 : Ss := (.cons (.ret [] (.and (.call 0 (.cons (.var 0) .nil)) (.cmp .GtE (.var 0) (.con (.int 1)))))
    .nil)
def d4 : FnD := ⟨(Str.ofString "is_amount"), [(Str.ofString "value")], [(Str.ofString "value")], b4⟩
def s4 : Stmt := top 9
/-- is_price -/
def b5 : Ss := (.cons (.ret [] (.and (.call 0 (.cons (.var 0) .nil)) (.cmp .GtE (.var 0) (.con (.int 0)))))
    .nil)
def d5 : FnD := ⟨(Str.ofString "is_price"), [(Str.ofString "value")], [(Str.ofString "value")], b5⟩
def s5 : Stmt := top 10
/-- is_day -/
def b6 : Ss := (.cons (.ret [] (.call 1 (.cons (.var 0) (.cons (.con (.int 0)) (.cons (.glob (Str.ofString "LAST_DAY") (.int 9999)) .nil)))))
    .nil)
def d6 : FnD := ⟨(Str.ofString "is_day"), [(Str.ofString "value")], [(Str.ofString "value")], b6⟩
def s6 : Stmt := top 11
/-- _law_draw -/
def b7 : Ss := (.cons (.bset 0 4 (.bin .Add (.bget (.var 0) 4) (.con (.int 1))))
    (.cons (.ite [] (.and (.tr (.cmp .Eq (.bget (.var 0) 2) (.con (.int 0)))) (.tr (.cmp .Lt (.bget (.var 0) 1) (.blen (.var 0))))) (.cons (.asg 3 [] (.blt .abs (.cons (.bcell (.var 0)) .nil)))
    (.cons (.bset 0 1 (.bin .Add (.bget (.var 0) 1) (.con (.int 1))))
    (.cons (.ite [] (.tr (.cmp .GtE (.var 3) (.bin .Pow (.con (.int 10)) (.con (.int 18))))) (.cons (.bset 0 2 (.var 3))
    .nil) (.cons (.bset 0 3 (.bin .Mod (.blt .int (.cons (.bin .Add (.bin .Add (.bin .Mult (.bget (.var 0) 3) (.con (.int 40993))) (.bin .Mult (.bin .Mod (.blt .int (.cons (.var 3) .nil)) (.con (.int 2147483111))) (.con (.int 769)))) (.con (.int 41))) .nil)) (.con (.int 2147483323))))
    .nil))
    .nil))) .nil)
    (.cons (.ite [] (.tr (.cmp .Gt (.bget (.var 0) 2) (.con (.int 0)))) (.cons (.asg 4 [] (.bin .Mod (.blt .int (.cons (.bget (.var 0) 2) .nil)) (.var 1)))
    (.cons (.bset 0 2 (.bin .FloorDiv (.bget (.var 0) 2) (.var 1)))
    (.cons (.ret [] (.var 4))
    .nil))) .nil)
    (.cons (.asg 2 [] (.bget (.var 0) 3))
    (.cons (.bset 0 3 (.bin .Mod (.blt .int (.cons (.bin .Add (.bin .Add (.bin .Add (.bin .Pow (.var 2) (.con (.int 3))) (.bin .Mult (.var 2) (.con (.int 27611)))) (.bin .Mult (.bget (.var 0) 4) (.con (.int 1299709)))) (.con (.int 52361))) .nil)) (.con (.int 2147483323))))
    (.cons (.ret [] (.bin .Mod (.blt .int (.cons (.bin .Add (.bin .FloorDiv (.bget (.var 0) 3) (.con (.int 67))) (.bin .Mult (.bin .Mod (.blt .int (.cons (.bget (.var 0) 3) .nil)) (.con (.int 7919))) (.con (.int 53)))) .nil)) (.var 1)))
    .nil))))))
def d7 : FnD := ⟨(Str.ofString "_law_draw"), [(Str.ofString "_law_bag_here"), (Str.ofString "_law_many")], [(Str.ofString "_law_bag_here"), (Str.ofString "_law_many"), (Str.ofString "_law_seed"), (Str.ofString "_law_cell"), (Str.ofString "_law_digit")], b7⟩
def s7 : Stmt := top 14
/-- _law_pick -/
def b8 : Ss := (.cons (.ret [] (.idx (.var 1) (.call 7 (.cons (.var 0) (.cons (.blt .len (.cons (.var 1) .nil)) .nil)))))
    .nil)
def d8 : FnD := ⟨(Str.ofString "_law_pick"), [(Str.ofString "_law_bag_here"), (Str.ofString "_law_some")], [(Str.ofString "_law_bag_here"), (Str.ofString "_law_some")], b8⟩
def s8 : Stmt := top 15
/-- _law_word -/
def b9 : Ss := (.cons (.asg 2 [] (.con (.str (Str.ofString "abcdefghijklmnopqrstuvwxyz"))))
    (.cons (.ret [] (.mth .join (.con (.str (Str.ofString ""))) (.cons (.lc0 (.call 8 (.cons (.var 0) (.cons (.var 2) .nil))) (.name 3) (.rng1 (.bin .Add (.con (.int 1)) (.call 7 (.cons (.var 0) (.cons (.var 1) .nil)))))) .nil)))
    .nil))
def d9 : FnD := ⟨(Str.ofString "_law_word"), [(Str.ofString "_law_bag_here"), (Str.ofString "_law_most")], [(Str.ofString "_law_bag_here"), (Str.ofString "_law_most"), (Str.ofString "_law_letters"), (Str.ofString "_law_k")], b9⟩
def s9 : Stmt := top 16
/-- _law_names -/
def b10 : Ss := (.cons (.new 2 [] (.lst .nil))
    (.cons (.for_ (.name 3) [] (.rng1 (.var 1)) (.cons (.asg 4 [] (.call 9 (.cons (.var 0) (.cons (.con (.int 6)) .nil))))
    (.cons (.ite [2] (.and (.tr (.cmp .NotEq (.var 2) (.lst .nil))) (.tr (.cmp .Eq (.call 7 (.cons (.var 0) (.cons (.con (.int 2)) .nil))) (.con (.int 0))))) (.cons (.asg 5 [2] (.call 8 (.cons (.var 0) (.cons (.var 2) .nil))))
    (.cons (.asg 6 [] (.call 7 (.cons (.var 0) (.cons (.blt .len (.cons (.var 5) .nil)) .nil))))
    (.cons (.asg 4 [] (.slH (.bin .Add (.bin .Add (.slH (.var 5) (.var 6)) (.slH (.var 4) (.con (.int 1)))) (.slL (.var 5) (.bin .Add (.var 6) (.call 7 (.cons (.var 0) (.cons (.con (.int 2)) .nil)))))) (.con (.int 6))))
    .nil))) .nil)
    (.cons (.app 2 [2] (.idx (.lc (.var 7) (.name 7) (.val (.bin .Add (.lst (.cons (.var 4) .nil)) (.blt .list (.cons (.con (.str (Str.ofString "abcdefghijklmnop"))) .nil)))) (.tr (.cmp .NotIn (.var 7) (.var 2)))) (.con (.int 0))))
    .nil))))
    (.cons (.ret [2] (.var 2))
    .nil)))
def d10 : FnD := ⟨(Str.ofString "_law_names"), [(Str.ofString "_law_bag_here"), (Str.ofString "_law_many")], [(Str.ofString "_law_bag_here"), (Str.ofString "_law_many"), (Str.ofString "_law_found"), (Str.ofString "_law_k"), (Str.ofString "_law_word_here"), (Str.ofString "_law_old"), (Str.ofString "_law_at"), (Str.ofString "_law_one")], b10⟩
def s10 : Stmt := top 17
/-- _law_same -/
def b11 : Ss := (.cons (.ite [] (.tr (.blt .isi (.cons (.var 1) (.cons (.tup (.cons (.glob (Str.ofString "list") (.ty "list")) (.cons (.glob (Str.ofString "tuple") (.ty "tuple")) .nil))) .nil)))) (.cons (.ite [] (.or (.tr (.cmp .NotEq (.blt .isi (.cons (.var 0) (.cons (.glob (Str.ofString "list") (.ty "list")) .nil))) (.blt .isi (.cons (.var 1) (.cons (.glob (Str.ofString "list") (.ty "list")) .nil))))) (.tr (.cmp .NotEq (.blt .isi (.cons (.var 0) (.cons (.glob (Str.ofString "tuple") (.ty "tuple")) .nil))) (.blt .isi (.cons (.var 1) (.cons (.glob (Str.ofString "tuple") (.ty "tuple")) .nil)))))) (.cons (.ret [] (.con (.bl false)))
    .nil) .nil)
    (.cons (.ret [] (.and (.cmp .Eq (.blt .len (.cons (.var 0) .nil)) (.blt .len (.cons (.var 1) .nil))) (.blt .all (.cons (.lc0 (.call 11 (.cons (.var 2) (.cons (.var 3) .nil))) (.tup (.name 2) (.name 3)) (.zip (.var 0) (.var 1))) .nil))))
    .nil)) .nil)
    (.cons (.ite [] (.or (.tr (.cmp .Is (.var 1) (.con .non))) (.tr (.cmp .Is (.var 0) (.con .non)))) (.cons (.ret [] (.and (.cmp .Is (.var 1) (.con .non)) (.cmp .Is (.var 0) (.con .non))))
    .nil) .nil)
    (.cons (.ite [] (.or (.tr (.blt .isi (.cons (.var 1) (.cons (.glob (Str.ofString "dict") (.ty "dict")) .nil)))) (.tr (.blt .isi (.cons (.var 0) (.cons (.glob (Str.ofString "dict") (.ty "dict")) .nil))))) (.cons (.ret [] (.and (.blt .isi (.cons (.var 1) (.cons (.glob (Str.ofString "dict") (.ty "dict")) .nil))) (.and (.blt .isi (.cons (.var 0) (.cons (.glob (Str.ofString "dict") (.ty "dict")) .nil))) (.cmp .Eq (.var 0) (.var 1)))))
    .nil) .nil)
    (.cons (.ite [] (.or (.tr (.blt .isi (.cons (.var 1) (.cons (.glob (Str.ofString "bool") (.ty "bool")) .nil)))) (.tr (.blt .isi (.cons (.var 0) (.cons (.glob (Str.ofString "bool") (.ty "bool")) .nil))))) (.cons (.ret [] (.and (.blt .isi (.cons (.var 1) (.cons (.glob (Str.ofString "bool") (.ty "bool")) .nil))) (.and (.blt .isi (.cons (.var 0) (.cons (.glob (Str.ofString "bool") (.ty "bool")) .nil))) (.cmp .Eq (.var 0) (.var 1)))))
    .nil) .nil)
    (.cons (.ite [] (.tr (.blt .isi (.cons (.var 1) (.cons (.glob (Str.ofString "int") (.ty "int")) .nil)))) (.cons (.ret [] (.and (.blt .isi (.cons (.var 0) (.cons (.glob (Str.ofString "int") (.ty "int")) .nil))) (.cmp .Eq (.var 0) (.var 1))))
    .nil) .nil)
    (.cons (.ret [] (.and (.blt .isi (.cons (.var 1) (.cons (.glob (Str.ofString "str") (.ty "str")) .nil))) (.and (.blt .isi (.cons (.var 0) (.cons (.glob (Str.ofString "str") (.ty "str")) .nil))) (.cmp .Eq (.var 0) (.var 1)))))
    .nil))))))
def d11 : FnD := ⟨(Str.ofString "_law_same"), [(Str.ofString "_law_found"), (Str.ofString "_law_due")], [(Str.ofString "_law_found"), (Str.ofString "_law_due"), (Str.ofString "_law_one"), (Str.ofString "_law_two")], b11⟩
def s11 : Stmt := top 18
/-- _law_is_word -/
def b12 : Ss := (.cons (.ret [] (.and (.blt .isi (.cons (.var 0) (.cons (.glob (Str.ofString "str") (.ty "str")) .nil))) (.and (.chain .LtE .LtE (.con (.int 1)) (.blt .len (.cons (.var 0) .nil)) (.con (.int 6))) (.blt .all (.cons (.lc0 (.cmp .In (.var 1) (.con (.str (Str.ofString "abcdefghijklmnopqrstuvwxyz")))) (.name 1) (.val (.var 0))) .nil)))))
    .nil)
def d12 : FnD := ⟨(Str.ofString "_law_is_word"), [(Str.ofString "_law_value")], [(Str.ofString "_law_value"), (Str.ofString "_law_sign")], b12⟩
def s12 : Stmt := top 19
/-- _law_is_parts -/
def b13 : Ss := (.cons (.ite [] (.or (.not (.tr (.blt .isi (.cons (.var 0) (.cons (.glob (Str.ofString "tuple") (.ty "tuple")) .nil))))) (.or (.not (.tr (.chain .LtE .LtE (.con (.int 1)) (.blt .len (.cons (.var 0) .nil)) (.con (.int 12))))) (.not (.tr (.blt .all (.cons (.lc0 (.call 12 (.cons (.var 1) .nil)) (.name 1) (.val (.var 0))) .nil)))))) (.cons (.ret [] (.con (.bl false)))
    .nil) .nil)
    (.cons (.ret [] (.blt .all (.cons (.lc0 (.cmp .Lt (.var 1) (.var 2)) (.tup (.name 1) (.name 2)) (.zip (.var 0) (.slL (.var 0) (.con (.int 1))))) .nil)))
    .nil))
def d13 : FnD := ⟨(Str.ofString "_law_is_parts"), [(Str.ofString "_law_value")], [(Str.ofString "_law_value"), (Str.ofString "_law_one"), (Str.ofString "_law_two")], b13⟩
def s13 : Stmt := top 20
def sBag : Stmt := top 13
def sLaw : Stmt := top 21
def tab : List FnD := [d0, d1, d2, d3, d4, d5, d6, d7, d8, d9, d10, d11, d12, d13]
def con : List (Str × T) := [((Str.ofString "LETTERS"), (.str (Str.ofString "abcdefghijklmnopqrstuvwxyz"))), ((Str.ofString "MOST_LETTERS"), (.int 6)), ((Str.ofString "MOST_PARCELS"), (.int 12)), ((Str.ofString "LAST_DAY"), (.int 9999)), ((Str.ofString "int"), .ty "int"), ((Str.ofString "str"), .ty "str"), ((Str.ofString "bool"), .ty "bool"), ((Str.ofString "list"), .ty "list"), ((Str.ofString "tuple"), .ty "tuple"), ((Str.ofString "dict"), .ty "dict")]
def kw : List (Nat × List Str) := [(1, [(Str.ofString "most"), (Str.ofString "value"), (Str.ofString "least")]), (2, [(Str.ofString "value")]), (3, [(Str.ofString "value")]), (4, [(Str.ofString "value")]), (5, [(Str.ofString "value")]), (6, [(Str.ofString "value")])]
def lawN : List Str := [(Str.ofString "_law_script"), (Str.ofString "_law_bag_here"), (Str.ofString "_law_turn"), (Str.ofString "_law_word_here"), (Str.ofString "_law_spot"), (Str.ofString "_law_bent"), (Str.ofString "_law_odd"), (Str.ofString "_law_lot"), (Str.ofString "_law_bad"), (Str.ofString "_law_many"), (Str.ofString "_law_told"), (Str.ofString "_law_wrong"), (Str.ofString "_law_least"), (Str.ofString "_law_most"), (Str.ofString "_law_number"), (Str.ofString "_law_due"), (Str.ofString "_law_k")]
def lawB : Ss := (.cons (.for_ (.name 2) [] (.rng1 (.con (.int 5))) (.cons (.asg 3 [] (.mth .join (.con (.str (Str.ofString ""))) (.cons (.lc0 (.call 8 (.cons (.var 1) (.cons (.con (.str (Str.ofString "abcdefghijklmnopqrstuvwxyz"))) .nil))) (.name 16) (.rng1 (.call 7 (.cons (.var 1) (.cons (.con (.int 9)) .nil))))) .nil)))
    (.cons (.asg 4 [] (.call 7 (.cons (.var 1) (.cons (.bin .Add (.blt .len (.cons (.var 3) .nil)) (.con (.int 1))) .nil))))
    (.cons (.asg 5 [] (.bin .Add (.bin .Add (.slH (.var 3) (.var 4)) (.call 8 (.cons (.var 1) (.cons (.lst (.cons (.con (.str (Str.ofString "A"))) (.cons (.con (.str (Str.ofString "Z"))) (.cons (.con (.str (Str.ofString "0"))) (.cons (.con (.str (Str.ofString "_"))) (.cons (.con (.str (Str.ofString " "))) (.cons (.con (.str (Str.ofString "-"))) (.cons (.con (.str (Str.ofString "\n"))) (.cons (.con (.str (Str.ofString "*"))) (.cons (.con (.str (Str.ofString "aB"))) .nil)))))))))) .nil)))) (.slL (.var 3) (.var 4))))
    (.cons (.asg 6 [] (.call 8 (.cons (.var 1) (.cons (.lst (.cons (.con .non) (.cons (.con (.bl true)) (.cons (.con (.bl false)) (.cons (.con (.int 7)) (.cons (.con (.int 0)) (.cons (.neg (.con (.int 1))) (.cons (.tup .nil) (.cons (.tup (.cons (.con (.str (Str.ofString "a"))) .nil)) (.cons (.lst .nil) (.cons (.lst (.cons (.con (.str (Str.ofString "a"))) .nil)) (.cons (.dct [(Str.ofString "a")] (.cons (.con (.int 1)) .nil)) (.cons (.dct [] .nil) .nil))))))))))))) .nil))))
    (.cons (.ite [] (.not (.tr (.call 11 (.cons (.lst (.cons (.call 2 (.cons (.var 3) .nil)) (.cons (.callK 2 (.cons (.var 3) .nil) [(Str.ofString "value")]) (.cons (.call 2 (.cons (.var 5) .nil)) (.cons (.call 2 (.cons (.var 6) .nil)) .nil))))) (.cons (.bin .Add (.bin .Mult (.lst (.cons (.call 12 (.cons (.var 3) .nil)) .nil)) (.con (.int 2))) (.bin .Mult (.lst (.cons (.con (.bl false)) .nil)) (.con (.int 2)))) .nil))))) (.cons (.ret [] (.con (.bl false)))
    .nil) .nil)
    (.cons (.asg 7 [] (.blt .tuple (.cons (.blt .sorted (.cons (.call 10 (.cons (.var 1) (.cons (.bin .Add (.con (.int 1)) (.call 8 (.cons (.var 1) (.cons (.lst (.cons (.con (.int 0)) (.cons (.con (.int 1)) (.cons (.con (.int 2)) (.cons (.con (.int 3)) (.cons (.con (.int 11)) (.cons (.con (.int 12)) .nil))))))) .nil)))) .nil))) .nil)) .nil)))
    (.cons (.asg 8 [] (.call 8 (.cons (.var 1) (.cons (.lst (.cons (.var 7) (.cons (.blt .list (.cons (.var 7) .nil)) (.cons (.rev (.var 7)) (.cons (.bin .Add (.var 7) (.slL (.var 7) (.neg (.con (.int 1))))) (.cons (.bin .Add (.slH (.var 7) (.con (.int 1))) (.var 7)) (.cons (.bin .Add (.var 7) (.tup (.cons (.con (.str (Str.ofString "A"))) .nil))) (.cons (.bin .Add (.tup (.cons (.con (.str (Str.ofString ""))) .nil)) (.var 7)) (.cons (.bin .Add (.var 7) (.tup (.cons (.con .non) .nil))) (.cons (.tup .nil) (.cons (.con .non) (.cons (.con (.str (Str.ofString "a"))) (.cons (.con (.int 3)) (.cons (.bin .Add (.var 7) (.tup (.cons (.tup .nil) .nil))) (.cons (.bin .Add (.var 7) (.tup (.cons (.con (.str (Str.ofString "zzzzzzz"))) .nil))) (.cons (.bin .Add (.tup (.cons (.con (.bl true)) .nil)) (.var 7)) (.cons (.dct [(Str.ofString "a")] (.cons (.con (.int 1)) .nil)) .nil))))))))))))))))) .nil))))
    (.cons (.ite [] (.not (.tr (.call 11 (.cons (.lst (.cons (.call 3 (.cons (.var 7) .nil)) (.cons (.callK 3 (.cons (.var 8) .nil) [(Str.ofString "value")]) (.cons (.call 3 (.cons (.slH (.var 7) (.con (.int 12))) .nil)) .nil)))) (.cons (.lst (.cons (.cmp .Lt (.blt .len (.cons (.var 7) .nil)) (.con (.int 13))) (.cons (.call 13 (.cons (.var 8) .nil)) (.cons (.con (.bl true)) .nil)))) .nil))))) (.cons (.ret [] (.con (.bl false)))
    .nil) .nil)
    (.cons (.asg 9 [] (.call 8 (.cons (.var 1) (.cons (.lst (.cons (.con (.int 0)) (.cons (.con (.int 1)) (.cons (.neg (.con (.int 1))) (.cons (.con (.int 2)) (.cons (.con (.int 9999)) (.cons (.con (.int 10000)) (.cons (.bin .Sub (.bin .Pow (.con (.int 10)) (.con (.int 12))) (.con (.int 1))) (.cons (.bin .Sub (.con (.int 1)) (.bin .Pow (.con (.int 10)) (.con (.int 12)))) (.cons (.call 7 (.cons (.var 1) (.cons (.bin .Pow (.con (.int 10)) (.con (.int 12))) .nil))) .nil)))))))))) .nil))))
    (.cons (.asg 10 [] (.lst (.cons (.call 4 (.cons (.var 9) .nil)) (.cons (.call 5 (.cons (.var 9) .nil)) (.cons (.call 6 (.cons (.var 9) .nil)) (.cons (.callK 4 (.cons (.var 9) .nil) [(Str.ofString "value")]) (.cons (.callK 5 (.cons (.var 9) .nil) [(Str.ofString "value")]) (.cons (.callK 6 (.cons (.var 9) .nil) [(Str.ofString "value")]) .nil))))))))
    (.cons (.ite [] (.not (.tr (.call 11 (.cons (.var 10) (.cons (.bin .Mult (.lst (.cons (.cmp .Gt (.var 9) (.con (.int 0))) (.cons (.cmp .GtE (.var 9) (.con (.int 0))) (.cons (.chain .LtE .LtE (.con (.int 0)) (.var 9) (.con (.int 9999))) .nil)))) (.con (.int 2))) .nil))))) (.cons (.ret [] (.con (.bl false)))
    .nil) .nil)
    (.cons (.asg 11 [] (.call 8 (.cons (.var 1) (.cons (.lst (.cons (.con .non) (.cons (.con (.bl true)) (.cons (.con (.bl false)) (.cons (.con (.str (Str.ofString "1"))) (.cons (.tup (.cons (.con (.int 1)) .nil)) (.cons (.lst (.cons (.con (.int 1)) .nil)) (.cons (.con (.str (Str.ofString ""))) (.cons (.dct [] .nil) (.cons (.dct [(Str.ofString "a")] (.cons (.con (.int 1)) .nil)) .nil)))))))))) .nil))))
    (.cons (.ite [] (.not (.tr (.call 11 (.cons (.lst (.cons (.call 4 (.cons (.var 11) .nil)) (.cons (.call 5 (.cons (.var 11) .nil)) (.cons (.call 6 (.cons (.var 11) .nil)) (.cons (.call 1 (.cons (.var 11) (.cons (.neg (.con (.int 9))) (.cons (.con (.int 9)) .nil)))) .nil))))) (.cons (.bin .Mult (.lst (.cons (.con (.bl false)) .nil)) (.con (.int 4))) .nil))))) (.cons (.ret [] (.con (.bl false)))
    .nil) .nil)
    (.cons (.asg 12 [] (.bin .Sub (.call 7 (.cons (.var 1) (.cons (.con (.int 2001)) .nil))) (.con (.int 1000))))
    (.cons (.asg 13 [] (.bin .Sub (.bin .Add (.var 12) (.call 7 (.cons (.var 1) (.cons (.con (.int 20)) .nil)))) (.con (.int 3))))
    (.cons (.for_ (.name 14) [] (.val (.lst (.cons (.bin .Sub (.var 12) (.con (.int 1))) (.cons (.var 12) (.cons (.var 13) (.cons (.bin .Add (.var 13) (.con (.int 1))) (.cons (.var 9) .nil))))))) (.cons (.asg 15 [] (.chain .LtE .LtE (.var 12) (.var 14) (.var 13)))
    (.cons (.ite [] (.not (.tr (.call 11 (.cons (.lst (.cons (.call 1 (.cons (.var 14) (.cons (.var 12) (.cons (.var 13) .nil)))) (.cons (.callK 1 (.cons (.var 13) (.cons (.var 14) (.cons (.var 12) .nil))) [(Str.ofString "most"), (Str.ofString "value"), (Str.ofString "least")]) .nil))) (.cons (.lst (.cons (.var 15) (.cons (.var 15) .nil))) .nil))))) (.cons (.ret [] (.con (.bl false)))
    .nil) .nil)
    .nil)))
    .nil)))))))))))))))))
    (.cons (.ret [] (.con (.bl true)))
    .nil))
def consts : List Str := [(Str.ofString "LETTERS"), (Str.ofString "MOST_LETTERS"), (Str.ofString "MOST_PARCELS"), (Str.ofString "LAST_DAY")]
end K01
namespace K01
open PySem L2 DI
abbrev G : Gm := gmT tab con kw
theorem f0 : fnsB d0.N d0.ps (defScope s0) = true := by decide +kernel
theorem c0 : chkSs G d0.body ⟨d0.N, defScope s0, fun _ => true⟩ (defBody s0) = true := by decide +kernel
theorem f1 : fnsB d1.N d1.ps (defScope s1) = true := by decide +kernel
theorem c1 : chkSs G d1.body ⟨d1.N, defScope s1, fun _ => true⟩ (defBody s1) = true := by decide +kernel
theorem f2 : fnsB d2.N d2.ps (defScope s2) = true := by decide +kernel
theorem c2 : chkSs G d2.body ⟨d2.N, defScope s2, fun _ => true⟩ (defBody s2) = true := by decide +kernel
theorem f3 : fnsB d3.N d3.ps (defScope s3) = true := by decide +kernel
theorem c3 : chkSs G d3.body ⟨d3.N, defScope s3, fun _ => true⟩ (defBody s3) = true := by decide +kernel
theorem f4 : fnsB d4.N d4.ps (defScope s4) = true := by decide +kernel
theorem c4 : chkSs G d4.body ⟨d4.N, defScope s4, fun _ => true⟩ (defBody s4) = true := by decide +kernel
theorem f5 : fnsB d5.N d5.ps (defScope s5) = true := by decide +kernel
theorem c5 : chkSs G d5.body ⟨d5.N, defScope s5, fun _ => true⟩ (defBody s5) = true := by decide +kernel
theorem f6 : fnsB d6.N d6.ps (defScope s6) = true := by decide +kernel
theorem c6 : chkSs G d6.body ⟨d6.N, defScope s6, fun _ => true⟩ (defBody s6) = true := by decide +kernel
theorem f7 : fnsB d7.N d7.ps (defScope s7) = true := by decide +kernel
theorem c7 : chkSs G d7.body ⟨d7.N, defScope s7, fun _ => true⟩ (defBody s7) = true := by decide +kernel
theorem f8 : fnsB d8.N d8.ps (defScope s8) = true := by decide +kernel
theorem c8 : chkSs G d8.body ⟨d8.N, defScope s8, fun _ => true⟩ (defBody s8) = true := by decide +kernel
theorem f9 : fnsB d9.N d9.ps (defScope s9) = true := by decide +kernel
theorem c9 : chkSs G d9.body ⟨d9.N, defScope s9, fun _ => true⟩ (defBody s9) = true := by decide +kernel
theorem f10 : fnsB d10.N d10.ps (defScope s10) = true := by decide +kernel
theorem c10 : chkSs G d10.body ⟨d10.N, defScope s10, fun _ => true⟩ (defBody s10) = true := by decide +kernel
theorem f11 : fnsB d11.N d11.ps (defScope s11) = true := by decide +kernel
theorem c11 : chkSs G d11.body ⟨d11.N, defScope s11, fun _ => true⟩ (defBody s11) = true := by decide +kernel
theorem f12 : fnsB d12.N d12.ps (defScope s12) = true := by decide +kernel
theorem c12 : chkSs G d12.body ⟨d12.N, defScope s12, fun _ => true⟩ (defBody s12) = true := by decide +kernel
theorem f13 : fnsB d13.N d13.ps (defScope s13) = true := by decide +kernel
theorem c13 : chkSs G d13.body ⟨d13.N, defScope s13, fun _ => true⟩ (defBody s13) = true := by decide +kernel
theorem fL : fnsB lawN ["_law_script"] (defScope sLaw) = true := by decide +kernel
theorem cL : chkSs G lawB ⟨lawN, defScope sLaw, fun _ => true⟩ ((defBody sLaw).drop 1) = true := by decide +kernel
end K01

set_option Elab.async false
set_option linter.all false
set_option maxRecDepth 100000
set_option maxHeartbeats 8000000
namespace K01
open PySem L2 DI
/-! ### one row a def -/
def isInt : T → Bool
  | .int _ => true
  | _ => false
theorem whole_ok (k : Nat) (t : T) (h : (kdOf t).isSome = true) (b : Bag) : callI tab (k+1) 0 [t] b = some (.bl (isInt t), b) := by
  cases t <;> first | rfl | cases h
def numT (t : T) (l m : Int) : Bool := match t with
  | .int i => decide (l ≤ i) && decide (i ≤ m)
  | _ => false
theorem number_ok (k : Nat) (t : T) (l m : Int) (h : (kdOf t).isSome = true) (b : Bag) : callI tab (k+2) 1 [t, .int l, .int m] b = some (.bl (numT t l m), b) := by
  have e : callI tab (k+2) 1 [t, .int l, .int m] = runF (callI tab (k+1)) (parsT tab) 3 b1 [t, .int l, .int m] := rfl
  rw [e]
  cases t <;> first | (cases h; done) | rfl | skip
  rename_i i
  refine Ok.get (run_ok (st_ret (R := fun t b' => t = .bl (numT (.int i) l m) ∧ b' = b) ?_ fun t b' q => ⟨t, rfl, q⟩))
  simp
  refine Ok.at (whole_ok k _ rfl b) ?_
  simp [isInt, numT]
  by_cases h1 : l ≤ i <;> simp [h1]
def amtT : T → Bool
  | .int i => decide (1 ≤ i)
  | _ => false
def priT : T → Bool
  | .int i => decide (0 ≤ i)
  | _ => false
theorem amount_ok (k : Nat) (t : T) (h : (kdOf t).isSome = true) (b : Bag) : callI tab (k+2) 4 [t] b = some (.bl (amtT t), b) := by
  have e : callI tab (k+2) 4 [t] = runF (callI tab (k+1)) (parsT tab) 1 b4 [t] := rfl
  rw [e]
  cases t <;> first | (cases h; done) | rfl | skip
theorem price_ok (k : Nat) (t : T) (h : (kdOf t).isSome = true) (b : Bag) : callI tab (k+2) 5 [t] b = some (.bl (priT t), b) := by
  have e : callI tab (k+2) 5 [t] = runF (callI tab (k+1)) (parsT tab) 1 b5 [t] := rfl
  rw [e]
  cases t <;> first | (cases h; done) | rfl | skip
theorem day_ok (k : Nat) (t : T) (h : (kdOf t).isSome = true) (b : Bag) : callI tab (k+3) 6 [t] b = some (.bl (numT t 0 9999), b) := by
  have e : callI tab (k+3) 6 [t] = runF (callI tab (k+2)) (parsT tab) 1 b6 [t] := rfl
  rw [e]
  refine Ok.get (run_ok (st_ret (R := fun x b' => x = .bl (numT t 0 9999) ∧ b' = b) ?_ fun t b' q => ⟨t, rfl, q⟩))
  simp
  exact Ok.eq (number_ok k t 0 9999 h b) ⟨rfl, rfl⟩
theorem all_chars (s : Str) : (chrs s).map (fun x => decide (x.cps.toList.headD 0 ∈ letS.cps.toList)) = s.cps.toList.map isL := by
  unfold chrs
  rw [List.map_map]
  apply List.map_congr_left
  intro c _
  show decide (c ∈ letS.cps.toList) = isL c
  exact let_mem c
theorem chars_lc {i : Nat} {ρ : View} {f : View → Ev (Option T)} {b : Bag} (s : Str) (hi : i < ρ.length) (h : ∀ c, f (ρ.set i (some (.str ⟨#[c]⟩))) b = some (some (.bl (decide (c ∈ letS.cps.toList))), b)) : lcE (.name i) ρ f ((chrs s).map .str) b = some ((s.cps.toList.map isL).map .bl, b) := by
  have key := lcE_map (g := fun t => match t with | T.str x => T.bl (decide (x.cps.toList.headD 0 ∈ letS.cps.toList)) | _ => T.non) (b := b) (f := f) hi (items := (chrs s).map .str) fun t ht => by
    obtain ⟨x, hx, rfl⟩ := List.mem_map.mp ht
    obtain ⟨c, _, rfl⟩ := List.mem_map.mp hx
    exact h c
  rw [key, List.map_map, ← all_chars, List.map_map]
  rfl
theorem name_ok (k : Nat) (t : T) (h : (kdOf t).isSome = true) (b : Bag) : callI tab (k+1) 2 [t] b = some (.bl (nameT t), b) := by
  have e : callI tab (k+1) 2 [t] = runF (callI tab k) (parsT tab) 2 b2 [t] := rfl
  rw [e]
  cases t <;> first | rfl | (cases h; done) | skip
  rename_i s
  refine Ok.get (run_ok (st_if (R := fun t b' => t = !(decide (1 ≤ s.length) && decide (s.length ≤ 6)) ∧ b' = b) ?_ fun t b' q => ?_))
  · simp [isiT, kdOf, isiOne, kdTy, kdIs]
    by_cases h1 : 1 ≤ s.length
    · have h1' : (1 : Int) ≤ s.length := by omega
      simp [h1, h1']
      omega
    · have h1' : ¬ (1 : Int) ≤ s.length := by omega
      simp [h1, h1']
  · obtain ⟨rfl, rfl⟩ := q
    by_cases h1 : (decide (1 ≤ s.length) && decide (s.length ≤ 6)) = true
    · rw [h1, if_neg (by simp)]
      refine st_nil (st_ret (R := fun t b1 => t = .bl (nameS s) ∧ b1 = b') ?_ fun t b1 q => ⟨t, rfl, q⟩)
      simp
      refine Ok.at (chars_lc s (by show 1 < 2; decide) fun c => rfl) ?_
      simp at h1
      simp [nameS, lets, h1]
    · have h2 : (decide (1 ≤ s.length) && decide (s.length ≤ 6)) = false := by simpa using h1
      rw [h2, if_pos (by simp)]
      refine st_ret (R := fun t b1 => t = .bl (nameS s) ∧ b1 = b') ?_ fun t b1 q => ⟨t, rfl, q⟩
      simp [nameS, h2]
theorem isword_ok (k : Nat) (t : T) (h : (kdOf t).isSome = true) (b : Bag) : callI tab (k+1) 12 [t] b = some (.bl (nameT t), b) := by
  have e : callI tab (k+1) 12 [t] = runF (callI tab k) (parsT tab) 2 b12 [t] := rfl
  rw [e]
  cases t <;> first | rfl | (cases h; done) | skip
  rename_i s
  refine Ok.get (run_ok (st_ret (R := fun t b' => t = .bl (nameS s) ∧ b' = b) ?_ fun t b1 q => ⟨t, rfl, q⟩))
  simp [isiT, kdOf, isiOne, kdTy, kdIs]
  by_cases h1 : 1 ≤ s.length
  · have h1' : (1 : Int) ≤ s.length := by omega
    by_cases h2 : s.length ≤ 6
    · have h2' : (s.length : Int) ≤ 6 := by omega
      simp [h1', h2']
      refine Ok.at (chars_lc s (by show 1 < 2; decide) fun c => rfl) ?_
      simp [nameS, lets, h1, h2]
    · have h2' : ¬ (s.length : Int) ≤ 6 := by omega
      simp [h1', h2', nameS, h2]
  · have h1' : ¬ (1 : Int) ≤ s.length := by omega
    simp [h1', nameS, h1]
/-! ### the drawings -/
theorem draw_k (k : Nat) (b : Bag) (m : Int) (ok : BagOk b) (hm : 0 < m) (hw : m ≤ 10 ^ 18) : Ok (callI tab (k+1) 7 [.bag, .int m]) b fun t b' => BagOk b' ∧ ∃ d, t = .int d ∧ 0 ≤ d ∧ d < m := draw_ok b m ok hm (wide_small hm hw)
theorem pickL_k (k : Nat) (b : Bag) (ts : List T) (ok : BagOk b) (h0 : ts ≠ []) (h1 : ts.length ≤ 100) : Ok (callI tab (k+2) 8 [.bag, .lst ts]) b fun t b' => BagOk b' ∧ t ∈ ts := by
  have e : callI tab (k+2) 8 [.bag, .lst ts] = runF (callI tab (k+1)) (parsT tab) 2 b8 [.bag, .lst ts] := rfl
  rw [e]
  have hp : 0 < ts.length := List.length_pos_iff.mpr h0
  refine run_ok (st_ret (R := fun t b' => BagOk b' ∧ t ∈ ts) ?_ fun t b1 q => ⟨t, rfl, q⟩)
  simp
  refine Ok.then (draw_k k b ts.length ok (by omega) (by omega)) fun x b' q => ?_
  obtain ⟨ok', d, rfl, hd0, hd1⟩ := q
  obtain ⟨v, hv, hm⟩ := atI_in hd0 hd1
  simp [hv, ok', hm]
theorem pickS_k (k : Nat) (b : Bag) (s : Str) (ok : BagOk b) (h0 : 0 < s.length) (h1 : s.length ≤ 100) : Ok (callI tab (k+2) 8 [.bag, .str s]) b fun t b' => BagOk b' ∧ ∃ c ∈ s.cps.toList, t = .str ⟨#[c]⟩ := by
  have e : callI tab (k+2) 8 [.bag, .str s] = runF (callI tab (k+1)) (parsT tab) 2 b8 [.bag, .str s] := rfl
  rw [e]
  refine run_ok (st_ret (R := fun t b' => BagOk b' ∧ ∃ c ∈ s.cps.toList, t = .str ⟨#[c]⟩) ?_ fun t b1 q => ⟨t, rfl, q⟩)
  simp
  refine Ok.then (draw_k k b s.length ok (by omega) (by omega)) fun x b' q => ?_
  obtain ⟨ok', d, rfl, hd0, hd1⟩ := q
  rw [len_list] at hd1
  obtain ⟨v, hv, hm⟩ := atI_in hd0 hd1
  simp [hv, ok']
  simpa using hm
theorem word_lc {ρ : View} {f : View → Ev (Option T)} {i : Nat} {n : Nat} {b : Bag} (ok : BagOk b) (hi : i < ρ.length) (hf : ∀ t b, BagOk b → Ok (f (ρ.set i (some t))) b fun o b' => BagOk b' ∧ ∃ y, o = some y ∧ ∃ c ∈ letS.cps.toList, y = .str ⟨#[c]⟩) {items : List T} (hl : items.length = n) :
    Ok (lcE (.name i) ρ f items) b fun ys b' => BagOk b' ∧ ∃ x : Str, ys = (chrs x).map .str ∧ x.length = n ∧ lets x = true := by
  refine (lcE_ok hi ok fun t _ b h => hf t b h).mono fun ys b' q => ?_
  obtain ⟨ok', hl', hr⟩ := q
  have : ∀ ys : List T, (∀ y ∈ ys, ∃ c ∈ letS.cps.toList, y = T.str ⟨#[c]⟩) → ∃ cs : List Nat, ys = cs.map (fun c => T.str ⟨#[c]⟩) ∧ cs.all isL = true := by
    intro ys
    induction ys with
    | nil => intro _; exact ⟨[], rfl, rfl⟩
    | cons y r ih =>
      intro h
      obtain ⟨cs, e1, e2⟩ := ih fun z hz => h z (by simp [hz])
      obtain ⟨c, hc, e3⟩ := h y (by simp)
      refine ⟨c :: cs, by rw [e1, e3]; rfl, ?_⟩
      have := let_mem c
      rw [decide_eq_true hc] at this
      simp [← this]
      simpa using e2
  obtain ⟨cs, e1, e2⟩ := this ys hr
  refine ⟨ok', ⟨⟨cs⟩⟩, ?_, ?_, e2⟩
  · rw [e1]
    unfold chrs
    rw [List.map_map]
    rfl
  · rw [len_list]
    show cs.length = n
    rw [e1, List.length_map] at hl'
    omega
theorem join_chrs (x : Str) : Str.join (Str.ofString "") (chrs x) = x := by
  apply str_ext
  rw [join_empty]
  unfold chrs
  rw [List.map_map]
  show (x.cps.toList.map fun c => [c]).flatten = _
  induction x.cps.toList with
  | nil => rfl
  | cons c r ih => simp [ih]
theorem chrs_len (x : Str) : (chrs x).length = x.length := by
  rw [len_list]
  simp [chrs]
theorem chrs_sum (x : Str) : ((chrs x).map (·.length)).sum = x.length := by
  rw [len_list]
  unfold chrs
  rw [List.map_map]
  show (x.cps.toList.map fun c => 1).sum = _
  induction x.cps.toList with
  | nil => rfl
  | cons c r ih => simp [ih]; omega
theorem mth_join (x : Str) (h : x.length ≤ 1000) : mthT .join (.str (Str.ofString "")) [.lst ((chrs x).map .str)] = some (.str x) := by
  have e0 : (Str.ofString "").length = 0 := by decide +kernel
  simp only [mthT, strsT_map, chrs_sum, e0, Nat.mul_zero, Nat.add_zero, join_chrs]
  rw [if_pos (lim_le (by omega))]
theorem rng_len {n : Int} (h0 : 0 ≤ n) (h1 : n ≤ 1000) : ∃ ts, rngT 0 n = some ts ∧ ts.length = n.toNat := by
  unfold rngT
  rw [if_pos (by omega)]
  exact ⟨_, rfl, by simp⟩
theorem letS_len : letS.length = 26 := by decide +kernel
/-- a word of n drawn letters -/
theorem letters_k (k : Nat) {ρ : View} {i : Nat} {n : Nat} {b : Bag} {eb el : E} (ok : BagOk b) (hi : i < (wipeV ρ [i]).length) (hb : ∀ t, evE (callI tab (k+2)) (parsT tab) eb ((wipeV ρ [i]).set i (some t)) = Ev.pure .bag)
    (he : ∀ t, evE (callI tab (k+2)) (parsT tab) el ((wipeV ρ [i]).set i (some t)) = Ev.pure (.str letS)) {items : List T} (hl : items.length = n) :
    Ok (lcB (callI tab (k+2)) (parsT tab) (.call 8 (.cons eb (.cons el .nil))) (.name i) ρ items) b fun ys b' => BagOk b' ∧ ∃ x : Str, ys = (chrs x).map .str ∧ x.length = n ∧ lets x = true := by
  refine word_lc ok hi (fun t b1 h1 => ?_) hl
  simp only [e_call, es_cons, es_nil, hb, he, tgSlots, evb_pure, evb_assoc]
  refine Ok.then (pickS_k k b1 letS h1 (by rw [letS_len]; decide) (by rw [letS_len]; decide)) fun y b' q => ?_
  exact Ok.pure ⟨q.1, y, rfl, q.2⟩
theorem word_k (k : Nat) (b : Bag) (m : Int) (ok : BagOk b) (h0 : 0 < m) (h1 : m ≤ 100) : Ok (callI tab (k+3) 9 [.bag, .int m]) b fun t b' => BagOk b' ∧ ∃ x : Str, t = .str x ∧ 1 ≤ x.length ∧ x.length ≤ m.toNat ∧ lets x = true := by
  have e : callI tab (k+3) 9 [.bag, .int m] = runF (callI tab (k+2)) (parsT tab) 4 b9 [.bag, .int m] := rfl
  rw [e]
  refine run_ok (st_asg (R := fun t b' => t = .str letS ∧ b' = b) (by simp [letS]) (by simp) fun t b' q => ?_)
  obtain ⟨rfl, rfl⟩ := q
  refine st_ret (R := fun t b' => BagOk b' ∧ ∃ x : Str, t = .str x ∧ 1 ≤ x.length ∧ x.length ≤ m.toNat ∧ lets x = true) ?_ fun t b1 q => ⟨t, rfl, q⟩
  simp [frz]
  refine Ok.then (draw_k (k+1) b' m ok h0 (by omega)) fun x b1 q => ?_
  obtain ⟨ok1, d, rfl, hd0, hd1⟩ := q
  obtain ⟨ts, e1, e2⟩ := rng_len (n := 1 + d) (by omega) (by omega)
  simp [e1]
  refine Ok.then (letters_k k ok1 (by simp [wipeV]) (fun t => by simp [wipeV]) (fun t => by simp [wipeV]) e2) fun ys b2 q => ?_
  obtain ⟨ok2, x, rfl, hl, ha⟩ := q
  rw [mth_join x (by omega)]
  exact Ok.pure ⟨ok2, x, rfl, by omega, by omega, ha⟩
end K01

set_option Elab.async false
set_option linter.all false
set_option maxRecDepth 100000
set_option maxHeartbeats 8000000
namespace K01
open PySem L2 DI
/-! ### lots -/
def ltS2 : T → T → Bool
  | .str a, .str b => ltS a b
  | _, _ => false
def upB (ts : List T) : Bool := ((ts.zip (ts.drop 1)).map fun p => ltS2 p.1 p.2).all id
def okT : T → Bool
  | .tup ts => ts.all fun t => (kdOf t).isSome
  | t => (kdOf t).isSome
def lotT : T → Bool
  | .tup ts => decide (1 ≤ ts.length ∧ ts.length ≤ 12) && ts.all nameT && upB ts
  | _ => false
theorem name_str {t : T} (h : nameT t = true) : ∃ x, t = .str x ∧ nameS x = true := by
  cases t <;> first | (cases h; done) | exact ⟨_, rfl, h⟩
theorem cut_drop (xs : List T) : cutT xs (some 1) none = xs.drop 1 := by
  unfold cutT
  have e : HT.sIx xs.length 0 (some 1) = min 1 xs.length := HT.sIx_nat xs.length 0 1
  rw [e, HT.sIx_none]
  by_cases h : 1 ≤ xs.length
  · rw [Nat.min_eq_left h]
    exact List.take_of_length_le (by simp)
  · have : xs = [] := List.length_eq_zero_iff.mp (by omega)
    subst this
    rfl
theorem names_lc {k f i : Nat} {ρ : View} {b : Bag} {ts : List T} (hn : ∀ t b, (kdOf t).isSome = true → callI tab k f [t] b = some (.bl (nameT t), b)) (hi : i < (wipeV ρ [i]).length) (he : ∀ t, evE (callI tab k) (parsT tab) (.var i) ((wipeV ρ [i]).set i (some t)) = Ev.pure t) (h : ts.all (fun t => (kdOf t).isSome) = true) : lcB (callI tab k) (parsT tab) (.call f (.cons (.var i) .nil)) (.name i) ρ ts b = some ((ts.map nameT).map .bl, b) := by
  unfold lcB
  rw [List.map_map]
  refine lcE_map hi fun t ht => ?_
  refine Ok.get ?_
  simp only [e_call, es_cons, es_nil, tgSlots, he, evb_pure, evb_assoc]
  refine Ok.at (hn t b ?_) (Ok.pure ⟨rfl, rfl⟩)
  rw [List.all_eq_true] at h
  exact h t ht
theorem all_names (ts : List T) : ((ts.map nameT).map T.bl) = ts.map (T.bl ∘ nameT) := by rw [List.map_map]
theorem parts_ok (k : Nat) (t : T) (h : okT t = true) (b : Bag) : callI tab (k+2) 13 [t] b = some (.bl (lotT t), b) := by
  have e : callI tab (k+2) 13 [t] = runF (callI tab (k+1)) (parsT tab) 3 b13 [t] := rfl
  rw [e]
  cases t <;> first | rfl | (cases h; done) | skip
  rename_i ts
  have key := names_lc (k := k+1) (f := 12) (i := 1) (ρ := [some (T.tup ts), none, none]) (b := b) (ts := ts) (fun t b h => isword_ok k t h b) (by show 1 < 3; decide) (fun t => rfl) h
  refine Ok.get (run_ok (st_if (R := fun t b' => t = !(decide (1 ≤ ts.length ∧ ts.length ≤ 12) && ts.all nameT) ∧ b' = b) ?_ fun t b' q => ?_))
  · simp [isiT, kdOf, isiOne, kdTy, kdIs]
    by_cases h1 : 1 ≤ ts.length
    · have h1' : (1 : Int) ≤ ts.length := by omega
      by_cases h2 : ts.length ≤ 12
      · have h2' : (ts.length : Int) ≤ 12 := by omega
        simp [h1, h1', h2, h2']
        refine Ok.at key ?_
        simp [List.all_map]
      · have h2' : ¬ (ts.length : Int) ≤ 12 := by omega
        simp [h1, h1', h2, h2']
    · have h1' : ¬ (1 : Int) ≤ ts.length := by omega
      simp [h1, h1']
  · obtain ⟨rfl, rfl⟩ := q
    by_cases h1 : (decide (1 ≤ ts.length ∧ ts.length ≤ 12) && ts.all nameT) = true
    · rw [h1, if_neg (by simp)]
      refine st_nil (st_ret (R := fun t b1 => t = .bl (lotT (.tup ts)) ∧ b1 = b') ?_ fun t b1 q => ⟨t, rfl, q⟩)
      simp only [e_blt, es_cons, es_nil, e_lc0, i_zip, e_slL, e_con, evb_assoc, evb_pure, evb_ofs, intT_int]
      simp only [show evE (callI tab (k+1)) (parsT tab) (.var 0) (viewA [] 0 (List.map Sl.val [T.tup ts] ++ List.replicate (3 - [T.tup ts].length) Sl.un)) = Ev.pure (.tup ts) from rfl, evb_pure, slT_tup, cut_drop, evb_ofs, zip_tup]
      show Ok (Ev.bind (lcB (callI tab (k+1)) (parsT tab) (.cmp .Lt (.var 1) (.var 2)) (.tup (.name 1) (.name 2)) [some (T.tup ts), none, none] _) _) b' _
      refine Ok.at (lcE_map2 (g := fun x y => .bl (ltS2 x y)) (by show 1 < 3; decide) (by show 2 < 3; decide) fun p hp => ?_) ?_
      · have h2 : ts.all nameT = true := by simp at h1; simpa using h1.2
        rw [List.all_eq_true] at h2
        obtain ⟨x, ex, _⟩ := name_str (h2 p.1 (List.of_mem_zip hp).1)
        obtain ⟨y, ey, _⟩ := name_str (h2 p.2 (List.mem_of_mem_drop (List.of_mem_zip hp).2))
        rw [ex, ey]
        rfl
      · simp
        simp only [lotT, h1, upB]
        simp
    · have h2 : (decide (1 ≤ ts.length ∧ ts.length ≤ 12) && ts.all nameT) = false := by simpa using h1
      rw [h2, if_pos (by simp)]
      refine st_ret (R := fun t b1 => t = .bl (lotT (.tup ts)) ∧ b1 = b') ?_ fun t b1 q => ⟨t, rfl, q⟩
      simp only [lotT, h2]
      simp
def gt (ts : List T) (n : Nat) : T := ts.getD n .non
theorem gt_eq {ts : List T} {n : Nat} (h : n < ts.length) : gt ts n = ts[n] := by
  unfold gt
  simp [h]
theorem gt_in {ts : List T} {n : Nat} (h : n < ts.length) : gt ts n ∈ ts := by
  rw [gt_eq h]
  exact List.getElem_mem _
theorem atI_at {ts : List T} {i : Int} (h0 : 0 ≤ i) (h1 : i < ts.length) : atI ts i = some (gt ts i.toNat) := by
  have hl : i.toNat < ts.length := by omega
  unfold atI ixN
  rw [if_pos h0, if_pos h1]
  show ts[i.toNat]? = _
  rw [gt_eq hl]
  simp [hl]
theorem lot_ok (k : Nat) (t : T) (h : okT t = true) (b : Bag) : callI tab (k+2) 3 [t] b = some (.bl (lotT t), b) := by
  have e : callI tab (k+2) 3 [t] = runF (callI tab (k+1)) (parsT tab) 3 b3 [t] := rfl
  rw [e]
  cases t <;> first | rfl | (cases h; done) | skip
  rename_i ts
  have key := names_lc (k := k+1) (f := 2) (i := 2) (ρ := [some (T.tup ts), none, none]) (b := b) (ts := ts) (fun t b h => name_ok k t h b) (by show 2 < 3; decide) (fun t => rfl) h
  refine Ok.get (run_ok (st_if (R := fun t b' => t = !(decide (1 ≤ ts.length ∧ ts.length ≤ 12)) ∧ b' = b) ?_ fun t b' q => ?_))
  · simp [isiT, kdOf, isiOne, kdTy, kdIs]
    by_cases h1 : 1 ≤ ts.length
    · have h1' : (1 : Int) ≤ ts.length := by omega
      simp [h1, h1']
      omega
    · have h1' : ¬ (1 : Int) ≤ ts.length := by omega
      simp [h1, h1']
  · obtain ⟨rfl, rfl⟩ := q
    by_cases h1 : 1 ≤ ts.length ∧ ts.length ≤ 12
    · rw [decide_eq_true h1, if_neg (by simp)]
      refine st_nil (st_if (R := fun t b1 => t = !(ts.all nameT) ∧ b1 = b') ?_ fun t b1 q => ?_)
      · simp
        refine Ok.at key ?_
        simp [List.all_map]
      · obtain ⟨rfl, rfl⟩ := q
        by_cases h2 : ts.all nameT = true
        · rw [h2, if_neg (by simp)]
          refine st_nil (st_ret (R := fun t b2 => t = .bl (lotT (.tup ts)) ∧ b2 = b1) ?_ fun t b1 q => ⟨t, rfl, q⟩)
          simp
          have er : rngT 1 ts.length = some ((List.range ((ts.length : Int) - 1).toNat).map fun (k : Nat) => T.int (1 + (k : Int))) := by
            unfold rngT
            rw [if_pos (by omega)]
          rw [er]
          simp only [evb_ofs]
          refine Ok.at (lcE_map (g := fun t => match t with | T.int i => T.bl (ltS2 (gt ts (i - 1).toNat) (gt ts i.toNat)) | _ => .non) (by show 1 < 3; decide) fun t ht => ?_) ?_
          · obtain ⟨j, hj, rfl⟩ := List.mem_map.mp ht
            have hj := List.mem_range.mp hj
            refine Ok.get ?_
            simp [wipeV, tgSlots, -Int.add_sub_cancel, -Int.toNat_sub, -Int.pred_toNat]
            rw [atI_at (i := 1 + (j : Int) - 1) (by omega) (by omega), atI_at (i := 1 + (j : Int)) (by omega) (by omega)]
            rw [List.all_eq_true] at h2
            have m1 : gt ts (1 + (j : Int) - 1).toNat ∈ ts := gt_in (by omega)
            have m2 : gt ts (1 + (j : Int)).toNat ∈ ts := gt_in (by omega)
            obtain ⟨x, ex, _⟩ := name_str (h2 _ m1)
            obtain ⟨y, ey, _⟩ := name_str (h2 _ m2)
            rw [ex, ey]
            exact Ok.pure ⟨rfl, rfl⟩
          · have eb : ((List.range ((ts.length : Int) - 1).toNat).map fun (k : Nat) => T.int (1 + (k : Int))).map (fun t => match t with | T.int i => T.bl (ltS2 (gt ts (i - 1).toNat) (gt ts i.toNat)) | _ => .non) = ((ts.zip (ts.drop 1)).map fun p => ltS2 p.1 p.2).map .bl := by
              apply List.ext_getElem
              · simp
              · intro j a1 a2
                simp at a1
                have e1 : (1 + (j : Int) - 1).toNat = j := by omega
                have e2 : (1 + (j : Int)).toNat = j + 1 := by omega
                have l1 : j < ts.length := by omega
                have l2 : j + 1 < ts.length := by omega
                simp only [List.getElem_map, List.getElem_range, e1, e2, gt_eq l1, gt_eq l2, List.getElem_zip, List.getElem_drop]
                simp only [Nat.add_comm]
            rw [eb]
            simp
            simp [lotT, upB, h1, h2]
        · have h2 : ts.all nameT = false := by simpa using h2
          rw [h2, if_pos (by simp)]
          refine st_ret (R := fun t b2 => t = .bl (lotT (.tup ts)) ∧ b2 = b1) ?_ fun t b1 q => ⟨t, rfl, q⟩
          simp only [lotT, h2]
          simp
    · rw [decide_eq_false h1, if_pos (by simp)]
      refine st_ret (R := fun t b2 => t = .bl (lotT (.tup ts)) ∧ b2 = b') ?_ fun t b1 q => ⟨t, rfl, q⟩
      simp only [lotT, decide_eq_false h1]
      simp
/-! ### the same -/
theorem same_bl (k : Nat) (p : Bool) (b : Bag) : callI tab (k+1) 11 [.bl p, .bl p] b = some (.bl true, b) := by
  cases p <;> rfl
theorem same_ok (k : Nat) (ps : List Bool) (b : Bag) : callI tab (k+2) 11 [.lst (ps.map .bl), .lst (ps.map .bl)] b = some (.bl true, b) := by
  have e : callI tab (k+2) 11 [.lst (ps.map .bl), .lst (ps.map .bl)] = runF (callI tab (k+1)) (parsT tab) 4 b11 [.lst (ps.map .bl), .lst (ps.map .bl)] := rfl
  rw [e]
  refine Ok.get (run_ok (st_if (R := fun t b' => t = true ∧ b' = b) (by simp [isiT, kdOf, isiOne, isiAny, kdTy, kdIs, LIM]) fun t b' q => ?_))
  obtain ⟨rfl, rfl⟩ := q
  rw [if_pos rfl]
  refine st_skip (R := fun b1 => b1 = b') (by simp [isiT, kdOf, isiOne, isiAny, kdTy, kdIs, LIM]) fun b1 q => ?_
  subst q
  refine st_ret (R := fun t b' => t = .bl true ∧ b' = b1) ?_ fun t b1 q => ⟨t, rfl, q⟩
  simp
  have ez : (ps.map T.bl).zip (ps.map T.bl) = (ps.map fun p => (T.bl p, T.bl p)) := by
    clear e
    induction ps with
    | nil => rfl
    | cons a r ih => simp only [List.map_cons, List.zip_cons_cons, ih]
  rw [ez]
  refine Ok.at (a := (ps.map fun _ => true).map .bl) (b' := b1) ?_ (by simp)
  refine Eq.trans (lcE_map2 (items := ps.map fun p => (T.bl p, T.bl p)) (g := fun x y => .bl true) (by show 2 < 4; decide) (by show 3 < 4; decide) fun p hp => ?_) ?_
  · obtain ⟨q, _, rfl⟩ := List.mem_map.mp hp
    refine Ok.get ?_
    simp [wipeV, tgSlots]
    exact Ok.at (same_bl k q b1) (Ok.pure ⟨rfl, rfl⟩)
  · simp
end K01

set_option Elab.async false
set_option linter.all false
set_option maxRecDepth 100000
set_option maxHeartbeats 8000000
namespace K01
open PySem L2 DI
/-! ### names -/
def abc : Str := Str.ofString "abcdefghijklmnop"
theorem abc_list : (chrs abc) = [⟨#[97]⟩, ⟨#[98]⟩, ⟨#[99]⟩, ⟨#[100]⟩, ⟨#[101]⟩, ⟨#[102]⟩, ⟨#[103]⟩, ⟨#[104]⟩, ⟨#[105]⟩, ⟨#[106]⟩, ⟨#[107]⟩, ⟨#[108]⟩, ⟨#[109]⟩, ⟨#[110]⟩, ⟨#[111]⟩, ⟨#[112]⟩] := by decide +kernel
theorem abc_nodup : (chrs abc).Nodup := by decide +kernel
theorem abc_names : ∀ x ∈ chrs abc, nameS x = true := by
  rw [abc_list]
  decide +kernel
theorem abc_len : (chrs abc).length = 16 := by decide +kernel
structure Found (xs : List Str) : Prop where
  nd : xs.Nodup
  nm : ∀ x ∈ xs, nameS x = true
theorem nameS_lets {x : Str} (h : nameS x = true) : lets x = true ∧ 1 ≤ x.length ∧ x.length ≤ 6 := by
  unfold nameS at h
  simp at h
  exact ⟨h.2, h.1.1, h.1.2⟩
theorem nameS_mk {x : Str} (h : lets x = true) (h1 : 1 ≤ x.length) (h2 : x.length ≤ 6) : nameS x = true := by
  unfold nameS
  simp [h, h1, h2]
theorem fresh_ok {xs : List Str} {w : Str} (h : Found xs) (hw : nameS w = true) (hl : xs.length ≤ 15) : ∃ x r, ((w :: chrs abc).map T.str).filter (fun t => match t with | T.str x => !decide (x ∈ xs) | _ => false) = .str x :: r ∧ nameS x = true ∧ x ∉ xs := by
  have e : ((w :: chrs abc).map T.str).filter (fun t => match t with | T.str x => !decide (x ∈ xs) | _ => false) = ((w :: chrs abc).filter fun x => !decide (x ∈ xs)).map T.str := by
    rw [List.filter_map]
    rfl
  rw [e]
  cases hf : (w :: chrs abc).filter fun x => !decide (x ∈ xs) with
  | nil =>
    exfalso
    have := List.filter_eq_nil_iff.mp hf
    have h2 := nodup_len abc_nodup (m := xs) fun x hx => by
      have := this x (by simp [hx])
      simpa using this
    rw [abc_len] at h2
    omega
  | cons x r =>
    have hm : x ∈ (w :: chrs abc).filter fun x => !decide (x ∈ xs) := by rw [hf]; simp
    rw [List.mem_filter] at hm
    refine ⟨x, _, rfl, ?_, by simpa using hm.2⟩
    rcases List.mem_cons.mp hm.1 with rfl | h1
    · exact hw
    · exact abc_names x h1
theorem found_add {xs : List Str} {x : Str} (h : Found xs) (h1 : nameS x = true) (h2 : x ∉ xs) : Found (xs ++ [x]) := by
  refine ⟨?_, fun y hy => ?_⟩
  · rw [List.nodup_append]
    refine ⟨h.nd, by simp, fun a ha b hb => ?_⟩
    simp at hb
    subst hb
    intro e
    exact h2 (by rw [← e]; exact ha)
  · rw [List.mem_append] at hy
    rcases hy with hy | hy
    · exact h.nm y hy
    · simp at hy
      rw [hy]
      exact h1
theorem names_k (k : Nat) (b : Bag) (n : Int) (ok : BagOk b) (h0 : 0 ≤ n) (h1 : n ≤ 15) : Ok (callI tab (k+4) 10 [.bag, .int n]) b fun t b' => BagOk b' ∧ ∃ xs : List Str, t = .lst (xs.map .str) ∧ xs.length = n.toNat ∧ Found xs := by
  have e : callI tab (k+4) 10 [.bag, .int n] = runF (callI tab (k+3)) (parsT tab) 8 b10 [.bag, .int n] := rfl
  rw [e]
  refine run_ok (st_new (R := fun ts b' => ts = [] ∧ b' = b) (by simp [LIM]) (by simp) fun ts b' q => ?_)
  obtain ⟨rfl, rfl⟩ := q
  obtain ⟨its, ei, hl⟩ := rng_len h0 (by omega)
  refine st_for (R := fun ts b1 => ts = its ∧ b1 = b') (by simp [ei]) fun ts b1 q => ?_
  obtain ⟨rfl, rfl⟩ := q
  refine forL_ok (I := fun _ => True) (J := fun r ss b => BagOk b ∧ ∃ (xs : List Str) (o3 o4 o5 o6 o7 : Option T), ss = [.val .bag, .val (.int n), .own (xs.map .str), sl o3, sl o4, sl o5, sl o6, sl o7] ∧ Found xs ∧ xs.length + r.length = n.toNat) ?_ ?_ ?_
  · exact ⟨ok, [], none, none, none, none, none, rfl, ⟨by simp, by simp⟩, by simpa using hl⟩
  · intro t r ss b ⟨ok, xs, o3, o4, o5, o6, o7, ess, fx, hx⟩
    subst ess
    simp only [List.length_cons] at hx
    refine ⟨[.val .bag, .val (.int n), .own (xs.map .str), sl (some t), sl o4, sl o5, sl o6, sl o7], rfl, ?_⟩
    refine st_asg (R := fun t b' => BagOk b' ∧ ∃ x : Str, t = .str x ∧ nameS x = true) ?_ (by simp) fun t1 b2 q => ?_
    · simp
      refine (word_k k b 6 ok (by omega) (by omega)).mono fun t b' q => ?_
      obtain ⟨ok', x, rfl, a1, a2, a3⟩ := q
      exact ⟨ok', x, rfl, nameS_mk a3 a1 a2⟩
    obtain ⟨ok2, w, rfl, hw⟩ := q
    show Ok (exs _ _ _ [.val .bag, .val (.int n), .own (xs.map .str), sl (some t), sl (some (.str w)), sl o5, sl o6, sl o7]) _ _
    have hso : ∀ x ∈ xs, PyData.strOk x = true := fun x hx => lets_strOk (nameS_lets (fx.nm x hx)).1
    have fin : ∀ (w : Str) (o5 o6 : Option T) (b3 : Bag) (Q : Out → Bag → Prop), nameS w = true → BagOk b3 → (∀ s2 b', (BagOk b' ∧ ∃ (xs : List Str) (o3 o4 o5 o6 o7 : Option T), s2 = [.val .bag, .val (.int n), .own (xs.map .str), sl o3, sl o4, sl o5, sl o6, sl o7] ∧ Found xs ∧ xs.length + r.length = n.toNat) → Q (.nx s2) b') → Ok (exs (callI tab (k+3)) (parsT tab) (.cons (.app 2 [2] (.idx (.lc (.var 7) (.name 7) (.val (.bin .Add (.lst (.cons (.var 4) .nil)) (.blt .list (.cons (.con (.str (Str.ofString "abcdefghijklmnop"))) .nil)))) (.tr (.cmp .NotIn (.var 7) (.var 2)))) (.con (.int 0)))) .nil)
        [.val .bag, .val (.int n), .own (xs.map .str), sl (some t), sl (some (.str w)), sl o5, sl o6, sl o7]) b3 Q := by
      intro w o5 o6 b3 Q hw ok3 hQ
      refine st_app (R := fun t b' => BagOk b' ∧ ∃ x : Str, t = .str x ∧ nameS x = true ∧ x ∉ xs) ?_ rfl (by rw [List.length_map]; exact Nat.lt_of_le_of_lt (show xs.length ≤ 15 by omega) (by decide)) fun t2 b4 q => ?_
      · simp only [e_idx, e_lc, i_val, e_bin, e_blt, e_lst, es_cons, es_nil, e_con, evb_assoc, evb_pure]
        show Ok (Ev.bind (Ev.pure (T.str w)) _) b3 _
        simp only [evb_pure]
        show Ok (Ev.bind (Ev.of (some (T.lst [T.str w]))) fun x => Ev.bind (Ev.of (some (T.lst ((chrs abc).map .str)))) _) b3 _
        simp only [evb_ofs]
        have ea : binT .Add (T.lst [T.str w]) (T.lst ((chrs abc).map .str)) = some (T.lst ((w :: chrs abc).map T.str)) := by
          rw [binT_add]
          simp only [addT, catT]
          rw [if_pos (by rw [List.length_map, abc_len]; exact lim_le (by simp))]
          rfl
        rw [ea]
        simp only [evb_ofs, seqT_lst]
        refine Ok.at (lcE_filter (p := fun t => match t with | T.str x => !decide (x ∈ xs) | _ => false) (by simp [wipeV, tgSlots]) fun t2 ht => ?_) ?_
        · obtain ⟨x, _, rfl⟩ := List.mem_map.mp ht
          refine Ok.get ?_
          simp [wipeV, tgSlots, inT_strs]
          by_cases hx : x ∈ xs <;> simp [hx]
        · obtain ⟨x, r2, e1, h1, h2⟩ := fresh_ok fx hw (by omega)
          rw [e1]
          simp only [evb_pure, idxT_lst]
          exact Ok.of (a := .str x) (by simp [atI, ixN]) ⟨ok3, x, rfl, h1, h2⟩
      · obtain ⟨ok4, x, rfl, h1, h2⟩ := q
        refine ⟨.inl rfl, st_nil (hQ _ _ ⟨ok4, xs ++ [x], some t, some (.str w), o5, o6, o7, ?_, found_add fx h1 h2, by rw [List.length_append]; simp; omega⟩)⟩
        simp
    refine st_if (R := fun t b' => BagOk b' ∧ (t = true → xs ≠ [])) ?_ fun t2 b3 q => ?_
    · simp [LIM, eqT_empty xs hso]
      by_cases hx0 : xs = []
      · subst hx0; simp [ok2]
      · simp [hx0]
        refine Ok.then (draw_k (k+2) b2 2 ok2 (by omega) (by omega)) fun x b' q => ?_
        obtain ⟨ok', d, rfl, _, _⟩ := q
        simp [ok']
    obtain ⟨ok3, hx0⟩ := q
    cases t2 with
    | false => exact Ok.eq rfl (fin w o5 o6 b3 _ hw ok3 fun s2 b' p => p)
    | true =>
      have hx0 := hx0 rfl
      rw [if_pos rfl]
      refine st_asg (R := fun t b' => BagOk b' ∧ ∃ x : Str, t = .str x ∧ x ∈ xs) ?_ (by simp) fun t1 b4 q => ?_
      · simp
        refine (pickL_k (k+1) b3 (xs.map .str) ok3 (by simp [hx0]) (by rw [List.length_map]; omega)).mono fun t b' q => ?_
        obtain ⟨ok', hm⟩ := q
        obtain ⟨x, hx, rfl⟩ := List.mem_map.mp hm
        exact ⟨ok', x, rfl, hx⟩
      obtain ⟨ok4, old, rfl, ho⟩ := q
      obtain ⟨lo1, lo2, lo3⟩ := nameS_lets (fx.nm old ho)
      show Ok (exs _ _ _ [.val .bag, .val (.int n), .own (xs.map .str), sl (some t), sl (some (.str w)), sl (some (.str old)), sl o6, sl o7]) _ _
      refine st_asg (R := fun t b' => BagOk b' ∧ ∃ d, t = .int d ∧ 0 ≤ d ∧ d < old.length) ?_ (by simp) fun t1 b5 q => ?_
      · simp
        exact draw_k (k+2) b4 old.length ok4 (by omega) (by omega)
      obtain ⟨ok5, d, rfl, hd0, hd1⟩ := q
      show Ok (exs _ _ _ [.val .bag, .val (.int n), .own (xs.map .str), sl (some t), sl (some (.str w)), sl (some (.str old)), sl (some (.int d)), sl o7]) _ _
      refine st_asg (R := fun t b' => BagOk b' ∧ ∃ x : Str, t = .str x ∧ nameS x = true) ?_ (by simp) fun t1 b6 q => ?_
      · obtain ⟨lw1, lw2, lw3⟩ := nameS_lets hw
        have c1 := len_cut old none (some d)
        have c2 := len_cutH w 1
        have g1 : (cutS old none (some d)).length + (cutS w none (some 1)).length ≤ LIM := lim_le (by
          have : (cutS w none (some 1)).length = min 1 w.length := c2
          omega)
        simp [addT, g1]
        refine Ok.then (draw_k (k+2) b5 2 ok5 (by omega) (by omega)) fun x b' q => ?_
        obtain ⟨ok', f, rfl, _, _⟩ := q
        have c3 := len_cut old (some (d + f)) none
        have g2 : (cutS old none (some d) ++ cutS w none (some 1)).length + (cutS old (some (d + f)) none).length ≤ LIM := lim_le (by
          rw [len_app]
          have : (cutS w none (some 1)).length = min 1 w.length := c2
          omega)
        simp [g2]
        refine ⟨ok', nameS_mk (lets_cut _ _ (lets_app (lets_app (lets_cut _ _ lo1) (lets_cut _ _ lw1)) (lets_cut _ _ lo1))) ?_ ?_⟩
        · have c4 := len_cutH (cutS old none (some d) ++ cutS w none (some 1) ++ cutS old (some (d + f)) none) 6
          have c5 : (cutS w none (some 1)).length = min 1 w.length := c2
          rw [len_app, len_app] at c4
          have c4' : (cutS (cutS old none (some d) ++ cutS w none (some 1) ++ cutS old (some (d + f)) none) none (some 6)).length = _ := c4
          omega
        · have c4 := len_cutH (cutS old none (some d) ++ cutS w none (some 1) ++ cutS old (some (d + f)) none) 6
          have c4' : (cutS (cutS old none (some d) ++ cutS w none (some 1) ++ cutS old (some (d + f)) none) none (some 6)).length = _ := c4
          omega
      obtain ⟨ok6, w2, rfl, hw2⟩ := q
      exact st_nil (fin w2 (some (.str old)) (some (.int d)) b6 _ hw2 ok6 fun s2 b' p => p)
  · intro ss b ⟨ok, xs, o3, o4, o5, o6, o7, ess, fx, hx⟩
    subst ess
    refine st_ret (R := fun t b' => BagOk b' ∧ ∃ xs : List Str, t = .lst (xs.map .str) ∧ xs.length = n.toNat ∧ Found xs) ?_ fun t b1 q => ⟨t, rfl, q⟩
    simp
    exact ⟨ok, xs, rfl, by simpa using hx, fx⟩
end K01

set_option Elab.async false
set_option linter.all false
set_option maxRecDepth 100000
set_option maxHeartbeats 8000000
namespace K01
open PySem L2 DI
/-! ### what rises -/
theorem upB_of : ∀ {xs : List Str}, RisS xs → xs.Nodup → upB (xs.map .str) = true
  | [], _, _ => rfl
  | [a], _, _ => rfl
  | a :: c :: r, h, hn => by
    have ih := upB_of (xs := c :: r) h.2 (List.nodup_cons.mp hn).2
    have e : upB ((a :: c :: r).map .str) = (ltS a c && upB ((c :: r).map .str)) := rfl
    rw [e, ih]
    cases hl : ltS a c with
    | true => rfl
    | false =>
      have := ltS_total hl (h.1 c (by simp))
      subst this
      simp at hn
theorem ris_take : ∀ {xs : List Str} (n : Nat), RisS xs → RisS (xs.take n)
  | [], n, h => by simp; exact h
  | a :: r, 0, h => by simp; trivial
  | a :: r, n + 1, h => by
    rw [List.take_succ_cons]
    exact ⟨fun y hy => h.1 y (List.mem_of_mem_take hy), ris_take n h.2⟩
theorem nodup_take {xs : List Str} (n : Nat) (h : xs.Nodup) : (xs.take n).Nodup := h.sublist (List.take_sublist n xs)
structure Lot (xs : List Str) : Prop where
  ris : RisS xs
  nd : xs.Nodup
  nm : ∀ x ∈ xs, nameS x = true
theorem lot_of {xs : List Str} (h : Found xs) : Lot (sortS xs) := ⟨sortS_ris xs, (sortS_perm xs).nodup_iff.mpr h.nd, fun x hx => h.nm x ((sortS_perm xs).subset hx)⟩
theorem Lot.val {xs : List Str} (h : Lot xs) (h1 : 1 ≤ xs.length) : lotT (.tup (xs.map .str)) = decide (xs.length ≤ 12) := by
  show (decide (1 ≤ (xs.map T.str).length ∧ (xs.map T.str).length ≤ 12) && (xs.map T.str).all nameT && upB (xs.map T.str)) = _
  rw [upB_of h.ris h.nd]
  have : (xs.map T.str).all nameT = true := by
    rw [List.all_eq_true]
    intro t ht
    obtain ⟨x, hx, rfl⟩ := List.mem_map.mp ht
    exact h.nm x hx
  rw [this]
  simp
  omega
theorem Lot.take {xs : List Str} (h : Lot xs) (n : Nat) : Lot (xs.take n) := ⟨ris_take n h.ris, nodup_take n h.nd, fun x hx => h.nm x (List.mem_of_mem_take hx)⟩
theorem cut_take (xs : List T) (n : Nat) : cutT xs none (some (n : Int)) = xs.take n := by
  unfold cutT
  rw [HT.sIx_none, HT.sIx_nat]
  simp
theorem ok_strs (xs : List Str) : okT (.tup (xs.map .str)) = true := by
  show (xs.map T.str).all _ = true
  rw [List.all_eq_true]
  intro t ht
  obtain ⟨x, _, rfl⟩ := List.mem_map.mp ht
  rfl
theorem kd_strs {xs : List Str} : ∀ t ∈ xs.map T.str, (kdOf t).isSome = true := by
  intro t ht
  obtain ⟨x, _, rfl⟩ := List.mem_map.mp ht
  rfl
theorem kd_cut {ts : List T} (h : ∀ t ∈ ts, (kdOf t).isSome = true) (lo hi : Option Int) : ∀ t ∈ cutT ts lo hi, (kdOf t).isSome = true := fun t ht => h t (List.mem_of_mem_drop (List.mem_of_mem_take ht))
theorem okT_of {ts : List T} (h : ∀ t ∈ ts, (kdOf t).isSome = true) : okT (.tup ts) = true := by
  show ts.all _ = true
  rw [List.all_eq_true]
  exact h
theorem kd_app {xs ys : List T} (h : ∀ t ∈ xs, (kdOf t).isSome = true) (h' : ∀ t ∈ ys, (kdOf t).isSome = true) : ∀ t ∈ xs ++ ys, (kdOf t).isSome = true := by
  intro t ht
  rcases List.mem_append.mp ht with ht | ht
  · exact h t ht
  · exact h' t ht
theorem len_cutT (xs : List T) (lo hi : Option Int) : (cutT xs lo hi).length ≤ xs.length := by
  unfold cutT
  rw [List.length_take, List.length_drop]
  omega
theorem catT_ok {xs ys : List T} (h : xs.length + ys.length ≤ 1000) : catT xs ys = some (xs ++ ys) := by
  unfold catT
  rw [if_pos (lim_le (by omega))]
theorem lets_bad {x y z : Str} (h : lets y = false) : lets (x ++ y ++ z) = false := by
  unfold lets at *
  rw [append_list, append_list, List.all_append, List.all_append, h]
  simp
/-! ### one turn -/
def turnB : Ss := match lawB with
  | .cons (.for_ _ _ _ b) _ => b
  | _ => .nil
def st (o2 o3 o4 o5 o6 o7 o8 o9 o10 o11 o12 o13 o14 o15 o16 : Option T) : List Sl := [.un, .val .bag, sl o2, sl o3, sl o4, sl o5, sl o6, sl o7, sl o8, sl o9, sl o10, sl o11, sl o12, sl o13, sl o14, sl o15, sl o16]
theorem kw2 (t : T) : permG (parsT tab 2) [Str.ofString "value"] [t] = [t] := rfl
theorem kw3 (t : T) : permG (parsT tab 3) [Str.ofString "value"] [t] = [t] := rfl
theorem kw4 (t : T) : permG (parsT tab 4) [Str.ofString "value"] [t] = [t] := rfl
theorem kw5 (t : T) : permG (parsT tab 5) [Str.ofString "value"] [t] = [t] := rfl
theorem kw6 (t : T) : permG (parsT tab 6) [Str.ofString "value"] [t] = [t] := rfl
theorem kw1 (x y z : T) : permG (parsT tab 1) [Str.ofString "most", Str.ofString "value", Str.ofString "least"] [x, y, z] = [y, z, x] := rfl
/-- a test of sameness of two lists of truths -/
theorem same_at (k : Nat) {m m' : Ev T} {ps : List Bool} {b : Bag} : True := trivial
theorem turn_ok (k : Nat) (b : Bag) (ok : BagOk b) (o2 o3 o4 o5 o6 o7 o8 o9 o10 o11 o12 o13 o14 o15 o16 : Option T) :
    Ok (exs (callI tab (k+4)) (parsT tab) turnB (st o2 o3 o4 o5 o6 o7 o8 o9 o10 o11 o12 o13 o14 o15 o16)) b fun o b' => BagOk b' ∧ ∃ o2 o3 o4 o5 o6 o7 o8 o9 o10 o11 o12 o13 o14 o15 o16, o = .nx (st o2 o3 o4 o5 o6 o7 o8 o9 o10 o11 o12 o13 o14 o15 o16) := by
  refine st_asg (R := fun t b' => BagOk b' ∧ ∃ x : Str, t = .str x ∧ x.length ≤ 8 ∧ lets x = true) ?_ (by simp [st]) fun t b q => ?_
  · simp [st]
    refine Ok.then (draw_k (k+3) b 9 ok (by omega) (by omega)) fun x b1 q => ?_
    obtain ⟨ok1, d, rfl, hd0, hd1⟩ := q
    obtain ⟨ts, e1, e2⟩ := rng_len (n := d) (by omega) (by omega)
    simp [e1]
    refine Ok.then (letters_k (k+2) ok1 (by simp [wipeV]) (fun t => by simp [wipeV]) (fun t => by simp [wipeV, letS]) e2) fun ys b2 q => ?_
    obtain ⟨ok2, x, rfl, hl, ha⟩ := q
    rw [mth_join x (by omega)]
    exact Ok.pure ⟨ok2, x, rfl, by omega, ha⟩
  clear ok
  obtain ⟨ok, w, rfl, hw1, hw2⟩ := q
  show Ok (exs _ _ _ (st o2 (some (.str w)) o4 o5 o6 o7 o8 o9 o10 o11 o12 o13 o14 o15 o16)) b _
  refine st_asg (R := fun t b' => BagOk b' ∧ ∃ d, t = .int d) ?_ (by simp [st]) fun t b q => ?_
  · simp [st]
    refine (draw_k (k+3) b _ ok (by omega) (by omega)).mono fun x b1 q => ?_
    obtain ⟨ok1, d, rfl, hd0, hd1⟩ := q
    exact ⟨ok1, d, rfl⟩
  clear ok
  obtain ⟨ok, d, rfl⟩ := q
  show Ok (exs _ _ _ (st o2 (some (.str w)) (some (.int d)) o5 o6 o7 o8 o9 o10 o11 o12 o13 o14 o15 o16)) b _
  refine st_asg (R := fun t b' => BagOk b' ∧ ∃ x, t = .str x ∧ lets x = false) ?_ (by simp [st]) fun t b q => ?_
  · simp [st, LIM]
    refine Ok.then (pickL_k (k+2) b _ ok (by simp) (by simp)) fun x b1 q => ?_
    obtain ⟨ok1, hx⟩ := q
    obtain ⟨y, rfl, hy, hl⟩ : ∃ y, x = .str y ∧ lets y = false ∧ y.length ≤ 2 := by
      simp only [List.mem_cons, List.mem_nil_iff, or_false] at hx
      rcases hx with rfl | rfl | rfl | rfl | rfl | rfl | rfl | rfl | rfl <;> exact ⟨_, rfl, by decide +kernel, by decide +kernel⟩
    have c1 := len_cut w none (some d)
    have c2 := len_cut w (some d) none
    have g1 : (cutS w none (some d)).length + y.length ≤ 1000000 := by omega
    have g2 : (cutS w none (some d) ++ y).length + (cutS w (some d) none).length ≤ 1000000 := by rw [len_app]; omega
    simp [addT, LIM, g1, g2]
    exact ⟨ok1, lets_bad hy⟩
  clear ok
  obtain ⟨ok, bent, rfl, hbent⟩ := q
  show Ok (exs _ _ _ (st o2 (some (.str w)) (some (.int d)) (some (.str bent)) o6 o7 o8 o9 o10 o11 o12 o13 o14 o15 o16)) b _
  refine st_asg (R := fun t b' => BagOk b' ∧ nameT t = false ∧ (kdOf t).isSome = true) ?_ (by simp [st]) fun odd b q => ?_
  · simp [st, LIM]
    refine (pickL_k (k+2) b _ ok (by simp) (by simp)).mono fun x b1 q => ?_
    obtain ⟨ok1, hx⟩ := q
    refine ⟨ok1, ?_⟩
    simp only [List.mem_cons, List.mem_nil_iff, or_false] at hx
    rcases hx with rfl | rfl | rfl | rfl | rfl | rfl | rfl | rfl | rfl | rfl | rfl | rfl <;> exact ⟨rfl, rfl⟩
  clear ok
  obtain ⟨ok, hodd, kodd⟩ := q
  show Ok (exs _ _ _ (st o2 (some (.str w)) (some (.int d)) (some (.str bent)) (some odd) o7 o8 o9 o10 o11 o12 o13 o14 o15 o16)) b _
  refine st_skip (R := fun b' => b' = b) ?_ fun b' q => ?_
  · simp [st, LIM, kw2]
    refine Ok.at (name_ok (k+3) _ rfl b) (Ok.at (name_ok (k+3) _ rfl b) (Ok.at (name_ok (k+3) _ rfl b) (Ok.at (name_ok (k+3) _ kodd b) (Ok.at (isword_ok (k+3) _ rfl b) ?_))))
    have hb : nameT (.str bent) = false := by
      show nameS bent = false
      unfold nameS
      rw [hbent]
      simp
    rw [hodd, hb]
    generalize nameT (T.str w) = z
    simp [mulT, addT, catT, LIM]
    exact Ok.at (same_ok (k+2) [z, z, false, false] b) (by simp)
  subst q
  refine st_asg (R := fun t b' => BagOk b' ∧ ∃ xs : List Str, t = .tup (xs.map .str) ∧ Lot xs ∧ 1 ≤ xs.length ∧ xs.length ≤ 13) ?_ (by simp [st]) fun t b q => ?_
  · simp [st, LIM]
    refine Ok.then (pickL_k (k+2) b' _ ok (by simp) (by simp)) fun x b1 q => ?_
    obtain ⟨ok1, hx⟩ := q
    obtain ⟨n, rfl, hn0, hn1⟩ : ∃ n, x = .int n ∧ 0 ≤ n ∧ n ≤ 12 := by
      simp only [List.mem_cons, List.mem_nil_iff, or_false] at hx
      rcases hx with rfl | rfl | rfl | rfl | rfl | rfl <;> exact ⟨_, rfl, by decide, by decide⟩
    simp
    refine Ok.then (names_k k b1 (1 + n) ok1 (by omega) (by omega)) fun x b2 q => ?_
    obtain ⟨ok2, xs, rfl, hl, fx⟩ := q
    have es : bltT .sorted [.lst (xs.map .str)] = some (.lst ((sortS xs).map .str)) := by
      simp only [bltT, strsT_map]
      rw [if_pos (by omega)]
    simp [es]
    exact ⟨ok2, sortS xs, rfl, lot_of fx, by rw [sortS_len]; omega, by rw [sortS_len]; omega⟩
  clear ok
  obtain ⟨ok, xs, rfl, hlot, hx1, hx2⟩ := q
  show Ok (exs _ _ _ (st o2 (some (.str w)) (some (.int d)) (some (.str bent)) (some odd) (some (.tup (xs.map .str))) o8 o9 o10 o11 o12 o13 o14 o15 o16)) b _
  refine st_asg (R := fun t b' => BagOk b' ∧ okT t = true) ?_ (by simp [st]) fun bad b q => ?_
  · have l0 : (xs.map T.str).length = xs.length := List.length_map ..
    generalize hts : xs.map T.str = ts at *
    have hk : ∀ t ∈ ts, (kdOf t).isSome = true := by rw [← hts]; exact kd_strs
    have c1 := len_cutT ts (some (-1)) none
    have c2 := len_cutT ts none (some 1)
    have k1 := catT_ok (xs := ts) (ys := cutT ts (some (-1)) none) (by omega)
    have k2 := catT_ok (xs := cutT ts none (some 1)) (ys := ts) (by omega)
    have k3 := catT_ok (xs := ts) (ys := [T.str (Str.ofString "A")]) (by simp; omega)
    have k4 := catT_ok (xs := [T.str (Str.ofString "")]) (ys := ts) (by simp; omega)
    have k5 := catT_ok (xs := ts) (ys := [T.non]) (by simp; omega)
    have k6 := catT_ok (xs := ts) (ys := [T.tup []]) (by simp; omega)
    have k7 := catT_ok (xs := ts) (ys := [T.str (Str.ofString "zzzzzzz")]) (by simp; omega)
    have k8 := catT_ok (xs := [T.bl true]) (ys := ts) (by simp; omega)
    simp [st, LIM, addT, k1, k2, k3, k4, k5, k6, k7, k8, -List.map_reverse]
    refine (pickL_k (k+2) b _ ok (by simp) (by simp)).mono fun x b1 q => ?_
    obtain ⟨ok1, hx⟩ := q
    refine ⟨ok1, ?_⟩
    simp only [List.mem_cons, List.mem_nil_iff, or_false] at hx
    rcases hx with rfl | rfl | rfl | rfl | rfl | rfl | rfl | rfl | rfl | rfl | rfl | rfl | rfl | rfl | rfl | rfl
    · exact okT_of hk
    · rfl
    · exact okT_of fun t ht => hk t (by simpa using ht)
    · exact okT_of (kd_app hk (kd_cut hk _ _))
    · exact okT_of (kd_app (kd_cut hk _ _) hk)
    · exact okT_of (kd_app hk (by simp [kdOf]))
    · exact okT_of (kd_app (xs := [_]) (by simp [kdOf]) hk)
    · exact okT_of (kd_app hk (by simp [kdOf]))
    · rfl
    · rfl
    · rfl
    · rfl
    · exact okT_of (kd_app hk (by simp [kdOf]))
    · exact okT_of (kd_app hk (by simp [kdOf]))
    · exact okT_of (kd_app (xs := [_]) (by simp [kdOf]) hk)
    · rfl
  clear ok
  obtain ⟨ok, hbad⟩ := q
  show Ok (exs _ _ _ (st o2 (some (.str w)) (some (.int d)) (some (.str bent)) (some odd) (some (.tup (xs.map .str))) (some bad) o9 o10 o11 o12 o13 o14 o15 o16)) b _
  refine st_skip (R := fun b' => b' = b) ?_ fun b' q => ?_
  · have l0 : (xs.map T.str).length = xs.length := List.length_map ..
    have v1 : callI tab (k+4) 3 [T.tup (xs.map T.str)] b = some (.bl (decide (xs.length ≤ 12)), b) := by
      rw [lot_ok (k+2) _ (ok_strs xs) b, hlot.val hx1]
    have v2 : callI tab (k+4) 3 [T.tup (cutT (xs.map T.str) none (some 12))] b = some (.bl true, b) := by
      have e : cutT (xs.map T.str) none (some 12) = (xs.take 12).map .str := by
        have := cut_take (xs.map T.str) 12
        rw [List.map_take]
        exact this
      rw [e, lot_ok (k+2) _ (ok_strs _) b, (hlot.take 12).val (by rw [List.length_take]; omega)]
      simp
      omega
    have v3 : decide ((xs.length : Int) < 13) = decide (xs.length ≤ 12) := by
      refine decide_eq_decide.mpr ⟨fun h => by omega, fun h => by omega⟩
    simp only [t_not, t_tr, e_call, e_callK, e_cmp, e_lst, e_con, e_blt, e_slH, es_cons, es_nil, evb_assoc, evb_pure, evb_ofs, kw3, intT_int, slT_tup,
      show evE (callI tab (k+4)) (parsT tab) (.var 7) (viewA [] 0 (st o2 (some (.str w)) (some (.int d)) (some (.str bent)) (some odd) (some (.tup (xs.map .str))) (some bad) o9 o10 o11 o12 o13 o14 o15 o16)) = Ev.pure (.tup (xs.map .str)) from by simp [st],
      show evE (callI tab (k+4)) (parsT tab) (.var 8) (viewA [] 0 (st o2 (some (.str w)) (some (.int d)) (some (.str bent)) (some odd) (some (.tup (xs.map .str))) (some bad) o9 o10 o11 o12 o13 o14 o15 o16)) = Ev.pure bad from by simp [st]]
    refine Ok.at v1 (Ok.at (lot_ok (k+2) _ hbad b) (Ok.at v2 ?_))
    simp only [blt_len_tup, l0, evb_ofs, cmpT_lt, v3]
    simp [LIM]
    refine Ok.at (parts_ok (k+2) _ hbad b) ?_
    exact Ok.at (same_ok (k+2) [decide (xs.length ≤ 12), lotT bad, true] b) (by simp)
  subst q
  refine st_asg (R := fun t b' => BagOk b' ∧ ∃ n, t = .int n) ?_ (by simp [st]) fun t b q => ?_
  · simp [st, LIM]
    refine Ok.then (draw_k (k+3) b' 1000000000000 ok (by omega) (by omega)) fun x b1 q => ?_
    obtain ⟨ok1, n, rfl, _, _⟩ := q
    refine (pickL_k (k+2) b1 _ ok1 (by simp) (by simp)).mono fun x b2 q => ?_
    obtain ⟨ok2, hx⟩ := q
    refine ⟨ok2, ?_⟩
    simp only [List.mem_cons, List.mem_nil_iff, or_false] at hx
    rcases hx with rfl | rfl | rfl | rfl | rfl | rfl | rfl | rfl | rfl <;> exact ⟨_, rfl⟩
  clear ok
  obtain ⟨ok, n, rfl⟩ := q
  show Ok (exs _ _ _ (st o2 (some (.str w)) (some (.int d)) (some (.str bent)) (some odd) (some (.tup (xs.map .str))) (some bad) (some (.int n)) o10 o11 o12 o13 o14 o15 o16)) b _
  refine st_asg (R := fun t b' => t = .lst [.bl (decide (1 ≤ n)), .bl (decide (0 ≤ n)), .bl (numT (.int n) 0 9999), .bl (decide (1 ≤ n)), .bl (decide (0 ≤ n)), .bl (numT (.int n) 0 9999)] ∧ b' = b) ?_ (by simp [st]) fun t b' q => ?_
  · simp [st, LIM, kw4, kw5, kw6]
    refine Ok.at (amount_ok (k+2) _ rfl b) (Ok.at (price_ok (k+2) _ rfl b) (Ok.at (day_ok (k+1) _ rfl b) (Ok.at (amount_ok (k+2) _ rfl b) (Ok.at (price_ok (k+2) _ rfl b) (Ok.at (day_ok (k+1) _ rfl b) ?_)))))
    simp [amtT, priT]
  obtain ⟨rfl, rfl⟩ := q
  show Ok (exs _ _ _ (st o2 (some (.str w)) (some (.int d)) (some (.str bent)) (some odd) (some (.tup (xs.map .str))) (some bad) (some (.int n)) (some (.lst [.bl (decide (1 ≤ n)), .bl (decide (0 ≤ n)), .bl (numT (.int n) 0 9999), .bl (decide (1 ≤ n)), .bl (decide (0 ≤ n)), .bl (numT (.int n) 0 9999)])) o11 o12 o13 o14 o15 o16)) b' _
  refine st_skip (R := fun b1 => b1 = b') ?_ fun b1 q => ?_
  · have e1 : decide (0 < n) = decide (1 ≤ n) := decide_eq_decide.mpr ⟨fun h => by omega, fun h => by omega⟩
    have fin := same_ok (k+2) [decide (1 ≤ n), decide (0 ≤ n), numT (.int n) 0 9999, decide (1 ≤ n), decide (0 ≤ n), numT (.int n) 0 9999] b'
    by_cases h0 : 0 ≤ n
    · have e2 : numT (.int n) 0 9999 = decide (n ≤ 9999) := by simp [numT, h0]
      rw [e2] at fin
      simp [st, LIM, mulT, e1, e2, h0] at fin ⊢
      exact Ok.at fin (by simp)
    · have e2 : numT (.int n) 0 9999 = false := by simp [numT, h0]
      rw [e2] at fin
      simp [st, LIM, mulT, e1, e2, h0] at fin ⊢
      exact Ok.at fin (by simp)
  subst q
  refine st_asg (R := fun t b' => BagOk b' ∧ isInt t = false ∧ (kdOf t).isSome = true) ?_ (by simp [st]) fun wr b q => ?_
  · simp [st, LIM]
    refine (pickL_k (k+2) b1 _ ok (by simp) (by simp)).mono fun x b1 q => ?_
    obtain ⟨ok1, hx⟩ := q
    refine ⟨ok1, ?_⟩
    simp only [List.mem_cons, List.mem_nil_iff, or_false] at hx
    rcases hx with rfl | rfl | rfl | rfl | rfl | rfl | rfl | rfl | rfl <;> exact ⟨rfl, rfl⟩
  clear ok
  obtain ⟨ok, hwr, kwr⟩ := q
  generalize (T.lst [.bl (decide (1 ≤ n)), .bl (decide (0 ≤ n)), .bl (numT (.int n) 0 9999), .bl (decide (1 ≤ n)), .bl (decide (0 ≤ n)), .bl (numT (.int n) 0 9999)]) = told
  show Ok (exs _ _ _ (st o2 (some (.str w)) (some (.int d)) (some (.str bent)) (some odd) (some (.tup (xs.map .str))) (some bad) (some (.int n)) (some told) (some wr) o12 o13 o14 o15 o16)) b _
  refine st_skip (R := fun b' => b' = b) ?_ fun b' q => ?_
  · have a1 := amount_ok (k+2) wr kwr b
    have a2 := price_ok (k+2) wr kwr b
    have a3 := day_ok (k+1) wr kwr b
    have a4 := number_ok (k+2) wr (-9) 9 kwr b
    have z1 : amtT wr = false := by cases wr <;> first | rfl | cases hwr
    have z2 : priT wr = false := by cases wr <;> first | rfl | cases hwr
    have z3 : ∀ l m, numT wr l m = false := fun l m => by cases wr <;> first | rfl | cases hwr
    rw [z1] at a1
    rw [z2] at a2
    rw [z3] at a3 a4
    simp [st, LIM, mulT]
    exact Ok.at a1 (Ok.at a2 (Ok.at a3 (Ok.at a4 (Ok.at (same_ok (k+2) [false, false, false, false] b) (by simp)))))
  subst q
  refine st_asg (R := fun t b' => BagOk b' ∧ ∃ l, t = .int l) ?_ (by simp [st]) fun t b q => ?_
  · simp [st]
    refine Ok.then (draw_k (k+3) b' 2001 ok (by omega) (by omega)) fun x b1 q => ?_
    obtain ⟨ok1, e, rfl, _, _⟩ := q
    simp [ok1]
  clear ok
  obtain ⟨ok, l, rfl⟩ := q
  show Ok (exs _ _ _ (st o2 (some (.str w)) (some (.int d)) (some (.str bent)) (some odd) (some (.tup (xs.map .str))) (some bad) (some (.int n)) (some told) (some wr) (some (.int l)) o13 o14 o15 o16)) b _
  refine st_asg (R := fun t b' => BagOk b' ∧ ∃ m, t = .int m) ?_ (by simp [st]) fun t b q => ?_
  · simp [st]
    refine Ok.then (draw_k (k+3) b 20 ok (by omega) (by omega)) fun x b1 q => ?_
    obtain ⟨ok1, e, rfl, _, _⟩ := q
    simp [ok1]
  clear ok
  obtain ⟨ok, m, rfl⟩ := q
  show Ok (exs _ _ _ (st o2 (some (.str w)) (some (.int d)) (some (.str bent)) (some odd) (some (.tup (xs.map .str))) (some bad) (some (.int n)) (some told) (some wr) (some (.int l)) (some (.int m)) o14 o15 o16)) b _
  refine st_for (R := fun ts b' => (∀ t ∈ ts, ∃ i, t = .int i) ∧ b' = b) ?_ fun ts b' q => ?_
  · simp [st, LIM]
  obtain ⟨hts, rfl⟩ := q
  refine forL_ok (I := fun _ => True) (J := fun r ss b => BagOk b ∧ (∀ t ∈ r, ∃ i, t = .int i) ∧ ∃ o14 o15, ss = st o2 (some (.str w)) (some (.int d)) (some (.str bent)) (some odd) (some (.tup (xs.map .str))) (some bad) (some (.int n)) (some told) (some wr) (some (.int l)) (some (.int m)) o14 o15 o16) ?_ ?_ ?_
  · exact ⟨ok, hts, _, _, rfl⟩
  · intro t r ss b ⟨ok, hr, o14, o15, ess⟩
    subst ess
    obtain ⟨i, rfl⟩ := hr t (by simp)
    refine ⟨st o2 (some (.str w)) (some (.int d)) (some (.str bent)) (some odd) (some (.tup (xs.map .str))) (some bad) (some (.int n)) (some told) (some wr) (some (.int l)) (some (.int m)) (some (.int i)) o15 o16, rfl, ?_⟩
    refine st_asg (R := fun t b' => t = .bl (numT (.int i) l m) ∧ b' = b) ?_ (by simp [st]) fun t b' q => ?_
    · simp [st, numT]
      by_cases h1 : l ≤ i <;> simp [h1]
    obtain ⟨rfl, rfl⟩ := q
    show Ok (exs _ _ _ (st o2 (some (.str w)) (some (.int d)) (some (.str bent)) (some odd) (some (.tup (xs.map .str))) (some bad) (some (.int n)) (some told) (some wr) (some (.int l)) (some (.int m)) (some (.int i)) (some (.bl (numT (.int i) l m))) o16)) b' _
    refine st_skip (R := fun b1 => b1 = b') ?_ fun b1 q => ?_
    · simp [st, LIM, kw1]
      exact Ok.at (number_ok (k+2) _ l m rfl b') (Ok.at (number_ok (k+2) _ l m rfl b') (Ok.at (same_ok (k+2) [numT (.int i) l m, numT (.int i) l m] b') (by simp)))
    subst q
    exact st_nil ⟨ok, fun t ht => hr t (by simp [ht]), _, _, rfl⟩
  · intro ss b ⟨ok, _, o14, o15, ess⟩
    subst ess
    exact st_nil ⟨ok, _, _, _, _, _, _, _, _, _, _, _, _, _, _, _, rfl⟩
/-! ### the law -/
theorem law_ok (k : Nat) (ns : List Int) (h : ns.length ≤ 63) : ∃ b', exs (callI tab (k+4)) (parsT tab) lawB (.un :: .val .bag :: List.replicate (lawN.length - 2) .un) (bag0 ns) = some (.ret (.bl true), b') := by
  have key : Ok (exs (callI tab (k+4)) (parsT tab) lawB (.un :: .val .bag :: List.replicate (lawN.length - 2) .un)) (bag0 ns) fun o b' => o = .ret (.bl true) := by
    refine st_for (R := fun ts b' => b' = bag0 ns) (by simp [rngT]) fun ts b' q => ?_
    subst q
    refine forL_ok (I := fun _ => True) (J := fun r ss b => BagOk b ∧ ∃ o2 o3 o4 o5 o6 o7 o8 o9 o10 o11 o12 o13 o14 o15 o16, ss = st o2 o3 o4 o5 o6 o7 o8 o9 o10 o11 o12 o13 o14 o15 o16) ?_ ?_ ?_
    · exact ⟨bag0_ok ns h, none, none, none, none, none, none, none, none, none, none, none, none, none, none, none, rfl⟩
    · intro t r ss b ⟨ok, o2, o3, o4, o5, o6, o7, o8, o9, o10, o11, o12, o13, o14, o15, o16, ess⟩
      subst ess
      refine ⟨st (some t) o3 o4 o5 o6 o7 o8 o9 o10 o11 o12 o13 o14 o15 o16, rfl, ?_⟩
      refine (turn_ok k b ok (some t) o3 o4 o5 o6 o7 o8 o9 o10 o11 o12 o13 o14 o15 o16).mono fun o b' q => ?_
      obtain ⟨ok', p2, p3, p4, p5, p6, p7, p8, p9, p10, p11, p12, p13, p14, p15, p16, rfl⟩ := q
      exact ⟨ok', p2, p3, p4, p5, p6, p7, p8, p9, p10, p11, p12, p13, p14, p15, p16, rfl⟩
    · intro ss b ⟨ok, o2, o3, o4, o5, o6, o7, o8, o9, o10, o11, o12, o13, o14, o15, o16, ess⟩
      exact st_ret (R := fun t b' => t = .bl true) (by simp) fun t b q => by rw [q]
  obtain ⟨o, b', e, rfl⟩ := key
  exact ⟨b', e⟩
end K01

set_option Elab.async false
set_option maxRecDepth 100000
set_option maxHeartbeats 8000000
namespace K01
open PySem L2 DI
theorem all_mk {l : PySem.W.OpenLaw} {w : World} {K : PySem.W.Frag} {h : Heap} {mg : Str → Option Value} {fa a0 a1 a2 a3 a4 a5 a6 a7 a8 a9 a10 a11 a12 a13 a14 a15 : Addr} (X : K.In h) (G : h.Ns mainGlobals mg) (hfa : mg "law" = some (.ref fa))
    {od0 an0 od1 an1 od2 an2 od3 an3 od4 an4 od5 an5 od6 an6 od7 an7 od8 an8 od9 an9 od10 an10 od11 an11 od12 an12 od13 an13 od14 an14 od15 an15 : Option Addr} {sl0 sl1 sl2 sl3 sl4 sl5 sl6 sl7 sl8 sl9 sl10 sl11 sl12 sl13 sl14 sl15 : Array (Option Value)} {oc0 kV0 dc0 pm0 cd0 ct0 oc1 kV1 dc1 pm1 cd1 ct1 oc2 kV2 dc2 pm2 cd2 ct2 oc3 kV3 dc3 pm3 cd3 ct3 oc4 kV4 dc4 pm4 cd4 ct4 oc5 kV5 dc5 pm5 cd5 ct5 oc6 kV6 dc6 pm6 cd6 ct6 oc7 kV7 dc7 pm7 cd7 ct7 oc8 kV8 dc8 pm8 cd8 ct8 oc9 kV9 dc9 pm9 cd9 ct9 oc10 kV10 dc10 pm10 cd10 ct10 oc11 kV11 dc11 pm11 cd11 ct11 oc12 kV12 dc12 pm12 cd12 ct12 oc13 kV13 dc13 pm13 cd13 ct13 oc14 kV14 dc14 pm14 cd14 ct14 oc15 kV15 dc15 pm15 cd15 ct15 : Value}
    (na0 : PySem.W.nsIn K mainGlobals "is_whole" = some (some (.ref a0))) (nl0 : K.lookup a0 = some ⟨oc0, od0, .func (PySem.W.fnOf "is_whole" "is_whole" (defArgs s0) (defBody s0) (defScope s0) .none kV0 dc0 pm0 an0 cd0 ct0), sl0⟩) (nc0 : PySem.W.codeIn K cd0 "is_whole" = true) (nk0 : PySem.W.keepIn K (.ref a0) = true)
    (na1 : PySem.W.nsIn K mainGlobals "is_number" = some (some (.ref a1))) (nl1 : K.lookup a1 = some ⟨oc1, od1, .func (PySem.W.fnOf "is_number" "is_number" (defArgs s1) (defBody s1) (defScope s1) .none kV1 dc1 pm1 an1 cd1 ct1), sl1⟩) (nc1 : PySem.W.codeIn K cd1 "is_number" = true) (nk1 : PySem.W.keepIn K (.ref a1) = true)
    (na2 : PySem.W.nsIn K mainGlobals "is_name" = some (some (.ref a2))) (nl2 : K.lookup a2 = some ⟨oc2, od2, .func (PySem.W.fnOf "is_name" "is_name" (defArgs s2) (defBody s2) (defScope s2) .none kV2 dc2 pm2 an2 cd2 ct2), sl2⟩) (nc2 : PySem.W.codeIn K cd2 "is_name" = true) (nk2 : PySem.W.keepIn K (.ref a2) = true)
    (na3 : PySem.W.nsIn K mainGlobals "is_lot" = some (some (.ref a3))) (nl3 : K.lookup a3 = some ⟨oc3, od3, .func (PySem.W.fnOf "is_lot" "is_lot" (defArgs s3) (defBody s3) (defScope s3) .none kV3 dc3 pm3 an3 cd3 ct3), sl3⟩) (nc3 : PySem.W.codeIn K cd3 "is_lot" = true) (nk3 : PySem.W.keepIn K (.ref a3) = true)
    (na4 : PySem.W.nsIn K mainGlobals "is_amount" = some (some (.ref a4))) (nl4 : K.lookup a4 = some ⟨oc4, od4, .func (PySem.W.fnOf "is_amount" "is_amount" (defArgs s4) (defBody s4) (defScope s4) .none kV4 dc4 pm4 an4 cd4 ct4), sl4⟩) (nc4 : PySem.W.codeIn K cd4 "is_amount" = true) (nk4 : PySem.W.keepIn K (.ref a4) = true)
    (na5 : PySem.W.nsIn K mainGlobals "is_price" = some (some (.ref a5))) (nl5 : K.lookup a5 = some ⟨oc5, od5, .func (PySem.W.fnOf "is_price" "is_price" (defArgs s5) (defBody s5) (defScope s5) .none kV5 dc5 pm5 an5 cd5 ct5), sl5⟩) (nc5 : PySem.W.codeIn K cd5 "is_price" = true) (nk5 : PySem.W.keepIn K (.ref a5) = true)
    (na6 : PySem.W.nsIn K mainGlobals "is_day" = some (some (.ref a6))) (nl6 : K.lookup a6 = some ⟨oc6, od6, .func (PySem.W.fnOf "is_day" "is_day" (defArgs s6) (defBody s6) (defScope s6) .none kV6 dc6 pm6 an6 cd6 ct6), sl6⟩) (nc6 : PySem.W.codeIn K cd6 "is_day" = true) (nk6 : PySem.W.keepIn K (.ref a6) = true)
    (na7 : PySem.W.nsIn K mainGlobals "_law_draw" = some (some (.ref a7))) (nl7 : K.lookup a7 = some ⟨oc7, od7, .func (PySem.W.fnOf "_law_draw" "_law_draw" (defArgs s7) (defBody s7) (defScope s7) .none kV7 dc7 pm7 an7 cd7 ct7), sl7⟩) (nc7 : PySem.W.codeIn K cd7 "_law_draw" = true) (nk7 : PySem.W.keepIn K (.ref a7) = true)
    (na8 : PySem.W.nsIn K mainGlobals "_law_pick" = some (some (.ref a8))) (nl8 : K.lookup a8 = some ⟨oc8, od8, .func (PySem.W.fnOf "_law_pick" "_law_pick" (defArgs s8) (defBody s8) (defScope s8) .none kV8 dc8 pm8 an8 cd8 ct8), sl8⟩) (nc8 : PySem.W.codeIn K cd8 "_law_pick" = true) (nk8 : PySem.W.keepIn K (.ref a8) = true)
    (na9 : PySem.W.nsIn K mainGlobals "_law_word" = some (some (.ref a9))) (nl9 : K.lookup a9 = some ⟨oc9, od9, .func (PySem.W.fnOf "_law_word" "_law_word" (defArgs s9) (defBody s9) (defScope s9) .none kV9 dc9 pm9 an9 cd9 ct9), sl9⟩) (nc9 : PySem.W.codeIn K cd9 "_law_word" = true) (nk9 : PySem.W.keepIn K (.ref a9) = true)
    (na10 : PySem.W.nsIn K mainGlobals "_law_names" = some (some (.ref a10))) (nl10 : K.lookup a10 = some ⟨oc10, od10, .func (PySem.W.fnOf "_law_names" "_law_names" (defArgs s10) (defBody s10) (defScope s10) .none kV10 dc10 pm10 an10 cd10 ct10), sl10⟩) (nc10 : PySem.W.codeIn K cd10 "_law_names" = true) (nk10 : PySem.W.keepIn K (.ref a10) = true)
    (na11 : PySem.W.nsIn K mainGlobals "_law_same" = some (some (.ref a11))) (nl11 : K.lookup a11 = some ⟨oc11, od11, .func (PySem.W.fnOf "_law_same" "_law_same" (defArgs s11) (defBody s11) (defScope s11) .none kV11 dc11 pm11 an11 cd11 ct11), sl11⟩) (nc11 : PySem.W.codeIn K cd11 "_law_same" = true) (nk11 : PySem.W.keepIn K (.ref a11) = true)
    (na12 : PySem.W.nsIn K mainGlobals "_law_is_word" = some (some (.ref a12))) (nl12 : K.lookup a12 = some ⟨oc12, od12, .func (PySem.W.fnOf "_law_is_word" "_law_is_word" (defArgs s12) (defBody s12) (defScope s12) .none kV12 dc12 pm12 an12 cd12 ct12), sl12⟩) (nc12 : PySem.W.codeIn K cd12 "_law_is_word" = true) (nk12 : PySem.W.keepIn K (.ref a12) = true)
    (na13 : PySem.W.nsIn K mainGlobals "_law_is_parts" = some (some (.ref a13))) (nl13 : K.lookup a13 = some ⟨oc13, od13, .func (PySem.W.fnOf "_law_is_parts" "_law_is_parts" (defArgs s13) (defBody s13) (defScope s13) .none kV13 dc13 pm13 an13 cd13 ct13), sl13⟩) (nc13 : PySem.W.codeIn K cd13 "_law_is_parts" = true) (nk13 : PySem.W.keepIn K (.ref a13) = true)
    (na14 : PySem.W.nsIn K mainGlobals "_law_bag" = some (some (.ref a14))) (nl14 : K.lookup a14 = some ⟨oc14, od14, .func (PySem.W.fnOf "_law_bag" "_law_bag" (defArgs sBag) (defBody sBag) (defScope sBag) .none kV14 dc14 pm14 an14 cd14 ct14), sl14⟩) (nc14 : PySem.W.codeIn K cd14 "_law_bag" = true) (nk14 : PySem.W.keepIn K (.ref a14) = true)
    (na15 : PySem.W.nsIn K mainGlobals "law" = some (some (.ref a15))) (nl15 : K.lookup a15 = some ⟨oc15, od15, .func (PySem.W.fnOf "law" "law" (defArgs sLaw) (defBody sLaw) (defScope sLaw) .none kV15 dc15 pm15 an15 cd15 ct15), sl15⟩) (nc15 : PySem.W.codeIn K cd15 "law" = true) (nk15 : PySem.W.keepIn K (.ref a15) = true)
    {tk0 : Tok} (co0 : PySem.W.nsIn K mainGlobals "LETTERS" = some (some (.str "abcdefghijklmnopqrstuvwxyz" tk0)))
    {tk1 : Tok} (co1 : PySem.W.nsIn K mainGlobals "MOST_LETTERS" = some (some (.int 6 tk1)))
    {tk2 : Tok} (co2 : PySem.W.nsIn K mainGlobals "MOST_PARCELS" = some (some (.int 12 tk2)))
    {tk3 : Tok} (co3 : PySem.W.nsIn K mainGlobals "LAST_DAY" = some (some (.int 9999 tk3)))
    (no_len : PySem.W.nsIn K mainGlobals "len" = some none)
    (no_abs : PySem.W.nsIn K mainGlobals "abs" = some none)
    (no_all : PySem.W.nsIn K mainGlobals "all" = some none)
    (no_any : PySem.W.nsIn K mainGlobals "any" = some none)
    (no_isinstance : PySem.W.nsIn K mainGlobals "isinstance" = some none)
    (no_sorted : PySem.W.nsIn K mainGlobals "sorted" = some none)
    (no_list : PySem.W.nsIn K mainGlobals "list" = some none)
    (no_tuple : PySem.W.nsIn K mainGlobals "tuple" = some none)
    (no_int : PySem.W.nsIn K mainGlobals "int" = some none)
    (no_str : PySem.W.nsIn K mainGlobals "str" = some none)
    (no_range : PySem.W.nsIn K mainGlobals "range" = some none)
    (no_zip : PySem.W.nsIn K mainGlobals "zip" = some none)
    (no_enumerate : PySem.W.nsIn K mainGlobals "enumerate" = some none)
    (no_bool : PySem.W.nsIn K mainGlobals "bool" = some none)
    (no_dict : PySem.W.nsIn K mainGlobals "dict" = some none)
    : ∃ fd : FuncData, (∀ (s : Shared) (v : Value), BindsTo s fd ⟨[v], []⟩ [("_law_script", v)]) ∧ ∀ base : Heap, K.In base → base.Ns mainGlobals mg → FnOk l.prog w K mg base CX0 40 fa fd ["_law_script"] (spLaw K) := by
  have e := hfa.symm.trans (PySem.W.mg_of X G na15)
  cases e
  have F0 := fun_mk (st := s0) nl0 nc0 nk0
  have F1 := fun_mk (st := s1) nl1 nc1 nk1
  have F2 := fun_mk (st := s2) nl2 nc2 nk2
  have F3 := fun_mk (st := s3) nl3 nc3 nk3
  have F4 := fun_mk (st := s4) nl4 nc4 nk4
  have F5 := fun_mk (st := s5) nl5 nc5 nk5
  have F6 := fun_mk (st := s6) nl6 nc6 nk6
  have F7 := fun_mk (st := s7) nl7 nc7 nk7
  have F8 := fun_mk (st := s8) nl8 nc8 nk8
  have F9 := fun_mk (st := s9) nl9 nc9 nk9
  have F10 := fun_mk (st := s10) nl10 nc10 nk10
  have F11 := fun_mk (st := s11) nl11 nc11 nk11
  have F12 := fun_mk (st := s12) nl12 nc12 nk12
  have F13 := fun_mk (st := s13) nl13 nc13 nk13
  have F14 := fun_mk (st := sBag) nl14 nc14 nk14
  have F15 := fun_mk (st := sLaw) nl15 nc15 nk15
  have M : ModAt K mg con := ⟨allC_get (P := AtG mg) ?C, fun x => by cases x with
    | len => exact PySem.W.mg_none_of X G no_len
    | abs => exact PySem.W.mg_none_of X G no_abs
    | all => exact PySem.W.mg_none_of X G no_all
    | any => exact PySem.W.mg_none_of X G no_any
    | isi => exact PySem.W.mg_none_of X G no_isinstance
    | sorted => exact PySem.W.mg_none_of X G no_sorted
    | list => exact PySem.W.mg_none_of X G no_list
    | tuple => exact PySem.W.mg_none_of X G no_tuple
    | int => exact PySem.W.mg_none_of X G no_int
    | str => exact PySem.W.mg_none_of X G no_str
    , PySem.W.mg_none_of X G no_range, PySem.W.mg_none_of X G no_zip, PySem.W.mg_none_of X G no_enumerate⟩
  case C => exact ⟨atg_str (PySem.W.mg_of X G co0) (by decide +kernel), atg_int (PySem.W.mg_of X G co1), atg_int (PySem.W.mg_of X G co2), atg_int (PySem.W.mg_of X G co3), atg_ty (PySem.W.mg_none_of X G no_int) (by decide +kernel) (by decide +kernel), atg_ty (PySem.W.mg_none_of X G no_str) (by decide +kernel) (by decide +kernel), atg_ty (PySem.W.mg_none_of X G no_bool) (by decide +kernel) (by decide +kernel), atg_ty (PySem.W.mg_none_of X G no_list) (by decide +kernel) (by decide +kernel), atg_ty (PySem.W.mg_none_of X G no_tuple) (by decide +kernel) (by decide +kernel), atg_ty (PySem.W.mg_none_of X G no_dict) (by decide +kernel) (by decide +kernel), trivial⟩
  have D0 : DefAt K mg tab con kw 0 d0 := by
    refine ⟨_, _, s0, _, F0, f0, c0, PySem.W.mg_of X G na0, F0.binds (ps := ["value"]) fun _ _ _ _ _ _ us hl => match us, hl with | [_], _ => rfl, fun ks hk s ws hK hl => ?_⟩
    simp [kw] at hk
  have D1 : DefAt K mg tab con kw 1 d1 := by
    refine ⟨_, _, s1, _, F1, f1, c1, PySem.W.mg_of X G na1, F1.binds (ps := ["value", "least", "most"]) fun _ _ _ _ _ _ us hl => match us, hl with | [_, _, _], _ => rfl, fun ks hk s ws hK hl => ?_⟩
    simp [kw] at hk
    subst hk
    match ws, hl with | [_, _, _], _ => exact .of_eq rfl
  have D2 : DefAt K mg tab con kw 2 d2 := by
    refine ⟨_, _, s2, _, F2, f2, c2, PySem.W.mg_of X G na2, F2.binds (ps := ["value"]) fun _ _ _ _ _ _ us hl => match us, hl with | [_], _ => rfl, fun ks hk s ws hK hl => ?_⟩
    simp [kw] at hk
    subst hk
    match ws, hl with | [_], _ => exact .of_eq rfl
  have D3 : DefAt K mg tab con kw 3 d3 := by
    refine ⟨_, _, s3, _, F3, f3, c3, PySem.W.mg_of X G na3, F3.binds (ps := ["value"]) fun _ _ _ _ _ _ us hl => match us, hl with | [_], _ => rfl, fun ks hk s ws hK hl => ?_⟩
    simp [kw] at hk
    subst hk
    match ws, hl with | [_], _ => exact .of_eq rfl
  have D4 : DefAt K mg tab con kw 4 d4 := by
    refine ⟨_, _, s4, _, F4, f4, c4, PySem.W.mg_of X G na4, F4.binds (ps := ["value"]) fun _ _ _ _ _ _ us hl => match us, hl with | [_], _ => rfl, fun ks hk s ws hK hl => ?_⟩
    simp [kw] at hk
    subst hk
    match ws, hl with | [_], _ => exact .of_eq rfl
  have D5 : DefAt K mg tab con kw 5 d5 := by
    refine ⟨_, _, s5, _, F5, f5, c5, PySem.W.mg_of X G na5, F5.binds (ps := ["value"]) fun _ _ _ _ _ _ us hl => match us, hl with | [_], _ => rfl, fun ks hk s ws hK hl => ?_⟩
    simp [kw] at hk
    subst hk
    match ws, hl with | [_], _ => exact .of_eq rfl
  have D6 : DefAt K mg tab con kw 6 d6 := by
    refine ⟨_, _, s6, _, F6, f6, c6, PySem.W.mg_of X G na6, F6.binds (ps := ["value"]) fun _ _ _ _ _ _ us hl => match us, hl with | [_], _ => rfl, fun ks hk s ws hK hl => ?_⟩
    simp [kw] at hk
    subst hk
    match ws, hl with | [_], _ => exact .of_eq rfl
  have D7 : DefAt K mg tab con kw 7 d7 := by
    refine ⟨_, _, s7, _, F7, f7, c7, PySem.W.mg_of X G na7, F7.binds (ps := ["_law_bag_here", "_law_many"]) fun _ _ _ _ _ _ us hl => match us, hl with | [_, _], _ => rfl, fun ks hk s ws hK hl => ?_⟩
    simp [kw] at hk
  have D8 : DefAt K mg tab con kw 8 d8 := by
    refine ⟨_, _, s8, _, F8, f8, c8, PySem.W.mg_of X G na8, F8.binds (ps := ["_law_bag_here", "_law_some"]) fun _ _ _ _ _ _ us hl => match us, hl with | [_, _], _ => rfl, fun ks hk s ws hK hl => ?_⟩
    simp [kw] at hk
  have D9 : DefAt K mg tab con kw 9 d9 := by
    refine ⟨_, _, s9, _, F9, f9, c9, PySem.W.mg_of X G na9, F9.binds (ps := ["_law_bag_here", "_law_most"]) fun _ _ _ _ _ _ us hl => match us, hl with | [_, _], _ => rfl, fun ks hk s ws hK hl => ?_⟩
    simp [kw] at hk
  have D10 : DefAt K mg tab con kw 10 d10 := by
    refine ⟨_, _, s10, _, F10, f10, c10, PySem.W.mg_of X G na10, F10.binds (ps := ["_law_bag_here", "_law_many"]) fun _ _ _ _ _ _ us hl => match us, hl with | [_, _], _ => rfl, fun ks hk s ws hK hl => ?_⟩
    simp [kw] at hk
  have D11 : DefAt K mg tab con kw 11 d11 := by
    refine ⟨_, _, s11, _, F11, f11, c11, PySem.W.mg_of X G na11, F11.binds (ps := ["_law_found", "_law_due"]) fun _ _ _ _ _ _ us hl => match us, hl with | [_, _], _ => rfl, fun ks hk s ws hK hl => ?_⟩
    simp [kw] at hk
  have D12 : DefAt K mg tab con kw 12 d12 := by
    refine ⟨_, _, s12, _, F12, f12, c12, PySem.W.mg_of X G na12, F12.binds (ps := ["_law_value"]) fun _ _ _ _ _ _ us hl => match us, hl with | [_], _ => rfl, fun ks hk s ws hK hl => ?_⟩
    simp [kw] at hk
  have D13 : DefAt K mg tab con kw 13 d13 := by
    refine ⟨_, _, s13, _, F13, f13, c13, PySem.W.mg_of X G na13, F13.binds (ps := ["_law_value"]) fun _ _ _ _ _ _ us hl => match us, hl with | [_], _ => rfl, fun ks hk s ws hK hl => ?_⟩
    simp [kw] at hk
  have D : ∀ f d, tab[f]? = some d → DefAt K mg tab con kw f d := defs_all (P := DefAt K mg tab con kw) ⟨D0, D1, D2, D3, D4, D5, D6, D7, D8, D9, D10, D11, D12, D13, trivial⟩
  have bB := F14.binds (ps := ["_law_script"]) fun _ _ _ _ _ _ us hl => match us, hl with | [_], _ => rfl
  refine ⟨PySem.W.fnOf "law" "law" (defArgs sLaw) (defBody sLaw) (defScope sLaw) .none kV15 dc15 pm15 an15 cd15 ct15, fun s v => .of_eq rfl, fun base _ _ => ?_⟩
  have GB : FnOk l.prog w K mg base CX0 1 a14 _ ["_law_script"] (spBag K) := ok_bag F14 (by decide +kernel) rfl ⟨rfl, rfl, rfl, rfl⟩ (PySem.W.mg_none_of X G no_list) (PySem.W.mg_none_of X G no_len)
  exact ok_law (k := 38) (N := lawN) (body := lawB) M D F15 fL ⟨rfl, rfl⟩ rfl cL rfl (by decide +kernel) (by decide +kernel) GB (PySem.W.mg_of X G na14) nk14 bB fun ns h => law_ok 35 ns h
end K01
open PySem PySem.W PyProof.Rows
set_option maxRecDepth 100000 in
set_option maxHeartbeats 0 in
theorem PySem.Challenge.cw_deedranks_k01_words_judged_holds : PySem.Challenge.rw_deedranks_k01_words_judged.Holds := by
  w_on; o_law; k_head; (case hw => w_witness2)
  k_fill
  refine DI.walk (l := PySem.Challenge.rw_deedranks_k01_words_judged) rfl rfl (fun w h Y => PySem.W.kIn_of Y) ?F
  case F =>
    intro w mg fa h KX G hmg
    refine' K01.all_mk KX G hmg ?na0 ?nl0 ?nc0 ?nk0 ?na1 ?nl1 ?nc1 ?nk1 ?na2 ?nl2 ?nc2 ?nk2 ?na3 ?nl3 ?nc3 ?nk3 ?na4 ?nl4 ?nc4 ?nk4 ?na5 ?nl5 ?nc5 ?nk5 ?na6 ?nl6 ?nc6 ?nk6 ?na7 ?nl7 ?nc7 ?nk7 ?na8 ?nl8 ?nc8 ?nk8 ?na9 ?nl9 ?nc9 ?nk9 ?na10 ?nl10 ?nc10 ?nk10 ?na11 ?nl11 ?nc11 ?nk11 ?na12 ?nl12 ?nc12 ?nk12 ?na13 ?nl13 ?nc13 ?nk13 ?na14 ?nl14 ?nc14 ?nk14 ?na15 ?nl15 ?nc15 ?nk15 ?co0 ?co1 ?co2 ?co3 ?no_len ?no_abs ?no_all ?no_any ?no_isinstance ?no_sorted ?no_list ?no_tuple ?no_int ?no_str ?no_range ?no_zip ?no_enumerate ?no_bool ?no_dict
    (case na0 => k_is); (case nl0 => k_is); (case nc0 => k_is); (case nk0 => k_is); (case na1 => k_is); (case nl1 => k_is)
    (case nc1 => k_is); (case nk1 => k_is); (case na2 => k_is); (case nl2 => k_is); (case nc2 => k_is); (case nk2 => k_is)
    (case na3 => k_is); (case nl3 => k_is); (case nc3 => k_is); (case nk3 => k_is); (case na4 => k_is); (case nl4 => k_is)
    (case nc4 => k_is); (case nk4 => k_is); (case na5 => k_is); (case nl5 => k_is); (case nc5 => k_is); (case nk5 => k_is)
    (case na6 => k_is); (case nl6 => k_is); (case nc6 => k_is); (case nk6 => k_is); (case na7 => k_is); (case nl7 => k_is)
    (case nc7 => k_is); (case nk7 => k_is); (case na8 => k_is); (case nl8 => k_is); (case nc8 => k_is); (case nk8 => k_is)
    (case na9 => k_is); (case nl9 => k_is); (case nc9 => k_is); (case nk9 => k_is); (case na10 => k_is); (case nl10 => k_is)
    (case nc10 => k_is); (case nk10 => k_is); (case na11 => k_is); (case nl11 => k_is); (case nc11 => k_is); (case nk11 => k_is)
    (case na12 => k_is); (case nl12 => k_is); (case nc12 => k_is); (case nk12 => k_is); (case na13 => k_is); (case nl13 => k_is)
    (case nc13 => k_is); (case nk13 => k_is); (case na14 => k_is); (case nl14 => k_is); (case nc14 => k_is); (case nk14 => k_is)
    (case na15 => k_is); (case nl15 => k_is); (case nc15 => k_is); (case nk15 => k_is); (case co0 => k_is); (case co1 => k_is)
    (case co2 => k_is); (case co3 => k_is); (case no_len => k_is); (case no_abs => k_is); (case no_all => k_is); (case no_any => k_is)
    (case no_isinstance => k_is); (case no_sorted => k_is); (case no_list => k_is); (case no_tuple => k_is); (case no_int => k_is); (case no_str => k_is)
    (case no_range => k_is); (case no_zip => k_is); (case no_enumerate => k_is); (case no_bool => k_is); (case no_dict => k_is)
