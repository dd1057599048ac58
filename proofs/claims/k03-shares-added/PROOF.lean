import PyProof.Rows.All
import Wide.All
import OpenK.AllK
import Wide.FinOn
import HandS.ForMost
import HandS.ForExc
import HandS.CallSlots
import HandS.ExcInit
import HandS.ExcField
import HandS.ExcValue
import HandS.Lambda
import HandS.Nested
import HandS.HotCalls
import HandS.TryMany
import HandS.ExcIs
import HandS.IsInst
import HandS.Flow
import HandS.FStr
import HandS.NoneIn
import HandS.Defaults
import HandS.MakeKw
import HandS.Style
import HandS.Wide
import HandS.TupAny
import HandS.Zip
import KE.KRevSl
import KE.KCallOwn
import KE.KOpsOwn
import HandS.OwnEq
import HandS.WordsExc
import PySem.Challenge.RW_deedranks_k03_whole_shares_added_and_mul
set_option Elab.async false
set_option linter.all false
set_option maxRecDepth 100000
set_option maxHeartbeats 4000000
namespace DI
open PySem L2

/-! ### trees: what a value is worth -/
/-- the greatest length of a text, a list, a tuple here -/
def LIM : Nat := 1000000
theorem LIM_le : LIM ≤ sizeLine := by rw [sizeLine_eq]; decide
theorem LIM_lt : LIM < sizeLine := by rw [sizeLine_eq]; decide
inductive T where
  | non | bl (b : Bool) | int (i : Int) | str (x : Str) | ty (n : String) | cls (n : Str)
  | tup (ts : List T) | lst (ts : List T)
  | dK (ks : List Key) (ts : List T)
  | dT (ks : List (List Key)) (ts : List T)
  | obj (c : Str) (ns : List Str) (ts : List T)
  | bag
  deriving Inhabited

/-- the names of the kinds that are no classes of one's own -/
def kinds : List String := ["NoneType", "bool", "int", "str", "list", "tuple", "dict"]
/-- what is known of a class of one's own -/
structure ClsOk (K : PySem.W.Frag) (C : Addr) : Prop where
  cls : Cls K C
  ha : PySem.W.findIn K (.ref C) "__class__" = some (some (.builtin "object.__class__"))
  hn : PySem.W.specialIn K (.builtin "object.__class__") "__get__" = some (some (.builtin "getset_descriptor.__get__"))
  htk : PySem.W.takesIn K (.builtin "object.__class__") = some true
  hm : PySem.W.mroIn K C (.type "object") = some true
  b1 : ∀ n ∈ kinds, PySem.W.kitOne K (.type n) (.ref C) = some false
  b2 : ∀ n ∈ kinds, PySem.W.kitOne K (.ref C) (.type n) = some false
  nf : ∀ n ∈ kinds, PySem.W.notFirst K C (.type n) = true
  sf : PySem.W.selfFirst K C = true
/-- what is fixed through a law: the written part, the bag's address, its cells' address, the classes -/
structure Wd where
  K : PySem.W.Frag
  B : Addr
  c : Addr
  S : Addr
  cl : Str → Option Addr
  xcl : Str → Option Addr
  ok : ∀ n C, cl n = some C → ClsOk K C
  oo : ∀ m n C D, cl m = some C → cl n = some D → PySem.W.kitOne K (.ref C) (.ref D) = some (decide (m = n))

mutual
inductive Tr (W : Wd) (F : Hp) : V → T → Prop
  | non : Tr W F .non .non
  | bl (b : Bool) : Tr W F (.bl b) (.bl b)
  | int (i : Int) : Tr W F (.int i) (.int i)
  | str (x : Str) : x.length ≤ LIM → Tr W F (.str x) (.str x)
  | ty (n : String) : Tr W F (.ty n) (.ty n)
  | cls {n : Str} {C : Addr} : W.cl n = some C → Tr W F (.ref C) (.cls n)
  | tup {a : Addr} {vs : List V} {ts : List T} : F a = some (.tup vs) → ts.length ≤ LIM → TrL W F vs ts → Tr W F (.ref a) (.tup ts)
  | lst {a : Addr} {vs : List V} {ts : List T} : F a = some (.lst vs) → ts.length ≤ LIM → TrL W F vs ts → Tr W F (.ref a) (.lst ts)
  | dK {a : Addr} {kvs : List (Key × V)} {ts : List T} : F a = some (.dK kvs) → TrL W F (kvs.map (·.2)) ts → Tr W F (.ref a) (.dK (kvs.map (·.1)) ts)
  | dT {a : Addr} {kvs : List (List Key × V)} {ts : List T} : F a = some (.dT kvs) → TrL W F (kvs.map (·.2)) ts → Tr W F (.ref a) (.dT (kvs.map (·.1)) ts)
  | obj {a C dx : Addr} {n : Str} {fs : List (Str × V)} {ts : List T} : F a = some (.ins C dx fs) → W.cl n = some C → TrL W F (fs.map (·.2)) ts → Tr W F (.ref a) (.obj n (fs.map (·.1)) ts)
  | bag : Tr W F (.ref W.B) .bag
inductive TrL (W : Wd) (F : Hp) : List V → List T → Prop
  | nil : TrL W F [] []
  | cons {v : V} {t : T} {vs : List V} {ts : List T} : Tr W F v t → TrL W F vs ts → TrL W F (v :: vs) (t :: ts)
end

/-- what one object is worth -/
inductive TrO (W : Wd) (F : Hp) : HO → T → Prop
  | lst {vs : List V} {ts : List T} : ts.length ≤ LIM → TrL W F vs ts → TrO W F (.lst vs) (.lst ts)
  | dK {kvs : List (Key × V)} {ts : List T} : TrL W F (kvs.map (·.2)) ts → TrO W F (.dK kvs) (.dK (kvs.map (·.1)) ts)
  | dT {kvs : List (List Key × V)} {ts : List T} : TrL W F (kvs.map (·.2)) ts → TrO W F (.dT kvs) (.dT (kvs.map (·.1)) ts)
  | obj {C dx : Addr} {n : Str} {fs : List (Str × V)} {ts : List T} : W.cl n = some C → TrL W F (fs.map (·.2)) ts → TrO W F (.ins C dx fs) (.obj n (fs.map (·.1)) ts)
theorem Tr.ofO {W : Wd} {F : Hp} {a : Addr} {o : HO} {t : T} (h : F a = some o) (k : TrO W F o t) : Tr W F (.ref a) t := by
  cases k with
  | lst z l => exact .lst h z l
  | dK l => exact .dK h l
  | dT l => exact .dT h l
  | obj c l => exact .obj h c l
/-- what F knows stays known -/
def Sub (F F' : Hp) : Prop := ∀ a o, F a = some o → F' a = some o
theorem Sub.refl (F : Hp) : Sub F F := fun _ _ h => h
theorem Sub.trans {F G H : Hp} (a : Sub F G) (b : Sub G H) : Sub F H := fun x o h => b x o (a x o h)

section
variable {W : Wd} {F F' : Hp}
mutual
theorem Tr.mono (e : Sub F F') : ∀ {v : V} {t : T}, Tr W F v t → Tr W F' v t
  | _, _, .non => .non
  | _, _, .bl b => .bl b
  | _, _, .int i => .int i
  | _, _, .str x h => .str x h
  | _, _, .ty n => .ty n
  | _, _, .cls h => .cls h
  | _, _, .tup h z l => .tup (e _ _ h) z (TrL.mono e l)
  | _, _, .lst h z l => .lst (e _ _ h) z (TrL.mono e l)
  | _, _, .dK h l => .dK (e _ _ h) (TrL.mono e l)
  | _, _, .dT h l => .dT (e _ _ h) (TrL.mono e l)
  | _, _, .obj h c l => .obj (e _ _ h) c (TrL.mono e l)
  | _, _, .bag => .bag
theorem TrL.mono (e : Sub F F') : ∀ {vs : List V} {ts : List T}, TrL W F vs ts → TrL W F' vs ts
  | _, _, .nil => .nil
  | _, _, .cons h l => .cons (Tr.mono e h) (TrL.mono e l)
end

theorem TrO.mono (e : Sub F F') {o : HO} {t : T} (h : TrO W F o t) : TrO W F' o t := by
  cases h with
  | lst z l => exact .lst z (l.mono e)
  | dK l => exact .dK (l.mono e)
  | dT l => exact .dT (l.mono e)
  | obj c l => exact .obj c (l.mono e)
theorem TrL.length : ∀ {vs : List V} {ts : List T}, TrL W F vs ts → vs.length = ts.length
  | _, _, .nil => rfl
  | _, _, .cons _ l => by simp [TrL.length l]
theorem TrL.append : ∀ {vs us : List V} {ts rs : List T}, TrL W F vs ts → TrL W F us rs → TrL W F (vs ++ us) (ts ++ rs)
  | _, _, _, _, .nil, h => h
  | _, _, _, _, .cons a l, h => .cons a (TrL.append l h)
theorem TrL.get : ∀ {vs : List V} {ts : List T} {i : Nat} {t : T}, TrL W F vs ts → ts[i]? = some t → ∃ v, vs[i]? = some v ∧ Tr W F v t
  | _, _, _, _, .nil, e => by simp at e
  | _, _, 0, _, .cons h _, e => by simp at e; subst e; exact ⟨_, rfl, h⟩
  | _, _, i + 1, t, .cons _ l, e => by
    obtain ⟨v, h1, h2⟩ := TrL.get (i := i) (t := t) l (by simpa using e)
    exact ⟨v, by simpa using h1, h2⟩
theorem TrL.getV : ∀ {vs : List V} {ts : List T} {i : Nat} {v : V}, TrL W F vs ts → vs[i]? = some v → ∃ t, ts[i]? = some t ∧ Tr W F v t
  | _, _, _, _, .nil, e => by simp at e
  | _, _, 0, _, .cons h _, e => by simp at e; subst e; exact ⟨_, rfl, h⟩
  | _, _, i + 1, v, .cons _ l, e => by
    obtain ⟨t, h1, h2⟩ := TrL.getV (i := i) (v := v) l (by simpa using e)
    exact ⟨t, by simpa using h1, h2⟩
theorem TrL.take : ∀ {vs : List V} {ts : List T} (n : Nat), TrL W F vs ts → TrL W F (vs.take n) (ts.take n)
  | _, _, 0, _ => .nil
  | _, _, _ + 1, .nil => .nil
  | _, _, n + 1, .cons h l => .cons h (TrL.take n l)
theorem TrL.drop : ∀ {vs : List V} {ts : List T} (n : Nat), TrL W F vs ts → TrL W F (vs.drop n) (ts.drop n)
  | _, _, 0, h => h
  | _, _, _ + 1, .nil => .nil
  | _, _, n + 1, .cons _ l => TrL.drop n l
theorem TrL.set {v : V} {t : T} (h : Tr W F v t) : ∀ {vs : List V} {ts : List T} (i : Nat), TrL W F vs ts → TrL W F (vs.set i v) (ts.set i t)
  | _, _, _, .nil => .nil
  | _, _, 0, .cons _ l => .cons h l
  | _, _, i + 1, .cons a l => .cons a (TrL.set h i l)
theorem TrL.reverse : ∀ {vs : List V} {ts : List T}, TrL W F vs ts → TrL W F vs.reverse ts.reverse
  | _, _, .nil => .nil
  | _, _, .cons h l => by
    rw [List.reverse_cons, List.reverse_cons]
    exact (TrL.reverse l).append (.cons h .nil)
theorem TrL.rep {vs : List V} {ts : List T} (h : TrL W F vs ts) : ∀ n : Nat, TrL W F (List.replicate n vs).flatten (List.replicate n ts).flatten
  | 0 => .nil
  | n + 1 => by
    rw [List.replicate_succ, List.replicate_succ, List.flatten_cons, List.flatten_cons]
    exact h.append (TrL.rep h n)
theorem TrL.ints (ns : List Int) : TrL W F (ns.map V.int) (ns.map T.int) := by
  induction ns with
  | nil => exact .nil
  | cons n r ih => exact .cons (.int n) ih
theorem TrL.strs : ∀ (ns : List Str), (∀ x ∈ ns, x.length ≤ LIM) → TrL W F (ns.map V.str) (ns.map T.str)
  | [], _ => .nil
  | n :: r, h => .cons (.str n (h n (by simp))) (TrL.strs r fun x hx => h x (by simp [hx]))
end

/-! ### the bag -/
structure Bag where
  cells : List Int
  i : Int
  j : Int
  s : Int
  n : Int
  deriving Inhabited

def BagAt (W : Wd) (H : Hp) (b : Bag) : Prop :=
  H W.B = some (.lst [.ref W.c, .int b.i, .int b.j, .int b.s, .int b.n]) ∧ H W.c = some (.lst (b.cells.map V.int)) ∧ W.B ≠ W.c

def isD : HO → Prop
  | .dK _ => True
  | _ => False
/-- the frozen part F of the heap H -/
structure Sta (W : Wd) (F H : Hp) (b : Bag) : Prop where
  fz : ∀ a o, F a = some o → H a = some o ∨ (isD o ∧ ∃ od, H a = some (.frz od o))
  fB : F W.B = none
  fc : F W.c = none
  bag : BagAt W H b

def Keep (W : Wd) (H H' : Hp) : Prop := ∀ a o, H a = some o → a ≠ W.B → H' a = some o
theorem Keep.refl (W : Wd) (H : Hp) : Keep W H H := fun _ _ h _ => h
theorem Keep.trans {W : Wd} {H H1 H2 : Hp} (a : Keep W H H1) (b : Keep W H1 H2) : Keep W H H2 := fun x o h n => b x o (a x o h n) n
theorem Keep.new {W : Wd} {H : Hp} {p : Addr} {o : HO} (h : H p = none) : Keep W H (upd H p o) := fun a u e _ => by
  rw [upd_ne (ne_of_none e h)]; exact e
theorem Keep.free {W : Wd} {H H' : Hp} {b : Bag} (k : Keep W H H') (ba : BagAt W H' b) {p : Addr} (h : H' p = none) : H p = none := by
  cases q : H p with
  | none => rfl
  | some o =>
    by_cases e : p = W.B
    · subst e; rw [ba.1] at h; cases h
    · rw [k p o q e] at h; cases h

/-- F grows into F' by places that were free in H -/
structure Grow (F H F' : Hp) : Prop where
  sub : Sub F F'
  new : ∀ a o, F' a = some o → F a = some o ∨ H a = none
theorem Grow.refl (F H : Hp) : Grow F H F := ⟨Sub.refl F, fun _ _ h => .inl h⟩

/-- what stands behind an expression of the worth t -/
structure Post (W : Wd) (F H : Hp) (b' : Bag) (t : T) (v : V) (F' H' : Hp) : Prop where
  grow : Grow F H F'
  keep : Keep W H H'
  sta : Sta W F' H' b'
  tr : Tr W F' v t

section
variable {W : Wd} {F F' F'' H H' H'' : Hp} {b b' b'' : Bag} {t t' : T} {v v' : V}
theorem Grow.trans (g : Grow F H F') (k : Keep W H H') (s : BagAt W H' b') (g' : Grow F' H' F'') : Grow F H F'' := by
  refine ⟨g.sub.trans g'.sub, fun a o e => ?_⟩
  rcases g'.new a o e with h | h
  · exact g.new a o h
  · exact .inr (k.free s h)
theorem Post.trans (p : Post W F H b' t v F' H') (q : Post W F' H' b'' t' v' F'' H'') : Post W F H b'' t' v' F'' H'' :=
  ⟨p.grow.trans p.keep p.sta.bag q.grow, p.keep.trans q.keep, q.sta, q.tr⟩
/-- nothing is made -/
theorem Post.same (s : Sta W F H b) (h : Tr W F v t) : Post W F H b t v F H := ⟨Grow.refl _ _, Keep.refl _ _, s, h⟩
/-- a new object is laid and frozen -/
theorem Sta.laid {p : Addr} {o : HO} (s : Sta W F H b) (n : H p = none) : Sta W (upd F p o) (upd H p o) b := by
  have hB : W.B ≠ p := fun e => by have := s.bag.1; rw [e, n] at this; cases this
  have hc : W.c ≠ p := fun e => by have := s.bag.2.1; rw [e, n] at this; cases this
  refine ⟨fun a u e => ?_, by rw [upd_ne hB]; exact s.fB, by rw [upd_ne hc]; exact s.fc, by rw [upd_ne hB]; exact s.bag.1, by rw [upd_ne hc]; exact s.bag.2.1, s.bag.2.2⟩
  by_cases h : a = p
  · subst h; rw [upd_same] at e ⊢; exact .inl e
  · rw [upd_ne h] at e ⊢; exact s.fz a u e
theorem Sta.free (s : Sta W F H b) {p : Addr} (n : H p = none) : F p = none := by
  cases q : F p with
  | none => rfl
  | some o =>
    rcases s.fz p o q with h | ⟨_, od, h⟩ <;> (rw [n] at h; cases h)
theorem Grow.laid {p : Addr} {o : HO} (s : Sta W F H b) (n : H p = none) : Grow F H (upd F p o) := by
  refine ⟨fun a u e => ?_, fun a u e => ?_⟩
  · rw [upd_ne (ne_of_none e (s.free n))]; exact e
  · by_cases h : a = p
    · subst h; exact .inr n
    · rw [upd_ne h] at e; exact .inl e
theorem Post.laid {p : Addr} {o : HO} (s : Sta W F H b) (n : H p = none) (h : Tr W (upd F p o) (.ref p) t) : Post W F H b t (.ref p) (upd F p o) (upd H p o) :=
  ⟨Grow.laid s n, Keep.new n, s.laid n, h⟩
theorem Post.lst {p : Addr} {vs : List V} {ts : List T} (s : Sta W F H b) (n : H p = none) (z : ts.length ≤ LIM) (h : TrL W F vs ts) : Post W F H b (.lst ts) (.ref p) (upd F p (.lst vs)) (upd H p (.lst vs)) :=
  Post.laid s n (.lst upd_same z (h.mono (Grow.laid s n).sub))
theorem Post.tup {p : Addr} {vs : List V} {ts : List T} (s : Sta W F H b) (n : H p = none) (z : ts.length ≤ LIM) (h : TrL W F vs ts) : Post W F H b (.tup ts) (.ref p) (upd F p (.tup vs)) (upd H p (.tup vs)) :=
  Post.laid s n (.tup upd_same z (h.mono (Grow.laid s n).sub))
theorem Sta.lst {a : Addr} {vs : List V} (s : Sta W F H b) (h : F a = some (.lst vs)) : H a = some (.lst vs) := by
  rcases s.fz _ _ h with q | ⟨q, _⟩
  · exact q
  · exact q.elim
theorem Sta.tup {a : Addr} {vs : List V} (s : Sta W F H b) (h : F a = some (.tup vs)) : H a = some (.tup vs) := by
  rcases s.fz _ _ h with q | ⟨q, _⟩
  · exact q
  · exact q.elim
theorem Sta.ins {a C dx : Addr} {fs : List (Str × V)} (s : Sta W F H b) (h : F a = some (.ins C dx fs)) : H a = some (.ins C dx fs) := by
  rcases s.fz _ _ h with q | ⟨q, _⟩
  · exact q
  · exact q.elim
end

/-! ### expressions: a function of the names' worth -/
abbrev View := List (Option T)
structure VRel (W : Wd) (F : Hp) (σ : L2.St) (ρ : View) : Prop where
  len : σ.length = ρ.length
  get : ∀ (i : Nat) (t : T), ρ[i]? = some (some t) → ∃ v, σ[i]? = some (some v) ∧ Tr W F v t
theorem VRel.mono {W : Wd} {F F' : Hp} {σ : L2.St} {ρ : View} (h : VRel W F σ ρ) (e : Sub F F') : VRel W F' σ ρ := ⟨h.len, fun i t q =>
  let ⟨v, a, b⟩ := h.get i t q; ⟨v, a, b.mono e⟩⟩
/-- places emptied -/
def wipeV (ρ : View) : List Nat → View
  | [] => ρ
  | v :: vs => (wipeV ρ vs).set v none
theorem VRel.unset {W : Wd} {F : Hp} {σ : L2.St} {ρ : View} {i : Nat} (h : VRel W F σ ρ) : VRel W F (σ.set i none) (ρ.set i none) := by
  refine ⟨by rw [List.length_set, List.length_set]; exact h.len, fun j u e => ?_⟩
  by_cases hj : i = j
  · subst hj
    by_cases hl : i < ρ.length
    · rw [List.getElem?_set_self hl] at e; cases e
    · rw [List.getElem?_eq_none (by simpa using hl)] at e; cases e
  · rw [List.getElem?_set_ne hj] at e ⊢
    exact h.get j u e
theorem VRel.wipe {W : Wd} {F : Hp} {σ : L2.St} {ρ : View} (h : VRel W F σ ρ) : ∀ vs : List Nat, VRel W F (L2.wipe σ vs) (wipeV ρ vs)
  | [] => h
  | v :: vs => (VRel.wipe h vs).unset
theorem wipe_get (σ : L2.St) : ∀ (vs : List Nat) (j : Nat), (L2.wipe σ vs)[j]? = if j ∈ vs then (if j < σ.length then some none else none) else σ[j]?
  | [], j => by simp [L2.wipe]
  | v :: vs, j => by
    have ih := wipe_get σ vs j
    unfold L2.wipe
    by_cases hj : v = j
    · subst hj
      simp only [List.mem_cons, true_or, if_true]
      by_cases hl : v < σ.length
      · rw [List.getElem?_set_self (by rw [wipe_length]; exact hl), if_pos hl]
      · rw [List.getElem?_eq_none (by rw [List.length_set, wipe_length]; omega), if_neg hl]
    · rw [List.getElem?_set_ne hj, ih]
      have : (j ∈ v :: vs) ↔ j ∈ vs := by simp [Ne.symm hj]
      simp only [this]

/-- an error that flies: its class, its attributes -/
structure Xc where
  c : Str
  ns : List Str
  ts : List T
/-- how a part ends -/
inductive Rs (α : Type) where
  | ok (a : α)
  | ex (x : Xc)
abbrev Ev (α : Type) := Bag → Option (Rs α × Bag)
def Ev.pure {α : Type} (a : α) : Ev α := fun b => some (.ok a, b)
def Ev.bind {α β : Type} (m : Ev α) (f : α → Ev β) : Ev β := fun b => match m b with
  | none => none
  | some (.ok a, b') => f a b'
  | some (.ex x, b') => some (.ex x, b')
def Ev.of {α : Type} (o : Option α) : Ev α := fun b => match o with
  | none => none
  | some a => some (.ok a, b)
def Ev.no {α : Type} : Ev α := fun _ => none
def Ev.throw {α : Type} (x : Xc) : Ev α := fun b => some (.ex x, b)
/-- m runs from b, ends in Q, or flies in X -/
def wpE {α : Type} (m : Ev α) (b : Bag) (Q : α → Bag → Prop) (X : Xc → Bag → Prop) : Prop := match m b with
  | none => False
  | some (.ok a, b') => Q a b'
  | some (.ex x, b') => X x b'
section
variable {α β : Type} {m : Ev α} {f : α → Ev β} {b : Bag} {X X' : Xc → Bag → Prop}
theorem wpE_mono {Q Q' : α → Bag → Prop} (h : wpE m b Q X) (k : ∀ a b', Q a b' → Q' a b') (kx : ∀ x b', X x b' → X' x b') : wpE m b Q' X' := by
  unfold wpE at *
  split at h
  · exact h.elim
  · exact k _ _ h
  · exact kx _ _ h
theorem wpE_bind {Q : β → Bag → Prop} : wpE (Ev.bind m f) b Q X ↔ wpE m b (fun a b' => wpE (f a) b' Q X) X := by
  unfold wpE Ev.bind
  cases m b with
  | none => exact Iff.rfl
  | some p =>
    obtain ⟨r, b'⟩ := p
    cases r <;> exact Iff.rfl
theorem wpE_pure {a : α} {Q : α → Bag → Prop} : wpE (Ev.pure a) b Q X ↔ Q a b := Iff.rfl
theorem wpE_of {o : Option α} {Q : α → Bag → Prop} : wpE (Ev.of o) b Q X ↔ ∃ a, o = some a ∧ Q a b := by
  cases o with
  | none => exact ⟨fun h => h.elim, fun ⟨_, h, _⟩ => by cases h⟩
  | some a => exact ⟨fun h => ⟨a, rfl, h⟩, fun ⟨_, h, q⟩ => by cases h; exact q⟩
theorem wpE_no {Q : α → Bag → Prop} : ¬ wpE (Ev.no : Ev α) b Q X := fun h => h
end
/-- an error of a part is not borne -/
def Ev.calm {α : Type} (m : Ev α) : Ev α := fun b => match m b with
  | some (.ok a, b') => some (.ok a, b')
  | _ => none
theorem calm_ok {α : Type} {m : Ev α} {b b' : Bag} {a : α} (h : Ev.calm m b = some (.ok a, b')) : m b = some (.ok a, b') := by
  unfold Ev.calm at h
  split at h
  · cases h; assumption
  · cases h
theorem calm_ex {α : Type} {m : Ev α} {b b' : Bag} {x : Xc} (h : Ev.calm m b = some (.ex x, b')) : False := by
  unfold Ev.calm at h
  split at h <;> cases h
theorem bind_ok {α β : Type} {m : Ev α} {f : α → Ev β} {b b'' : Bag} {r : β} (h : Ev.bind m f b = some (.ok r, b'')) : ∃ a b', m b = some (.ok a, b') ∧ f a b' = some (.ok r, b'') := by
  unfold Ev.bind at h
  cases q : m b with
  | none => rw [q] at h; cases h
  | some p =>
    obtain ⟨x, b'⟩ := p
    rw [q] at h
    cases x with
    | ok a => exact ⟨a, b', rfl, h⟩
    | ex x => cases h
theorem of_ok {α : Type} {o : Option α} {b b' : Bag} {a : α} (h : Ev.of o b = some (.ok a, b')) : o = some a ∧ b' = b := by
  unfold Ev.of at h
  cases o with
  | none => cases h
  | some x => cases h; exact ⟨rfl, rfl⟩
theorem wpE_eq {α : Type} {m : Ev α} {b b' : Bag} {a : α} {Q : α → Bag → Prop} {X : Xc → Bag → Prop} (e : m b = some (.ok a, b')) (h : Q a b') : wpE m b Q X := by
  unfold wpE
  rw [e]
  exact h
/-- what stands behind an error: its class, its dict -/
structure PostX (W : Wd) (F H : Hp) (b' : Bag) (x : Xc) (cls : Value) (d : Option Addr) (F' H' : Hp) : Prop where
  grow : Grow F H F'
  keep : Keep W H H'
  sta : Sta W F' H' b'
  at_ : ∃ (C dd : Addr) (fs : List (Str × V)), W.xcl x.c = some C ∧ cls = .ref C ∧ d = some dd ∧ H' dd = some (.xd fs) ∧ F' dd = some (.xd fs) ∧ fs.map (·.1) = x.ns ∧ TrL W F' (fs.map (·.2)) x.ts
/-- the wish of errors, at a place -/
def WXat (W : Wd) (Wx : WX) (σ : L2.St) (F H : Hp) (x : Xc) (b' : Bag) : Prop := ∀ cls d F' H', PostX W F H b' x cls d F' H' → Wx cls d σ H'
theorem WXat.go {W : Wd} {Wx : WX} {σ : L2.St} {F H F1 H1 : Hp} {b1 : Bag} (g : Grow F H F1) (k : Keep W H H1) (s : Sta W F1 H1 b1) {x : Xc} {b' : Bag} (h : WXat W Wx σ F H x b') : WXat W Wx σ F1 H1 x b' := fun cls d F' H' p =>
  h cls d F' H' ⟨g.trans k s.bag p.grow, k.trans p.keep, p.sta, p.at_⟩

/-- the reading of an expression that is worth f -/
def rdE (W : Wd) (Wx : WX) (f : View → Ev T) : TE := fun σ H Q => ∃ F ρ b, Sta W F H b ∧ VRel W F σ ρ ∧ wpE (f ρ) b (fun t b' => ∀ v F' H', Post W F H b' t v F' H' → Q v H') (WXat W Wx σ F H)
def rdT (W : Wd) (Wx : WX) (f : View → Ev Bool) : TT := fun σ H Q => ∃ F ρ b, Sta W F H b ∧ VRel W F σ ρ ∧ wpE (f ρ) b (fun t b' => ∀ F' H', Grow F H F' → Keep W H H' → Sta W F' H' b' → Q t H') (WXat W Wx σ F H)
structure PostL (W : Wd) (F H : Hp) (b' : Bag) (ts : List T) (vs : List V) (F' H' : Hp) : Prop where
  grow : Grow F H F'
  keep : Keep W H H'
  sta : Sta W F' H' b'
  tr : TrL W F' vs ts
def rdA (W : Wd) (Wx : WX) (f : View → Ev (List T)) : TA := fun σ H Q => ∃ F ρ b, Sta W F H b ∧ VRel W F σ ρ ∧ wpE (f ρ) b (fun ts b' => ∀ vs F' H', PostL W F H b' ts vs F' H' → Q vs H') (WXat W Wx σ F H)

theorem PE.imp {X : Cx} {e : Expr} {t t' : TE} (h : PE X e t) (k : ∀ σ H Q, t' σ H Q → t σ H Q) : PE X e t' := ⟨fun pins s σ H Q I q => h.run pins s σ H Q I (k σ H Q q)⟩
theorem PT.imp {X : Cx} {e : Expr} {t t' : TT} (h : PT X e t) (k : ∀ σ H Q, t' σ H Q → t σ H Q) : PT X e t' := ⟨fun pins s σ H Q I q => h.run pins s σ H Q I (k σ H Q q)⟩
theorem PA.imp {X : Cx} {e : List Expr} {t t' : TA} (h : PA X e t) (k : ∀ σ H Q, t' σ H Q → t σ H Q) : PA X e t' := ⟨fun pos pins s σ H Q I q => h.run pos pins s σ H Q I (k σ H Q q)⟩
theorem PS.imp {X : Cx} {e : Stmt} {t t' : TS} (h : PS X e t) (k : ∀ D σ H, t' D σ H → t D σ H) : PS X e t' := ⟨fun pins s σ H D I q => h.run pins s σ H D I (k D σ H q)⟩
theorem PSs.imp {X : Cx} {e : List Stmt} {t t' : TS} (h : PSs X e t) (k : ∀ D σ H, t' D σ H → t D σ H) : PSs X e t' := ⟨fun pins s σ H D I q => h.run pins s σ H D I (k D σ H q)⟩
end DI

set_option Elab.async false
set_option linter.all false
set_option maxRecDepth 100000
set_option maxHeartbeats 4000000
namespace DI
open PySem L2

/-! ### the texts as terms with places -/
mutual
inductive Tg where
  | name (i : Nat)
  | seq (l : Bool) (gs : Tgs)
inductive Tgs where
  | nil
  | cons (g : Tg) (r : Tgs)
end
inductive Bi where
  | len | abs | all | any | isi | sorted | list | tuple | int | str
  deriving DecidableEq
inductive Me where
  | join
  deriving DecidableEq

mutual
inductive E where
  | var (i : Nat)
  | con (t : T)
  | glob (x : Str) (t : T)
  | bin (op : Operator) (a b : E)
  | neg (a : E)
  | not (a : E)
  | and (a b : E)
  | or (a b : E)
  | cmp (op : CmpOp) (a b : E)
  | chain (op op' : CmpOp) (a b c : E)
  | ife (c : Te) (a b : E)
  | tup (es : Es)
  | lst (es : Es)
  | dct (ks : List Str) (vs : Es)
  | idx (a i : E)
  | sl (a lo hi : E)
  | slH (a hi : E)
  | slL (a lo : E)
  | rev (a : E)
  | call (f : Nat) (es : Es)
  | callK (f : Nat) (es : Es) (ks : List Str)
  | blt (x : Bi) (es : Es)
  | mth (m : Me) (a : E) (es : Es)
  | bget (a : E) (k : Nat)
  | blen (a : E)
  | bcell (a : E)
  | lc (elt : E) (tg : Tg) (it : It) (c : Te)
  | lc0 (elt : E) (tg : Tg) (it : It)
  | mk (c : Nat) (es : Es)
  | mkK (c : Nat) (es : Es) (ks : List Str)
  | fld (a : E) (f : Str)
  | meth (f : Nat) (a : E) (es : Es)
  | methK (f : Nat) (a : E) (es : Es) (ks : List Str)
  | obin (op : Operator) (f : Nat) (a b : E)
  | obinI (op : Operator) (f : Nat) (a b : E)
  | orbin (op : Operator) (f : Nat) (a b : E)
  | ocmp (op : CmpOp) (f : Nat) (a b : E)
  | ostr (f : Nat) (a : E)
  | fmt (a : E)
  | fstr (es : Es)
  | dead
inductive Te where
  | tr (e : E)
  | not (a : Te)
  | and (a b : Te)
  | or (a b : Te)
inductive Es where
  | nil
  | cons (e : E) (r : Es)
inductive It where
  | val (e : E)
  | rng1 (a : E)
  | rng2 (a b : E)
  | zip (a b : E)
  | enum (a : E)
end
instance : Inhabited E := ⟨.con .non⟩

/-! ### values -/
def chrs (x : Str) : List Str := x.cps.toList.map fun c => ⟨#[c]⟩
def truT : T → Option Bool
  | .non => some false
  | .bl b => some b
  | .int i => some (i != 0)
  | .str x => some (x.length != 0)
  | .lst ts => some (!ts.isEmpty)
  | .tup ts => some (!ts.isEmpty)
  | _ => none
mutual
def toD : T → Option PyData
  | .non => some .none
  | .bl b => some (.bool b)
  | .int i => some (.int i)
  | .str x => some (.str x)
  | .lst ts => (toDs ts).map .list
  | .tup ts => (toDs ts).map .tuple
  | _ => none
def toDs : List T → Option (List PyData)
  | [] => some []
  | t :: r => match toD t, toDs r with
    | some d, some ds => some (d :: ds)
    | _, _ => none
end
def eqD (x y : T) : Option Bool := match toD x, toD y with
  | some d, some e => if SeqAt.shaped d && SeqAt.shaped e then some (PyData.eqv d e) else none
  | _, _ => none
def atomV : T → Option V
  | .non => some .non
  | .bl b => some (.bl b)
  | .int i => some (.int i)
  | .str x => some (.str x)
  | _ => none
def eqT (x y : T) : Option Bool := match atomV x, atomV y with
  | some v, some w => if scal v w then some (decide (v = w)) else eqD x y
  | _, _ => eqD x y
def ltS (x y : Str) : Bool := decide (x.cps.toList < y.cps.toList)
def atomVs : List T → Option (List V)
  | [] => some []
  | t :: r => match atomV t, atomVs r with
    | some v, some vs => some (v :: vs)
    | _, _ => none
def inSeq (x : T) (ts : List T) : Option Bool := match atomV x, atomVs ts with
  | some v, some vs => some (inV v vs)
  | _, _ => none
def inT (x : T) : T → Option Bool
  | .lst ts => inSeq x ts
  | .tup ts => inSeq x ts
  | .str y => match x with
    | .str ⟨⟨[c]⟩⟩ => some (decide (c ∈ y.cps.toList))
    | _ => none
  | _ => none
def isNon : T → Bool
  | .non => true
  | _ => false
def cmpT (op : CmpOp) (x y : T) : Option T := match op with
  | .Eq => (eqT x y).map .bl
  | .NotEq => (eqT x y).map fun b => .bl (!b)
  | .Lt => match x, y with
    | .int i, .int j => some (.bl (decide (i < j)))
    | .str a, .str b => some (.bl (ltS a b))
    | _, _ => none
  | .LtE => match x, y with
    | .int i, .int j => some (.bl (decide (i ≤ j)))
    | _, _ => none
  | .Gt => match x, y with
    | .int i, .int j => some (.bl (decide (j < i)))
    | _, _ => none
  | .GtE => match x, y with
    | .int i, .int j => some (.bl (decide (j ≤ i)))
    | _, _ => none
  | .In => (inT x y).map .bl
  | .NotIn => (inT x y).map fun b => .bl (!b)
  | .Is => match y with
    | .non => some (.bl (isNon x))
    | _ => none
  | .IsNot => match y with
    | .non => some (.bl (!isNon x))
    | _ => none
/-- numbers that the operators take without a thought of their size -/
def wide (i : Int) : Bool := decide (i.natAbs < 2 ^ 300)
def mulOk (i j : Int) : Bool := decide (i.natAbs < 2 ^ 64) || decide (j.natAbs < 2 ^ 64) || (wide i && wide j)
def catT {α : Type} (a b : List α) : Option (List α) := if a.length + b.length ≤ LIM then some (a ++ b) else none
def addT (x y : T) : Option T := match x, y with
  | .int i, .int j => some (.int (i + j))
  | .str a, .str b => if a.length + b.length ≤ LIM then some (.str (a ++ b)) else none
  | .lst a, .lst b => (catT a b).map .lst
  | .tup a, .tup b => (catT a b).map .tup
  | _, _ => none
def mulT (x y : T) : Option T := match x, y with
  | .int i, .int j => if mulOk i j then some (.int (i * j)) else none
  | .lst a, .int k => if a.length * k.toNat ≤ LIM ∧ k ≤ 1000000 ∧ 0 ≤ k then some (.lst (List.replicate k.toNat a).flatten) else none
  | _, _ => none
def binT (op : Operator) (x y : T) : Option T := match op with
  | .Add => addT x y
  | .Sub => match x, y with
    | .int i, .int j => some (.int (i - j))
    | _, _ => none
  | .Mult => mulT x y
  | .FloorDiv => match x, y with
    | .int i, .int j => if 0 < j ∧ wide j then some (.int (i / j)) else none
    | _, _ => none
  | .Mod => match x, y with
    | .int i, .int j => if 0 < j then some (.int (i % j)) else none
    | _, _ => none
  | .Pow => match x, y with
    | .int i, .int j => if 0 ≤ j ∧ j ≤ 1000 ∧ i.natAbs < 2 ^ 64 then some (.int (i ^ j.toNat)) else none
    | _, _ => none
  | _ => none
def idxT (x i : T) : Option T := match x, i with
  | .lst ts, .int k => atI ts k
  | .tup ts, .int k => atI ts k
  | .str s, .int k => (atI s.cps.toList k).map fun c => .str ⟨#[c]⟩
  | _, _ => none
def cutT (xs : List T) (lo hi : Option Int) : List T := (xs.drop (HT.sIx xs.length 0 lo)).take (HT.sIx xs.length xs.length hi - HT.sIx xs.length 0 lo)
def slT (x : T) (lo hi : Option Int) : Option T := match x with
  | .lst ts => some (.lst (cutT ts lo hi))
  | .tup ts => some (.tup (cutT ts lo hi))
  | .str s => some (.str (cutS s lo hi))
  | _ => none
def intT : T → Option Int
  | .int i => some i
  | _ => none
def revT : T → Option T
  | .lst ts => some (.lst ts.reverse)
  | .tup ts => some (.tup ts.reverse)
  | _ => none
def boolsT : List T → Option (List Bool)
  | [] => some []
  | .bl b :: r => (boolsT r).map (b :: ·)
  | _ => none
def strsT : List T → Option (List Str)
  | [] => some []
  | .str x :: r => (strsT r).map (x :: ·)
  | _ => none
/-- the kinds -/
inductive Kd where
  | non | bl | int | str | lst | tup | dct
  | obj (c : Str)
  deriving DecidableEq
def kdOf : T → Option Kd
  | .non => some .non
  | .bl _ => some .bl
  | .int _ => some .int
  | .str _ => some .str
  | .lst _ => some .lst
  | .tup _ => some .tup
  | .dK _ _ => some .dct
  | .dT _ _ => some .dct
  | .obj c _ _ => some (.obj c)
  | _ => none
def kdName : Kd → String
  | .non => "NoneType" | .bl => "bool" | .int => "int" | .str => "str" | .lst => "list" | .tup => "tuple" | .dct => "dict" | .obj _ => ""
def kdTy (n : String) : Option Kd := match n with
  | "bool" => some .bl
  | "int" => some .int
  | "str" => some .str
  | "list" => some .lst
  | "tuple" => some .tup
  | "dict" => some .dct
  | _ => none
/-- is a value of the kind a one of the kind b -/
def kdIs : Kd → Kd → Bool
  | .bl, .int => true
  | .non, .non => true
  | .bl, .bl => true
  | .int, .int => true
  | .str, .str => true
  | .lst, .lst => true
  | .tup, .tup => true
  | .dct, .dct => true
  | _, _ => false
def isiOne (x : Kd) : T → Option Bool
  | .ty n => (kdTy n).map (kdIs x)
  | .cls n => some (match x with
    | .obj c => decide (c = n)
    | _ => false)
  | _ => none
def isiAny (x : Kd) : List T → Option Bool
  | [] => some false
  | t :: r => match isiOne x t, isiAny x r with
    | some a, some b => some (a || b)
    | _, _ => none
def isiT (x c : T) : Option Bool := match kdOf x with
  | none => none
  | some k => match c with
    | .tup cs => isiAny k cs
    | c => isiOne k c
def insS (x : Str) : List Str → List Str
  | [] => [x]
  | y :: r => if ltS y x then y :: insS x r else x :: y :: r
def sortS : List Str → List Str
  | [] => []
  | x :: r => insS x (sortS r)
def bltT (x : Bi) (as : List T) : Option T := match x, as with
  | .len, [.str s] => some (.int s.length)
  | .len, [.lst ts] => some (.int ts.length)
  | .len, [.tup ts] => some (.int ts.length)
  | .abs, [.int i] => some (.int (if i < 0 then -i else i))
  | .all, [.lst ts] => (boolsT ts).map fun bs => .bl (bs.all id)
  | .any, [.lst ts] => (boolsT ts).map fun bs => .bl (bs.any id)
  | .isi, [x, c] => (isiT x c).map .bl
  | .sorted, [.lst ts] => match strsT ts with
    | some xs => if xs.length < 64 then some (.lst ((sortS xs).map .str)) else none
    | none => none
  | .list, [.lst ts] => some (.lst ts)
  | .list, [.tup ts] => some (.lst ts)
  | .list, [.str s] => some (.lst ((chrs s).map .str))
  | .tuple, [.lst ts] => some (.tup ts)
  | .tuple, [.tup ts] => some (.tup ts)
  | .int, [.int i] => some (.int i)
  | .str, [.int i] => if wide i ∧ (toString i : Str).length ≤ LIM then some (.str (toString i)) else none
  | _, _ => none
/-- what a method is asked of -/
def meK : Me → T → Option Unit
  | .join, .str _ => some ()
  | _, _ => none
def mthT (m : Me) (x : T) (as : List T) : Option T := match m, x, as with
  | .join, .str a, [.lst ts] => match strsT ts with
    | some ys => if (ys.map (·.length)).sum + ys.length * a.length ≤ LIM then some (.str (Str.join a ys)) else none
    | none => none
  | _, _, _ => none

/-! ### targets -/
mutual
def tgV : Tg → T → View → Option View
  | .name i, t, ρ => if i < ρ.length then some (ρ.set i (some t)) else none
  | .seq l gs, t, ρ => match l, t with
    | false, .tup ts => tgsV gs ts ρ
    | true, .lst ts => tgsV gs ts ρ
    | _, _ => none
def tgsV : Tgs → List T → View → Option View
  | .nil, ts, ρ => match ts with
    | [] => some ρ
    | _ => none
  | .cons g r, ts, ρ => match ts with
    | [] => none
    | t :: us => match tgV g t ρ with
      | some ρ1 => tgsV r us ρ1
      | none => none
end
mutual
def tgSlots : Tg → List Nat
  | .name i => [i]
  | .seq _ gs => tgsSlots gs
def tgsSlots : Tgs → List Nat
  | .nil => []
  | .cons g r => tgSlots g ++ tgsSlots r
end

/-! ### what an expression is worth -/
def seqT : T → Option (List T)
  | .lst ts => some ts
  | .tup ts => some ts
  | .str s => some ((chrs s).map .str)
  | _ => none
def rngT (lo hi : Int) : Option (List T) := if -1000000 ≤ lo ∧ lo ≤ 1000000 ∧ -1000000 ≤ hi ∧ hi ≤ 1000000 ∧ hi - lo ≤ 1000000 then some ((List.range (hi - lo).toNat).map fun (k : Nat) => T.int (lo + (k : Int))) else none
def zipT (a b : T) : Option (List T) := match a, b with
  | .lst xs, .lst ys => some ((xs.zip ys).map fun p => .tup [p.1, p.2])
  | .tup xs, .tup ys => some ((xs.zip ys).map fun p => .tup [p.1, p.2])
  | _, _ => none
def enumT (a : T) : Option (List T) := match a with
  | .lst xs => some (xs.zipIdx.map fun p => .tup [.int p.2, p.1])
  | _ => none
def consO (o : Option T) (ys : List T) : List T := match o with
  | some y => y :: ys
  | none => ys
/-- a comprehension's turns -/
def lcE (tg : Tg) (ρ : View) (f : View → Ev (Option T)) : List T → Ev (List T)
  | [] => Ev.pure []
  | t :: r => Ev.bind (Ev.of (tgV tg t ρ)) fun ρ' => Ev.bind (Ev.calm (f ρ')) fun o => Ev.bind (lcE tg ρ f r) fun ys => Ev.pure (consO o ys)
theorem lcE_calm {tg : Tg} {ρ : View} {f : View → Ev (Option T)} : ∀ {items : List T} {b b' : Bag} {x : Xc}, lcE tg ρ f items b ≠ some (.ex x, b')
  | [], b, b', x, h => by cases h
  | t :: r, b, b', x, h => by
    unfold lcE Ev.bind at h
    cases q : tgV tg t ρ with
    | none => rw [q] at h; cases h
    | some ρ' =>
      rw [q] at h
      simp only [Ev.of] at h
      cases q2 : Ev.calm (f ρ') b with
      | none => rw [q2] at h; cases h
      | some p =>
        obtain ⟨y, b2⟩ := p
        cases y with
        | ex x => exact (calm_ex q2).elim
        | ok o =>
          rw [q2] at h
          simp only at h
          cases q3 : lcE tg ρ f r b2 with
          | none => rw [q3] at h; cases h
          | some p =>
            obtain ⟨y, b3⟩ := p
            cases y with
            | ex x => exact lcE_calm q3
            | ok o => rw [q3] at h; cases h
theorem lcE_wp {tg : Tg} {ρ : View} {f : View → Ev (Option T)} {items : List T} {b : Bag} {Q : List T → Bag → Prop} {X : Xc → Bag → Prop} (h : wpE (lcE tg ρ f items) b Q X) : ∃ ys b', lcE tg ρ f items b = some (.ok ys, b') ∧ Q ys b' := by
  unfold wpE at h
  split at h
  · exact h.elim
  · exact ⟨_, _, by assumption, h⟩
  · exact (lcE_calm (by assumption)).elim
/-- how the values of keywords go to the parameters -/
def permG {α : Type} (ps ks : List Str) (ws : List α) : List α := ps.filterMap fun p => (ks.zip ws).lookup p
/-- the bag's numbers -/
def Bag.get (b : Bag) : Nat → Option Int
  | 1 => some b.i
  | 2 => some b.j
  | 3 => some b.s
  | 4 => some b.n
  | _ => none
def Bag.put (b : Bag) (v : Int) : Nat → Option Bag
  | 1 => some { b with i := v }
  | 2 => some { b with j := v }
  | 3 => some { b with s := v }
  | 4 => some { b with n := v }
  | _ => none
def bagE (f : Bag → Option T) : T → Ev T
  | .bag, b => match f b with
    | some t => some (.ok t, b)
    | none => none
  | _, _ => none
/-- the defs, the classes -/
structure Ien where
  call : Nat → List T → Ev T
  /-- the same, two turns deeper -/
  low : Nat → List T → Ev T
  make : Nat → List T → Ev T
  pars : Nat → List Str
  mpars : Nat → List Str
  mt : Nat → Str × Str
  fok : Str → Str → Bool
/-- an attribute of an instance -/
def fldT (fok : Str → Str → Bool) (f : Str) : T → Option T
  | .obj c ns ts => if fok c f then (ns.zip ts).lookup f else none
  | _ => none
/-- an instance of the class c whose method m is the class's -/
def objM (p : Str × Str) : T → Option Unit
  | .obj c ns _ => if c = p.1 ∧ p.2 ∉ ns then some () else none
  | _ => none
def fmtT : T → Option T
  | .str y => some (.str y)
  | .int i => if wide i ∧ (toString i : Str).length ≤ LIM then some (.str (toString i)) else none
  | _ => none
def glue1 (acc : Str) : T → Option Str
  | .str y => if (acc ++ y).length ≤ LIM then some (acc ++ y) else none
  | _ => none
def blT : T → Option T
  | .bl b => some (.bl b)
  | _ => none
def strT : T → Option T
  | .str y => some (.str y)
  | _ => none
def kdObj (c : Str) : T → Option Unit
  | .obj d _ _ => if d = c then some () else none
  | _ => none
section
variable (I : Ien)
mutual
def evE : E → View → Ev T
  | .var i, ρ => Ev.of (match ρ[i]? with | some (some t) => some t | _ => none)
  | .con t, _ => Ev.pure t
  | .glob _ t, _ => Ev.pure t
  | .bin op a b, ρ => Ev.bind (evE a ρ) fun x => Ev.bind (evE b ρ) fun y => Ev.of (binT op x y)
  | .neg a, ρ => Ev.bind (evE a ρ) fun x => Ev.of ((intT x).map fun i => .int (-i))
  | .not a, ρ => Ev.bind (evE a ρ) fun x => Ev.of ((truT x).map fun b => .bl (!b))
  | .and a b, ρ => Ev.bind (evE a ρ) fun x => Ev.bind (Ev.of (truT x)) fun k => if k then evE b ρ else Ev.pure x
  | .or a b, ρ => Ev.bind (evE a ρ) fun x => Ev.bind (Ev.of (truT x)) fun k => if k then Ev.pure x else evE b ρ
  | .cmp op a b, ρ => Ev.bind (evE a ρ) fun x => Ev.bind (evE b ρ) fun y => Ev.of (cmpT op x y)
  | .chain op op' a b c, ρ => Ev.bind (evE a ρ) fun x => Ev.bind (evE b ρ) fun y => Ev.bind (Ev.of (cmpT op x y)) fun z => match z with
    | .bl true => Ev.bind (evE c ρ) fun w => Ev.of (cmpT op' y w)
    | .bl false => Ev.pure (.bl false)
    | _ => Ev.no
  | .ife c a b, ρ => Ev.bind (evT c ρ) fun k => if k then evE a ρ else evE b ρ
  | .tup es, ρ => Ev.bind (evEs es ρ) fun ts => Ev.of (if ts.length ≤ LIM then some (.tup ts) else none)
  | .lst es, ρ => Ev.bind (evEs es ρ) fun ts => Ev.of (if ts.length ≤ LIM then some (.lst ts) else none)
  | .dct ks vs, ρ => Ev.bind (evEs vs ρ) fun ts => Ev.of (if ks.length = ts.length ∧ ks.length ≤ 15 ∧ ks.Nodup then some (.dK (ks.map Sum.inr) ts) else none)
  | .idx a i, ρ => Ev.bind (evE a ρ) fun x => Ev.bind (evE i ρ) fun y => Ev.of (idxT x y)
  | .sl a lo hi, ρ => Ev.bind (evE a ρ) fun x => Ev.bind (evE lo ρ) fun l => Ev.bind (Ev.of (intT l)) fun i => Ev.bind (evE hi ρ) fun h => Ev.bind (Ev.of (intT h)) fun j => Ev.of (slT x (some i) (some j))
  | .slH a hi, ρ => Ev.bind (evE a ρ) fun x => Ev.bind (evE hi ρ) fun h => Ev.bind (Ev.of (intT h)) fun j => Ev.of (slT x none (some j))
  | .slL a lo, ρ => Ev.bind (evE a ρ) fun x => Ev.bind (evE lo ρ) fun l => Ev.bind (Ev.of (intT l)) fun i => Ev.of (slT x (some i) none)
  | .rev a, ρ => Ev.bind (evE a ρ) fun x => Ev.of (revT x)
  | .call f es, ρ => Ev.bind (evEs es ρ) fun ts => I.call f ts
  | .callK f es ks, ρ => Ev.bind (evEs es ρ) fun ts => I.call f (permG (I.pars f) ks ts)
  | .blt x es, ρ => Ev.bind (evEs es ρ) fun ts => Ev.of (bltT x ts)
  | .mth m a es, ρ => Ev.bind (evE a ρ) fun x => Ev.bind (Ev.of (meK m x)) fun _ => Ev.bind (evEs es ρ) fun ts => Ev.of (mthT m x ts)
  | .bget a k, ρ => Ev.bind (evE a ρ) (bagE fun b => (b.get k).map .int)
  | .blen a, ρ => Ev.bind (evE a ρ) (bagE fun b => some (.int b.cells.length))
  | .bcell a, ρ => Ev.bind (evE a ρ) (bagE fun b => (atI b.cells b.i).map .int)
  | .lc elt tg it c, ρ => Ev.bind (evI it ρ) fun items => Ev.bind (lcE tg (wipeV ρ (tgSlots tg)) (fun ρ' => Ev.bind (evT c ρ') fun k => if k then Ev.bind (evE elt ρ') fun y => Ev.pure (some y) else Ev.pure none) items) fun ys => Ev.pure (.lst ys)
  | .lc0 elt tg it, ρ => Ev.bind (evI it ρ) fun items => Ev.bind (lcE tg (wipeV ρ (tgSlots tg)) (fun ρ' => Ev.bind (evE elt ρ') fun y => Ev.pure (some y)) items) fun ys => Ev.pure (.lst ys)
  | .mk c es, ρ => Ev.bind (evEs es ρ) fun ts => I.make c ts
  | .mkK c es ks, ρ => Ev.bind (evEs es ρ) fun ts => I.make c (permG (I.mpars c) ks ts)
  | .fld a f, ρ => Ev.bind (evE a ρ) fun x => Ev.of (fldT I.fok f x)
  | .meth f a es, ρ => Ev.bind (evE a ρ) fun x => Ev.bind (Ev.of (objM (I.mt f) x)) fun _ => Ev.bind (evEs es ρ) fun ts => I.call f (x :: ts)
  | .methK f a es ks, ρ => Ev.bind (evE a ρ) fun x => Ev.bind (Ev.of (objM (I.mt f) x)) fun _ => Ev.bind (evEs es ρ) fun ts => I.call f (x :: permG ((I.pars f).drop 1) ks ts)
  | .obin op f a b, ρ => Ev.bind (evE a ρ) fun x => Ev.bind (evE b ρ) fun y => Ev.bind (Ev.of (kdObj (I.mt f).1 x)) fun _ => Ev.bind (Ev.of (kdObj (I.mt f).1 y)) fun _ => I.call f [x, y]
  | .obinI op f a b, ρ => Ev.bind (evE a ρ) fun x => Ev.bind (evE b ρ) fun y => Ev.bind (Ev.of (kdObj (I.mt f).1 x)) fun _ => Ev.bind (Ev.of (intT y)) fun _ => I.call f [x, y]
  | .orbin op f a b, ρ => Ev.bind (evE a ρ) fun x => Ev.bind (evE b ρ) fun y => Ev.bind (Ev.of (intT x)) fun _ => Ev.bind (Ev.of (kdObj (I.mt f).1 y)) fun _ => I.call f [y, x]
  | .ocmp op f a b, ρ => Ev.bind (evE a ρ) fun x => Ev.bind (evE b ρ) fun y => Ev.bind (Ev.of (kdObj (I.mt f).1 x)) fun _ => Ev.bind (Ev.of (kdOf y)) fun _ => Ev.bind (I.call f [x, y]) fun r => Ev.of (blT r)
  | .ostr f a, ρ => Ev.bind (evE a ρ) fun x => Ev.bind (Ev.of (kdObj (I.mt f).1 x)) fun _ => Ev.bind (I.low f [x]) fun r => Ev.of (strT r)
  | .fmt a, ρ => Ev.bind (evE a ρ) fun x => Ev.of (fmtT x)
  | .fstr es, ρ => Ev.bind (evJ es Str.empty ρ) fun y => Ev.pure (.str y)
  | .dead, _ => Ev.no
def evT : Te → View → Ev Bool
  | .not a, ρ => Ev.bind (evT a ρ) fun k => Ev.pure (!k)
  | .and a b, ρ => Ev.bind (evT a ρ) fun k => if k then evT b ρ else Ev.pure false
  | .or a b, ρ => Ev.bind (evT a ρ) fun k => if k then Ev.pure true else evT b ρ
  | .tr e, ρ => Ev.bind (evE e ρ) fun x => Ev.of (truT x)
def evEs : Es → View → Ev (List T)
  | .nil, _ => Ev.pure []
  | .cons e r, ρ => Ev.bind (evE e ρ) fun x => Ev.bind (evEs r ρ) fun xs => Ev.pure (x :: xs)
def evJ : Es → Str → View → Ev Str
  | .nil, acc, _ => Ev.pure acc
  | .cons e r, acc, ρ => Ev.bind (evE e ρ) fun x => Ev.bind (Ev.of (glue1 acc x)) fun y => evJ r y ρ
def evI : It → View → Ev (List T)
  | .val e, ρ => Ev.bind (evE e ρ) fun x => Ev.of (seqT x)
  | .rng1 a, ρ => Ev.bind (evE a ρ) fun x => Ev.of ((intT x).bind fun j => rngT 0 j)
  | .rng2 a b, ρ => Ev.bind (evE a ρ) fun x => Ev.bind (evE b ρ) fun y => Ev.of ((intT x).bind fun i => (intT y).bind fun j => rngT i j)
  | .zip a b, ρ => Ev.bind (evE a ρ) fun x => Ev.bind (evE b ρ) fun y => Ev.of (zipT x y)
  | .enum a, ρ => Ev.bind (evE a ρ) fun x => Ev.of (enumT x)
end
end
end DI

set_option Elab.async false
set_option linter.all false
set_option maxRecDepth 100000
set_option maxHeartbeats 4000000
namespace DI
open PySem L2

/-! ### what the operations on values keep -/
def rTT (W : Wd) (g : T → T → Option T) : R2 := fun x y H Q => ∃ F b tx ty t, Sta W F H b ∧ Tr W F x tx ∧ Tr W F y ty ∧ g tx ty = some t ∧ ∀ v F' H', Post W F H b t v F' H' → Q v H'
def rTL (W : Wd) (g : List T → Option T) : List V → Hp → VK → Prop := fun xs H Q => ∃ F b ts t, Sta W F H b ∧ TrL W F xs ts ∧ g ts = some t ∧ ∀ v F' H', Post W F H b t v F' H' → Q v H'

section
variable {X : Cx} {W : Wd}

theorem tr_bl {F H : Hp} {b : Bag} {k : Bool} {Q : VK} (s : Sta W F H b) (h : ∀ v F' H', Post W F H b (.bl k) v F' H' → Q v H') : Q (.bl k) H := h _ F H (.same s (.bl k))
theorem tr_int {F H : Hp} {b : Bag} {k : Int} {Q : VK} (s : Sta W F H b) (h : ∀ v F' H', Post W F H b (.int k) v F' H' → Q v H') : Q (.int k) H := h _ F H (.same s (.int k))
theorem tr_str {F H : Hp} {b : Bag} {k : Str} {Q : VK} (s : Sta W F H b) (z : k.length ≤ LIM) (h : ∀ v F' H', Post W F H b (.str k) v F' H' → Q v H') : Q (.str k) H := h _ F H (.same s (.str k z))
theorem tr_lst {F H : Hp} {b : Bag} {ts : List T} {vs : List V} {Q : VK} (s : Sta W F H b) (z : ts.length ≤ LIM) (l : TrL W F vs ts) (h : ∀ v F' H', Post W F H b (.lst ts) v F' H' → Q v H') : ∀ p, H p = none → Q (.ref p) (upd H p (.lst vs)) :=
  fun p n => h _ _ _ (.lst s n z l)
theorem tr_tup {F H : Hp} {b : Bag} {ts : List T} {vs : List V} {Q : VK} (s : Sta W F H b) (z : ts.length ≤ LIM) (l : TrL W F vs ts) (h : ∀ v F' H', Post W F H b (.tup ts) v F' H' → Q v H') : ∀ p, H p = none → Q (.ref p) (upd H p (.tup vs)) :=
  fun p n => h _ _ _ (.tup s n z l)

theorem append_length (a b : Str) : (a ++ b).length = a.length + b.length := by
  show (a.cps ++ b.cps).size = _
  simp [Str.length]
theorem TrL.ne_nil {F : Hp} {vs : List V} {ts : List T} (l : TrL W F vs ts) : vs = [] ↔ ts = [] := by
  cases l <;> simp
theorem catT_some {α : Type} {a b r : List α} (h : catT a b = some r) : r = a ++ b ∧ a.length + b.length ≤ LIM := by
  unfold catT at h
  split at h
  · cases h; exact ⟨rfl, by assumption⟩
  · cases h
theorem wide_lt2 {i : Int} (h : wide i = true) : i.natAbs < 2 ^ 300 := of_decide_eq_true h

theorem op_addT (hK : X.K = W.K) : OpR X (binaryOp .Add) (rTT W addT) := by
  intro pins s σ H x y v u Q I rx ry h
  obtain ⟨F, b, tx, ty, t, st, hx, hy, e, q⟩ := h
  have hL := LIM_le
  cases hx <;> try (cases e)
  case int i =>
    cases hy <;> try (cases e)
    exact op_add pins s σ H _ _ v u Q I rx ry ⟨_, _, rfl, rfl, tr_int st q⟩
  case str a za =>
    cases hy with
    | str c zc =>
      simp only [addT] at e
      split at e
      · rename_i hz
        cases e
        exact op_add_str pins s σ H _ _ v u Q I rx ry ⟨_, _, rfl, rfl, Nat.le_trans hz LIM_le, tr_str st (by rw [append_length]; exact hz) q⟩
      · cases e
    | _ => cases e
  case lst a vs ts ha zs hl =>
    cases hy with
    | lst hb zb hl2 =>
      simp only [addT, Option.map_eq_some_iff] at e
      obtain ⟨r, e1, e2⟩ := e
      subst e2
      obtain ⟨rfl, hz⟩ := catT_some e1
      refine op_cat pins s σ H _ _ v u Q I rx ry ⟨_, _, _, _, rfl, rfl, st.lst ha, st.lst hb, ?_, tr_lst st (by rw [List.length_append]; exact hz) (hl.append hl2) q⟩
      rw [hl.length, hl2.length]; omega
    | _ => cases e
  case tup a vs ts ha zs hl =>
    cases hy with
    | tup hb zb hl2 =>
      simp only [addT, Option.map_eq_some_iff] at e
      obtain ⟨r, e1, e2⟩ := e
      subst e2
      obtain ⟨rfl, hz⟩ := catT_some e1
      refine op_catA pins s σ H _ _ v u Q I rx ry ⟨_, _, _, _, rfl, rfl, SqT.of (st.tup ha), SqT.of (st.tup hb), ?_, fun e0 => ?_, fun e0 e1 => ?_, fun e0 e1 => tr_tup st (by rw [List.length_append]; exact hz) (hl.append hl2) q⟩
      · rw [hl.length, hl2.length]; omega
      · subst e0
        cases hl
        exact q _ F H (.same st (.tup hb zb hl2))
      · subst e1
        cases hl2
        rw [List.append_nil] at q
        exact q _ F H (.same st (.tup ha zs hl))
    | _ => cases e

theorem op_mulT (hK : X.K = W.K) : OpR X (binaryOp .Mult) (rTT W mulT) := by
  intro pins s σ H x y v u Q I rx ry h
  obtain ⟨F, b, tx, ty, t, st, hx, hy, e, q⟩ := h
  have hL := LIM_le
  cases hx <;> try (cases e)
  case int i =>
    cases hy with
    | int j =>
      simp only [mulT] at e
      split at e
      · rename_i hw
        cases e
        unfold mulOk at hw
        simp only [Bool.or_eq_true, Bool.and_eq_true, decide_eq_true_eq] at hw
        rcases hw with (hw | hw) | hw
        · exact op_mul pins s σ H _ _ v u Q I rx ry ⟨_, _, rfl, rfl, .inl (by constructor <;> omega), tr_int st q⟩
        · exact op_mul pins s σ H _ _ v u Q I rx ry ⟨_, _, rfl, rfl, .inr (by constructor <;> omega), tr_int st q⟩
        · exact op_mulW pins s σ H _ _ v u Q I rx ry ⟨_, _, rfl, rfl, wide_mul (wide_lt2 hw.1) (wide_lt2 hw.2) (by decide) (by decide) (by decide), tr_int st q⟩
      · cases e
    | _ => cases e
  case lst a vs ts ha zs hl =>
    cases hy with
    | int k =>
      simp only [mulT] at e
      split at e
      · rename_i hw
        cases e
        refine op_rep pins s σ H _ _ v u Q I rx ry ⟨_, _, _, rfl, rfl, st.lst ha, by omega, by omega, ?_, tr_lst st ?_ (hl.rep k.toNat) q⟩
        · rw [hl.length]; omega
        · have : (List.replicate k.toNat ts).flatten.length = ts.length * k.toNat := by
            simp [List.length_flatten, Nat.mul_comm]
          omega
      · cases e
    | _ => cases e

theorem op_binT (hK : X.K = W.K) : ∀ op, OpR X (binaryOp op) (rTT W (binT op)) := by
  intro op
  cases op
  case Add => exact op_addT hK
  case Mult => exact op_mulT hK
  all_goals
    intro pins s σ H x y v u Q I rx ry h
    obtain ⟨F, b, tx, ty, t, st, hx, hy, e, q⟩ := h
  case Sub =>
    cases hx <;> try (cases e)
    cases hy <;> try (cases e)
    exact op_sub pins s σ H _ _ v u Q I rx ry ⟨_, _, rfl, rfl, tr_int st q⟩
  case FloorDiv =>
    cases hx <;> try (cases e)
    cases hy <;> try (cases e)
    simp only [binT] at e
    split at e
    · rename_i hw
      cases e
      exact op_fdivW pins s σ H _ _ v u Q I rx ry ⟨_, _, rfl, rfl, wide_div hw.1 (wide_lt2 hw.2) (by decide) (by decide), tr_int st q⟩
    · cases e
  case Mod =>
    cases hx <;> try (cases e)
    cases hy <;> try (cases e)
    simp only [binT] at e
    split at e
    · rename_i hw
      cases e
      exact op_mod pins s σ H _ _ v u Q I rx ry ⟨_, _, rfl, rfl, hw, tr_int st q⟩
    · cases e
  case Pow =>
    cases hx <;> try (cases e)
    cases hy <;> try (cases e)
    simp only [binT] at e
    split at e
    · rename_i hw
      cases e
      exact op_pow pins s σ H _ _ v u Q I rx ry ⟨_, _, rfl, rfl, ⟨hw.1, by omega, hw.2.2⟩, tr_int st q⟩
    · cases e
  all_goals cases e

/-! ### == -/
mutual
theorem Tr.dp {F H : Hp} {b : Bag} (st : Sta W F H b) : ∀ {v : V} {t : T} {d : PyData}, Tr W F v t → toD t = some d → Dp W.K H v d
  | _, _, _, .non, e => by cases e; exact .non
  | _, _, _, .bl k, e => by cases e; exact .bl k
  | _, _, _, .int i, e => by cases e; exact .int i
  | _, _, _, .str x z, e => by cases e; exact .str x
  | _, _, _, .ty n, e => by cases e
  | _, _, _, .cls h, e => by cases e
  | _, _, _, .tup h z l, e => by
    simp only [toD, Option.map_eq_some_iff] at e
    obtain ⟨ds, e1, e2⟩ := e
    subst e2
    exact .tup (SqT.of (st.tup h)) (TrL.dp st l e1)
  | _, _, _, .lst h z l, e => by
    simp only [toD, Option.map_eq_some_iff] at e
    obtain ⟨ds, e1, e2⟩ := e
    subst e2
    exact .lst (SqL.of (st.lst h)) (TrL.dp st l e1)
  | _, _, _, .dK h l, e => by cases e
  | _, _, _, .dT h l, e => by cases e
  | _, _, _, .obj h c l, e => by cases e
  | _, _, _, .bag, e => by cases e
theorem TrL.dp {F H : Hp} {b : Bag} (st : Sta W F H b) : ∀ {vs : List V} {ts : List T} {ds : List PyData}, TrL W F vs ts → toDs ts = some ds → DpAll W.K H vs ds
  | _, _, _, .nil, e => by cases e; exact .nil
  | _, _, _, .cons (t := t) (ts := ts) h l, e => by
    simp only [toDs] at e
    cases q : toD t with
    | none => rw [q] at e; cases e
    | some d =>
      cases q2 : toDs ts with
      | none => rw [q, q2] at e; cases e
      | some ds =>
        rw [q, q2] at e
        cases e
        exact .cons (Tr.dp st h q) (TrL.dp st l q2)
end
theorem eqD_some {x y : T} {k : Bool} (h : eqD x y = some k) : ∃ d e, toD x = some d ∧ toD y = some e ∧ SeqAt.shaped d = true ∧ SeqAt.shaped e = true ∧ k = PyData.eqv d e := by
  unfold eqD at h
  split at h
  · rename_i d e hd he
    split at h
    · rename_i hs
      cases h
      rw [Bool.and_eq_true] at hs
      exact ⟨d, e, hd, he, hs.1, hs.2, rfl⟩
    · cases h
  · cases h

theorem atomV_tr {F : Hp} {v : V} {t : T} {w : V} (h : Tr W F v t) (e : atomV t = some w) : v = w ∧ flatV v = true := by
  cases h <;> cases e <;> exact ⟨rfl, rfl⟩
theorem eqT_some {F : Hp} {v w : V} {x y : T} {k : Bool} (h : eqT x y = some k) (hv : Tr W F v x) (hw : Tr W F w y) : (scal v w = true ∧ k = decide (v = w)) ∨ eqD x y = some k := by
  unfold eqT at h
  split at h
  · rename_i v' w' e1 e2
    obtain ⟨rfl, _⟩ := atomV_tr hv e1
    obtain ⟨rfl, _⟩ := atomV_tr hw e2
    split at h
    · cases h; exact .inl ⟨by assumption, rfl⟩
    · exact .inr h
  · exact .inr h
theorem atomVs_tr {F : Hp} : ∀ {vs : List V} {ts : List T} {ws : List V}, TrL W F vs ts → atomVs ts = some ws → vs = ws ∧ vs.all flatV = true
  | _, _, _, .nil, e => by cases e; exact ⟨rfl, rfl⟩
  | _, _, _, .cons (t := t) (ts := ts) h l, e => by
    simp only [atomVs] at e
    cases q : atomV t with
    | none => rw [q] at e; cases e
    | some w =>
      cases q2 : atomVs ts with
      | none => rw [q, q2] at e; cases e
      | some ws =>
        rw [q, q2] at e
        cases e
        obtain ⟨e1, f1⟩ := atomV_tr h q
        obtain ⟨e2, f2⟩ := atomVs_tr l q2
        exact ⟨by rw [e1, e2], by rw [List.all_cons, f1, f2]; rfl⟩
theorem inSeq_some {x : T} {ts : List T} {k : Bool} (h : inSeq x ts = some k) : ∃ v vs, atomV x = some v ∧ atomVs ts = some vs ∧ k = inV v vs := by
  unfold inSeq at h
  split at h
  · rename_i v vs h1 h2
    cases h
    exact ⟨v, vs, h1, h2, rfl⟩
  · cases h

theorem op_inT (hK : X.K = W.K) (neg : Bool) : OpR X (compareOp (if neg then .NotIn else .In)) (rTT W fun x y => (inT x y).map fun k => .bl (if neg then !k else k)) := by
  intro pins s σ H x y v u Q I rx ry h
  obtain ⟨F, b, tx, ty, t, st, hx, hy, e, q⟩ := h
  simp only [Option.map_eq_some_iff] at e
  obtain ⟨k, e1, e2⟩ := e
  subst e2
  have q := tr_bl st q
  cases hy with
  | lst ha z hl =>
    obtain ⟨xv, vs, h1, h2, rfl⟩ := inSeq_some (show inSeq tx _ = some k from e1)
    obtain ⟨rfl, f1⟩ := atomV_tr hx h1
    obtain ⟨rfl, f2⟩ := atomVs_tr hl h2
    cases neg with
    | true => exact op_notIn_seq pins s σ H _ _ v u Q I rx ry ⟨_, _, rfl, .inl (SqL.of (st.lst ha)), f1, f2, q⟩
    | false => exact op_in_seq pins s σ H _ _ v u Q I rx ry ⟨_, _, rfl, .inl (SqL.of (st.lst ha)), f1, f2, q⟩
  | tup ha z hl =>
    obtain ⟨xv, vs, h1, h2, rfl⟩ := inSeq_some (show inSeq tx _ = some k from e1)
    obtain ⟨rfl, f1⟩ := atomV_tr hx h1
    obtain ⟨rfl, f2⟩ := atomVs_tr hl h2
    cases neg with
    | true => exact op_notIn_seq pins s σ H _ _ v u Q I rx ry ⟨_, _, rfl, .inr (SqT.of (st.tup ha)), f1, f2, q⟩
    | false => exact op_in_seq pins s σ H _ _ v u Q I rx ry ⟨_, _, rfl, .inr (SqT.of (st.tup ha)), f1, f2, q⟩
  | str z hz =>
    cases hx with
    | str c hc =>
      obtain ⟨⟨l⟩⟩ := c
      match l, e1 with
      | [c], e1 =>
        cases e1
        cases neg with
        | true => exact op_notIn_sign pins s σ H _ _ v u Q I rx ry ⟨_, _, rfl, rfl, q⟩
        | false => exact op_in_sign pins s σ H _ _ v u Q I rx ry ⟨_, _, rfl, rfl, q⟩
    | _ => cases e1
  | _ => cases e1

theorem op_cmpT (hK : X.K = W.K) (hu : X.A.units + 64 < cLine) : ∀ op, OpR X (compareOp op) (rTT W (cmpT op)) := by
  intro op
  cases op
  case In => exact op_inT hK false
  case NotIn => exact op_inT hK true
  all_goals
    intro pins s σ H x y v u Q I rx ry h
    obtain ⟨F, b, tx, ty, t, st, hx, hy, e, q⟩ := h
  case Eq =>
    simp only [cmpT, Option.map_eq_some_iff] at e
    obtain ⟨k, e1, e2⟩ := e
    subst e2
    rcases eqT_some e1 hx hy with ⟨hs, rfl⟩ | e1
    · exact op_eq pins s σ H _ _ v u Q I rx ry ⟨hs, tr_bl st q⟩
    obtain ⟨d, e, hd, he, sd, se, rfl⟩ := eqD_some e1
    exact op_eqD hu pins s σ H _ _ v u Q I rx ry ⟨d, e, by rw [hK]; exact Tr.dp st hx hd, by rw [hK]; exact Tr.dp st hy he, sd, se, tr_bl st q⟩
  case NotEq =>
    simp only [cmpT, Option.map_eq_some_iff] at e
    obtain ⟨k, e1, e2⟩ := e
    subst e2
    rcases eqT_some e1 hx hy with ⟨hs, rfl⟩ | e1
    · exact op_ne pins s σ H _ _ v u Q I rx ry ⟨hs, tr_bl st q⟩
    obtain ⟨d, e, hd, he, sd, se, rfl⟩ := eqD_some e1
    exact op_neD hu pins s σ H _ _ v u Q I rx ry ⟨d, e, by rw [hK]; exact Tr.dp st hx hd, by rw [hK]; exact Tr.dp st hy he, sd, se, tr_bl st q⟩
  case Lt =>
    cases hx <;> try (cases e)
    case int i =>
      cases hy <;> try (cases e)
      exact op_lt pins s σ H _ _ v u Q I rx ry ⟨_, _, rfl, rfl, tr_bl st q⟩
    case str i =>
      cases hy <;> try (cases e)
      exact op_lt_str pins s σ H _ _ v u Q I rx ry ⟨_, _, rfl, rfl, tr_bl st q⟩
  case LtE =>
    cases hx <;> try (cases e)
    cases hy <;> try (cases e)
    exact op_le pins s σ H _ _ v u Q I rx ry ⟨_, _, rfl, rfl, tr_bl st q⟩
  case Gt =>
    cases hx <;> try (cases e)
    cases hy <;> try (cases e)
    exact op_gt pins s σ H _ _ v u Q I rx ry ⟨_, _, rfl, rfl, tr_bl st q⟩
  case GtE =>
    cases hx <;> try (cases e)
    cases hy <;> try (cases e)
    exact op_ge pins s σ H _ _ v u Q I rx ry ⟨_, _, rfl, rfl, tr_bl st q⟩
  case Is =>
    cases hy <;> try (cases e)
    refine op_isN pins s σ H _ _ v u Q I rx ry ⟨rfl, ?_⟩
    have q := tr_bl st q
    cases hx <;> exact q
  case IsNot =>
    cases hy <;> try (cases e)
    refine op_notN pins s σ H _ _ v u Q I rx ry ⟨rfl, ?_⟩
    have q := tr_bl st q
    cases hx <;> exact q

/-! ### truth -/
theorem truV_of {F H : Hp} {b : Bag} {x : V} {t : T} {k : Bool} (st : Sta W F H b) (h : Tr W F x t) (e : truT t = some k) : TruV W.K x H k := by
  have hL := LIM_le
  cases h <;> cases e
  case non => rfl
  case bl => rfl
  case int => rfl
  case str x z => exact ⟨Nat.le_trans z hL, by
    show (x.length != 0) = ((x.length : Int) != 0)
    by_cases h : x.length = 0
    · rw [h]; rfl
    · have : ((x.length : Nat) : Int) ≠ 0 := by omega
      rw [bne_iff_ne.mpr h, bne_iff_ne.mpr this]⟩
  case tup ha z hl =>
    refine .inr (.inl ⟨_, SqT.of (st.tup ha), ?_⟩)
    cases hl <;> rfl
  case lst ha z hl =>
    refine .inl ⟨_, SqL.of (st.lst ha), ?_⟩
    cases hl <;> rfl

/-! ### subscripts, slices -/
theorem TrL.atI {F : Hp} {vs : List V} {ts : List T} {k : Int} {t : T} (l : TrL W F vs ts) (e : L2.atI ts k = some t) : ∃ v, L2.atI vs k = some v ∧ Tr W F v t := by
  unfold L2.atI at e ⊢
  rw [l.length]
  cases q : ixN ts.length k with
  | none => rw [q] at e; cases e
  | some j => rw [q] at e; exact l.get e
theorem ix_T (hK : X.K = W.K) : IxR X (rTT W idxT) := by
  intro value slice pins s σ H x y v u Q I rx ry h hs
  obtain ⟨F, b, tx, ty, t, st, hx, hy, e, q⟩ := h
  have hL := LIM_le
  cases hx <;> try (cases e)
  case tup ha z hl =>
    cases hy <;> try (cases e)
    obtain ⟨w, e1, h1⟩ := hl.atI e
    exact ix_tup value slice pins s σ H _ _ v u Q I rx ry ⟨_, _, _, _, rfl, rfl, SqT.of (st.tup ha), e1, q _ F H (.same st h1)⟩ hs
  case lst ha z hl =>
    cases hy <;> try (cases e)
    obtain ⟨w, e1, h1⟩ := hl.atI e
    exact ix_list value slice pins s σ H _ _ v u Q I rx ry ⟨_, _, _, _, rfl, rfl, SqL.of (st.lst ha), e1, q _ F H (.same st h1)⟩ hs
  case str z hz =>
    cases hy <;> try (cases e)
    simp only [idxT, Option.map_eq_some_iff] at e
    obtain ⟨c, e1, rfl⟩ := e
    exact ix_str value slice pins s σ H _ _ v u Q I rx ry ⟨_, _, _, rfl, rfl, Nat.le_trans hz hL, e1, tr_str st (by show 1 ≤ LIM; decide) q⟩ hs
def rTS (W : Wd) : V → Option Int → Option Int → Hp → VK → Prop := fun x lo hi H Q => ∃ F b tx t, Sta W F H b ∧ Tr W F x tx ∧ slT tx lo hi = some t ∧ ∀ v F' H', Post W F H b t v F' H' → Q v H'
theorem TrL.cut {F : Hp} {vs : List V} {ts : List T} (l : TrL W F vs ts) (lo hi : Option Int) : TrL W F (cutV vs lo hi) (cutT ts lo hi) := by
  unfold cutV cutT
  rw [l.length]
  exact (l.drop _).take _
theorem cutT_len (ts : List T) (lo hi : Option Int) : (cutT ts lo hi).length ≤ ts.length := by
  unfold cutT
  rw [List.length_take, List.length_drop]
  omega
theorem sl_T (hK : X.K = W.K) : SlR X (rTS W) := by
  intro pins s σ H x v vl vu lo hi sl Q I rx hs pl pu h
  obtain ⟨F, b, tx, t, st, hx, e, q⟩ := h
  have hL := LIM_le
  cases hx <;> cases e
  case tup a vs ts ha z hl =>
    refine sl_tupA pins s σ H _ v vl vu lo hi sl Q I rx hs pl pu ⟨_, _, rfl, SqT.of (st.tup ha), fun hw => ?_, fun hw => tr_tup st (Nat.le_trans (cutT_len _ _ _) z) (hl.cut lo hi) q⟩
    rw [hl.length] at hw
    have this : cutT ts lo hi = ts := by
      unfold cutT
      rw [hw.1, hw.2]
      simp
    rw [this] at q
    exact q _ F H (.same st (.tup ha z hl))
  case lst ha z hl =>
    exact sl_list pins s σ H _ v vl vu lo hi sl Q I rx hs pl pu ⟨_, _, rfl, SqL.of (st.lst ha), tr_lst st (Nat.le_trans (cutT_len _ _ _) z) (hl.cut lo hi) q⟩
  case str z hz =>
    exact sl_str pins s σ H _ v vl vu lo hi sl Q I rx hs pl pu ⟨_, rfl, Nat.le_trans hz hL, tr_str st (Nat.le_trans (cutS_length _ _ _) hz) q⟩
end
end DI

set_option Elab.async false
set_option linter.all false
set_option maxRecDepth 100000
set_option maxHeartbeats 4000000
namespace DI
open PySem L2

/-! ### texts in order: what a sorted list of texts is -/
theorem ltS_irrefl (x : Str) : ltS x x = false := by
  unfold ltS
  exact decide_eq_false (List.lt_irrefl _)
theorem ltS_trans {x y z : Str} (h : ltS x y = true) (k : ltS y z = true) : ltS x z = true := by
  unfold ltS at *
  exact decide_eq_true (List.lt_trans (of_decide_eq_true h) (of_decide_eq_true k))
theorem ltS_asymm {x y : Str} (h : ltS x y = true) : ltS y x = false := by
  cases q : ltS y x with
  | false => rfl
  | true => exact absurd (ltS_trans h q) (by rw [ltS_irrefl]; decide)
theorem ltS_total {x y : Str} (h : ltS x y = false) (k : ltS y x = false) : x = y := by
  unfold ltS at *
  have h1 : ¬ x.cps.toList < y.cps.toList := of_decide_eq_false h
  have h2 : ¬ y.cps.toList < x.cps.toList := of_decide_eq_false k
  have h3 : x.cps.toList = y.cps.toList := List.le_antisymm (List.not_lt.mp h2) (List.not_lt.mp h1)
  obtain ⟨⟨a⟩⟩ := x
  obtain ⟨⟨b⟩⟩ := y
  simp at h3
  rw [h3]
theorem leS_trans {x y z : Str} (h : ltS y x = false) (k : ltS z y = false) : ltS z x = false := by
  cases q : ltS z x with
  | false => rfl
  | true =>
    cases q2 : ltS x y with
    | true => rw [ltS_trans q q2] at k; cases k
    | false =>
      have := ltS_total q2 h
      subst this
      rw [q] at k; cases k
def RisS : List Str → Prop
  | [] => True
  | x :: r => (∀ y ∈ r, ltS y x = false) ∧ RisS r
theorem risS_mem {x : Str} : ∀ {l : List Str}, PyProof.Rows.risingS x l = true → (∀ y ∈ l, ltS y x = false) ∧ RisS l
  | [], _ => ⟨fun _ h => (nomatch h), trivial⟩
  | y :: r, h => by
    simp only [PyProof.Rows.risingS, Bool.and_eq_true, Bool.not_eq_true', PyProof.Rows.ltCps_eq] at h
    obtain ⟨h1, h2⟩ := h
    obtain ⟨h3, h4⟩ := risS_mem h2
    refine ⟨fun z hz => ?_, h3, h4⟩
    rcases List.mem_cons.mp hz with rfl | hz
    · exact h1
    · exact leS_trans h1 (h3 z hz)
theorem risS_of {l : List Str} (h : PyProof.Rows.sortedS l = true) : RisS l := by
  cases l with
  | nil => trivial
  | cons x r => exact risS_mem h
theorem insS_mem {x y : Str} : ∀ {l : List Str}, y ∈ insS x l ↔ y = x ∨ y ∈ l
  | [] => by simp [insS]
  | z :: r => by
    unfold insS
    split
    · simp [insS_mem (l := r)]
      constructor
      · rintro (h | h | h)
        · exact .inr (.inl h)
        · exact .inl h
        · exact .inr (.inr h)
      · rintro (h | h | h)
        · exact .inr (.inl h)
        · exact .inl h
        · exact .inr (.inr h)
    · simp
theorem insS_perm (x : Str) : ∀ l : List Str, (insS x l).Perm (x :: l)
  | [] => List.Perm.refl _
  | z :: r => by
    unfold insS
    split
    · exact ((insS_perm x r).cons z).trans (List.Perm.swap x z r)
    · exact List.Perm.refl _
theorem insS_ris (x : Str) : ∀ {l : List Str}, RisS l → RisS (insS x l)
  | [], _ => ⟨fun _ h => (nomatch h), trivial⟩
  | z :: r, h => by
    unfold insS
    split
    · rename_i hz
      refine ⟨fun y hy => ?_, insS_ris x h.2⟩
      rcases insS_mem.mp hy with rfl | hy
      · exact ltS_asymm hz
      · exact h.1 y hy
    · rename_i hz
      have hz : ltS z x = false := by simpa using hz
      refine ⟨fun y hy => ?_, h⟩
      rcases List.mem_cons.mp hy with rfl | hy
      · exact hz
      · exact leS_trans hz (h.1 y hy)
theorem sortS_perm : ∀ l : List Str, (sortS l).Perm l
  | [] => List.Perm.refl _
  | x :: r => (insS_perm x (sortS r)).trans ((sortS_perm r).cons x)
theorem sortS_ris : ∀ l : List Str, RisS (sortS l)
  | [] => trivial
  | x :: r => insS_ris x (sortS_ris r)
theorem risS_uniq : ∀ {l m : List Str}, RisS l → RisS m → l.Perm m → l = m
  | [], m, _, _, p => (List.nil_perm.mp p).symm
  | x :: r, [], _, _, p => by have := p.length_eq; simp at this
  | x :: r, y :: s, h, k, p => by
    have hx : x ∈ y :: s := p.subset (by simp)
    have hy : y ∈ x :: r := p.symm.subset (by simp)
    have e : x = y := by
      rcases List.mem_cons.mp hx with e | hx
      · exact e
      · rcases List.mem_cons.mp hy with e | hy
        · exact e.symm
        · exact ltS_total (k.1 x hx) (h.1 y hy)
    subst e
    rw [risS_uniq h.2 k.2 (List.Perm.cons_inv p)]

/-! ### the built-ins by values -/
section
variable {X : Cx} {W : Wd}
def biVal : Bi → Value
  | .len => .builtin "len"
  | .abs => .builtin "abs"
  | .all => .builtin "all"
  | .any => .builtin "any"
  | .isi => .builtin "isinstance"
  | .sorted => .builtin "sorted"
  | .list => .type "list"
  | .tuple => .type "tuple"
  | .int => .type "int"
  | .str => .type "str"
def biName : Bi → Str
  | .len => "len"
  | .abs => "abs"
  | .all => "all"
  | .any => "any"
  | .isi => "isinstance"
  | .sorted => "sorted"
  | .list => "list"
  | .tuple => "tuple"
  | .int => "int"
  | .str => "str"
theorem bi_boot (x : Bi) : bootBuiltins (biName x) = some (biVal x) := by
  cases x <;> decide +kernel

theorem boolsT_tr {F : Hp} : ∀ {vs : List V} {ts : List T} {bs : List Bool}, TrL W F vs ts → boolsT ts = some bs → vs = bs.map V.bl
  | _, _, _, .nil, e => by cases e; rfl
  | _, _, _, .cons h l, e => by
    cases h <;> try (cases e)
    simp only [boolsT, Option.map_eq_some_iff] at e
    obtain ⟨bs, e1, rfl⟩ := e
    rw [boolsT_tr l e1]
    rfl
theorem strsT_tr {F : Hp} : ∀ {vs : List V} {ts : List T} {xs : List Str}, TrL W F vs ts → strsT ts = some xs → vs = xs.map V.str ∧ ts = xs.map T.str ∧ ∀ x ∈ xs, x.length ≤ LIM
  | _, _, _, .nil, e => by cases e; exact ⟨rfl, rfl, fun _ h => by cases h⟩
  | _, _, _, .cons h l, e => by
    cases h <;> try (cases e)
    rename_i x z
    simp only [strsT, Option.map_eq_some_iff] at e
    obtain ⟨xs, e1, rfl⟩ := e
    obtain ⟨h1, h2, h3⟩ := strsT_tr l e1
    refine ⟨by rw [h1]; rfl, by rw [h2]; rfl, fun y hy => ?_⟩
    rcases List.mem_cons.mp hy with rfl | hy
    · exact z
    · exact h3 y hy

/-- the class of a kind -/
def tyW (W : Wd) : Kd → Value → Prop
  | .obj c, u => ∃ C, W.cl c = some C ∧ u = .ref C
  | k, u => u = .type (kdName k)
theorem kd_kinds {k : Kd} (h : ∀ c, k ≠ .obj c) : kdName k ∈ kinds := by
  cases k <;> first | (exact absurd rfl (h _)) | decide
theorem kd_ty {F H : Hp} {b : Bag} {x : V} {t : T} {k : Kd} (st : Sta W F H b) (h : Tr W F x t) (e : kdOf t = some k) : ∃ u, tyW W k u ∧ TyX W.K H x u := by
  cases h <;> cases e
  case non => exact ⟨_, rfl, .base .non⟩
  case bl => exact ⟨_, rfl, .base (.bl _)⟩
  case int => exact ⟨_, rfl, .base (.int _)⟩
  case str => exact ⟨_, rfl, .base (.str _)⟩
  case tup ha z hl => exact ⟨_, rfl, .base (.tup (st.tup ha))⟩
  case lst ha z hl => exact ⟨_, rfl, .base (.lst (st.lst ha))⟩
  case dK ha hl =>
    rcases st.fz _ _ ha with q | ⟨_, od, q⟩
    · exact ⟨_, rfl, .base (.dK q)⟩
    · exact ⟨_, rfl, .fDict q⟩
  case dT ha hl =>
    rcases st.fz _ _ ha with q | ⟨q, _⟩
    · exact ⟨_, rfl, .base (.dT q)⟩
    · exact q.elim
  case obj ha hc hl =>
    have k := W.ok _ _ hc
    exact ⟨_, ⟨_, hc, rfl⟩, .base (.ins (st.ins ha) k.cls k.ha k.hn k.htk k.hm)⟩
theorem kd_kit (k c : Kd) (hc : c ≠ .non) (hk : ∀ n, k ≠ .obj n) (hc2 : ∀ n, c ≠ .obj n) : kitB (kdName k) (kdName c) = some (kdIs k c) := by
  cases k <;> cases c <;> first | exact absurd rfl hc | (exact absurd rfl (hk _)) | (exact absurd rfl (hc2 _)) | decide +kernel
theorem kdTy_some {n : String} {c : Kd} (h : kdTy n = some c) : n = kdName c ∧ c ≠ .non ∧ ∀ m, c ≠ .obj m := by
  unfold kdTy at h
  split at h <;> cases h <;> exact ⟨rfl, (fun e => by cases e), fun m e => by cases e⟩
theorem isiOne_some {F : Hp} {x : Kd} {c : V} {t : T} {r : Bool} (h : Tr W F c t) (e : isiOne x t = some r) {w : Value} (hw : tyW W x w) : ∃ u, ClsV c u ∧ PySem.W.kitOne W.K w u = some r := by
  cases h with
  | ty n =>
    simp only [isiOne, Option.map_eq_some_iff] at e
    obtain ⟨k, e1, rfl⟩ := e
    obtain ⟨rfl, hk, hk2⟩ := kdTy_some e1
    refine ⟨_, .ty _, ?_⟩
    by_cases hx : ∀ n, x ≠ .obj n
    · have : w = .type (kdName x) := by
        cases x <;> first | exact hw | exact absurd rfl (hx _)
      subst this
      exact kit_ty (kd_kit x k hk hx hk2)
    · match x, hw, hx with
      | .obj m, hw, _ =>
        obtain ⟨C, h1, rfl⟩ := hw
        have := (W.ok _ _ h1).b2 (kdName k) (kd_kinds hk2)
        rw [this]
        cases k <;> rfl
      | .non, _, hx => exact absurd (fun n z => by cases z) hx
      | .bl, _, hx => exact absurd (fun n z => by cases z) hx
      | .int, _, hx => exact absurd (fun n z => by cases z) hx
      | .str, _, hx => exact absurd (fun n z => by cases z) hx
      | .lst, _, hx => exact absurd (fun n z => by cases z) hx
      | .tup, _, hx => exact absurd (fun n z => by cases z) hx
      | .dct, _, hx => exact absurd (fun n z => by cases z) hx
  | @cls n C hc =>
    simp only [isiOne] at e
    cases e
    refine ⟨_, .own _, ?_⟩
    cases x
    case obj m =>
      obtain ⟨D, h1, rfl⟩ := hw
      exact W.oo _ _ _ _ h1 hc
    all_goals
      cases hw
      exact (W.ok _ _ hc).b1 _ (by decide)
  | _ => cases e
theorem isiAny_some {F : Hp} {x : Kd} : ∀ {cs : List V} {ts : List T} {r : Bool}, TrL W F cs ts → isiAny x ts = some r → ∀ {w : Value}, tyW W x w → ∃ us, Paired ClsV cs us ∧ PySem.W.kitAny W.K w us = some r
  | _, _, _, .nil, e, _, _ => by cases e; exact ⟨[], .nil, rfl⟩
  | _, _, r, .cons (t := t) (ts := ts) h l, e, w, hw => by
    simp only [isiAny] at e
    cases q : isiOne x t with
    | none => rw [q] at e; cases e
    | some k =>
      cases q2 : isiAny x ts with
      | none => rw [q, q2] at e; cases e
      | some k2 =>
        rw [q, q2] at e
        cases e
        obtain ⟨u, hu, hk⟩ := isiOne_some h q hw
        obtain ⟨us, hus, hr⟩ := isiAny_some l q2 hw
        refine ⟨u :: us, .cons hu hus, kitAny_cons hk (fun z => ?_) fun z => ?_⟩
        · rw [z]; exact hr
        · rw [z]; rfl

theorem chrs_trl {F : Hp} (s : Str) : TrL W F ((chrs s).map V.str) ((chrs s).map T.str) := TrL.strs _ fun x hx => by
  obtain ⟨c, _, rfl⟩ := List.mem_map.mp hx
  show 1 ≤ LIM
  decide
theorem cr_listS (hc : X.calm = true) : CallR X (.type "list") (fun xs H Q => ∃ z : Str, xs = [.str z] ∧ z.length ≤ sizeLine ∧ ∀ l, H l = none → Q (.ref l) (upd H l (.lst ((chrs z).map V.str)))) := by
  intro pins s σ H xs us Q I r h
  obtain ⟨z, rfl, hz, q⟩ := h
  obtain ⟨u, rfl, rx⟩ := vals1 r
  obtain ⟨t, rfl⟩ := rx
  refine PySem.call_list_str (I.ok.hd hc) z t (hn := hz) fun h' tk acc c' hk hS hacc => ?_
  refine ⟨.ref s.heap.objs.size, upd H s.heap.objs.size (.lst ((chrs z).map V.str)), I.laid (t' := tk) hk (Nat.le_refl _) ?_, rfl, q _ (I.hok.fresh (Nat.le_refl _))⟩
  have hl : ((chrs z).map V.str).length = z.length := by
    rw [List.length_map]; unfold chrs; rw [List.length_map, Array.length_toList]; rfl
  refine (show ObjOk X.prog X.w _ h' _ (.lst _) from ⟨by rw [hl]; exact hz, acc.toList, c', ?_, by rw [Array.toArray_toList]; exact hS⟩)
  have key : ∀ (l : List Nat) (vs : List Value), vs.length = l.length → (∀ (j : Nat) v, vs[j]? = some v → ∃ c u, l[j]? = some c ∧ v = Value.str ⟨#[c]⟩ u) → Vals ((l.map fun c => (⟨#[c]⟩ : Str)).map V.str) vs := by
    intro l
    induction l with
    | nil => intro vs hv _; cases vs with | nil => exact .nil | cons _ _ => cases hv
    | cons c r ih =>
      intro vs hv hj
      cases vs with
      | nil => cases hv
      | cons v vs =>
        obtain ⟨c', u, h1, h2⟩ := hj 0 v rfl
        simp at h1
        subst h1
        refine .cons ⟨u, h2⟩ (ih vs (by simpa using hv) fun j w hw => ?_)
        obtain ⟨c2, u2, h3, h4⟩ := hj (j + 1) w (by simpa using hw)
        exact ⟨c2, u2, by simpa using h3, h4⟩
  refine key z.cps.toList acc.toList (by rw [Array.length_toList, Array.length_toList]; exact hacc.1) fun j v hv => ?_
  obtain ⟨c, u, h1, h2⟩ := hacc.2 j v (by simpa using hv)
  exact ⟨c, u, by simpa using h1, h2⟩
theorem sortS_len (xs : List Str) : (sortS xs).length = xs.length := (sortS_perm xs).length_eq

theorem cr_T (hK : X.K = W.K) (hc : X.calm = true) : ∀ x, CallR X (biVal x) (rTL W (bltT x)) := by
  intro x pins s σ H xs us Q I r h
  obtain ⟨F, b, ts, t, st, hl, e, q⟩ := h
  have hL := LIM_le
  cases x
  case len =>
    match ts, hl, e with
    | [.str z], .cons (.str _ hz) .nil, e => cases e; exact call_len pins s σ H _ us Q I r ⟨_, _, rfl, ⟨Nat.le_trans hz hL, rfl⟩, tr_int st q⟩
    | [.lst zs], .cons (.lst ha hz hs) .nil, e => cases e; exact call_len pins s σ H _ us Q I r ⟨_, _, rfl, .inl ⟨_, SqL.of (st.lst ha), hs.length.symm⟩, tr_int st q⟩
    | [.tup zs], .cons (.tup ha hz hs) .nil, e => cases e; exact call_len pins s σ H _ us Q I r ⟨_, _, rfl, .inr ⟨_, SqT.of (st.tup ha), hs.length.symm⟩, tr_int st q⟩
  case abs =>
    match ts, hl, e with
    | [.int i], .cons (.int _) .nil, e => cases e; exact call_abs pins s σ H _ us Q I r ⟨_, rfl, tr_int st q⟩
  case all =>
    match ts, hl, e with
    | [.lst zs], .cons (.lst ha hz hs) .nil, e =>
      simp only [bltT, Option.map_eq_some_iff] at e
      obtain ⟨bs, e1, rfl⟩ := e
      have e2 := boolsT_tr hs e1
      subst e2
      exact cr_all hc pins s σ H _ us Q I r ⟨_, _, rfl, SqL.of (st.lst ha), tr_bl st q⟩
  case any =>
    match ts, hl, e with
    | [.lst zs], .cons (.lst ha hz hs) .nil, e =>
      simp only [bltT, Option.map_eq_some_iff] at e
      obtain ⟨bs, e1, rfl⟩ := e
      have e2 := boolsT_tr hs e1
      subst e2
      exact cr_any hc pins s σ H _ us Q I r ⟨_, _, rfl, SqL.of (st.lst ha), tr_bl st q⟩
  case isi =>
    match ts, hl, e with
    | [x, c], .cons hx (.cons hcl .nil), e =>
      simp only [bltT, Option.map_eq_some_iff] at e
      obtain ⟨k, e1, rfl⟩ := e
      have q := tr_bl st q
      unfold isiT at e1
      cases kx : kdOf x with
      | none => rw [kx] at e1; cases e1
      | some kd =>
        rw [kx] at e1
        obtain ⟨w, hw, ty⟩ := kd_ty st hx kx
        cases hcl with
        | tup ha hz hs =>
          obtain ⟨us', hus, hr⟩ := isiAny_some hs (show isiAny kd _ = some k from e1) hw
          exact call_isiT pins s σ H _ us Q I r ⟨_, _, _, _, _, _, rfl, st.tup ha, hus, by rw [hK]; exact ty, by rw [hK]; exact hr, q⟩
        | ty n =>
          obtain ⟨u, hu, hr⟩ := isiOne_some (F := F) (.ty n) (show isiOne kd _ = some k from e1) hw
          exact call_isi pins s σ H _ us Q I r ⟨_, _, _, _, _, rfl, hu, by rw [hK]; exact ty, by rw [hK]; exact hr, q⟩
        | cls hcc =>
          obtain ⟨u, hu, hr⟩ := isiOne_some (F := F) (.cls hcc) (show isiOne kd _ = some k from e1) hw
          exact call_isi pins s σ H _ us Q I r ⟨_, _, _, _, _, rfl, hu, by rw [hK]; exact ty, by rw [hK]; exact hr, q⟩
        | _ => cases e1
  case sorted =>
    match ts, hl, e with
    | [.lst zs], .cons (.lst ha hz hs) .nil, e =>
      simp only [bltT] at e
      cases q1 : strsT zs with
      | none => rw [q1] at e; cases e
      | some ys =>
        rw [q1] at e
        simp only at e
        split at e
        · rename_i h64
          cases e
          obtain ⟨e2, e3, e4⟩ := strsT_tr hs q1
          subst e2
          refine cr_sortedS pins s σ H _ us Q I r ⟨_, _, rfl, SqL.of (st.lst ha), h64, fun zs p hp hsr hn => ?_⟩
          have e5 : zs = sortS ys := risS_uniq (risS_of hsr) (sortS_ris ys) (hp.trans (sortS_perm ys).symm)
          subst e5
          refine tr_lst st ?_ (TrL.strs _ fun x hx => e4 x ((sortS_perm ys).subset hx)) q p hn
          rw [List.length_map, sortS_len]
          have : LIM = 1000000 := rfl
          omega
        · cases e
  case list =>
    match ts, hl, e with
    | [.lst zs], .cons (.lst ha hz hs) .nil, e => cases e; exact call_list_of pins s σ H _ us Q I r ⟨_, _, rfl, .inl (SqL.of (st.lst ha)), tr_lst st hz hs q⟩
    | [.tup zs], .cons (.tup ha hz hs) .nil, e => cases e; exact call_list_of pins s σ H _ us Q I r ⟨_, _, rfl, .inr (SqT.of (st.tup ha)), tr_lst st hz hs q⟩
    | [.str z], .cons (.str _ hz) .nil, e =>
      cases e
      refine cr_listS hc pins s σ H _ us Q I r ⟨_, rfl, Nat.le_trans hz hL, tr_lst st ?_ (chrs_trl z) q⟩
      rw [List.length_map]; unfold chrs; rw [List.length_map, Array.length_toList]; exact hz
  case tuple =>
    match ts, hl, e with
    | [.lst zs], .cons (.lst ha hz hs) .nil, e => cases e; exact call_tuple_of pins s σ H _ us Q I r ⟨_, _, rfl, .inl ⟨SqL.of (st.lst ha), tr_tup st hz hs q⟩⟩
    | [.tup zs], .cons (.tup ha hz hs) .nil, e => cases e; exact call_tuple_of pins s σ H _ us Q I r ⟨_, _, rfl, .inr ⟨SqT.of (st.tup ha), q _ F H (.same st (.tup ha hz hs))⟩⟩
  case int =>
    match ts, hl, e with
    | [.int i], .cons (.int _) .nil, e =>
      cases e
      obtain ⟨u, rfl, rx⟩ := vals1 r
      obtain ⟨t, rfl⟩ := rx
      exact PySem.call_int_int ⟨.int i, H, I, ⟨t, rfl⟩, tr_int st q⟩
  case str =>
    match ts, hl, e with
    | [.int i], .cons (.int _) .nil, e =>
      simp only [bltT] at e
      split at e
      · rename_i hw
        cases e
        have h1 := PySem.Flt.log2_lt_of (by decide : 0 < 300) (wide_lt2 hw.1)
        exact call_str_int pins s σ H _ us Q I r ⟨_, rfl, by omega, tr_str st hw.2 q⟩
      · cases e
end
end DI

set_option Elab.async false
set_option linter.all false
set_option maxRecDepth 100000
set_option maxHeartbeats 4000000
namespace DI
open PySem L2

/-! ### does a term say what a text says -/
structure Gm where
  con : List (Str × T)
  fn : Nat → Option Str
  kw : List (Nat × List Str)
  cl : Nat → Option Str
  mt : Nat → Option (Str × Str)
  mkw : List (Nat × List Str)
  tkw : List (Nat × List Str)
  oi : List Nat
structure Cc where
  N : List Str
  sc : Scope
  fnb : Str → Bool
def visB : Option NameKind → Bool
  | some .local => true
  | some .cell => true
  | some .free => true
  | _ => false
def locB (Γ : Cc) (x : Str) : Bool := match Γ.sc.names.lookup x with
  | some .local => true
  | some .cell => Γ.fnb x
  | _ => false
def glB (Γ : Cc) (x : Str) : Bool := (match Γ.sc.names.lookup x with
  | some .globalImplicit => true
  | _ => false) && !(x == ("__debug__" : Str))
def slB (Γ : Cc) (i : Nat) (x : Str) : Bool := decide (Γ.N[i]? = some x) && visB (Γ.sc.names.lookup x) && !(x == ("__debug__" : Str)) && !(x == ("__classdict__" : Str))
def eqA : T → T → Bool
  | .int i, .int j => decide (i = j)
  | .str x, .str y => decide (x = y)
  | .ty m, .ty n => decide (m = n)
  | .cls m, .cls n => decide (m = n)
  | _, _ => false
theorem eqA_eq {x y : T} (h : eqA x y = true) : x = y := by
  unfold eqA at h
  split at h
  · rw [of_decide_eq_true h]
  · rw [of_decide_eq_true h]
  · rw [of_decide_eq_true h]
  · rw [of_decide_eq_true h]
  · cases h
def cnB : T → Const → Bool
  | .non, .none => true
  | .bl a, .bool b => a == b
  | .int i, .int j => decide (i = j)
  | .str x, .str y => decide (x = y) && decide (x.length ≤ LIM)
  | _, _ => false
def conB (G : Gm) (x : Str) (t : T) : Bool := match G.con.lookup x with
  | some u => eqA u t
  | none => false
def fnB (G : Gm) (Γ : Cc) (f : Nat) (x : Str) : Bool := decide (G.fn f = some x) && glB Γ x
def clB (G : Gm) (Γ : Cc) (c : Nat) (x : Str) : Bool := decide (G.cl c = some x) && glB Γ x
def mtB (G : Gm) (f : Nat) (n : Str) : Bool := match G.mt f with
  | some p => decide (p.2 = n)
  | none => false
/-- no star, no slice, no set -/
def plB : Expr → Bool
  | .Starred _ _ => false
  | .Slice _ _ _ _ => false
  | .Set _ _ _ => false
  | _ => true
def rcB : Expr → Bool
  | .Call (.Name _ _) [] [] _ => false
  | _ => true
/-- a test that is no and, or, not, comparison, conditional -/
def tsB : Expr → Bool
  | .UnaryOp .Not _ _ => false
  | .BoolOp _ _ _ => false
  | .IfExp _ _ _ _ => false
  | .Compare _ _ _ _ => false
  | _ => true
def meName : Me → Str
  | .join => "join"
def ownOf (N : List Str) (l : List Nat) : List (Str × Nat) := l.map fun i => (N.getD i Str.empty, i)
def Cc.blk (Γ : Cc) (scope : Scope) : Cc := ⟨Γ.N, relS scope Γ.sc, fun x => scope.names.lookup x == some .cell⟩
mutual
def tgB (Γ : Cc) : Tg → Expr → Bool
  | .name i, ex => (match ex with
    | .Name x _ => decide (Γ.N[i]? = some x) && locB Γ x
    | _ => false)
  | .seq _ gs, ex => (match ex with
    | .Tuple xs _ _ => tgsB Γ gs xs
    | _ => false)
def tgsB (Γ : Cc) : Tgs → List Expr → Bool
  | .nil, xs => (match xs with
    | [] => true
    | _ => false)
  | .cons g r, xs => (match xs with
    | x :: s => plB x && tgB Γ g x && tgsB Γ r s
    | _ => false)
end
mutual
def chkE (G : Gm) : E → Cc → Expr → Bool
  | .var i, Γ, ex => (match ex with
    | .Name x _ => slB Γ i x
    | _ => false)
  | .con t, Γ, ex => (match ex with
    | .Constant c _ _ => cnB t c
    | _ => false)
  | .glob x t, Γ, ex => (match ex with
    | .Name y _ => decide (x = y) && glB Γ y && conB G y t
    | _ => false)
  | .bin op a b, Γ, ex => (match ex with
    | .BinOp l op' r _ => decide (op = op') && chkE G a Γ l && chkE G b Γ r
    | _ => false)
  | .neg a, Γ, ex => (match ex with
    | .UnaryOp .USub x _ => chkE G a Γ x
    | _ => false)
  | .not a, Γ, ex => (match ex with
    | .UnaryOp .Not x _ => chkE G a Γ x
    | _ => false)
  | .and a b, Γ, ex => (match ex with
    | .BoolOp .And [x, y] _ => chkE G a Γ x && chkE G b Γ y
    | .BoolOp .And (x :: y :: z :: r) pos => chkE G a Γ x && chkE G b Γ (.BoolOp .And (y :: z :: r) pos)
    | _ => false)
  | .or a b, Γ, ex => (match ex with
    | .BoolOp .Or [x, y] _ => chkE G a Γ x && chkE G b Γ y
    | .BoolOp .Or (x :: y :: z :: r) pos => chkE G a Γ x && chkE G b Γ (.BoolOp .Or (y :: z :: r) pos)
    | _ => false)
  | .cmp op a b, Γ, ex => (match ex with
    | .Compare l [op'] [r] _ => decide (op = op') && plB r && chkE G a Γ l && chkE G b Γ r
    | _ => false)
  | .chain op op' a b c, Γ, ex => (match ex with
    | .Compare l [o, o'] [m, r] _ => decide (op = o) && decide (op' = o') && plB r && chkE G a Γ l && chkE G b Γ m && chkE G c Γ r
    | _ => false)
  | .ife c a b, Γ, ex => (match ex with
    | .IfExp t x y _ => chkT G c Γ t && chkE G a Γ x && chkE G b Γ y
    | _ => false)
  | .tup es, Γ, ex => (match ex with
    | .Tuple xs _ _ => chkEs G es Γ xs
    | _ => false)
  | .lst es, Γ, ex => (match ex with
    | .List xs _ => chkEs G es Γ xs
    | _ => false)
  | .dct ks vs, Γ, ex => (match ex with
    | .Dict [] [] _ => decide (ks = []) && chkEs G vs Γ []
    | .Dict [some (.Constant (.str x) _ _)] [v] _ => decide (ks = [x]) && decide (x.length ≤ LIM) && chkEs G vs Γ [v]
    | _ => false)
  | .idx a i, Γ, ex => (match ex with
    | .Subscript x y _ => plB y && chkE G a Γ x && chkE G i Γ y
    | _ => false)
  | .sl a lo hi, Γ, ex => (match ex with
    | .Subscript x (.Slice (some l) (some h) none _) _ => chkE G a Γ x && chkE G lo Γ l && chkE G hi Γ h
    | _ => false)
  | .slH a hi, Γ, ex => (match ex with
    | .Subscript x (.Slice none (some h) none _) _ => chkE G a Γ x && chkE G hi Γ h
    | _ => false)
  | .slL a lo, Γ, ex => (match ex with
    | .Subscript x (.Slice (some l) none none _) _ => chkE G a Γ x && chkE G lo Γ l
    | _ => false)
  | .rev a, Γ, ex => (match ex with
    | .Subscript x (.Slice none none (some (.UnaryOp .USub (.Constant (.int 1) _ _) _)) _) _ => chkE G a Γ x
    | _ => false)
  | .call f es, Γ, ex => (match ex with
    | .Call (.Name x _) (e :: r) [] _ => fnB G Γ f x && chkEs G es Γ (e :: r)
    | _ => false)
  | .callK f es ks, Γ, ex => (match ex with
    | .Call (.Name x _) [] (k :: r) _ => fnB G Γ f x && decide ((f, ks) ∈ G.kw) && decide ((k :: r).map (·.arg) = ks.map some) && chkEs G es Γ ((k :: r).map (·.value))
    | _ => false)
  | .blt x es, Γ, ex => (match ex with
    | .Call (.Name y _) (e :: r) [] _ => decide (y = biName x) && glB Γ y && chkEs G es Γ (e :: r)
    | _ => false)
  | .mth m a es, Γ, ex => (match ex with
    | .Call (.Attribute o n ap) [e] [] cp => decide (n = meName m) && rcB o && (ap.endLine == cp.line) && chkE G a Γ o && chkEs G es Γ [e]
    | _ => false)
  | .bget a k, Γ, ex => (match ex with
    | .Subscript x (.Constant (.int i) _ _) _ => decide (i = (k : Int)) && decide (1 ≤ k ∧ k ≤ 4) && chkE G a Γ x
    | _ => false)
  | .blen a, Γ, ex => (match ex with
    | .Call (.Name y _) [.Subscript x (.Constant (.int 0) _ _) _] [] _ => decide (y = ("len" : Str)) && glB Γ y && chkE G a Γ x
    | _ => false)
  | .bcell a, Γ, ex => (match ex with
    | .Subscript (.Subscript x (.Constant (.int 0) _ _) _) (.Subscript y (.Constant (.int 1) _ _) _) _ => (match a with | .var _ => true | _ => false) && chkE G a Γ x && chkE G a Γ y
    | _ => false)
  | .lc elt tg it c, Γ, ex => (match ex with
    | .ListComp e [⟨t, i, [f], 0⟩] scope _ => plB i && chkI G it Γ t i && blkC Γ.N Γ.sc scope (ownOf Γ.N (tgSlots tg)) && tgB (Γ.blk scope) tg t && chkT G c (Γ.blk scope) f && chkE G elt (Γ.blk scope) e
    | _ => false)
  | .lc0 elt tg it, Γ, ex => (match ex with
    | .ListComp e [⟨t, i, [], 0⟩] scope _ => plB i && chkI G it Γ t i && blkC Γ.N Γ.sc scope (ownOf Γ.N (tgSlots tg)) && tgB (Γ.blk scope) tg t && chkE G elt (Γ.blk scope) e
    | _ => false)
  | .mk c es, Γ, ex => (match ex with
    | .Call (.Name x _) (e :: r) [] _ => clB G Γ c x && chkEs G es Γ (e :: r)
    | _ => false)
  | .mkK c es ks, Γ, ex => (match ex with
    | .Call (.Name x _) [] (k :: r) _ => clB G Γ c x && decide ((c, ks) ∈ G.mkw) && decide ((k :: r).map (·.arg) = ks.map some) && chkEs G es Γ ((k :: r).map (·.value))
    | _ => false)
  | .fld a f, Γ, ex => (match ex with
    | .Attribute o n _ => decide (n = f) && rcB o && chkE G a Γ o
    | _ => false)
  | .meth f a es, Γ, ex => (match ex with
    | .Call (.Attribute o n ap) xs [] cp => mtB G f n && rcB o && (ap.endLine == cp.line) && decide (xs.length < 29) && chkE G a Γ o && chkEs G es Γ xs
    | _ => false)
  | .methK f a es ks, Γ, ex => (match ex with
    | .Call (.Attribute o n ap) [] (k :: r) cp => mtB G f n && rcB o && (ap.endLine == cp.line) && decide ((k :: r).length < 28) && decide ((f, ks) ∈ G.tkw) && decide ((k :: r).map (·.arg) = ks.map some) && chkE G a Γ o && chkEs G es Γ ((k :: r).map (·.value))
    | _ => false)
  | .obin op f a b, Γ, ex => (match ex with
    | .BinOp l op' r _ => decide (op = op') && mtB G f (PySem.dunder op.info.2) && chkE G a Γ l && chkE G b Γ r
    | _ => false)
  | .obinI op f a b, Γ, ex => (match ex with
    | .BinOp l op' r _ => decide (op = op') && mtB G f (PySem.dunder op.info.2) && decide (op = .Mult) && decide (f ∈ G.oi) && chkE G a Γ l && chkE G b Γ r
    | _ => false)
  | .orbin op f a b, Γ, ex => (match ex with
    | .BinOp l op' r _ => decide (op = op') && mtB G f (PySem.dunderR op.info.2) && decide (op = .Mult) && decide (f ∈ G.oi) && chkE G a Γ l && chkE G b Γ r
    | _ => false)
  | .ocmp op f a b, Γ, ex => (match ex with
    | .Compare l [op'] [r] _ => decide (op = op') && mtB G f (cmpInfo op).2.1 && decide (op = .Eq) && plB r && chkE G a Γ l && chkE G b Γ r
    | _ => false)
  | .ostr f a, Γ, ex => (match ex with
    | .Call (.Name y _) [x] [] _ => decide (y = ("str" : Str)) && glB Γ y && mtB G f "__str__" && plB x && chkE G a Γ x
    | _ => false)
  | .fmt a, Γ, ex => (match ex with
    | .FormattedValue x k none _ => decide (k = -1) && chkE G a Γ x
    | _ => false)
  | .fstr es, Γ, ex => (match ex with
    | .JoinedStr (x :: y :: r) _ => chkEs G es Γ (x :: y :: r)
    | _ => false)
  | .dead, Γ, ex => true
def chkT (G : Gm) : Te → Cc → Expr → Bool
  | .tr e, Γ, ex => (tsB ex || (match ex with
    | .Compare _ _ _ _ => true
    | _ => false)) && chkE G e Γ ex
  | .not a, Γ, ex => (match ex with
    | .UnaryOp .Not x _ => chkT G a Γ x
    | _ => false)
  | .and a b, Γ, ex => (match ex with
    | .BoolOp .And [x, y] _ => chkT G a Γ x && chkT G b Γ y
    | .BoolOp .And (x :: y :: z :: r) pos => chkT G a Γ x && chkT G b Γ (.BoolOp .And (y :: z :: r) pos)
    | _ => false)
  | .or a b, Γ, ex => (match ex with
    | .BoolOp .Or [x, y] _ => chkT G a Γ x && chkT G b Γ y
    | .BoolOp .Or (x :: y :: z :: r) pos => chkT G a Γ x && chkT G b Γ (.BoolOp .Or (y :: z :: r) pos)
    | _ => false)
def chkEs (G : Gm) : Es → Cc → List Expr → Bool
  | .nil, Γ, xs => (match xs with
    | [] => true
    | _ => false)
  | .cons e r, Γ, xs => (match xs with
    | x :: s => plB x && chkE G e Γ x && chkEs G r Γ s
    | _ => false)
def chkI (G : Gm) : It → Cc → Expr → Expr → Bool
  | .val e, Γ, tg, ex => chkE G e Γ ex
  | .rng1 a, Γ, tg, ex => (match ex with
    | .Call (.Name y _) [x] [] _ => decide (y = ("range" : Str)) && glB Γ y && plB x && chkE G a Γ x
    | _ => false)
  | .rng2 a b, Γ, tg, ex => (match ex with
    | .Call (.Name n _) [x, y] [] _ => decide (n = ("range" : Str)) && glB Γ n && plB x && plB y && chkE G a Γ x && chkE G b Γ y
    | _ => false)
  | .zip a b, Γ, tg, ex => (match tg, ex with
    | .Tuple _ _ _, .Call (.Name n _) [x, y] [] _ => decide (n = ("zip" : Str)) && glB Γ n && plB x && plB y && chkE G a Γ x && chkE G b Γ y
    | _, _ => false)
  | .enum a, Γ, tg, ex => (match tg, ex with
    | .Tuple _ _ _, .Call (.Name n _) [x] [] _ => decide (n = ("enumerate" : Str)) && glB Γ n && plB x && chkE G a Γ x
    | _, _ => false)
end

/-! ### what a text's place has to offer -/
/-- a def's promise by its worth -/
def spF (W : Wd) (n : Nat) (c : List T → Ev T) : Sp := fun vs H Q E => ∃ F b ts, vs.length = n ∧ Sta W F H b ∧ TrL W F vs ts ∧ wpE (c ts) b (fun t b' => ∀ v F' H', Post W F H b' t v F' H' → Q v H') (WXat W (fun cls d _ H' => E cls d H') [] F H)
/-- a making's promise by its worth: the new instance stands empty, at the end it is frozen -/
def spI (W : Wd) (n : Nat) (c : Str) (mk : List T → Ev T) : Sp := fun vs H Q E => ∃ F H0 b x C dx ws ts, vs = .ref x :: ws ∧ ws.length = n ∧ W.cl c = some C ∧ H x = some (.ins C dx []) ∧ F x = none ∧ H0 x = none ∧ x ≠ W.B ∧ x ≠ W.c ∧ Keep W H0 H ∧ Sta W F H b ∧ TrL W F ws ts ∧
  wpE (mk ts) b (fun t b' => ∀ F' H', Post W F H0 b' t (.ref x) F' H' → Q .non H') (WXat W (fun cls d _ H' => E cls d H') [] F H0)
/-- the defs: their addresses, their objects -/
structure Fns (P : Program) (w : World) (K : PySem.W.Frag) (mg : Str → Option Value) (base : Heap) (W : Wd) (G : Gm) (I : Ien) (k : Nat) : Prop where
  len : ∀ f ts b r, I.call f ts b = some r → ts.length = (I.pars f).length
  lenL : ∀ f ts b r, I.low f ts b = some r → ts.length = (I.pars f).length
  lenM : ∀ c ts b r, I.make c ts b = some r → ts.length = (I.mpars c).length
  fn : ∀ f x, G.fn f = some x → ∃ a fd, FnOk P w K mg base (L2.CX P w) (k + 2) a fd (I.pars f) (spF W (I.pars f).length (I.call f)) ∧ mg x = some (.ref a) ∧ PySem.W.keepIn K (.ref a) = true ∧ Binds K fd (I.pars f) [] ∧
    ∀ ks, (f, ks) ∈ G.kw → ∀ (s : Shared) (ws : List Value), K.In s.heap → ws.length = ks.length → BindsTo s fd ⟨[], ks.zip ws⟩ ((I.pars f).zip (permG (I.pars f) ks ws))
  mt : ∀ f c m, G.mt f = some (c, m) → I.mt f = (c, m) ∧ ∃ C a fd, W.cl c = some C ∧ Meth K C m a ∧ FnOk P w K mg base (L2.CX P w) (k + 2) a fd (I.pars f) (spF W (I.pars f).length (I.call f)) ∧
    FnOk P w K mg base (L2.CX P w) k a fd (I.pars f) (spF W (I.pars f).length (I.low f)) ∧ Binds K fd (I.pars f) [] ∧
    ∀ ks, (f, ks) ∈ G.tkw → ∀ (s : Shared) (w0 : Value) (ws : List Value), K.In s.heap → ws.length = ks.length → BindsTo s fd ⟨[w0], ks.zip ws⟩ ((I.pars f).zip (w0 :: permG ((I.pars f).drop 1) ks ws))
  mak : ∀ i c, G.cl i = some c → ∃ C a fd, W.cl c = some C ∧ Mk K C a ∧ mg c = some (.ref C) ∧ FnOk P w K mg base (L2.CX P w) (k + 1) a fd (("self" : Str) :: I.mpars i) (spI W (I.mpars i).length c (I.make i)) ∧ Binds K fd (("self" : Str) :: I.mpars i) [] ∧
    ∀ ks, (i, ks) ∈ G.mkw → ∀ (s : Shared) (w0 : Value) (ws : List Value), K.In s.heap → ws.length = ks.length → BindsTo s fd ⟨[w0], ks.zip ws⟩ ((("self" : Str) :: I.mpars i).zip (w0 :: permG (I.mpars i) ks ws))
  fok : ∀ c f C, I.fok c f = true → W.cl c = some C → NoAttr K C f
  oi : ∀ f ∈ G.oi, ∀ c m C, G.mt f = some (c, m) → W.cl c = some C → ∃ a g : Addr, PySem.W.findIn K (.ref C) (PySem.dunder "mul") = some (some (.ref a)) ∧ PySem.W.isFn K (.ref a) = true ∧ PySem.W.findIn K (.ref C) (PySem.dunderR "mul") = some (some (.ref g)) ∧ PySem.W.isFn K (.ref g) = true
structure CxI (X : Cx) (W : Wd) (Wx : WX) (G : Gm) (I : Ien) (k : Nat) (Γ : Cc) : Prop where
  K : X.K = W.K
  N : X.N = Γ.N
  nd : Γ.N.Nodup
  sc : X.env.scope = Γ.sc
  fnb : X.fn = Γ.fnb
  calm : X.calm = true
  tk : Takes X Wx
  po : PassesOwn (model X.prog X.w) X.A X.env X.xe
  room : Room (k + 2) X.A
  con : ∀ x t, G.con.lookup x = some t → ∃ v u, (X.mg x = some u ∨ (X.mg x = none ∧ bootBuiltins x = some u ∧ x ≠ "__name__")) ∧ RelV v u ∧ ∀ F, Tr W F v t
  bi : ∀ x, X.mg (biName x) = none
  rng : X.mg "range" = none ∧ X.mg "zip" = none ∧ X.mg "enumerate" = none
  fns : Fns X.prog X.w X.K X.mg X.base W G I k
end DI

set_option Elab.async false
set_option linter.all false
set_option maxRecDepth 100000
set_option maxHeartbeats 4000000
namespace DI
open PySem L2 PyProof.Rows

/-! ### walks -/
def ItOk (W : Wd) (F0 : Hp) (J : L2.It) (items : List T) : Prop := ∀ F H b, Sub F0 F → Sta W F H b → ∀ i : Nat,
  (∀ t, items[i]? = some t → J.go i H ∧ ∀ x H', J.yld i H x H' → ∃ F', Post W F H b t x F' H') ∧ (items.length ≤ i → J.stop i H)
def rdI (W : Wd) (Wx : WX) (f : View → Ev (List T)) : TI := fun σ H R => ∃ F ρ b, Sta W F H b ∧ VRel W F σ ρ ∧ wpE (f ρ) b (fun items b' =>
  ∀ J F' H', Grow F H F' → Keep W H H' → Sta W F' H' b' → ItOk W F' J items → items.length ≤ LIM → R J H') (WXat W Wx σ F H)
theorem PI.imp {X : Cx} {tg e : Expr} {t t' : TI} (h : PI X tg e t) (k : ∀ σ H R, t' σ H R → t σ H R) : PI X tg e t' := ⟨fun pins s σ H R I q => h.run pins s σ H R I (k σ H R q)⟩
section
variable {X : Cx} {W : Wd} {F0 : Hp} {K : PySem.W.Frag}
theorem it_list {a : Addr} {vs : List V} {ts : List T} (h : F0 a = some (.lst vs)) (l : TrL W F0 vs ts) : ItOk W F0 (Itl K a) ts := by
  intro F H b hs st i
  have ha := st.lst (hs _ _ h)
  refine ⟨fun t e => ?_, fun hl => ⟨vs, SqL.of ha, by rw [l.length]; exact hl⟩⟩
  obtain ⟨v, e1, h1⟩ := l.get e
  refine ⟨⟨vs, v, SqL.of ha, e1⟩, fun x H' y => ?_⟩
  obtain ⟨rfl, y⟩ := y
  have := y vs (SqL.of ha)
  rw [e1] at this
  cases this
  exact ⟨F, .same st (h1.mono hs)⟩
theorem it_tup {a : Addr} {vs : List V} {ts : List T} (h : F0 a = some (.tup vs)) (l : TrL W F0 vs ts) : ItOk W F0 (Itt K a) ts := by
  intro F H b hs st i
  have ha := st.tup (hs _ _ h)
  refine ⟨fun t e => ?_, fun hl => ⟨vs, SqT.of ha, by rw [l.length]; exact hl⟩⟩
  obtain ⟨v, e1, h1⟩ := l.get e
  refine ⟨⟨vs, v, SqT.of ha, e1⟩, fun x H' y => ?_⟩
  obtain ⟨rfl, y⟩ := y
  have := y vs (SqT.of ha)
  rw [e1] at this
  cases this
  exact ⟨F, .same st (h1.mono hs)⟩
theorem chrs_length (x : Str) : (chrs x).length = x.length := by
  unfold chrs; rw [List.length_map, Array.length_toList]; rfl
theorem it_str {x : Str} : ItOk W F0 (Its x) ((chrs x).map .str) := by
  intro F H b hs st i
  refine ⟨fun t e => ?_, fun hl => by rw [List.length_map, chrs_length] at hl; exact hl⟩
  simp only [List.getElem?_map, chrs, Option.map_eq_some_iff] at e
  obtain ⟨c, ⟨d, e1, rfl⟩, rfl⟩ := e
  rw [Array.getElem?_toList] at e1
  have hi : i < x.cps.size := (Array.getElem?_eq_some_iff.mp e1).1
  refine ⟨hi, fun y H' q => ?_⟩
  obtain ⟨rfl, c', e2, rfl⟩ := q
  rw [e1] at e2
  cases e2
  exact ⟨F, .same st (.str _ (by show 1 ≤ LIM; decide))⟩
theorem it_rng {lo : Int} {n : Nat} : ItOk W F0 (Itr lo n) ((List.range n).map fun (k : Nat) => T.int (lo + (k : Int))) := by
  intro F H b hs st i
  refine ⟨fun t e => ?_, fun hl => by rw [List.length_map, List.length_range] at hl; exact hl⟩
  simp only [List.getElem?_map, Option.map_eq_some_iff] at e
  obtain ⟨k, e1, rfl⟩ := e
  have hi : i < n := by
    have := (List.getElem?_eq_some_iff.mp e1).1
    simpa using this
  have hk : k = i := by
    rw [List.getElem?_range hi] at e1
    exact (Option.some.inj e1).symm
  subst hk
  refine ⟨hi, fun y H' q => ?_⟩
  obtain ⟨rfl, rfl⟩ := q
  exact ⟨F, .same st (.int _)⟩
theorem TrL.zip_get {F : Hp} {vs us : List V} {ts rs : List T} {i : Nat} {t : T} (l : TrL W F vs ts) (m : TrL W F us rs) (e : ((ts.zip rs).map fun p => T.tup [p.1, p.2])[i]? = some t) :
    ∃ x y v u, t = .tup [x, y] ∧ vs[i]? = some v ∧ us[i]? = some u ∧ Tr W F v x ∧ Tr W F u y := by
  simp only [List.getElem?_map, Option.map_eq_some_iff] at e
  obtain ⟨⟨x, y⟩, e1, rfl⟩ := e
  rw [List.getElem?_zip_eq_some] at e1
  obtain ⟨v, h1, h2⟩ := l.get e1.1
  obtain ⟨u, h3, h4⟩ := m.get e1.2
  exact ⟨x, y, v, u, rfl, h1, h3, h2, h4⟩
theorem post_pair {F H : Hp} {b : Bag} {p : Addr} {v u : V} {x y : T} (st : Sta W F H b) (n : H p = none) (h1 : Tr W F v x) (h2 : Tr W F u y) : ∃ F', Post W F H b (.tup [x, y]) (.ref p) F' (upd H p (.tup [v, u])) :=
  ⟨_, Post.tup st n (by show 2 ≤ LIM; decide) (.cons h1 (.cons h2 .nil))⟩
theorem it_zipL {a c : Addr} {vs us : List V} {ts rs : List T} (h : F0 a = some (.lst vs)) (l : TrL W F0 vs ts) (h' : F0 c = some (.lst us)) (m : TrL W F0 us rs) : ItOk W F0 (Itz K a c) ((ts.zip rs).map fun p => T.tup [p.1, p.2]) := by
  intro F H b hs st i
  have ha := st.lst (hs _ _ h)
  have hc := st.lst (hs _ _ h')
  refine ⟨fun t e => ?_, fun hl => ⟨vs, us, SqL.of ha, SqL.of hc, ?_⟩⟩
  · obtain ⟨x, y, v, u, rfl, e1, e2, h1, h2⟩ := TrL.zip_get l m e
    refine ⟨⟨vs, us, v, u, SqL.of ha, SqL.of hc, e1, e2⟩, fun z H' q => ?_⟩
    obtain ⟨T, v', u', rfl, hn, rfl, q1, q2⟩ := q
    have e3 := q1 vs (SqL.of ha)
    have e4 := q2 us (SqL.of hc)
    rw [e1] at e3; cases e3
    rw [e2] at e4; cases e4
    exact post_pair st hn (h1.mono hs) (h2.mono hs)
  · rw [List.length_map, List.length_zip] at hl
    rw [l.length, m.length]
    omega
theorem it_zipT {a c : Addr} {vs us : List V} {ts rs : List T} (h : F0 a = some (.tup vs)) (l : TrL W F0 vs ts) (h' : F0 c = some (.tup us)) (m : TrL W F0 us rs) : ItOk W F0 (RZ.ItzT K a c) ((ts.zip rs).map fun p => T.tup [p.1, p.2]) := by
  intro F H b hs st i
  have ha := st.tup (hs _ _ h)
  have hc := st.tup (hs _ _ h')
  refine ⟨fun t e => ?_, fun hl => ⟨vs, us, SqT.of ha, SqT.of hc, ?_⟩⟩
  · obtain ⟨x, y, v, u, rfl, e1, e2, h1, h2⟩ := TrL.zip_get l m e
    refine ⟨⟨vs, us, v, u, SqT.of ha, SqT.of hc, e1, e2⟩, fun z H' q => ?_⟩
    obtain ⟨T, v', u', rfl, hn, rfl, q1, q2⟩ := q
    have e3 := q1 vs (SqT.of ha)
    have e4 := q2 us (SqT.of hc)
    rw [e1] at e3; cases e3
    rw [e2] at e4; cases e4
    exact post_pair st hn (h1.mono hs) (h2.mono hs)
  · rw [List.length_map, List.length_zip] at hl
    rw [l.length, m.length]
    omega
theorem it_enum {a : Addr} {vs : List V} {ts : List T} (h : F0 a = some (.lst vs)) (l : TrL W F0 vs ts) : ItOk W F0 (Ite K a) (ts.zipIdx.map fun p => T.tup [.int p.2, p.1]) := by
  intro F H b hs st i
  have ha := st.lst (hs _ _ h)
  refine ⟨fun t e => ?_, fun hl => ⟨vs, SqL.of ha, by rw [l.length]; simpa using hl⟩⟩
  simp only [List.getElem?_map, Option.map_eq_some_iff, List.getElem?_zipIdx] at e
  obtain ⟨p, ⟨x, e1, rfl⟩, rfl⟩ := e
  obtain ⟨v, e2, h2⟩ := l.get e1
  refine ⟨⟨vs, v, SqL.of ha, e2⟩, fun z H' q => ?_⟩
  obtain ⟨T, v', rfl, hn, rfl, q1⟩ := q
  have e3 := q1 vs (SqL.of ha)
  rw [e2] at e3; cases e3
  simp only [Nat.zero_add]
  exact post_pair st hn (.int _) (h2.mono hs)

/-- a list, a tuple or a text is walked -/
def iAny (K : PySem.W.Frag) (te : TE) : TI := fun σ H R => te σ H fun x H1 => (∃ a, x = .ref a ∧ (∃ xs, SqL K H1 a xs) ∧ R (Itl K a) H1) ∨ (∃ a, x = .ref a ∧ (∃ xs, SqT K H1 a xs) ∧ R (Itt K a) H1) ∨ ∃ s, x = .str s ∧ R (Its s) H1
theorem pi_any {tg l : Expr} {tl : TE} (hl : PE X l tl) : PI X tg l (iAny X.K tl) := by
  refine ⟨fun pins s σ H R I h => ?_⟩
  refine thn (hl.run pins s σ H _ I h) fun v s1 ⟨x, H1, I1, r1, q1⟩ => ?_
  rcases q1 with ⟨a, e, ⟨xs, hq⟩, q⟩ | ⟨a, e, ⟨xs, hq⟩, q⟩ | ⟨x, ex, q⟩
  · subst e
    cases r1
    obtain ⟨its, rv, p, hz⟩ := I1.list hq
    refine wpAny_pyIter_list p.isList ?_
    refine ⟨s1.heap.objs.size, [s1.heap.objs.size], _, _, H1, rfl, I1.kept (t' := s1.toks) fun b o e => Heap.get?_push_of_some _ e, turn_list a _, ⟨_, Heap.get?_push_size _ rfl, rfl, rfl⟩, fun b hb => ?_, q⟩
    have e : b = s1.heap.objs.size := by simpa using hb
    subst e
    exact I1.fpOk (Nat.le_refl _) (I1.hok.fresh (Nat.le_refl _))
  · subst e
    cases r1
    obtain ⟨its, rv, p, hz⟩ := I1.tuple hq
    refine wpAny_pyIter_tuple (show s1.heap.IsTuple a its.toArray from p) ?_
    refine ⟨s1.heap.objs.size, [s1.heap.objs.size], _, _, H1, rfl, I1.kept (t' := s1.toks) fun b o e => Heap.get?_push_of_some _ e, turn_tuple a _, ⟨_, Heap.get?_push_size _ rfl, rfl, rfl⟩, fun b hb => ?_, q⟩
    have e : b = s1.heap.objs.size := by simpa using hb
    subst e
    exact I1.fpOk (Nat.le_refl _) (I1.hok.fresh (Nat.le_refl _))
  · subst ex
    obtain ⟨t, rfl⟩ := r1
    cases ha : x.cps.all (· < 128)
    · exact wpAny_pyIter_wide ha (pi_one (tk := s1.toks) I1 _ (turn_str _ x t "str_iterator" (.inr rfl)) ⟨_, Heap.get?_push_size _ rfl, rfl, rfl⟩ q)
    · exact wpAny_pyIter_ascii ha (pi_one (tk := s1.toks) I1 _ (turn_str _ x t "str_ascii_iterator" (.inl rfl)) ⟨_, Heap.get?_push_size _ rfl, rfl, rfl⟩ q)
end
end DI

set_option Elab.async false
set_option linter.all false
set_option maxRecDepth 100000
set_option maxHeartbeats 4000000
namespace DI
open PySem L2

section
variable {X : Cx} {W : Wd} {G : Gm} {Wx : WX} {I : Ien} {k : Nat} {Γ : Cc}
theorem CxI.hu (c : CxI X W Wx G I k Γ) : X.A.units + 64 < cLine := c.room.units
theorem star_of {e : Expr} {es : List Expr} {env : Env} (h : plB e = true) : starEach (e :: es) env = (false, eval e env) :: starEach es env := by
  cases e <;> first | rfl | cases h
theorem star_all : ∀ {es : List Expr} {env : Env}, (∀ e ∈ es, plB e = true) → ∀ pos, (backTo pos (starEach es env)).any (·.1) = false
  | [], _, _, _ => rfl
  | e :: es, env, h, pos => by
    rw [star_of (h e (by simp))]
    have ih := star_all (es := es) (env := env) (fun x hx => h x (by simp [hx])) pos
    show (backTo pos ((false, eval e env) :: starEach es env)).any (·.1) = false
    unfold backTo at ih ⊢
    rw [List.map_cons, List.any_cons, ih]
    rfl
theorem mark_of {e : Expr} {op : CmpOp} (h : plB e = true) : behindInMarks op e = false := by
  cases e <;> first | rfl | cases h
theorem plain_of {e : Expr} (h : plB e = true) : PlainIx e := by
  intro o i
  cases e <;> first | rfl | cases h
theorem fold_of {e : Expr} {env : Env} {x : Value} (h : plB e = true) : foldedSetIterable e env x = pure x := by
  cases e <;> first | rfl | cases h
theorem rc_of {o : Expr} {n : Str} {env : Env} {wh : Sem Value} (h : rcB o = true) : attributeBase o n env wh = wh := by
  cases o <;> try rfl
  rename_i f as kws pos
  cases f <;> try rfl
  cases as <;> try rfl
  cases kws <;> try rfl
  cases h
theorem chkEs_pl {es : Es} : ∀ {xs : List Expr}, chkEs G es Γ xs = true → ∀ e ∈ xs, plB e = true := by
  induction es using Es.rec (motive_1 := fun _ => True) (motive_2 := fun _ => True) (motive_4 := fun _ => True) with
  | nil =>
    intro xs h e he
    cases xs with
    | nil => cases he
    | cons _ _ => simp [chkEs] at h
  | cons e r _ ih =>
    intro xs h x hx
    cases xs with
    | nil => cases hx
    | cons y s =>
      simp only [chkEs, Bool.and_eq_true] at h
      rcases List.mem_cons.mp hx with rfl | hx
      · exact h.1.1
      · exact ih h.2 x hx
  | _ => trivial

theorem glB_of (c : CxI X W Wx G I k Γ) {x : Str} (h : glB Γ x = true) : Gl X x ∧ (x == ("__debug__" : Str)) = false := by
  unfold glB at h
  rw [Bool.and_eq_true] at h
  obtain ⟨h1, h2⟩ := h
  refine ⟨?_, by simpa using h2⟩
  show X.env.scope.names.lookup x = some .globalImplicit
  rw [c.sc]
  split at h1
  · assumption
  · cases h1
theorem slB_of (c : CxI X W Wx G I k Γ) {i : Nat} {x : Str} (h : slB Γ i x = true) : X.N[i]? = some x ∧ Vis X.env.scope x ∧ (x == ("__debug__" : Str)) = false ∧ (x == ("__classdict__" : Str)) = false := by
  unfold slB at h
  simp only [Bool.and_eq_true, decide_eq_true_eq, Bool.not_eq_true'] at h
  obtain ⟨⟨⟨h1, h2⟩, h3⟩, h4⟩ := h
  refine ⟨by rw [c.N]; exact h1, ?_, h3, h4⟩
  unfold Vis
  rw [c.sc]
  unfold visB at h2
  split at h2
  · exact .inl (by assumption)
  · exact .inr (.inl (by assumption))
  · exact .inr (.inr (by assumption))
  · cases h2
theorem locB_of (c : CxI X W Wx G I k Γ) {x : Str} (h : locB Γ x = true) : Loc X.env.scope x ∧ (X.fn x = true ∨ X.env.scope.names.lookup x = some .local) := by
  unfold locB at h
  unfold L2.Loc
  rw [c.sc, c.fnb]
  split at h
  · exact ⟨.inl (by assumption), .inr (by assumption)⟩
  · exact ⟨.inr (by assumption), .inl h⟩
  · cases h
theorem CxI.blk (c : CxI X W Wx G I k Γ) (s : Shared) (H : Hp) (scope : Scope) (C : Addr) (cl : List (Str × Addr)) (fp : List Addr) : CxI (X.blk s H scope (compEnvC scope cl C X.env) fp) W (fun _ _ _ _ => False) G I k (Γ.blk scope) :=
  ⟨c.K, c.N, c.nd, by show relS scope X.env.scope = relS scope Γ.sc; rw [c.sc], rfl, c.calm, takes0, PassesOwn.never, c.room, c.con, c.bi, c.rng, c.fns⟩

/-! ### targets -/
theorem VRel.set {F : Hp} {σ : L2.St} {ρ : View} {i : Nat} {v : V} {t : T} (h : VRel W F σ ρ) (q : Tr W F v t) : VRel W F (σ.set i (some v)) (ρ.set i (some t)) := by
  refine ⟨by rw [List.length_set, List.length_set]; exact h.len, fun j u e => ?_⟩
  by_cases hj : i = j
  · subst hj
    have hl : i < ρ.length := by
      have := (List.getElem?_eq_some_iff.mp e).1
      simpa using this
    rw [List.getElem?_set_self hl] at e
    cases e
    exact ⟨v, by rw [List.getElem?_set_self (by rw [h.len]; exact hl)], q⟩
  · rw [List.getElem?_set_ne hj] at e ⊢
    exact h.get j u e
/-- the reading of a target -/
def rdG (W : Wd) (g : Tg) : TG := fun v σ H Q => ∃ F ρ b t ρ', Sta W F H b ∧ VRel W F σ ρ ∧ Tr W F v t ∧ tgV g t ρ = some ρ' ∧ ∀ σ', VRel W F σ' ρ' → (∀ j : Nat, j ∉ tgSlots g → σ'[j]? = σ[j]?) → Q σ' H
theorem PG.imp {e : Expr} {t t' : TG} (h : PG X e t) (q : ∀ v σ H Q, t' v σ H Q → t v σ H Q) : PG X e t' := ⟨fun pins s σ H v u Q I r z => h.run pins s σ H v u Q I r (q v σ H Q z)⟩
theorem asg_pl {z : Expr} {zs : List Expr} {env : Env} (hz : plB z = true) : assignEach (z :: zs) env = (false, assign z env) :: assignEach zs env := by
  cases z <;> first | rfl | cases hz
theorem tgsB_len : ∀ (gs : Tgs) {xs : List Expr} {env : Env}, tgsB Γ gs xs = true → (assignEach xs env).findIdx? (·.1) = none ∧ (assignEach xs env).length = xs.length
  | .nil, xs, env, h => by
    simp only [tgsB] at h
    split at h
    · exact ⟨rfl, rfl⟩
    · cases h
  | .cons g r, xs, env, h => by
    simp only [tgsB] at h
    split at h
    · simp only [Bool.and_eq_true] at h
      obtain ⟨⟨h1, h2⟩, h3⟩ := h
      obtain ⟨a, b⟩ := tgsB_len r (env := env) h3
      rw [asg_pl h1]
      refine ⟨?_, by simp [b]⟩
      rw [List.findIdx?_cons]
      simp only [Bool.false_eq_true, if_false]
      rw [a]
      rfl
    · cases h
def rdGs (W : Wd) (g : Tgs) : TGs := fun vs σ H Q => ∃ F ρ b ts ρ', Sta W F H b ∧ VRel W F σ ρ ∧ TrL W F vs ts ∧ tgsV g ts ρ = some ρ' ∧ ∀ σ', VRel W F σ' ρ' → (∀ j : Nat, j ∉ tgsSlots g → σ'[j]? = σ[j]?) → Q σ' H
theorem PGs.imp {es : List Expr} {t t' : TGs} (h : PGs X es t) (q : ∀ v σ H Q, t' v σ H Q → t v σ H Q) : PGs X es t' := ⟨fun pins s σ H v u Q I r z => h.run pins s σ H v u Q I r (q v σ H Q z)⟩
theorem tgsV_len : ∀ (gs : Tgs) {xs : List Expr} {ts : List T} {ρ ρ' : View}, tgsB Γ gs xs = true → tgsV gs ts ρ = some ρ' → ts.length = xs.length
  | .nil, xs, ts, ρ, ρ', h, e => by
    simp only [tgsB] at h
    split at h
    · simp only [tgsV] at e
      split at e
      · rfl
      · cases e
    · cases h
  | .cons g r, xs, ts, ρ, ρ', h, e => by
    simp only [tgsB] at h
    split at h
    · simp only [Bool.and_eq_true] at h
      simp only [tgsV] at e
      split at e
      · cases e
      · split at e
        · rw [List.length_cons, List.length_cons, tgsV_len r h.2 e]
        · cases e
    · cases h
mutual
theorem snd_tg (c : CxI X W Wx G I k Γ) : ∀ (g : Tg) (ex : Expr), tgB Γ g ex = true → PG X ex (rdG W g)
  | .name i, ex, h => by
    simp only [tgB] at h
    split at h
    · rename_i x pos
      rw [Bool.and_eq_true, decide_eq_true_eq] at h
      obtain ⟨h1, h2⟩ := locB_of c h.2
      refine PG.imp (pg_name (i := i) (by rw [c.N]; exact c.nd) (by rw [c.N]; exact h.1) h1 h2) fun v σ H Q q => ?_
      obtain ⟨F, ρ, b, t, ρ', st, vr, tr, e, q⟩ := q
      simp only [tgV] at e
      split at e
      · cases e
        exact q _ (vr.set tr) fun j hj => by
          rw [List.getElem?_set_ne (fun e => hj (by simp [tgSlots, e]))]
      · cases e
    · cases h
  | .seq l gs, ex, h => by
    simp only [tgB] at h
    split at h
    · rename_i xs kk pos
      have hg := snd_tgs c gs xs h
      obtain ⟨l1, l2⟩ := tgsB_len gs (env := X.env) h
      cases l with
      | false =>
        refine PG.imp (pg_tup c.calm hg l2 l1) fun v σ H Q q => ?_
        obtain ⟨F, ρ, bg, t, ρ', st, vr, tr, e, q⟩ := q
        cases tr <;> try (cases e)
        rename_i ad vs ts ha z l
        have e : tgsV gs ts ρ = some ρ' := e
        exact ⟨ad, _, rfl, by rw [c.K]; exact SqT.of (st.tup ha), by rw [l.length]; exact tgsV_len gs h e, F, ρ, bg, ts, ρ', st, vr, l, e, q⟩
      | true =>
        refine PG.imp (pg_unl c.calm hg l2 l1) fun v σ H Q q => ?_
        obtain ⟨F, ρ, bg, t, ρ', st, vr, tr, e, q⟩ := q
        cases tr <;> try (cases e)
        rename_i ad vs ts ha z l
        have e : tgsV gs ts ρ = some ρ' := e
        exact ⟨ad, _, rfl, by rw [c.K]; exact SqL.of (st.lst ha), by rw [l.length]; exact tgsV_len gs h e, F, ρ, bg, ts, ρ', st, vr, l, e, q⟩
    · cases h
theorem snd_tgs (c : CxI X W Wx G I k Γ) : ∀ (gs : Tgs) (xs : List Expr), tgsB Γ gs xs = true → PGs X xs (rdGs W gs)
  | .nil, xs, h => by
    simp only [tgsB] at h
    split at h
    · refine PGs.imp pgs_nil fun v σ H Q q => ?_
      obtain ⟨F, ρ, bg, ts, ρ', st, vr, tl, e, q⟩ := q
      simp only [tgsV] at e
      split at e
      · cases e
        cases tl
        exact ⟨rfl, q σ vr fun _ _ => rfl⟩
      · cases e
    · cases h
  | .cons g r, xs, h => by
    simp only [tgsB] at h
    split at h
    · rename_i x s
      simp only [Bool.and_eq_true] at h
      obtain ⟨⟨h1, h2⟩, h3⟩ := h
      refine PGs.imp (pgs_cons (snd_tg c g x h2) (snd_tgs c r s h3) (by rw [asg_pl h1]; rfl)) fun v σ H Q q => ?_
      obtain ⟨F, ρ, bg, ts, ρ', st, vr, tl, e, q⟩ := q
      simp only [tgsV] at e
      split at e
      · cases e
      · rename_i t us
        split at e
        · rename_i ρ1 e1
          cases tl with
          | cons t1 tr =>
            refine ⟨_, _, rfl, F, ρ, bg, t, ρ1, st, vr, t1, e1, fun σ1 v1 k1 => ⟨F, ρ1, bg, us, ρ', st, v1, tr, e, fun σ2 v2 k2 => q σ2 v2 fun j hj => ?_⟩⟩
            simp only [tgsSlots, List.mem_append, not_or] at hj
            rw [k2 j hj.2, k1 j hj.1]
        · cases e
    · cases h
end
end
end DI

set_option Elab.async false
set_option linter.all false
set_option maxRecDepth 100000
set_option maxHeartbeats 8000000
namespace DI
open PySem L2

section
variable {W : Wd} {G : Gm} {Wx : WX} {I : Ien} {k : Nat}

/-- a place that F does not know is written -/
theorem Sta.hid {F H : Hp} {b : Bag} {p : Addr} {o : HO} (st : Sta W F H b) (hp : F p = none) (hB : p ≠ W.B) (hc : p ≠ W.c) : Sta W F (upd H p o) b := by
  refine ⟨fun a u e => ?_, st.fB, st.fc, by rw [upd_ne (Ne.symm hB)]; exact st.bag.1, by rw [upd_ne (Ne.symm hc)]; exact st.bag.2.1, st.bag.2.2⟩
  rw [upd_ne (ne_of_none e hp)]
  exact st.fz a u e
theorem Sta.neB {F H : Hp} {b : Bag} {p : Addr} (st : Sta W F H b) (n : H p = none) : p ≠ W.B := fun e => by
  have := st.bag.1; rw [← e, n] at this; cases this
theorem Sta.neC {F H : Hp} {b : Bag} {p : Addr} (st : Sta W F H b) (n : H p = none) : p ≠ W.c := fun e => by
  have := st.bag.2.1; rw [← e, n] at this; cases this

mutual
theorem tgV_len : ∀ (g : Tg) {t : T} {ρ ρ' : View}, tgV g t ρ = some ρ' → ρ'.length = ρ.length
  | .name i, t, ρ, ρ', e => by simp only [tgV] at e; split at e <;> cases e; simp
  | .seq l gs, t, ρ, ρ', e => by
    simp only [tgV] at e
    split at e
    · exact tgsV_ln gs e
    · exact tgsV_ln gs e
    · cases e
theorem tgsV_ln : ∀ (gs : Tgs) {ts : List T} {ρ ρ' : View}, tgsV gs ts ρ = some ρ' → ρ'.length = ρ.length
  | .nil, ts, ρ, ρ', e => by
    simp only [tgsV] at e
    split at e
    · cases e; rfl
    · cases e
  | .cons g r, ts, ρ, ρ', e => by
    simp only [tgsV] at e
    split at e
    · cases e
    · split at e
      · rename_i q
        rw [tgsV_ln r e, tgV_len g q]
      · cases e
end
theorem lc_loop {σ : L2.St} {ρ : View} {F1 H1 : Hp} {b1 bE : Bag} {J : L2.It} {items ysA : List T} {tg : Tg} {f : View → Ev (Option T)} {tt : TT} {te : TE} {Qd : Hp → Prop} {D : Addr}
    (st1 : Sta W F1 H1 b1) (vr : VRel W F1 σ ρ) (ok : ItOk W F1 J items) (hz : items.length ≤ LIM) (hD : H1 D = none)
    (e : lcE tg (wipeV ρ (tgSlots tg)) f items b1 = some (.ok ysA, bE))
    (turn : ∀ σ2 F H b ρ' o b' (R : Option V → Hp → Prop), Sta W F H b → VRel W F σ2 ρ' → f ρ' b = some (.ok o, b') → (∀ (y : Option V) F' H', Grow F H F' → Keep W H H' → Sta W F' H' b' → (match o, y with
        | none, none => True
        | some t, some v => Tr W F' v t
        | _, _ => False) → R y H') →
      tt σ2 H fun c H3 => if c = true then te σ2 H3 fun y H4 => R (some y) H4 else R none H3)
    (hd : ∀ F H vs, Sta W F H bE → Grow F1 H1 F → Keep W H1 H → F D = none → H D = some (.lst vs) → TrL W F vs ysA → ysA.length ≤ LIM → Qd H) :
    ∃ Wv : Nat → Nat → Hp → Prop, (∃ m, Wv 0 m (upd H1 D (.lst []))) ∧ ∀ i m H, Wv i m H →
      (J.stop i H ∧ Qd H) ∨ (J.go i H ∧ ∃ Nx : Hp → Prop, (∀ H', Nx H' → ∃ m', m' < m ∧ Wv (i + 1) m' H') ∧ ∀ x H', J.yld i H x H' → rdG W tg x (L2.wipe σ (tgSlots tg)) H' fun σ2 H2 => L2.wipe σ2 (tgSlots tg) = L2.wipe σ (tgSlots tg) ∧ tt σ2 H2 fun b H3 =>
        if b = true then te σ2 H3 fun y H4 => ∃ acc, H4 D = some (.lst acc) ∧ acc.length < sizeLine ∧ Nx (upd H4 D (.lst (acc ++ [y]))) else Nx H3) := by
  have nB := st1.neB hD
  have nC := st1.neC hD
  have fD := st1.free hD
  let Iv : Nat → Hp → Prop := fun i H => i ≤ items.length ∧ ∃ F b vs ys rest, Grow F1 H1 F ∧ Keep W H1 H ∧ Sta W F H b ∧ F D = none ∧ H D = some (.lst vs) ∧ TrL W F vs ys ∧ ys.length ≤ i ∧ lcE tg (wipeV ρ (tgSlots tg)) f (items.drop i) b = some (.ok rest, bE) ∧ ys ++ rest = ysA
  refine ⟨fun i m H => m = items.length - i ∧ Iv i H, ⟨items.length, by simp, Nat.zero_le _, F1, b1, [], [], ysA, Grow.refl _ _, Keep.new hD, st1.hid fD nB nC, fD, upd_same, .nil, Nat.le_refl _, by rw [List.drop_zero]; exact e, rfl⟩, ?_⟩
  rintro i m H ⟨rfl, hi, F, b, vs, ys, rest, gr, kp, st, fd, hd', tl, hy, el, ea⟩
  obtain ⟨ok1, ok2⟩ := ok F H b gr.sub st i
  by_cases hlt : i < items.length
  · have ei : items[i]? = some items[i] := by simp [hlt]
    obtain ⟨go, yl⟩ := ok1 _ ei
    refine .inr ⟨go, Iv (i + 1), fun H' q => ⟨items.length - (i + 1), by omega, rfl, q⟩, fun x H' hy' => ?_⟩
    obtain ⟨F', p⟩ := yl x H' hy'
    rw [List.drop_eq_getElem_cons hlt] at el
    simp only [lcE] at el
    obtain ⟨ρ', b', e1', ela⟩ := bind_ok el
    clear el
    obtain ⟨e1, hbb⟩ := of_ok e1'
    clear e1'
    obtain ⟨o, b2, e2', elb⟩ := bind_ok ela
    have e2 := calm_ok e2'
    clear e2'
    clear ela
    obtain ⟨r2, b3, e3, elc⟩ := bind_ok elb
    clear elb
    cases elc
    subst hbb
    have kp' := kp.trans p.keep
    have gr' := gr.trans kp st.bag p.grow
    have fD' : F' D = none := by
      cases q : F' D with
      | none => rfl
      | some u =>
        rcases p.grow.new D u q with z | z
        · rw [fd] at z; cases z
        · rw [hd'] at z; cases z
    have hdD : H' D = some (.lst vs) := p.keep D _ hd' nB
    refine ⟨F', wipeV ρ (tgSlots tg), b', _, ρ', p.sta, ((vr.mono gr'.sub).wipe _), p.tr, e1, fun σ2 v2 k2 => ⟨?_, ?_⟩⟩
    · apply List.ext_getElem?
      intro j
      rw [wipe_get, wipe_get]
      have hl : σ2.length = σ.length := by
        have h1 := v2.len
        rw [h1, tgV_len _ e1, ← ((vr.mono gr'.sub).wipe (tgSlots tg)).len, wipe_length]
      rw [hl]
      by_cases hj : j ∈ tgSlots tg
      · rw [if_pos hj, if_pos hj]
      · rw [if_neg hj, if_neg hj, k2 j hj, wipe_get, if_neg hj]
    · have cases2 : ∀ (ysN : List T) (vsN : List V) (Fn Hn : Hp), Grow F' H' Fn → Keep W H1 Hn → Sta W Fn Hn b2 → TrL W Fn vsN ysN → ysN.length ≤ i + 1 → ysN ++ r2 = ysA → Hn D = some (.lst vsN) → Iv (i + 1) Hn := by
        intro ysN vsN Fn Hn g1 k1 s1 t1 l1 a1 d1
        refine ⟨hlt, Fn, b2, vsN, ysN, r2, gr'.trans kp' p.sta.bag g1, k1, s1, ?_, d1, t1, l1, e3, a1⟩
        cases q : Fn D with
        | none => rfl
        | some u =>
          rcases g1.new D u q with z | z
          · rw [fD'] at z; cases z
          · rw [hdD] at z; cases z
      refine turn σ2 F' H' b' ρ' o b2 (fun y H4 => match y with
        | some y => ∃ acc, H4 D = some (.lst acc) ∧ acc.length < sizeLine ∧ Iv (i + 1) (upd H4 D (.lst (acc ++ [y])))
        | none => Iv (i + 1) H4) p.sta v2 e2 fun y F4 H4 g4 k4 s4 q4 => ?_
      have hd4 : H4 D = some (.lst vs) := k4 D _ hdD nB
      have f4 : F4 D = none := by
        cases q : F4 D with
        | none => rfl
        | some u =>
          rcases g4.new D u q with z | z
          · rw [fD'] at z; cases z
          · rw [hdD] at z; cases z
      have tl4 : TrL W F4 vs ys := (tl.mono p.grow.sub).mono g4.sub
      cases o with
      | none =>
        cases y with
        | some _ => exact q4.elim
        | none =>
          exact cases2 ys vs F4 H4 g4 (kp'.trans k4) s4 tl4 (by omega) ea hd4
      | some t =>
        cases y with
        | none => exact q4.elim
        | some v =>
          refine ⟨vs, hd4, ?_, ?_⟩
          · have h1 := tl.length
            have h2 := LIM_lt
            omega
          · have k5 : Keep W H1 (upd H4 D (.lst (vs ++ [v]))) := fun a u h n => by
              rw [upd_ne (ne_of_none h hD)]
              exact (kp'.trans k4) a u h n
            exact cases2 (ys ++ [t]) (vs ++ [v]) F4 _ g4 k5 (s4.hid f4 nB nC) (tl4.append (.cons q4 .nil)) (by simp; omega) (by rw [← ea]; simp [consO]) upd_same
  · have hii : i = items.length := by omega
    subst hii
    rw [List.drop_length] at el
    cases el
    rw [List.append_nil] at ea
    subst ea
    exact .inl ⟨ok2 (Nat.le_refl _), hd F H vs st gr kp fd hd' tl (Nat.le_trans hy hz)⟩
end
end DI

set_option Elab.async false
set_option linter.all false
set_option maxRecDepth 100000
set_option maxHeartbeats 8000000
namespace DI
open PySem L2

/-! ### steps of a reading -/
structure Go (W : Wd) (F H : Hp) (b1 : Bag) (F1 H1 : Hp) : Prop where
  grow : Grow F H F1
  keep : Keep W H H1
  sta : Sta W F1 H1 b1
section
variable {W : Wd} {Wx : WX} {F H F1 H1 F2 H2 : Hp} {b b1 b2 : Bag} {σ : L2.St} {ρ : View}
theorem Go.refl (st : Sta W F H b) : Go W F H b F H := ⟨Grow.refl _ _, Keep.refl _ _, st⟩
theorem Go.trans (g : Go W F H b1 F1 H1) (g' : Go W F1 H1 b2 F2 H2) : Go W F H b2 F2 H2 := ⟨g.grow.trans g.keep g.sta.bag g'.grow, g.keep.trans g'.keep, g'.sta⟩
theorem Post.go {t : T} {v : V} (p : Post W F H b1 t v F1 H1) : Go W F H b1 F1 H1 := ⟨p.grow, p.keep, p.sta⟩
theorem PostL.go {t : List T} {v : List V} (p : PostL W F H b1 t v F1 H1) : Go W F H b1 F1 H1 := ⟨p.grow, p.keep, p.sta⟩
theorem Go.post {t : T} {v : V} (g : Go W F H b1 F1 H1) (p : Post W F1 H1 b2 t v F2 H2) : Post W F H b2 t v F2 H2 := ⟨(g.trans p.go).grow, (g.trans p.go).keep, p.sta, p.tr⟩
theorem Go.postL {t : List T} {v : List V} (g : Go W F H b1 F1 H1) (p : PostL W F1 H1 b2 t v F2 H2) : PostL W F H b2 t v F2 H2 := ⟨(g.trans p.go).grow, (g.trans p.go).keep, p.sta, p.tr⟩
theorem Go.at {t : T} {v : V} (g : Go W F H b1 F1 H1) (h : Tr W F1 v t) : Post W F H b1 t v F1 H1 := ⟨g.grow, g.keep, g.sta, h⟩
theorem Go.x {x : Xc} {b' : Bag} (g : Go W F H b1 F1 H1) (h : WXat W Wx σ F H x b') : WXat W Wx σ F1 H1 x b' := h.go g.grow g.keep g.sta
section
variable {α β : Type} {g : α → Ev β} {Qf : β → Bag → Prop}
theorem rd_next {m : View → Ev T} {g : T → Ev β} {R : VK} (go : Go W F H b1 F1 H1) (vr : VRel W F1 σ ρ) (q : wpE (Ev.bind (m ρ) g) b1 Qf (WXat W Wx σ F H))
    (k : ∀ x b2 v F2 H2, Post W F1 H1 b2 x v F2 H2 → wpE (g x) b2 Qf (WXat W Wx σ F H) → R v H2) : rdE W Wx m σ H1 R :=
  ⟨F1, ρ, b1, go.sta, vr, wpE_mono (wpE_bind.mp q) (fun x b2 q2 v F2 H2 p => k x b2 v F2 H2 p q2) fun x b' h => go.x h⟩
theorem rd_last {m : View → Ev T} {Q : VK} (go : Go W F H b1 F1 H1) (vr : VRel W F1 σ ρ) (q : wpE (m ρ) b1 (fun t b' => ∀ v F' H', Post W F H b' t v F' H' → Q v H') (WXat W Wx σ F H)) : rdE W Wx m σ H1 Q :=
  ⟨F1, ρ, b1, go.sta, vr, wpE_mono q (fun x b2 q2 v F2 H2 p => q2 v F2 H2 (go.post p)) fun x b' h => go.x h⟩
theorem rdT_next {m : View → Ev Bool} {g : Bool → Ev β} {R : Bool → Hp → Prop} (go : Go W F H b1 F1 H1) (vr : VRel W F1 σ ρ) (q : wpE (Ev.bind (m ρ) g) b1 Qf (WXat W Wx σ F H))
    (k : ∀ x b2 F2 H2, Go W F1 H1 b2 F2 H2 → wpE (g x) b2 Qf (WXat W Wx σ F H) → R x H2) : rdT W Wx m σ H1 R :=
  ⟨F1, ρ, b1, go.sta, vr, wpE_mono (wpE_bind.mp q) (fun x b2 q2 F2 H2 h1 h2 h3 => k x b2 F2 H2 ⟨h1, h2, h3⟩ q2) fun x b' h => go.x h⟩
theorem rdT_last {m : View → Ev Bool} {Q : Bool → Hp → Prop} (go : Go W F H b1 F1 H1) (vr : VRel W F1 σ ρ) (q : wpE (m ρ) b1 (fun t b' => ∀ F' H', Grow F H F' → Keep W H H' → Sta W F' H' b' → Q t H') (WXat W Wx σ F H)) : rdT W Wx m σ H1 Q :=
  ⟨F1, ρ, b1, go.sta, vr, wpE_mono q (fun x b2 q2 F2 H2 h1 h2 h3 => q2 F2 H2 (go.trans ⟨h1, h2, h3⟩).grow (go.trans ⟨h1, h2, h3⟩).keep h3) fun x b' h => go.x h⟩
theorem rdA_next {m : View → Ev (List T)} {g : List T → Ev β} {R : List V → Hp → Prop} (go : Go W F H b1 F1 H1) (vr : VRel W F1 σ ρ) (q : wpE (Ev.bind (m ρ) g) b1 Qf (WXat W Wx σ F H))
    (k : ∀ x b2 v F2 H2, PostL W F1 H1 b2 x v F2 H2 → wpE (g x) b2 Qf (WXat W Wx σ F H) → R v H2) : rdA W Wx m σ H1 R :=
  ⟨F1, ρ, b1, go.sta, vr, wpE_mono (wpE_bind.mp q) (fun x b2 q2 v F2 H2 p => k x b2 v F2 H2 p q2) fun x b' h => go.x h⟩
theorem rdI_next {m : View → Ev (List T)} {g : List T → Ev β} {R : L2.It → Hp → Prop} (go : Go W F H b1 F1 H1) (vr : VRel W F1 σ ρ) (q : wpE (Ev.bind (m ρ) g) b1 Qf (WXat W Wx σ F H))
    (k : ∀ x b2 J F2 H2, Go W F1 H1 b2 F2 H2 → ItOk W F2 J x → x.length ≤ LIM → wpE (g x) b2 Qf (WXat W Wx σ F H) → R J H2) : rdI W Wx m σ H1 R :=
  ⟨F1, ρ, b1, go.sta, vr, wpE_mono (wpE_bind.mp q) (fun x b2 q2 J F2 H2 h1 h2 h3 h4 h5 => k x b2 J F2 H2 ⟨h1, h2, h3⟩ h4 h5 q2) fun x b' h => go.x h⟩
end
end
section
variable {W : Wd} {G : Gm} {Wx : WX} {I : Ien} {k : Nat}

/-! ### one rule an expression -/
section
variable {X : Cx} {Γ : Cc}
theorem se_var (c : CxI X W Wx G I k Γ) {i : Nat} {ex : Expr} (h : chkE G (.var i) Γ ex = true) : PE X ex (rdE W Wx (evE I (.var i))) := by
  simp only [chkE] at h
  split at h
  · rename_i x pos
    obtain ⟨h1, h2, h3, h4⟩ := slB_of c h
    refine PE.imp (pe_var h1 h2 h3 h4) fun σ H Q ⟨F, ρ, b, st, vr, q⟩ => ?_
    obtain ⟨t, ek1, q⟩ := wpE_of.mp (show wpE (Ev.of _) b _ _ from q)
    have e' : ρ[i]? = some (some t) := by
      split at ek1
      · cases ek1; assumption
      · cases ek1
    obtain ⟨v, e2, tr⟩ := vr.get i t e'
    exact ⟨v, e2, q v F H (.same st tr)⟩
  · cases h
theorem se_con (c : CxI X W Wx G I k Γ) {t : T} {ex : Expr} (h : chkE G (.con t) Γ ex = true) : PE X ex (rdE W Wx (evE I (.con t))) := by
  simp only [chkE] at h
  split at h
  · rename_i cc j pos
    have go : ∀ {v : V}, (∀ F, Tr W F v t) → PE X (.Constant cc j pos) (tC v) → PE X (.Constant cc j pos) (rdE W Wx (evE I (.con t))) := fun {v} ht hp => by
      refine PE.imp hp fun σ H Q ⟨F, ρ, b, st, vr, q⟩ => ?_
      exact q v F H (.same st (ht F))
    unfold cnB at h
    split at h
    · exact go (fun F => .non) pe_non
    · rw [beq_iff_eq] at h; subst h; exact go (fun F => .bl _) pe_bl
    · rw [decide_eq_true_eq] at h; subst h; exact go (fun F => .int _) pe_int
    · rw [Bool.and_eq_true, decide_eq_true_eq, decide_eq_true_eq] at h
      obtain ⟨rfl, h⟩ := h
      exact go (fun F => .str _ h) pe_str
    · cases h
  · cases h
theorem se_glob (c : CxI X W Wx G I k Γ) {x : Str} {t : T} {ex : Expr} (h : chkE G (.glob x t) Γ ex = true) : PE X ex (rdE W Wx (evE I (.glob x t))) := by
  simp only [chkE] at h
  split at h
  · rename_i y pos
    simp only [Bool.and_eq_true, decide_eq_true_eq] at h
    obtain ⟨⟨rfl, h1⟩, h2⟩ := h
    obtain ⟨g1, g2⟩ := glB_of c h1
    unfold conB at h2
    split at h2
    · rename_i u hu
      have := eqA_eq h2
      subst this
      obtain ⟨v, w, hw, rv, tr⟩ := c.con x u hu
      have go : PE X (.Name x pos) (tC v) := by
        rcases hw with hw | ⟨hw, hb, hn⟩
        · exact pe_glob g1 hw rv g2
        · exact pe_bltn g1 hw hb rv hn g2
      exact PE.imp go fun σ H Q ⟨F, ρ, b, st, vr, q⟩ => q v F H (.same st (tr F))
    · cases h2
  · cases h
theorem se_op2 {a b : E} {l r : Expr} {rr : R2} {g : T → T → Option T} {e' : E} {ex : Expr} (ha : PE X l (rdE W Wx (evE I a))) (hb : PE X r (rdE W Wx (evE I b)))
    (hr : ∀ x y H Q, rTT W g x y H Q → rr x y H Q) (hx : PE X ex (tOp rr (rdE W Wx (evE I a)) (rdE W Wx (evE I b))))
    (he : ∀ ρ, evE I e' ρ = Ev.bind (evE I a ρ) fun x => Ev.bind (evE I b ρ) fun y => Ev.of (g x y)) : PE X ex (rdE W Wx (evE I e')) := by
  refine PE.imp hx fun σ H Q ⟨F, ρ, bg, st, vr, q⟩ => ?_
  rw [he] at q
  exact rd_next (.refl st) vr q fun x b1 v1 F1 H1 p1 q => rd_next p1.go (vr.mono p1.grow.sub) q fun y b2 v2 F2 H2 p2 q =>
    let ⟨t, e, q⟩ := wpE_of.mp q
    hr _ _ _ _ ⟨F2, b2, x, y, t, p2.sta, p1.tr.mono p2.grow.sub, p2.tr, e, fun v F' H' p => q v F' H' (p1.trans (p2.trans p))⟩
/-- the truth of a value -/
theorem se_tru {α : Type} {a : E} {σ : L2.St} {F H : Hp} {ρ : View} {b : Bag} {Q : Bool → V → Hp → Prop} {g : T → Bool → Ev α} {Qf : α → Bag → Prop} (hK : X.K = W.K) (st : Sta W F H b) (vr : VRel W F σ ρ)
    (e : wpE (Ev.bind (evE I a ρ) fun x => Ev.bind (Ev.of (truT x)) fun k => g x k) b Qf (WXat W Wx σ F H))
    (q : ∀ x kk b1 v F1 H1, Post W F H b1 x v F1 H1 → wpE (g x kk) b1 Qf (WXat W Wx σ F H) → Q kk v H1) : rdE W Wx (evE I a) σ H fun v H1 => ∃ c, TruV X.K v H1 c ∧ Q c v H1 :=
  rd_next (.refl st) vr e fun x b1 v F1 H1 p e =>
    let ⟨kk, e2, e⟩ := wpE_of.mp (wpE_bind.mp e)
    ⟨kk, by rw [hK]; exact truV_of p.sta p.tr e2, q x kk b1 v F1 H1 p e⟩
theorem se_not (c : CxI X W Wx G I k Γ) {a : E} {x : Expr} {pos : Pos} (ha : PE X x (rdE W Wx (evE I a))) : PE X (.UnaryOp .Not x pos) (rdE W Wx (evE I (.not a))) := by
  refine PE.imp (pe_notT ha) fun σ H Q ⟨F, ρ, bg, st, vr, q⟩ => ?_
  refine rd_next (.refl st) vr (show wpE (Ev.bind (evE I a ρ) fun x => Ev.of ((truT x).map fun b => T.bl (!b))) bg _ _ from q) fun x b1 v F1 H1 p q => ?_
  obtain ⟨t, e, q⟩ := wpE_of.mp q
  rw [Option.map_eq_some_iff] at e
  obtain ⟨kk, e2, rfl⟩ := e
  exact ⟨kk, by rw [c.K]; exact truV_of p.sta p.tr e2, q _ F1 H1 (p.go.at (.bl _))⟩
theorem se_and (c : CxI X W Wx G I k Γ) {a b : E} {x y : Expr} {r : List Expr} {pos : Pos} (ha : PE X x (rdE W Wx (evE I a))) (hb : PE X (.BoolOp .And (y :: r) pos) (rdE W Wx (evE I b))) :
    PE X (.BoolOp .And (x :: y :: r) pos) (rdE W Wx (evE I (.and a b))) := by
  refine PE.imp (pe_andT ha hb) fun σ H Q ⟨F, ρ, bg, st, vr, q⟩ => ?_
  refine se_tru (Q := fun c v H1 => if c = true then rdE W Wx (evE I b) σ H1 Q else Q v H1) c.K st vr (show wpE (Ev.bind (evE I a ρ) fun x => Ev.bind (Ev.of (truT x)) fun k => if k then evE I b ρ else Ev.pure x) bg _ _ from q) fun x kk b1 v F1 H1 p q => ?_
  cases kk with
  | true =>
    rw [if_pos rfl]
    exact rd_last p.go (vr.mono p.grow.sub) q
  | false =>
    rw [if_neg Bool.false_ne_true]
    exact (show wpE (Ev.pure x) b1 _ _ from q) v F1 H1 p
theorem se_or (c : CxI X W Wx G I k Γ) {a b : E} {x y : Expr} {r : List Expr} {pos : Pos} (ha : PE X x (rdE W Wx (evE I a))) (hb : PE X (.BoolOp .Or (y :: r) pos) (rdE W Wx (evE I b))) :
    PE X (.BoolOp .Or (x :: y :: r) pos) (rdE W Wx (evE I (.or a b))) := by
  refine PE.imp (pe_orT ha hb) fun σ H Q ⟨F, ρ, bg, st, vr, q⟩ => ?_
  refine se_tru (Q := fun c v H1 => if c = true then Q v H1 else rdE W Wx (evE I b) σ H1 Q) c.K st vr (show wpE (Ev.bind (evE I a ρ) fun x => Ev.bind (Ev.of (truT x)) fun k => if k then Ev.pure x else evE I b ρ) bg _ _ from q) fun x kk b1 v F1 H1 p q => ?_
  cases kk with
  | true =>
    rw [if_pos rfl]
    exact (show wpE (Ev.pure x) b1 _ _ from q) v F1 H1 p
  | false =>
    rw [if_neg Bool.false_ne_true]
    exact rd_last p.go (vr.mono p.grow.sub) q
theorem chain_rd {op op' : CmpOp} {a b d : E} {σ : L2.St} {H : Hp} {Q : VK} (q : rdE W Wx (evE I (.chain op op' a b d)) σ H Q) : tChain (rTT W (cmpT op)) (rTT W (cmpT op')) (rdE W Wx (evE I a)) (rdE W Wx (evE I b)) (rdE W Wx (evE I d)) σ H Q := by
  obtain ⟨F, ρ, bg, st, vr, q⟩ := q
  refine rd_next (.refl st) vr (show wpE (Ev.bind (evE I a ρ) _) bg _ _ from q) fun u b1 v1 F1 H1 p1 q => rd_next p1.go (vr.mono p1.grow.sub) q fun w b2 v2 F2 H2 p2 q => ?_
  obtain ⟨m, e3, q⟩ := wpE_of.mp (wpE_bind.mp q)
  refine ⟨F2, b2, u, w, m, p2.sta, p1.tr.mono p2.grow.sub, p2.tr, e3, fun v3 F3 H3 p3 => ?_⟩
  have p123 := p1.trans (p2.trans p3)
  cases p3.tr with
  | bl kk =>
    refine ⟨kk, rfl, ?_⟩
    cases kk with
    | true =>
      rw [if_pos rfl]
      refine rd_next p123.go (vr.mono p123.grow.sub) (show wpE (Ev.bind (evE I d ρ) fun w' => Ev.of (cmpT op' w w')) b2 _ _ from q) fun n b4 v4 F4 H4 p4 q => ?_
      obtain ⟨t, e4, q⟩ := wpE_of.mp q
      exact ⟨F4, b4, w, n, t, p4.sta, (p2.tr.mono p3.grow.sub).mono p4.grow.sub, p4.tr, e4, fun v F' H' p => q v F' H' (p123.trans (p4.trans p))⟩
    | false =>
      rw [if_neg Bool.false_ne_true]
      exact (show wpE (Ev.pure (T.bl false)) b2 _ _ from q) _ F3 H3 p123
  | _ => exact (wpE_no (show wpE (Ev.no : Ev T) b2 _ _ from q)).elim
theorem se_chain (c : CxI X W Wx G I k Γ) {op op' : CmpOp} {a b d : E} {x y z : Expr} {pos : Pos} (ha : PE X x (rdE W Wx (evE I a))) (hb : PE X y (rdE W Wx (evE I b))) (hd : PE X z (rdE W Wx (evE I d))) (hp : plB z = true) :
    PE X (.Compare x [op, op'] [y, z] pos) (rdE W Wx (evE I (.chain op op' a b d))) :=
  PE.imp (pe_chain (op_cmpT c.K c.hu op) (op_cmpT c.K c.hu op') ha hb hd (by show behindInMarks op' z = false; exact mark_of hp)) fun σ H Q q => chain_rd q
/-- a value as a test -/
theorem st_val (c : CxI X W Wx G I k Γ) {a : E} {x : Expr} (ha : PE X x (rdE W Wx (evE I a))) (hx : tsB x = true) : PT X x (rdT W Wx (evT I (.tr a))) := by
  refine PT.imp (pt_truth ha (fun wh => by cases x <;> first | rfl | cases hx | (rename_i op _ _; cases op <;> first | rfl | cases hx))) fun σ H Q ⟨F, ρ, bg, st, vr, q⟩ => ?_
  refine rd_next (.refl st) vr (show wpE (Ev.bind (evE I a ρ) fun x => Ev.of (truT x)) bg _ _ from q) fun x b1 v F1 H1 p q => ?_
  obtain ⟨kk, e2, q⟩ := wpE_of.mp q
  exact ⟨kk, by rw [c.K]; exact truV_of p.sta p.tr e2, q F1 H1 p.grow p.keep p.sta⟩
/-- a comparison as a test -/
theorem st_tst {a : E} {x : Expr} {te : TE} (ha : ∀ σ H Q, rdE W Wx (evE I a) σ H Q → te σ H Q) (hx : PT X x (tTest te)) (hb : ∀ ρ b Q Xq, wpE (evE I a ρ) b Q Xq → wpE (evE I a ρ) b (fun t b' => Q t b' ∧ ∃ kk, t = .bl kk) Xq) : PT X x (rdT W Wx (evT I (.tr a))) := by
  refine PT.imp hx fun σ H Q ⟨F, ρ, bg, st, vr, q⟩ => ?_
  refine ha _ _ _ ⟨F, ρ, bg, st, vr, wpE_mono (hb _ _ _ _ (wpE_bind.mp (show wpE (Ev.bind (evE I a ρ) fun x => Ev.of (truT x)) bg _ _ from q))) (fun t b1 q v F1 H1 p => ?_) fun _ _ h => h⟩
  obtain ⟨q, kk, rfl⟩ := q
  cases p.tr
  exact ⟨_, rfl, (show wpE (Ev.pure kk) b1 _ _ from q) F1 H1 p.grow p.keep p.sta⟩
theorem cmpT_bl {op : CmpOp} {x y t : T} (h : cmpT op x y = some t) : ∃ kk, t = .bl kk := by
  unfold cmpT at h
  split at h
  case h_1 => rw [Option.map_eq_some_iff] at h; obtain ⟨_, _, rfl⟩ := h; exact ⟨_, rfl⟩
  case h_2 => rw [Option.map_eq_some_iff] at h; obtain ⟨_, _, rfl⟩ := h; exact ⟨_, rfl⟩
  case h_7 => rw [Option.map_eq_some_iff] at h; obtain ⟨_, _, rfl⟩ := h; exact ⟨_, rfl⟩
  case h_8 => rw [Option.map_eq_some_iff] at h; obtain ⟨_, _, rfl⟩ := h; exact ⟨_, rfl⟩
  all_goals (split at h <;> cases h <;> exact ⟨_, rfl⟩)
end
end
end DI

set_option Elab.async false
set_option linter.all false
set_option maxRecDepth 100000
set_option maxHeartbeats 8000000
namespace DI
open PySem L2

section
variable {W : Wd} {G : Gm} {Wx : WX} {I : Ien} {k : Nat}
section
variable {X : Cx} {Γ : Cc}

theorem sa_nil : PA X [] (rdA W Wx (evEs I .nil)) :=
  PA.imp pa_nil fun σ H Q ⟨F, ρ, bg, st, vr, q⟩ => q [] F H ⟨Grow.refl _ _, Keep.refl _ _, st, .nil⟩
theorem sa_cons {e : E} {r : Es} {x : Expr} {xs : List Expr} (he : PE X x (rdE W Wx (evE I e))) (hr : PA X xs (rdA W Wx (evEs I r))) (hp : plB x = true) : PA X (x :: xs) (rdA W Wx (evEs I (.cons e r))) :=
  PA.imp (pa_cons he hr (star_of hp)) fun σ H Q ⟨F, ρ, bg, st, vr, q⟩ =>
    rd_next (.refl st) vr (show wpE (Ev.bind (evE I e ρ) fun x => Ev.bind (evEs I r ρ) fun xs => Ev.pure (x :: xs)) bg _ _ from q) fun x b1 v1 F1 H1 p1 q => rdA_next p1.go (vr.mono p1.grow.sub) q fun ys b2 vs F2 H2 p2 q =>
      q _ F2 H2 ⟨(p1.go.trans p2.go).grow, (p1.go.trans p2.go).keep, p2.sta, .cons (p1.tr.mono p2.grow.sub) p2.tr⟩
theorem PostL.end {F H F' H' F'' H'' : Hp} {b b' : Bag} {ts : List T} {vs : List V} {t : T} {v : V} (p : PostL W F H b ts vs F' H') (q : Post W F' H' b' t v F'' H'') : Post W F H b' t v F'' H'' := p.go.post q
/-- arguments, then a function of their worth -/
theorem se_args {es : Es} {xs : List Expr} {ex : Expr} {r : L2.St → List V → Hp → VK → Prop} {e' : E} {g : List T → Ev T} (hx : PE X ex (fun σ H Q => rdA W Wx (evEs I es) σ H fun vs H1 => r σ vs H1 Q))
    (he : ∀ ρ, evE I e' ρ = Ev.bind (evEs I es ρ) g)
    (hr : ∀ σ vs H Q F b ts, Sta W F H b → TrL W F vs ts → wpE (g ts) b (fun t b' => ∀ v F' H', Post W F H b' t v F' H' → Q v H') (WXat W Wx σ F H) → r σ vs H Q) : PE X ex (rdE W Wx (evE I e')) := by
  refine PE.imp hx fun σ H Q ⟨F, ρ, bg, st, vr, q⟩ => ?_
  rw [he] at q
  exact rdA_next (.refl st) vr q fun ts b1 vs F1 H1 p1 q => hr σ vs H1 Q F1 b1 ts p1.sta p1.tr (wpE_mono q (fun t b' q v F' H' p => q v F' H' (p1.end p)) fun x b' h => p1.go.x h)
theorem se_tup {es : Es} {xs : List Expr} {n : Nat} {pos : Pos} (ha : PA X xs (rdA W Wx (evEs I es))) : PE X (.Tuple xs n pos) (rdE W Wx (evE I (.tup es))) := by
  refine se_args (xs := xs) (r := fun σ => _) (pe_tup ha) (fun ρ => rfl) fun σ vs H Q F b ts st tl e => ?_
  obtain ⟨t, e, q⟩ := wpE_of.mp e
  split at e
  · rename_i hl
    cases e
    exact ⟨by rw [tl.length]; exact Nat.le_trans hl LIM_le, tr_tup st hl tl q⟩
  · cases e
theorem se_lst {es : Es} {xs : List Expr} {pos : Pos} (ha : PA X xs (rdA W Wx (evEs I es))) : PE X (.List xs pos) (rdE W Wx (evE I (.lst es))) := by
  refine se_args (xs := xs) (r := fun σ => _) (pe_lst ha) (fun ρ => rfl) fun σ vs H Q F b ts st tl e => ?_
  obtain ⟨t, e, q⟩ := wpE_of.mp e
  split at e
  · rename_i hl
    cases e
    exact ⟨by rw [tl.length]; exact Nat.le_trans hl LIM_le, tr_lst st hl tl q⟩
  · cases e
/-- what a def's call is worth -/
theorem spF_of {W : Wd} {Wx : WX} {n : Nat} {c : List T → Ev T} {σ : L2.St} {F H : Hp} {b : Bag} {ts : List T} {vs : List V} {Q : VK} (st : Sta W F H b) (tl : TrL W F vs ts) (hl : vs.length = n) (q : wpE (c ts) b (fun t b' => ∀ v F' H', Post W F H b' t v F' H' → Q v H') (WXat W Wx σ F H)) : spF W n c vs H Q (WE Wx σ) :=
  ⟨F, b, ts, hl, st, tl, wpE_mono q (fun _ _ h => h) fun x b' h cls d F' H' p => h cls d F' H' p⟩
theorem call_len {c : List T → Ev T} {n : Nat} {b : Bag} {ts : List T} {Q : T → Bag → Prop} {Xq : Xc → Bag → Prop} (hl : ∀ b r, c ts b = some r → ts.length = n) (q : wpE (c ts) b Q Xq) : ts.length = n := by
  unfold wpE at q
  split at q
  · exact q.elim
  · exact hl b _ (by assumption)
  · exact hl b _ (by assumption)
theorem se_call (c : CxI X W Wx G I k Γ) {f : Nat} {es : Es} {x : Str} {e : Expr} {r : List Expr} {p pos : Pos} (hf : fnB G Γ f x = true) (ha : PA X (e :: r) (rdA W Wx (evEs I es))) (hp : ∀ z ∈ e :: r, plB z = true) :
    PE X (.Call (.Name x p) (e :: r) [] pos) (rdE W Wx (evE I (.call f es))) := by
  unfold fnB at hf
  rw [Bool.and_eq_true, decide_eq_true_eq] at hf
  obtain ⟨g1, g2⟩ := glB_of c hf.2
  obtain ⟨a, fd, ok, hm, hk, hb, _⟩ := c.fns.fn f x hf.1
  refine se_args (xs := e :: r) (r := fun σ vs H Q => spF W (I.pars f).length (I.call f) (vs ++ []) H Q (WE Wx σ)) (pe_callSD (E := WE Wx) (dvs := []) ok c.room g1 hm hk hb .nil (fun σ => passAt c.tk σ) ha g2 (star_of (hp e (by simp))) (star_all (fun z hz => hp z (by simp [hz])) pos)) (fun ρ => rfl) fun σ vs H Q F b ts st tl q => ?_
  rw [List.append_nil]
  exact spF_of st tl (by rw [tl.length]; exact call_len (fun b r h => c.fns.len f ts b r h) q) q
theorem permG_rel {α β : Type} {R : α → β → Prop} {ps ks : List Str} {xs : List α} {ys : List β} (h : Paired R xs ys) : Paired R (permG ps ks xs) (permG ps ks ys) := by
  have key : ∀ (ks : List Str) (xs : List α) (ys : List β) (p : Str), Paired R xs ys → (∃ x y, (ks.zip xs).lookup p = some x ∧ (ks.zip ys).lookup p = some y ∧ R x y) ∨ ((ks.zip xs).lookup p = none ∧ (ks.zip ys).lookup p = none) := by
    intro ks
    induction ks with
    | nil => intro xs ys p h; exact .inr ⟨rfl, rfl⟩
    | cons q ks ih =>
      intro xs ys p h
      cases h with
      | nil => exact .inr ⟨rfl, rfl⟩
      | cons r t =>
        simp only [List.zip_cons_cons, List.lookup_cons]
        cases hq : p == q with
        | true => exact .inl ⟨_, _, rfl, rfl, r⟩
        | false => exact ih _ _ p t
  unfold permG
  induction ps with
  | nil => exact .nil
  | cons p ps ih =>
    rw [List.filterMap_cons, List.filterMap_cons]
    rcases key ks xs ys p h with ⟨x, y, e1, e2, r⟩ | ⟨e1, e2⟩
    · rw [e1, e2]; exact .cons r ih
    · rw [e1, e2]; exact ih
theorem TrL.paired {F : Hp} : ∀ {vs : List V} {ts : List T}, TrL W F vs ts → Paired (Tr W F) vs ts
  | _, _, .nil => .nil
  | _, _, .cons h l => .cons h (TrL.paired l)
theorem TrL.of_paired {F : Hp} : ∀ {vs : List V} {ts : List T}, Paired (Tr W F) vs ts → TrL W F vs ts
  | _, _, .nil => .nil
  | _, _, .cons h l => .cons h (TrL.of_paired l)
theorem PK.imp {kws : List Keyword} {t t' : TA} (h : PK X kws t) (q : ∀ σ H Q, t' σ H Q → t σ H Q) : PK X kws t' := ⟨fun pos pins s σ H Q I z => h.run pos pins s σ H Q I (q σ H Q z)⟩
theorem sk_nil : PK X [] (rdA W Wx (evEs I .nil)) :=
  PK.imp pk_nil fun σ H Q ⟨F, ρ, bg, st, vr, q⟩ => q [] F H ⟨Grow.refl _ _, Keep.refl _ _, st, .nil⟩
theorem sk_cons {e : E} {r : Es} {x : Expr} {kws : List Keyword} {nm : Option Str} {kp : Pos} (he : PE X x (rdE W Wx (evE I e))) (hr : PK X kws (rdA W Wx (evEs I r))) : PK X (⟨nm, x, kp⟩ :: kws) (rdA W Wx (evEs I (.cons e r))) :=
  PK.imp (pk_cons he hr) fun σ H Q ⟨F, ρ, bg, st, vr, q⟩ =>
    rd_next (.refl st) vr (show wpE (Ev.bind (evE I e ρ) fun x => Ev.bind (evEs I r ρ) fun xs => Ev.pure (x :: xs)) bg _ _ from q) fun x b1 v1 F1 H1 p1 q => rdA_next p1.go (vr.mono p1.grow.sub) q fun ys b2 vs F2 H2 p2 q =>
      q _ F2 H2 ⟨(p1.go.trans p2.go).grow, (p1.go.trans p2.go).keep, p2.sta, .cons (p1.tr.mono p2.grow.sub) p2.tr⟩
theorem kw_all {kws : List Keyword} {env : Env} {pos : Pos} {ks : List Str} (h : kws.map (·.arg) = ks.map some) : (backToKw pos (keywordEach kws env)).all (·.1.isSome) = true ∧ (backToKw pos (keywordEach kws env)).filterMap (·.1) = ks ∧ (backToKw pos (keywordEach kws env)).any (·.1.isNone) = false := by
  induction kws generalizing ks with
  | nil =>
    cases ks with
    | nil => exact ⟨rfl, rfl, rfl⟩
    | cons _ _ => cases h
  | cons kw r ih =>
    cases ks with
    | nil => cases h
    | cons x ks =>
      obtain ⟨nm, e, p⟩ := kw
      simp only [List.map_cons, List.cons.injEq] at h
      obtain ⟨h1, h2⟩ := h
      subst h1
      obtain ⟨i1, i2, i3⟩ := ih h2
      refine ⟨?_, ?_, ?_⟩
      · show (true && (backToKw pos (keywordEach r env)).all (·.1.isSome)) = true
        rw [i1]; rfl
      · show x :: (backToKw pos (keywordEach r env)).filterMap (·.1) = _
        rw [i2]
      · show (false || (backToKw pos (keywordEach r env)).any (·.1.isNone)) = false
        rw [i3]; rfl
theorem se_callK (c : CxI X W Wx G I k Γ) {f : Nat} {es : Es} {ks : List Str} {x : Str} {kws : List Keyword} {p pos : Pos} (hf : fnB G Γ f x = true) (hkw : (f, ks) ∈ G.kw) (hks : kws.map (·.arg) = ks.map some) (ha : PK X kws (rdA W Wx (evEs I es))) (hl : ∀ ρ b Q Xq, wpE (evEs I es ρ) b Q Xq → wpE (evEs I es ρ) b (fun ts b' => Q ts b' ∧ ts.length = ks.length) Xq) :
    PE X (.Call (.Name x p) [] kws pos) (rdE W Wx (evE I (.callK f es ks))) := by
  unfold fnB at hf
  rw [Bool.and_eq_true, decide_eq_true_eq] at hf
  obtain ⟨g1, g2⟩ := glB_of c hf.2
  obtain ⟨a, fd, ok, hm, hk, hb, hbk⟩ := c.fns.fn f x hf.1
  obtain ⟨k1, k2, k3⟩ := kw_all (env := X.env) (pos := pos) hks
  refine ⟨fun pins s σ H Q I' h => ?_⟩
  obtain ⟨F, ρ, bg, st, vr, q⟩ := h
  have q := hl _ _ _ _ (wpE_bind.mp (show wpE (Ev.bind (evEs I es ρ) fun ts => I.call f (permG (I.pars f) ks ts)) bg _ _ from q))
  refine wpAny_Call_Name_kw (ld_glob I' g1 hm ?_ g2)
  refine PySem.W.callWith_KW0 (h₀ := X.base) I'.ok.mod.kin hk k1 (thn (ha.run pos pins s σ H (fun vs H1 => vs.length = ks.length ∧ spF W (I.pars f).length (I.call f) (permG (I.pars f) ks vs) H1 Q (WE Wx σ)) I' ⟨F, ρ, bg, st, vr, wpE_mono q (fun ts b1 q vs F1 H1 p1 => ⟨by rw [p1.tr.length]; exact q.2, ?_⟩) fun _ _ h => h⟩) fun ws s2 ⟨zs, H2, I2, rz, l1, q2⟩ => ⟨I2.kIn, ?_⟩) (by rw [k3]; rfl)
  · have h1 := call_len (fun b r h => c.fns.len f (permG (I.pars f) ks ts) b r h) q.1
    refine spF_of p1.sta (TrL.of_paired (permG_rel p1.tr.paired)) ?_ (wpE_mono q.1 (fun t b' q v F' H' p => q v F' H' (p1.end p)) fun x b' h => p1.go.x h)
    rw [← h1]
    exact (permG_rel p1.tr.paired).length
  · rw [k2]
    have r2 : Vals (permG (I.pars f) ks zs) (permG (I.pars f) ks ws) := permG_rel rz
    refine wpAny_call (codeAny_mono (ok.run X.A X.stack s2 H2 ⟨[] ++ [], ks.zip ws⟩ (permG (I.pars f) ks ws) (permG (I.pars f) ks zs) Q (WE Wx σ) c.room I2.env0 (hbk ks hkw s2 ws I2.kIn (by rw [← rz.length]; exact l1)) r2 q2) fun r s' hq => ?_)
    cases r with
    | error e => exact passAt c.tk σ pins H2 s2 e s' I2 hq
    | ok fl =>
      cases fl with
      | ret u => exact I2.after hq
      | next => exact False.elim hq
      | brk => exact False.elim hq
      | cont => exact False.elim hq
theorem se_blt (c : CxI X W Wx G I k Γ) {x : Bi} {es : Es} {y : Str} {e : Expr} {r : List Expr} {p pos : Pos} (hy : y = biName x) (hg : glB Γ y = true) (ha : PA X (e :: r) (rdA W Wx (evEs I es))) (hp : ∀ z ∈ e :: r, plB z = true) :
    PE X (.Call (.Name y p) (e :: r) [] pos) (rdE W Wx (evE I (.blt x es))) := by
  subst hy
  obtain ⟨g1, g2⟩ := glB_of c hg
  have cr := cr_T (X := X) (W := W) c.K c.calm x
  have hb := bi_boot x
  have hm := c.bi x
  have hn : biName x ≠ "__name__" := by cases x <;> decide +kernel
  have h1 := star_of (es := r) (env := X.env) (hp e (by simp))
  have h2 := star_all (es := r) (env := X.env) (fun z hz => hp z (by simp [hz])) pos
  refine se_args (xs := e :: r) (r := fun σ => rTL W (bltT x)) (g := fun ts => Ev.of (bltT x ts)) ?_ (fun ρ => rfl) fun σ vs H Q F b ts st tl e => ?_
  · cases x
    case len => exact pe_callB cr g1 hm hb ha hn g2 h1 h2
    case abs => exact pe_callB cr g1 hm hb ha hn g2 h1 h2
    case all => exact pe_callB cr g1 hm hb ha hn g2 h1 h2
    case any => exact pe_callB cr g1 hm hb ha hn g2 h1 h2
    case isi => exact pe_callB cr g1 hm hb ha hn g2 h1 h2
    case sorted => exact pe_callB cr g1 hm hb ha hn g2 h1 h2
    case list => exact pe_callTy cr g1 hm hb ha hn g2 h1 h2
    case tuple => exact pe_callTy cr g1 hm hb ha hn g2 h1 h2
    case int => exact pe_callTy cr g1 hm hb ha hn g2 h1 h2
    case str => exact pe_callTy cr g1 hm hb ha hn g2 h1 h2
  · obtain ⟨t, ea, q⟩ := wpE_of.mp e
    exact ⟨F, b, ts, t, st, tl, ea, q⟩
theorem join_len (a : Str) : ∀ ys : List Str, (Str.join a ys).length ≤ (ys.map (·.length)).sum + ys.length * a.length
  | [] => Nat.zero_le _
  | [x] => by
    show x.length ≤ x.length + 0 + (0 + 1) * a.length
    omega
  | x :: y :: r => by
    have ih := join_len a (y :: r)
    show (x ++ a ++ Str.join a (y :: r)).length ≤ _
    rw [append_length, append_length, List.map_cons, List.sum_cons, List.length_cons, Nat.succ_mul]
    omega
theorem txt_join (a : Str) (ys : List Str) : Txt.join a ys = Str.join a ys := PySem.StrLaws.glued_eq_join a ys
theorem se_mth (c : CxI X W Wx G I k Γ) {m : Me} {a : E} {es : Es} {o e : Expr} {n : Str} {ap cp : Pos} (hn : n = meName m) (hr : rcB o = true) (hl : (ap.endLine == cp.line) = true) (ho : PE X o (rdE W Wx (evE I a))) (ha : PA X [e] (rdA W Wx (evEs I es))) (hp : plB e = true)
    (h1 : ∃ d, es = .cons d .nil ∧ PE X e (rdE W Wx (evE I d))) : PE X (.Call (.Attribute o n ap) [e] [] cp) (rdE W Wx (evE I (.mth m a es))) := by
  subst hn
  obtain ⟨d, rfl, hd⟩ := h1
  cases m
  refine PE.imp (pe_join ho hd (star_of hp) (rc_of hr) hl) fun σ H Q ⟨F, ρ, bg, st, vr, q⟩ => ?_
  refine rd_next (.refl st) vr (show wpE (Ev.bind (evE I a ρ) fun x => Ev.bind (Ev.of (meK .join x)) fun _ => Ev.bind (evEs I (.cons d .nil) ρ) fun ts => Ev.of (mthT .join x ts)) bg _ _ from q) fun x b1 v1 F1 H1 p1 q => ?_
  obtain ⟨_, ek, q⟩ := wpE_of.mp (wpE_bind.mp q)
  have q := wpE_bind.mp (show wpE (Ev.bind (Ev.bind (evE I d ρ) fun y => Ev.bind (evEs I .nil ρ) fun ys => Ev.pure (y :: ys)) fun ts => Ev.of (mthT .join x ts)) b1 _ _ from q)
  have hx : ∃ sep, x = .str sep := by
    cases x <;> first | (cases ek; done) | exact ⟨_, rfl⟩
  obtain ⟨sep, rfl⟩ := hx
  have hp1 := p1
  cases hp1.tr
  refine ⟨⟨_, rfl⟩, rd_next p1.go (vr.mono p1.grow.sub) q fun y b2 v2 F2 H2 p2 q => ?_⟩
  obtain ⟨t, ec, q⟩ := wpE_of.mp (show wpE (Ev.of (mthT .join (.str sep) [y])) b2 _ _ from q)
  have p12 := p1.trans p2
  match y, ec with
  | .lst zs, ec =>
    simp only [mthT] at ec
    cases q1 : strsT zs with
    | none => rw [q1] at ec; cases ec
    | some xs =>
      rw [q1] at ec
      simp only at ec
      split at ec
      · rename_i hz
        cases ec
        cases p2.tr with
        | lst ha' hz' hs =>
          obtain ⟨h2, h3, h4⟩ := strsT_tr hs q1
          subst h2
          refine ⟨_, _, xs, rfl, rfl, .inl (SqL.of (p2.sta.lst ha')), Nat.le_trans hz (by decide), ?_⟩
          rw [txt_join]
          exact q _ F2 H2 (p12.go.at (.str _ (Nat.le_trans (join_len _ _) hz)))
      · cases ec
end
end
end DI

set_option Elab.async false
set_option linter.all false
set_option maxRecDepth 100000
set_option maxHeartbeats 8000000
namespace DI
open PySem L2 PySem.Spec PyProof.Rows HT

section
variable {prog : Program} {w : World} {A : Around} {E : Value → Shared → Prop} {s : Shared}
theorem applied_rev {sl : Addr} {vs : Value} {n : Nat} {Q : Int × Int × Nat → Shared → Prop} (hs : s.heap.IsSliceOf sl .none .none vs) (ps : IsPart vs (some (-1)))
    (h : Q (((n : Int) - 1), -1, n) s) : wpAny (model prog w) A (Builtin.Slice.sliceApplied (.ref sl) (pure (n : Int))) Q E s := by
  obtain ⟨os, hos, hcs, hds⟩ := id hs
  unfold Builtin.Slice.sliceApplied Builtin.Slice.sliceFields
  refine wpAny_bind (wpAny_bind (wpAny_field hos hds (x := .none) rfl (wpAny_bind (wpAny_field hos hds (x := .none) rfl (wpAny_bind (wpAny_field hos hds (x := vs) rfl (wpAny_pure ?_)))))))
  refine wpAny_bind (slicePart_ ps ?_)
  show wpAny _ _ (if ((-1 : Int) == 0) = true then _ else _) _ _ s
  rw [if_neg (by decide)]
  refine wpAny_bind (slicePart_none (wpAny_bind (slicePart_none (wpAny_bind (wpAny_pure ?_)))))
  show wpAny _ _ (pure (((n : Int) - 1), (-1 : Int), Builtin.Slice.slicePlaces ((n : Int) - 1) (-1) (-1))) _ _ s
  have e : Builtin.Slice.slicePlaces ((n : Int) - 1) (-1) (-1) = n := by
    unfold Builtin.Slice.slicePlaces
    have h1 : ¬ ((-1 : Int) > 0) := by omega
    simp only [h1, if_false]
    split
    · rw [show (- -1 : Int) = 1 by decide, Int.ediv_one]; omega
    · omega
  rw [e]
  exact wpAny_pure h
theorem pick_rev (xs : Array Value) : ((List.range xs.size).filterMap fun (m : Nat) => xs[(((xs.size : Int) - 1) + (m : Int) * (-1)).toNat]?).toArray = xs.toList.reverse.toArray := by
  have e := PySem.W.krv_range xs.size
  have e2 : ((List.range xs.size).filterMap fun (m : Nat) => xs[(((xs.size : Int) - 1) + (m : Int) * (-1)).toNat]?) = (((List.range xs.size).map fun k => xs.size - 1 - k).filterMap (xs[·]?)) := by
    rw [List.filterMap_map]
    congr 1
    funext m
    have : (((xs.size : Int) - 1) + (m : Int) * (-1)).toNat = xs.size - 1 - m := by omega
    rw [this]
    rfl
  rw [e2, e, List.filterMap_reverse, PySem.W.krv_all]
theorem getItem_tuple_rev {t sl : Addr} {items : Array Value} {vs : Value} {Q : Value → Shared → Prop} (ht : IsTup s.heap t items) (hs : s.heap.IsSliceOf sl .none .none vs) (ps : IsPart vs (some (-1)))
    (h : Q (.ref s.heap.objs.size) { s with heap := s.heap.push { cls := .type "tuple", data := .seq items.toList.reverse.toArray } })
    (hsz : items.size ≤ sizeLine) : wpAny (model prog w) A (getItem (.ref t) (.ref sl)) Q E s := by
  have htake : sizeOk (.seq items.toList.reverse.toArray) := by
    show items.toList.reverse.toArray.size ≤ sizeLine
    rw [List.size_toArray, List.length_reverse, Array.length_toList]
    exact hsz
  obtain ⟨os, hos, hcs, hds⟩ := id hs
  have hTs : s.TypeIs (.ref sl) "slice" := ⟨os, hos, hcs⟩
  unfold getItem
  try with_reducible refine wpAny_holding ?_
  first | refine wpAny_bind (wpAny_pure ?_) | skip
  refine wpAny_bind (wpAny_sequenceKey ht.typeIs (by decide) ?_)
  refine wpAny_bind (wpAny_callSpecial?_slot (name := Str.ofString "__getitem__") ht.typeIs PyProof.Rows.slot_tuple_getitem
    (wpAny_call_entry PyProof.Rows.slot_tuple_getitem ht.typeIs entry_tuple_getitem ?_ (args_tuple_getitem _ _)))
  show wpAny _ _ (Builtin.Tuple.tupleItemsOf (.ref t) >>= _) _ _ s
  refine wpAny_bind (tupleItemsOf_ ht ?_)
  refine wpAny_bind (wpAny_typeOf hTs ?_)
  rw [if_pos (by decide)]
  refine wpAny_bind (applied_rev hs ps ?_)
  have hno : ¬ ((((items.size : Int) - 1) == 0 && (-1 : Int) == 1 && items.size == items.size) = true) := by
    intro q
    rw [Bool.and_eq_true, Bool.and_eq_true] at q
    have q1 : (-1 : Int) = 1 := eq_of_beq q.1.2
    omega
  show wpAny _ _ (if (((items.size : Int) - 1) == 0 && (-1 : Int) == 1 && items.size == items.size) = true then _ else _) _ _ s
  rw [if_neg hno, pick_rev]
  first
    | exact wpAny_bind (m := Builtin.Tuple.tupleExact _) (wpAny_newObj_type (wpAny_pure ⟨_, rfl, wpAny_pure h⟩) htake)
    | exact wpAny_bind (m := Builtin.Tuple.tupleExact _) (wpAny_newObj_type (wpAny_bind (wpAny_pure (wpAny_pure ⟨_, rfl, wpAny_pure h⟩))) htake)
    | exact wpAny_bind (wpAny_bind (m := Builtin.Tuple.tupleExact _) (wpAny_newObj_type (wpAny_pure (wpAny_pure ⟨_, rfl, wpAny_pure h⟩)) htake))
    | exact wpAny_bind (wpAny_bind (m := Builtin.Tuple.tupleExact _) (wpAny_newObj_type (wpAny_pure ⟨_, rfl, wpAny_pure h⟩) htake))
end
section
variable {X : Cx}
def tRevX (K : PySem.W.Frag) (te : TE) : TE := fun σ H Q => te σ H fun x H1 => ∃ a xs, x = .ref a ∧ ((SqL K H1 a xs ∧ ∀ p, H1 p = none → Q (.ref p) (upd H1 p (.lst xs.reverse))) ∨ (SqT K H1 a xs ∧ ∀ p, H1 p = none → Q (.ref p) (upd H1 p (.tup xs.reverse))))
theorem pe_revX {e : Expr} {te : TE} {k : Nat} {p1 p2 p3 pos : Pos} (he : PE X e te) : PE X (.Subscript e (.Slice none none (some (.UnaryOp .USub (.Constant (.int 1) k p1) p2)) p3) pos) (tRevX X.K te) := by
  refine ⟨fun pins s σ H Q I h => ?_⟩
  refine Subscript_ (thn (he.run pins s σ H _ I h) fun v s1 ⟨x, H1, I1, r1, q1⟩ => ?_)
  obtain ⟨a, xs, ex, q⟩ := q1
  subst ex
  cases r1
  have hst : PO X (some (.UnaryOp .USub (.Constant (.int 1) k p1) p2)) (tPart (tUn (rU fun i => .int (-i)) (tC (.int 1)))) := po_some (pe_un un_neg pe_int)
  refine wpAny_Slice (thn (po_none.run pins s1 σ H1 (fun o H2 => o = none ∧ H2 = H1) I1 ⟨rfl, rfl⟩) fun vl s2 ⟨l, H2, I2, pl, el, e2⟩ => ?_)
  subst el e2
  refine thn (po_none.run pins s2 σ H2 (fun o H3 => o = none ∧ H3 = H2) I2 ⟨rfl, rfl⟩) fun vu s3 ⟨u, H3, I3, pu, eu, e3⟩ => ?_
  subst eu e3
  refine thn (hst.run pins s3 σ H3 (fun o H4 => o = some (-1) ∧ H4 = H3) I3 ⟨1, rfl, -1, rfl, rfl, rfl⟩) fun vs s4 ⟨o, H4, I4, ps, eo, e4⟩ => ?_
  subst eo e4
  have I5 : Inv X pins σ H4 { s4 with heap := s4.heap.push { cls := .type "slice", data := .fields #[vl, vu, vs] } } := I4.kept (t' := s4.toks) fun b ob q => Heap.get?_push_of_some _ q
  rcases q with ⟨hx, q⟩ | ⟨hx, q⟩
  · obtain ⟨its, r, ht, hz⟩ := I5.list hx
    have hlen := r.length
    show wpAny (model X.prog X.w) X.A (subscriptTail e (.Slice none none (some (.UnaryOp .USub (.Constant (.int 1) k p1) p2)) p3) (.ref a) (.ref s4.heap.objs.size)) (EP X pins σ Q) X.xe { s4 with heap := s4.heap.push { cls := .type "slice", data := .fields #[vl, vu, vs] } }
    refine tail_any (ops := [.ref a, .ref s4.heap.objs.size]) ht.isList.typeIs (PySem.slot_list_getitem.lookup) ?_ (by with_unfolding_all rfl)
    refine wpAny_getItem_list_slice ht.isList (Heap.IsSliceOf.new _ vl vu vs) pl pu ps (by decide) ?_ (by rw [List.size_toArray]; omega)
    rw [PySem.W.krv_pick]
    refine ⟨.ref _, _, I5.laid (t' := s4.toks) (o := .lst xs.reverse) (fun b ob q => Heap.get?_push_of_some _ q) (Nat.le_refl _) ?_, rfl, q _ (I5.hok.fresh (Nat.le_refl _))⟩
    exact ⟨by rw [List.length_reverse]; exact hz, _, 0, r.reverse, Heap.get?_push_size _ rfl⟩
  · obtain ⟨its, r, ht, hz⟩ := I5.tuple hx
    have hlen := r.length
    show wpAny (model X.prog X.w) X.A (subscriptTail e (.Slice none none (some (.UnaryOp .USub (.Constant (.int 1) k p1) p2)) p3) (.ref a) (.ref s4.heap.objs.size)) (EP X pins σ Q) X.xe { s4 with heap := s4.heap.push { cls := .type "slice", data := .fields #[vl, vu, vs] } }
    cases pl
    cases pu
    refine tail_any (ops := [.ref a, .ref s4.heap.objs.size]) ht.typeIs (PyProof.Rows.slot_tuple_getitem.lookup) ?_ (by with_unfolding_all rfl)
    refine getItem_tuple_rev ht (Heap.IsSliceOf.new _ _ _ vs) ps ?_ (by rw [List.size_toArray]; omega)
    refine ⟨.ref _, _, I5.laid (t' := s4.toks) (o := .tup xs.reverse) (fun b ob q => Heap.get?_push_of_some _ q) (Nat.le_refl _) ?_, rfl, q _ (I5.hok.fresh (Nat.le_refl _))⟩
    exact ⟨by rw [List.length_reverse]; exact hz, _, r.reverse, IsTup.new _ _⟩
end
end DI

set_option Elab.async false
set_option linter.all false
set_option maxRecDepth 100000
set_option maxHeartbeats 8000000
namespace DI
open PySem L2

section
variable {W : Wd} {G : Gm} {Wx : WX} {I : Ien} {k : Nat}
section
variable {X : Cx} {Γ : Cc}
theorem intT_some {F : Hp} {v : V} {t : T} {i : Int} (h : Tr W F v t) (e : intT t = some i) : v = .int i ∧ t = .int i := by
  cases h <;> cases e
  exact ⟨rfl, rfl⟩
/-- a slice's part -/
theorem part_of {α : Type} {a : E} {σ : L2.St} {Q : Option Int → Hp → Prop} {F H F1 H1 : Hp} {ρ : View} {b1 : Bag} {g : Int → Ev α} {Qf : α → Bag → Prop} (go : Go W F H b1 F1 H1) (vr : VRel W F1 σ ρ)
    (q : wpE (Ev.bind (evE I a ρ) fun x => Ev.bind (Ev.of (intT x)) g) b1 Qf (WXat W Wx σ F H))
    (k : ∀ i b2 F2 H2, Go W F1 H1 b2 F2 H2 → wpE (g i) b2 Qf (WXat W Wx σ F H) → Q (some i) H2) : tPart (rdE W Wx (evE I a)) σ H1 Q :=
  rd_next go vr q fun x b2 v F2 H2 p q =>
    let ⟨i, e, q⟩ := wpE_of.mp (wpE_bind.mp q)
    ⟨i, (intT_some p.tr e).1, k i b2 F2 H2 p.go q⟩
theorem se_sl (c : CxI X W Wx G I k Γ) {a lo hi : E} {x l h : Expr} {p2 pos : Pos} (ha : PE X x (rdE W Wx (evE I a))) (hl : PE X l (rdE W Wx (evE I lo))) (hh : PE X h (rdE W Wx (evE I hi))) :
    PE X (.Subscript x (.Slice (some l) (some h) none p2) pos) (rdE W Wx (evE I (.sl a lo hi))) := by
  refine PE.imp (pe_slice (sl_T c.K) ha (po_some hl) (po_some hh)) fun σ H Q ⟨F, ρ, bg, st, vr, q⟩ => ?_
  exact rd_next (.refl st) vr (show wpE (Ev.bind (evE I a ρ) _) bg _ _ from q) fun y b1 v1 F1 H1 p1 q => part_of p1.go (vr.mono p1.grow.sub) q fun i b2 F2 H2 g2 q => part_of (p1.go.trans g2) ((vr.mono p1.grow.sub).mono g2.grow.sub) q fun j b3 F3 H3 g3 q =>
    let ⟨t, e, q⟩ := wpE_of.mp q
    ⟨F3, b3, y, t, g3.sta, (p1.tr.mono g2.grow.sub).mono g3.grow.sub, e, fun v F' H' p => q v F' H' ((p1.go.trans (g2.trans g3)).post p)⟩
theorem se_slH (c : CxI X W Wx G I k Γ) {a hi : E} {x h : Expr} {p2 pos : Pos} (ha : PE X x (rdE W Wx (evE I a))) (hh : PE X h (rdE W Wx (evE I hi))) :
    PE X (.Subscript x (.Slice none (some h) none p2) pos) (rdE W Wx (evE I (.slH a hi))) := by
  refine PE.imp (pe_slice (sl_T c.K) ha po_none (po_some hh)) fun σ H Q ⟨F, ρ, bg, st, vr, q⟩ => ?_
  exact rd_next (.refl st) vr (show wpE (Ev.bind (evE I a ρ) _) bg _ _ from q) fun y b1 v1 F1 H1 p1 q => show tPart (rdE W Wx (evE I hi)) σ H1 (fun u H3 => rTS W v1 none u H3 Q) from part_of p1.go (vr.mono p1.grow.sub) q fun j b3 F3 H3 g3 q =>
    let ⟨t, e, q⟩ := wpE_of.mp q
    ⟨F3, b3, y, t, g3.sta, p1.tr.mono g3.grow.sub, e, fun v F' H' p => q v F' H' ((p1.go.trans g3).post p)⟩
theorem se_slL (c : CxI X W Wx G I k Γ) {a lo : E} {x l : Expr} {p2 pos : Pos} (ha : PE X x (rdE W Wx (evE I a))) (hl : PE X l (rdE W Wx (evE I lo))) :
    PE X (.Subscript x (.Slice (some l) none none p2) pos) (rdE W Wx (evE I (.slL a lo))) := by
  refine PE.imp (pe_slice (sl_T c.K) ha (po_some hl) po_none) fun σ H Q ⟨F, ρ, bg, st, vr, q⟩ => ?_
  exact rd_next (.refl st) vr (show wpE (Ev.bind (evE I a ρ) _) bg _ _ from q) fun y b1 v1 F1 H1 p1 q => part_of p1.go (vr.mono p1.grow.sub) q fun j b3 F3 H3 g3 q =>
    let ⟨t, e, q⟩ := wpE_of.mp q
    ⟨F3, b3, y, t, g3.sta, p1.tr.mono g3.grow.sub, e, fun v F' H' p => q v F' H' ((p1.go.trans g3).post p)⟩
theorem se_rev (c : CxI X W Wx G I k Γ) {a : E} {x : Expr} {n : Nat} {p1 p2 p3 pos : Pos} (ha : PE X x (rdE W Wx (evE I a))) : PE X (.Subscript x (.Slice none none (some (.UnaryOp .USub (.Constant (.int 1) n p1) p2)) p3) pos) (rdE W Wx (evE I (.rev a))) := by
  refine PE.imp (pe_revX ha) fun σ H Q ⟨F, ρ, bg, st, vr, q⟩ => ?_
  refine rd_next (.refl st) vr (show wpE (Ev.bind (evE I a ρ) _) bg _ _ from q) fun y b1 v1 F1 H1 p1 q => ?_
  obtain ⟨t, ef, q⟩ := wpE_of.mp q
  have hp := p1
  cases hp.tr <;> try (cases ef)
  case tup ad vs ts h1 h2 h3 q =>
    exact ⟨ad, vs, rfl, .inr ⟨SqT.of (p1.sta.tup h1), tr_tup p1.sta (by rw [List.length_reverse]; exact h2) h3.reverse fun v F' H' p => q v F' H' (p1.trans p)⟩⟩
  case lst ad vs ts h1 h2 h3 q =>
    exact ⟨ad, vs, rfl, .inl ⟨SqL.of (p1.sta.lst h1), tr_lst p1.sta (by rw [List.length_reverse]; exact h2) h3.reverse fun v F' H' p => q v F' H' (p1.trans p)⟩⟩
theorem se_neg {a : E} {x : Expr} {pos : Pos} (ha : PE X x (rdE W Wx (evE I a))) : PE X (.UnaryOp .USub x pos) (rdE W Wx (evE I (.neg a))) := by
  refine PE.imp (pe_un un_neg ha) fun σ H Q ⟨F, ρ, bg, st, vr, q⟩ => ?_
  refine rd_next (.refl st) vr (show wpE (Ev.bind (evE I a ρ) _) bg _ _ from q) fun y b1 v1 F1 H1 p1 q => ?_
  obtain ⟨t, ef, q⟩ := wpE_of.mp q
  rw [Option.map_eq_some_iff] at ef
  obtain ⟨i, e2, rfl⟩ := ef
  exact ⟨i, (intT_some p1.tr e2).1, q _ F1 H1 (p1.go.at (.int _))⟩
theorem wpE_one {y : T} {ρ : View} {b : Bag} {Q : List T → Bag → Prop} {Xq : Xc → Bag → Prop} : wpE (Ev.bind (evEs I .nil ρ) fun ys => Ev.pure (y :: ys)) b Q Xq ↔ Q [y] b := Iff.rfl
theorem se_dct0 {ks : List Str} {vs : Es} {pos : Pos} (hk : ks = []) (hv : vs = .nil) : PE X (.Dict [] [] pos) (rdE W Wx (evE I (.dct ks vs))) := by
  subst hk hv
  refine PE.imp pe_dnewK fun σ H Q ⟨F, ρ, bg, st, vr, q⟩ => ?_
  intro p n
  exact (show wpE (Ev.pure (T.dK [] [])) bg _ _ from q) _ _ _ (Post.laid st n (Tr.dK (kvs := []) upd_same .nil))
theorem se_dct1 {ks : List Str} {x : Str} {d : E} {v : Expr} {n : Nat} {kp pos : Pos} (hk : ks = [x]) (hx : x.length ≤ LIM) (hd : PE X v (rdE W Wx (evE I d))) : PE X (.Dict [some (.Constant (.str x) n kp)] [v] pos) (rdE W Wx (evE I (.dct ks (.cons d .nil)))) := by
  subst hk
  refine PE.imp (pe_disp (pps_cons pe_str hd pps_nil) rfl rfl (fun z => by cases z) (by show 1 ≤ 15; decide)) fun σ H Q ⟨F, ρ, bg, st, vr, q⟩ => ?_
  have q := wpE_bind.mp (wpE_bind.mp (show wpE (Ev.bind (Ev.bind (evE I d ρ) fun y => Ev.bind (evEs I .nil ρ) fun ys => Ev.pure (y :: ys)) fun ts => Ev.of (if [x].length = ts.length ∧ [x].length ≤ 15 ∧ [x].Nodup then some (T.dK ([x].map Sum.inr) ts) else none)) bg _ _ from q))
  intro p hp
  have nB := st.neB hp
  have nC := st.neC hp
  have fp := st.free hp
  have st' : Sta W F (upd H p (.dK [])) bg := st.hid fp nB nC
  have kp' : Keep W H (upd H p (.dK [])) := Keep.new hp
  refine ⟨F, ρ, bg, st', vr, wpE_mono q (fun y b1 q v1 F1 H1 p1 => ?_) fun z b' h => h.go (Grow.refl _ _) kp' st'⟩
  have q := wpE_one.mp q
  obtain ⟨t, ef, q⟩ := wpE_of.mp q
  rw [if_pos ⟨rfl, by show 1 ≤ 15; decide, by simp⟩] at ef
  cases ef
  have hp1 : H1 p = some (.dK []) := p1.keep p _ upd_same nB
  have f1 : F1 p = none := by
    cases qq : F1 p with
    | none => rfl
    | some u =>
      rcases p1.grow.new p u qq with z | z
      · rw [fp] at z; cases z
      · rw [upd_same] at z; cases z
  refine ⟨hp1, [(Sum.inr x, v1)], rfl, by show 1 ≤ 15; decide, ?_⟩
  refine q _ (upd F1 p (.dK [(Sum.inr x, v1)])) _ ⟨⟨fun a o h => ?_, fun a o h => ?_⟩, fun a o h n => ?_, ⟨fun a o h => ?_, ?_, ?_, ?_, ?_, st.bag.2.2⟩, ?_⟩
  · rw [upd_ne (ne_of_none (p1.grow.sub a o h) f1)]
    exact p1.grow.sub a o h
  · by_cases ha : a = p
    · subst ha; exact .inr hp
    · rw [upd_ne ha] at h
      rcases p1.grow.new a o h with z | z
      · exact .inl z
      · rw [upd_ne ha] at z; exact .inr z
  · have ha : a ≠ p := ne_of_none h hp
    rw [upd_ne ha]
    exact p1.keep a o (by rw [upd_ne ha]; exact h) n
  · by_cases ha : a = p
    · subst ha; rw [upd_same] at h ⊢; exact .inl h
    · rw [upd_ne ha] at h ⊢; exact p1.sta.fz a o h
  · rw [upd_ne (Ne.symm nB)]; exact p1.sta.fB
  · rw [upd_ne (Ne.symm nC)]; exact p1.sta.fc
  · rw [upd_ne (Ne.symm nB)]; exact p1.sta.bag.1
  · rw [upd_ne (Ne.symm nC)]; exact p1.sta.bag.2.1
  · refine Tr.dK (kvs := [(Sum.inr x, v1)]) upd_same (.cons (p1.tr.mono fun a o h => ?_) .nil)
    rw [upd_ne (ne_of_none h f1)]
    exact h

/-! ### the bag -/
theorem bag_tr {F : Hp} {v : V} (h : Tr W F v .bag) : v = .ref W.B := by cases h; rfl
theorem bag_at {H : Hp} {b : Bag} (h : BagAt W H b) : SqL W.K H W.B [.ref W.c, .int b.i, .int b.j, .int b.s, .int b.n] := SqL.of h.1
theorem bagE_wp {f : Bag → Option T} {t : T} {b : Bag} {Q : T → Bag → Prop} {Xq : Xc → Bag → Prop} (h : wpE (bagE f t) b Q Xq) : t = .bag ∧ ∃ r, f b = some r ∧ Q r b := by
  cases t <;> first | exact (show False from h).elim | skip
  cases q : f b with
  | none => simp [wpE, bagE, q] at h
  | some r =>
    simp only [wpE, bagE, q] at h
    exact ⟨rfl, r, rfl, h⟩
theorem bag_get {b : Bag} {c : Addr} {k : Nat} {i : Int} (h : b.get k = some i) : atI [V.ref c, .int b.i, .int b.j, .int b.s, .int b.n] (k : Int) = some (.int i) := by
  match k, h with
  | 1, h => cases h; rfl
  | 2, h => cases h; rfl
  | 3, h => cases h; rfl
  | 4, h => cases h; rfl
theorem se_bget (c : CxI X W Wx G I k Γ) {a : E} {n : Nat} {x : Expr} {j : Nat} {kp pos : Pos} (ha : PE X x (rdE W Wx (evE I a))) : PE X (.Subscript x (.Constant (.int (n : Int)) j kp) pos) (rdE W Wx (evE I (.bget a n))) := by
  refine PE.imp (pe_ix ix_list ha pe_int (fun _ _ => rfl)) fun σ H Q ⟨F, ρ, bg, st, vr, q⟩ => ?_
  refine rd_next (.refl st) vr (show wpE (Ev.bind (evE I a ρ) _) bg _ _ from q) fun y b1 v1 F1 H1 p1 q => ?_
  obtain ⟨rfl, t, e2, q⟩ := bagE_wp q
  rw [Option.map_eq_some_iff] at e2
  obtain ⟨i, e3, rfl⟩ := e2
  exact ⟨W.B, _, (n : Int), .int i, bag_tr p1.tr, rfl, by rw [c.K]; exact bag_at p1.sta.bag, bag_get e3, q _ F1 H1 (p1.go.at (.int i))⟩
theorem se_blen (c : CxI X W Wx G I k Γ) {a : E} {x : Expr} {j : Nat} {kp p1 p2 pos : Pos} (hg : glB Γ "len" = true) (ha : PE X x (rdE W Wx (evE I a))) : PE X (.Call (.Name "len" p1) [.Subscript x (.Constant (.int 0) j kp) p2] [] pos) (rdE W Wx (evE I (.blen a))) := by
  obtain ⟨g1, g2⟩ := glB_of c hg
  refine PE.imp (pe_callB call_len_seq g1 (c.bi .len) PySem.boot_len (pa_cons (pe_ix ix_list ha pe_int (fun _ _ => rfl)) pa_nil) (by decide) g2) fun σ H Q ⟨F, ρ, bg, st, vr, q⟩ => ?_
  refine rd_next (.refl st) vr (show wpE (Ev.bind (evE I a ρ) _) bg _ _ from q) fun y b1 v1 F1 H1 p1 q => ?_
  obtain ⟨rfl, t, e2, q⟩ := bagE_wp q
  cases e2
  refine ⟨W.B, _, 0, .ref W.c, bag_tr p1.tr, rfl, by rw [c.K]; exact bag_at p1.sta.bag, rfl, W.c, _, rfl, .inl (SqL.of p1.sta.bag.2.1), ?_⟩
  rw [List.length_map]
  exact q _ F1 H1 (p1.go.at (.int _))
theorem atI_map {xs : List Int} {i v : Int} (h : atI xs i = some v) : atI (xs.map V.int) i = some (.int v) := by
  unfold atI at h ⊢
  rw [List.length_map]
  cases q : ixN xs.length i with
  | none => rw [q] at h; cases h
  | some j =>
    rw [q] at h
    show (xs.map V.int)[j]? = _
    rw [List.getElem?_map]
    have h : xs[j]? = some v := h
    rw [h]
    rfl
theorem se_bcell (c : CxI X W Wx G I k Γ) {a : E} {x y : Expr} {j j2 : Nat} {kp kp2 p1 p2 pos : Pos} (ha : PE X x (rdE W Wx (evE I a))) (hy : PE X y (rdE W Wx (evE I a))) (hv : ∃ i, a = .var i) :
    PE X (.Subscript (.Subscript x (.Constant (.int 0) j kp) p1) (.Subscript y (.Constant (.int 1) j2 kp2) p2) pos) (rdE W Wx (evE I (.bcell a))) := by
  refine PE.imp (pe_ix ix_list (pe_ix ix_list ha pe_int (fun _ _ => rfl)) (pe_ix ix_list hy pe_int (fun _ _ => rfl)) (fun _ _ => rfl)) fun σ H Q ⟨F, ρ, bg, st, vr, q⟩ => ?_
  obtain ⟨i, rfl⟩ := hv
  have q := wpE_bind.mp (show wpE (Ev.bind (evE I (.var i) ρ) (bagE fun b => (atI b.cells b.i).map .int)) bg _ _ from q)
  obtain ⟨z, ez, q⟩ := wpE_of.mp (show wpE (Ev.of _) bg _ _ from q)
  obtain ⟨rfl, t, e2, q⟩ := bagE_wp q
  rw [Option.map_eq_some_iff] at e2
  obtain ⟨v, e3, rfl⟩ := e2
  have ev : evE I (.var i) ρ bg = some (.ok .bag, bg) := by
    show Ev.of _ bg = _
    rw [ez]
    rfl
  refine ⟨F, ρ, bg, st, vr, wpE_eq ev fun v1 F1 H1 p1 => ?_⟩
  refine ⟨W.B, _, 0, .ref W.c, bag_tr p1.tr, rfl, by rw [c.K]; exact bag_at p1.sta.bag, rfl, ?_⟩
  refine ⟨F1, ρ, bg, p1.sta, vr.mono p1.grow.sub, wpE_eq ev fun v2 F2 H2 p2 => ?_⟩
  refine ⟨W.B, _, 1, .int bg.i, bag_tr p2.tr, rfl, by rw [c.K]; exact bag_at p2.sta.bag, rfl, ?_⟩
  exact ⟨W.c, _, bg.i, .int v, rfl, rfl, SqL.of p2.sta.bag.2.1, atI_map e3, q _ F2 H2 ((p1.trans p2).go.at (.int v))⟩
/-! ### walks of terms -/
theorem rdI_of {α : Type} {m : View → Ev T} {f : T → Option (List T)} {σ : L2.St} {F H : Hp} {ρ : View} {b : Bag} {R : L2.It → Hp → Prop} {S : V → Hp → Prop} (st : Sta W F H b) (vr : VRel W F σ ρ)
    (q : wpE (Ev.bind (m ρ) fun x => Ev.of (f x)) b (fun items b' => ∀ J F' H', Grow F H F' → Keep W H H' → Sta W F' H' b' → ItOk W F' J items → items.length ≤ LIM → R J H') (WXat W Wx σ F H))
    (k : ∀ x items b1 v F1 H1, Post W F H b1 x v F1 H1 → f x = some items → (∀ J F' H', Go W F1 H1 b1 F' H' → ItOk W F' J items → items.length ≤ LIM → R J H') → S v H1) : rdE W Wx m σ H S :=
  rd_next (.refl st) vr q fun x b1 v F1 H1 p q =>
    let ⟨items, e, q⟩ := wpE_of.mp q
    k x items b1 v F1 H1 p e fun J F' H' g ok hl => q J F' H' (p.go.trans g).grow (p.go.trans g).keep g.sta ok hl
theorem si_val (c : CxI X W Wx G I k Γ) {a : E} {tg x : Expr} (ha : PE X x (rdE W Wx (evE I a))) : PI X tg x (rdI W Wx (evI I (.val a))) := by
  refine PI.imp (pi_any ha) fun σ H R ⟨F, ρ, bg, st, vr, q⟩ => ?_
  refine rdI_of (α := Unit) st vr (show wpE (Ev.bind (evE I a ρ) fun x => Ev.of (seqT x)) bg _ _ from q) fun y items b1 v1 F1 H1 p1 ef q => ?_
  have hp := p1
  cases hp.tr <;> try (cases ef)
  case str x hz => exact .inr (.inr ⟨_, rfl, q _ F1 H1 (.refl p1.sta) it_str (by rw [List.length_map, chrs_length]; exact hz)⟩)
  case tup ha hz hl => exact .inr (.inl ⟨_, rfl, ⟨_, SqT.of (p1.sta.tup ha)⟩, q _ F1 H1 (.refl p1.sta) (it_tup ha hl) hz⟩)
  case lst ha hz hl => exact .inl ⟨_, rfl, ⟨_, SqL.of (p1.sta.lst ha)⟩, q _ F1 H1 (.refl p1.sta) (it_list ha hl) hz⟩
theorem rngT_some {lo hi : Int} {ts : List T} (h : rngT lo hi = some ts) : (-1000000 ≤ lo ∧ lo ≤ 1000000 ∧ -1000000 ≤ hi ∧ hi ≤ 1000000 ∧ hi - lo ≤ 1000000) ∧ ts = (List.range (hi - lo).toNat).map fun (k : Nat) => T.int (lo + (k : Int)) := by
  unfold rngT at h
  split at h
  · cases h; exact ⟨by assumption, rfl⟩
  · cases h
theorem rng_len {lo hi : Int} (h : hi - lo ≤ 1000000) : ((List.range (hi - lo).toNat).map fun (k : Nat) => T.int (lo + (k : Int))).length ≤ LIM := by
  rw [List.length_map, List.length_range]
  have : LIM = 1000000 := rfl
  omega
theorem si_rng1 (c : CxI X W Wx G I k Γ) {a : E} {tg x : Expr} {p pos : Pos} (hg : glB Γ "range" = true) (hp : plB x = true) (ha : PE X x (rdE W Wx (evE I a))) : PI X tg (.Call (.Name "range" p) [x] [] pos) (rdI W Wx (evI I (.rng1 a))) := by
  obtain ⟨g1, g2⟩ := glB_of c hg
  refine PI.imp (pi_range1 g1 c.rng.1 (pa_cons ha pa_nil (star_of hp)) (star_of hp)) fun σ H R ⟨F, ρ, bg, st, vr, q⟩ => ?_
  refine rdI_of (α := Unit) st vr (show wpE (Ev.bind (evE I a ρ) fun x => Ev.of ((intT x).bind fun j => rngT 0 j)) bg _ _ from q) fun y items b1 v1 F1 H1 p1 ef q => ?_
  rw [Option.bind_eq_some_iff] at ef
  obtain ⟨j, e2, e3⟩ := ef
  obtain ⟨hj, rfl⟩ := rngT_some e3
  obtain ⟨rfl, _⟩ := intT_some p1.tr e2
  refine ⟨j, rfl, by omega, by omega, ?_⟩
  have e0 : (j - 0).toNat = j.toNat := by rw [Int.sub_zero]
  have := q (Itr 0 (j - 0).toNat) F1 H1 (.refl p1.sta) it_rng (rng_len (by omega))
  rw [e0] at this
  exact this
theorem si_rng2 (c : CxI X W Wx G I k Γ) {a d : E} {tg x y : Expr} {p pos : Pos} (hg : glB Γ "range" = true) (hp : plB x = true) (hp2 : plB y = true) (ha : PE X x (rdE W Wx (evE I a))) (hd : PE X y (rdE W Wx (evE I d))) :
    PI X tg (.Call (.Name "range" p) [x, y] [] pos) (rdI W Wx (evI I (.rng2 a d))) := by
  obtain ⟨g1, g2⟩ := glB_of c hg
  refine PI.imp (pi_range2 g1 c.rng.1 (pa_cons ha (pa_cons hd pa_nil (star_of hp2)) (star_of hp)) (by rw [star_of hp, star_of hp2]; rfl) (star_of hp2)) fun σ H R ⟨F, ρ, bg, st, vr, q⟩ => ?_
  refine rd_next (.refl st) vr (show wpE (Ev.bind (evE I a ρ) _) bg _ _ from q) fun u b1 v1 F1 H1 p1 q => rd_next p1.go (vr.mono p1.grow.sub) q fun w b2 v2 F2 H2 p2 q => ?_
  obtain ⟨items, ef, q⟩ := wpE_of.mp q
  rw [Option.bind_eq_some_iff] at ef
  obtain ⟨i, e3, ef⟩ := ef
  rw [Option.bind_eq_some_iff] at ef
  obtain ⟨j, e4, e5⟩ := ef
  obtain ⟨hj, rfl⟩ := rngT_some e5
  obtain ⟨rfl, _⟩ := intT_some p1.tr e3
  obtain ⟨rfl, _⟩ := intT_some p2.tr e4
  have p12 := p1.trans p2
  exact ⟨i, j, rfl, ⟨by omega, by omega, by omega, by omega⟩, q _ F2 H2 p12.grow p12.keep p12.sta it_rng (rng_len hj.2.2.2.2)⟩
theorem zip_len {xs ys : List T} (h : xs.length ≤ LIM) : ((xs.zip ys).map fun p => T.tup [p.1, p.2]).length ≤ LIM := by
  rw [List.length_map, List.length_zip]
  omega
theorem si_zip (c : CxI X W Wx G I k Γ) {a d : E} {x y : Expr} {elts : List Expr} {kk : Nat} {tpos p pos : Pos} (hg : glB Γ "zip" = true) (hp : plB x = true) (hp2 : plB y = true) (ha : PE X x (rdE W Wx (evE I a))) (hd : PE X y (rdE W Wx (evE I d))) :
    PI X (.Tuple elts kk tpos) (.Call (.Name "zip" p) [x, y] [] pos) (rdI W Wx (evI I (.zip a d))) := by
  obtain ⟨g1, g2⟩ := glB_of c hg
  refine PI.imp (RZ.pi_zipA g1 c.rng.2.1 (pa_cons ha (pa_cons hd pa_nil (star_of hp2)) (star_of hp)) (star_of hp) (star_all (fun z hz => by simp at hz; subst hz; exact hp2) pos)) fun σ H R ⟨F, ρ, bg, st, vr, q⟩ => ?_
  refine rd_next (.refl st) vr (show wpE (Ev.bind (evE I a ρ) _) bg _ _ from q) fun u b1 v1 F1 H1 p1 q => rd_next p1.go (vr.mono p1.grow.sub) q fun w b2 v2 F2 H2 p2 q => ?_
  obtain ⟨items, ef, q⟩ := wpE_of.mp q
  have p12 := p1.trans p2
  have t1 := p1.tr.mono p2.grow.sub
  have t2 := p2.tr
  cases t1 with
  | tup h1 z1 l1 =>
    cases t2 with
    | tup h2 z2 l2 =>
      cases ef
      exact ⟨_, _, _, _, rfl, .inr ⟨SqT.of (p2.sta.tup h1), SqT.of (p2.sta.tup h2), q _ F2 H2 p12.grow p12.keep p12.sta (it_zipT h1 l1 h2 l2) (zip_len z1)⟩⟩
    | _ => cases ef
  | lst h1 z1 l1 =>
    cases t2 with
    | lst h2 z2 l2 =>
      cases ef
      exact ⟨_, _, _, _, rfl, .inl ⟨SqL.of (p2.sta.lst h1), SqL.of (p2.sta.lst h2), q _ F2 H2 p12.grow p12.keep p12.sta (it_zipL h1 l1 h2 l2) (zip_len z1)⟩⟩
    | _ => cases ef
  | _ => cases ef
theorem si_enum (c : CxI X W Wx G I k Γ) {a : E} {x : Expr} {elts : List Expr} {kk : Nat} {tpos p pos : Pos} (hg : glB Γ "enumerate" = true) (hp : plB x = true) (ha : PE X x (rdE W Wx (evE I a))) :
    PI X (.Tuple elts kk tpos) (.Call (.Name "enumerate" p) [x] [] pos) (rdI W Wx (evI I (.enum a))) := by
  obtain ⟨g1, g2⟩ := glB_of c hg
  refine PI.imp (pi_enum g1 c.rng.2.2 (pa_cons ha pa_nil (star_of hp)) (star_of hp)) fun σ H R ⟨F, ρ, bg, st, vr, q⟩ => ?_
  refine rdI_of (α := Unit) st vr (show wpE (Ev.bind (evE I a ρ) fun x => Ev.of (enumT x)) bg _ _ from q) fun y items b1 v1 F1 H1 p1 ef q => ?_
  have t1 := p1.tr
  cases t1 <;> try (cases ef)
  rename_i h1 z1 l1
  exact ⟨_, _, rfl, SqL.of (p1.sta.lst h1), q _ F1 H1 (.refl p1.sta) (it_enum h1 l1) (by simp; exact z1)⟩
end
end
end DI

set_option Elab.async false
set_option linter.all false
set_option maxRecDepth 100000
set_option maxHeartbeats 8000000
namespace DI
open PySem L2

section
open PySem.W PySem.Calls PyProof.Rows
variable {prog : Program} {w : World} {A : Around} {E : Value → Shared → Prop} {s : Shared} {K : Frag} {y C L f g : Addr} {h₀ : Heap} {m : Str → Option Value} {oy : Obj} {od : Option Obj}
theorem int_mul_ref (h : s.heap.get? y = some oy) (hd : oy.data = .plain) {i : Int} {t : Tok} {Q : Value → Shared → Prop} (q : Q .notImplemented s) : wpAny (model prog w) A (call (.builtin "int.__mul__") [.int i t, .ref y]) Q E s := by
  refine GQ.call_here F.slot_int_mul (typeIs_int s i t) F.entry_int_mul (F.args_int_mul_2 _ _) ?_
  obtain ⟨hp, g, d, tk, os⟩ := s
  obtain ⟨oc, odd, dt, sl⟩ := oy
  simp only at hd
  subst hd
  wp_walk using wpAny_load h
  exact q
theorem rmul_K {i : Int} {t : Tok} {Q : Value → Shared → Prop} (F' : Fr h₀ L s.heap m) (X₀ : K.In h₀) (I : InstAt s.heap y oy C od) (hd : oy.data = .plain) (hc : selfFirst K C = true) (hm : findIn K (.ref C) (PySem.dunder "mul") = some (some (.ref g))) (hs : findIn K (.ref C) (PySem.dunderR "mul") = some (some (.ref f))) (hf : isFn K (.ref f) = true)
    (hsub : subIn K (.ref C) (.type "int") = some false) (h : wpAny (model prog w) A (call (.ref f) [.ref y, .int i t]) (PySem.W.CmpBack Q) E s) : wpAny (model prog w) A (binaryOp .Mult (.int i t) (.ref y)) Q E s := by
  have X := X₀.keeps F'.keep
  obtain ⟨cd, rest, hcd, hmro⟩ := ksp_first hc
  have one := ksp_try X I hs hf h
  show wpAny _ _ (binaryOp .Mult (.int i t) (.ref y)) _ _ _
  simp only [binaryOp, Operator.info]
  refine wpAny_holding (wpAny_bind ?_)
  unfold binaryOp1
  refine wpAny_bind (wpAny_typeOf (typeIs_int s i t) (wpAny_bind (I.type.here (wpAny_bind (wpAny_of_eq F.fills_int_mul ?_)))))
  have hne : (Value.type "int" == Value.ref C) = false := Bool.eq_false_iff.mpr fun q => by cases beq_iff_eq.mp q
  simp only [hne, Bool.false_eq_true, if_false]
  refine wpAny_bind ((fills_K X hcd hmro hm).here ?_)
  simp only [Bool.and_self, if_true]
  refine wpAny_bind ((looks_subIn X hsub).here ?_)
  have hpy : numberSlotInPython (.type "int") "mul" = pure false := rfl
  simp only [Bool.false_eq_true, if_false, pure_bind, Bool.not_false, Bool.and_self, if_true, hpy]
  refine wpAny_bind (wpAny_tryMethod_declines (typeIs_int s i t) F.slot_int_mul (int_mul_ref I.at_ hd ⟨rfl, ?_⟩))
  simp only
  refine wpAny_bind (wpAny_mono one (fun r s' hr' => ?_) fun _ _ e => e)
  obtain ⟨v, rfl, hq⟩ := hr'
  simp only
  refine wpAny_bind (wpAny_rule (wpAny_pure ?_))
  exact wpAny_pure hq
end
section
variable {X : Cx} {W : Wd} {G : Gm} {Wx : WX} {I : Ien} {k : Nat} {Γ : Cc}
/-- a def runs somewhere below the body -/
theorem run_at {CX : CXT} {A : Around} {j : Nat} {f : Addr} {fd : FuncData} {ps : List Str} {sp : Sp} {pins : List (Addr × Obj)} {σ : L2.St} {H : Hp} {s : Shared} {Q : VK} {E : XK} {args : Args} {us : List Value} {vs : List V} (fr : A.frames = X.A.frames) (hr : Room j A)
    (F : FnOk X.prog X.w X.K X.mg X.base CX j f fd ps sp) (hb : BindsTo s fd args (ps.zip us)) (hx : PassesAt CX X σ E) (I : Inv X pins σ H s) (r : Vals vs us) (h : sp vs H Q E) :
    codeAny (model X.prog X.w) A (.call (.ref f) args) (fun r s' => match r with | .ok (.ret u) => EP X pins σ Q u s' | .ok _ => False | .error e => X.xe e s') s := by
  have e0 : Env0 X.prog X.w X.K X.mg X.base A X.stack s H := by
    have e := I.env0
    exact ⟨by rw [fr]; exact e.frames, e.mod, e.bs, e.bsz, e.funs, e.frf, e.hok, e.bare⟩
  refine codeAny_mono (F.run A X.stack s H args us vs Q E hr e0 hb r h) fun r s' hq => ?_
  cases r with
  | error e => exact hx pins H s e s' I hq
  | ok fl =>
    cases fl with
    | ret u => exact I.after hq
    | next => exact False.elim hq
    | brk => exact False.elim hq
    | cont => exact False.elim hq
theorem call_at {A : Around} {f : Addr} {us : List Value} {pins : List (Addr × Obj)} {σ : L2.St} {s : Shared} {Q : VK}
    (h : codeAny (model X.prog X.w) A (.call (.ref f) ⟨us, []⟩) (fun r s' => match r with | .ok (.ret u) => EP X pins σ Q u s' | .ok _ => False | .error e => X.xe e s') s) : wpAny (model X.prog X.w) A (call (.ref f) us) (EP X pins σ Q) X.xe s := by
  refine wpAny_call (codeAny_mono h fun r s' hq => ?_)
  cases r with
  | error e => exact hq
  | ok fl =>
    cases fl with
    | ret u => exact hq
    | next => exact False.elim hq
    | brk => exact False.elim hq
    | cont => exact False.elim hq
theorem ep_back {pins : List (Addr × Obj)} {σ : L2.St} {Q : VK} {u : Value} {s : Shared} (h : EP X pins σ Q u s) : PySem.W.CmpBack (EP X pins σ Q) u s := by
  obtain ⟨v, H, I, r, q⟩ := h
  cases v with
  | non => cases (show u = _ from r); exact ⟨_, H, I, r, q⟩
  | bl b => cases (show u = _ from r); exact ⟨_, H, I, r, q⟩
  | int i => obtain ⟨t, e⟩ := r; subst e; exact ⟨.int i, H, I, ⟨t, rfl⟩, q⟩
  | str i => obtain ⟨t, e⟩ := r; subst e; exact ⟨.str i, H, I, ⟨t, rfl⟩, q⟩
  | byt i => obtain ⟨t, e⟩ := r; subst e; exact ⟨.byt i, H, I, ⟨t, rfl⟩, q⟩
  | flt i => obtain ⟨t, e⟩ := r; subst e; exact ⟨.flt i, H, I, ⟨t, rfl⟩, q⟩
  | ref a => cases (show u = _ from r); exact ⟨_, H, I, r, q⟩
  | ty n => cases (show u = _ from r); exact ⟨_, H, I, r, q⟩

/-- two parts and what is done with them -/
def rOO (W : Wd) (Wx : WX) (g : T → T → Ev T) (σ : L2.St) (v1 v2 : V) (H : Hp) (Q : VK) : Prop := ∃ F b x y, Sta W F H b ∧ Tr W F v1 x ∧ Tr W F v2 y ∧ wpE (g x y) b (fun t b' => ∀ v F' H', Post W F H b' t v F' H' → Q v H') (WXat W Wx σ F H)
theorem rd2 {a b e' : E} {g : T → T → Ev T} {σ : L2.St} {H : Hp} {Q : VK} (he : ∀ ρ, evE I e' ρ = Ev.bind (evE I a ρ) fun x => Ev.bind (evE I b ρ) fun y => g x y) (h : rdE W Wx (evE I e') σ H Q) :
    rdE W Wx (evE I a) σ H fun v1 H1 => rdE W Wx (evE I b) σ H1 fun v2 H2 => rOO W Wx g σ v1 v2 H2 Q := by
  obtain ⟨F, ρ, bg, st, vr, q⟩ := h
  rw [he] at q
  refine rd_next (.refl st) vr q fun x b1 v1 F1 H1 p1 q => rd_next p1.go (vr.mono p1.grow.sub) q fun y b2 v2 F2 H2 p2 q => ?_
  exact ⟨F2, b2, x, y, p2.sta, p1.tr.mono p2.grow.sub, p2.tr, wpE_mono q (fun t b' q v F' H' p => q v F' H' (p1.trans (p2.trans p))) fun x b' h => (p1.go.trans p2.go).x h⟩
/-- one part -/
def rO1 (W : Wd) (Wx : WX) (g : T → Ev T) (σ : L2.St) (v1 : V) (H : Hp) (Q : VK) : Prop := ∃ F b x, Sta W F H b ∧ Tr W F v1 x ∧ wpE (g x) b (fun t b' => ∀ v F' H', Post W F H b' t v F' H' → Q v H') (WXat W Wx σ F H)
theorem rd1 {a e' : E} {g : T → Ev T} {σ : L2.St} {H : Hp} {Q : VK} (he : ∀ ρ, evE I e' ρ = Ev.bind (evE I a ρ) fun x => g x) (h : rdE W Wx (evE I e') σ H Q) :
    rdE W Wx (evE I a) σ H fun v1 H1 => rO1 W Wx g σ v1 H1 Q := by
  obtain ⟨F, ρ, bg, st, vr, q⟩ := h
  rw [he] at q
  refine rd_next (.refl st) vr q fun x b1 v1 F1 H1 p1 q => ?_
  exact ⟨F1, b1, x, p1.sta, p1.tr, wpE_mono q (fun t b' q v F' H' p => q v F' H' (p1.trans p)) fun x b' h => p1.go.x h⟩
theorem kdObj_some {c : Str} {x : T} {u : Unit} (h : kdObj c x = some u) : ∃ ns ts, x = .obj c ns ts := by
  unfold kdObj at h
  split at h
  · split at h
    · rename_i e; subst e; exact ⟨_, _, rfl⟩
    · cases h
  · cases h
theorem obj_at {F H : Hp} {b : Bag} {v : V} {c : Str} {ns : List Str} {ts : List T} {C : Addr} (st : Sta W F H b) (hc : W.cl c = some C) (h : Tr W F v (.obj c ns ts)) : ∃ a dx fs, v = .ref a ∧ H a = some (.ins C dx fs) ∧ fs.map (·.1) = ns ∧ TrL W F (fs.map (·.2)) ts := by
  cases h with
  | obj ha hc' l =>
    rw [hc] at hc'
    cases hc'
    exact ⟨_, _, _, rfl, st.ins ha, rfl, l⟩
theorem mtB_some {f : Nat} {n : Str} (h : mtB G f n = true) : ∃ c, G.mt f = some (c, n) := by
  unfold mtB at h
  split at h
  · rename_i p e
    rw [decide_eq_true_eq] at h
    exact ⟨p.1, by rw [e, ← h]⟩
  · cases h
/-- the call of a method on two values -/
theorem meth_run2 (c : CxI X W Wx G I k Γ) {pins : List (Addr × Obj)} {σ : L2.St} {H F : Hp} {s : Shared} {b : Bag} {Q : VK} {x y : T} {v1 v2 : V} {u1 u2 : Value} {f : Nat} {a : Addr} {fd : FuncData} (ok : FnOk X.prog X.w X.K X.mg X.base (L2.CX X.prog X.w) (k + 2) a fd (I.pars f) (spF W (I.pars f).length (I.call f))) (hb : Binds X.K fd (I.pars f) [])
    (I' : Inv X pins σ H s) (r1 : RelV v1 u1) (r2 : RelV v2 u2) (st : Sta W F H b) (t1 : Tr W F v1 x) (t2 : Tr W F v2 y) (q : wpE (I.call f [x, y]) b (fun t b' => ∀ v F' H', Post W F H b' t v F' H' → Q v H') (WXat W Wx σ F H)) :
    wpAny (model X.prog X.w) X.A (call (.ref a) [u1, u2]) (EP X pins σ Q) X.xe s := by
  have hl : [x, y].length = (I.pars f).length := call_len (fun b r h => c.fns.len f _ b r h) q
  refine call_at (run_at (us := [u1, u2]) (vs := [v1, v2]) (E := WE Wx σ) rfl c.room ok ?_ (passAt c.tk σ) I' (.cons r1 (.cons r2 .nil)) (spF_of st (.cons t1 (.cons t2 .nil)) hl q))
  have := hb s [u1, u2] I'.kIn (by simpa using hl)
  simpa using this
theorem se_obin (c : CxI X W Wx G I k Γ) {op : Operator} {f : Nat} {a b : E} {l r : Expr} {pos : Pos} (hm : mtB G f (PySem.dunder op.info.2) = true) (ha : PE X l (rdE W Wx (evE I a))) (hb : PE X r (rdE W Wx (evE I b))) :
    PE X (.BinOp l op r pos) (rdE W Wx (evE I (.obin op f a b))) := by
  obtain ⟨cn, hmt⟩ := mtB_some hm
  obtain ⟨em, C, ad, fd, hcl, mth, ok, _, hbn, _⟩ := c.fns.mt f _ _ hmt
  refine ⟨fun pins s σ H Q I' h => ?_⟩
  refine wpAny_BinOp (L2.binT ha hb I' (rd2 (fun ρ => rfl) h) fun u1 u2 s2 v1 v2 H2 I2 r1 r2 q => ?_)
  obtain ⟨F, bg, x, y, st, t1, t2, q⟩ := q
  rw [em] at q
  obtain ⟨_, e1, q⟩ := wpE_of.mp (wpE_bind.mp q)
  obtain ⟨_, e2, q⟩ := wpE_of.mp (wpE_bind.mp q)
  obtain ⟨ns, ts, rfl⟩ := kdObj_some e1
  obtain ⟨ns', ts', rfl⟩ := kdObj_some e2
  obtain ⟨a1, dx1, fs1, rfl, h1, _⟩ := obj_at st hcl t1
  obtain ⟨a2, dx2, fs2, rfl, h2, _⟩ := obj_at st hcl t2
  have run := meth_run2 c ok hbn I2 r1 r2 st t1 t2 q
  cases r1
  cases r2
  obtain ⟨mA, J, _⟩ := ins_get I2.hok h1
  obtain ⟨mB, J', _⟩ := ins_get I2.hok h2
  obtain ⟨od, J, _⟩ := J.look
  obtain ⟨od', J', _⟩ := J'.look
  obtain ⟨m, hF⟩ := I2.fr
  exact PySem.W.binop_K hF I2.ok.mod.kin J J'.type (by rw [c.K]; exact (W.ok _ _ hcl).sf) mth.at_ mth.fn (wpAny_mono run (fun _ _ h => ep_back h) fun _ _ h => h)
theorem kit_sub {K : PySem.W.Frag} {t c : Value} (h : PySem.W.kitOne K t c = some false) : PySem.W.subIn K t c = some false := by
  unfold PySem.W.kitOne at h
  split at h
  · cases h
  · unfold PySem.W.kitCls at h
    split at h
    · split at h
      · exact h
      · cases h
    · split at h
      · exact h
      · cases h
    · cases h
theorem intT_tr {F : Hp} {v : V} {t : T} {i : Int} (h : Tr W F v t) (e : intT t = some i) : v = .int i := by
  cases h <;> cases e
  rfl
theorem find_int_mul {K : PySem.W.Frag} : ∃ fo ro, PySem.W.findIn K (.type "int") (PySem.dunder "mul") = some fo ∧ PySem.W.findIn K (.type "int") (PySem.dunderR "mul") = some ro := by
  exact ⟨_, _, rfl, rfl⟩
theorem se_obinI (c : CxI X W Wx G I k Γ) {f : Nat} {a b : E} {l r : Expr} {pos : Pos} (hm : mtB G f (PySem.dunder (Operator.info .Mult).2) = true) (hoi : f ∈ G.oi) (ha : PE X l (rdE W Wx (evE I a))) (hb : PE X r (rdE W Wx (evE I b))) :
    PE X (.BinOp l .Mult r pos) (rdE W Wx (evE I (.obinI .Mult f a b))) := by
  obtain ⟨cn, hmt⟩ := mtB_some hm
  obtain ⟨em, C, ad, fd, hcl, mth, ok, _, hbn, _⟩ := c.fns.mt f _ _ hmt
  obtain ⟨g1, g2, o1, o2, o3, o4⟩ := c.fns.oi f hoi _ _ C hmt hcl
  refine ⟨fun pins s σ H Q I' h => ?_⟩
  refine wpAny_BinOp (L2.binT ha hb I' (rd2 (fun ρ => rfl) h) fun u1 u2 s2 v1 v2 H2 I2 r1 r2 q => ?_)
  obtain ⟨F, bg, x, y, st, t1, t2, q⟩ := q
  rw [em] at q
  obtain ⟨_, e1, q⟩ := wpE_of.mp (wpE_bind.mp q)
  obtain ⟨i, e2, q⟩ := wpE_of.mp (wpE_bind.mp q)
  obtain ⟨ns, ts, rfl⟩ := kdObj_some e1
  obtain ⟨a1, dx1, fs1, rfl, h1, _⟩ := obj_at st hcl t1
  have ev := intT_tr t2 e2
  subst ev
  have run := meth_run2 c ok hbn I2 r1 r2 st t1 t2 q
  cases r1
  obtain ⟨tk, rfl⟩ := r2
  obtain ⟨mA, J, _⟩ := ins_get I2.hok h1
  obtain ⟨od, J, _⟩ := J.look
  obtain ⟨m, hF⟩ := I2.fr
  obtain ⟨fo, ro, z1, z2⟩ := find_int_mul (K := X.K)
  exact PySem.W.ksp_binT (op := .Mult) hF I2.ok.mod.kin J (T := "int") rfl (by rw [c.K]; exact (W.ok _ _ hcl).sf) mth.at_ mth.fn o3 (.inr ⟨_, rfl⟩) z1 z2 (by rw [c.K]; exact kit_sub ((W.ok _ _ hcl).b1 "int" (by decide))) (wpAny_mono run (fun _ _ h => ep_back h) fun _ _ h => h)
theorem se_orbin (c : CxI X W Wx G I k Γ) {f : Nat} {a b : E} {l r : Expr} {pos : Pos} (hm : mtB G f (PySem.dunderR (Operator.info .Mult).2) = true) (hoi : f ∈ G.oi) (ha : PE X l (rdE W Wx (evE I a))) (hb : PE X r (rdE W Wx (evE I b))) :
    PE X (.BinOp l .Mult r pos) (rdE W Wx (evE I (.orbin .Mult f a b))) := by
  obtain ⟨cn, hmt⟩ := mtB_some hm
  obtain ⟨em, C, ad, fd, hcl, mth, ok, _, hbn, _⟩ := c.fns.mt f _ _ hmt
  obtain ⟨g1, g2, o1, o2, o3, o4⟩ := c.fns.oi f hoi _ _ C hmt hcl
  refine ⟨fun pins s σ H Q I' h => ?_⟩
  refine wpAny_BinOp (L2.binT ha hb I' (rd2 (fun ρ => rfl) h) fun u1 u2 s2 v1 v2 H2 I2 r1 r2 q => ?_)
  obtain ⟨F, bg, x, y, st, t1, t2, q⟩ := q
  rw [em] at q
  obtain ⟨i, e1, q⟩ := wpE_of.mp (wpE_bind.mp q)
  obtain ⟨_, e2, q⟩ := wpE_of.mp (wpE_bind.mp q)
  obtain ⟨ns, ts, rfl⟩ := kdObj_some e2
  obtain ⟨a1, dx1, fs1, rfl, h1, _⟩ := obj_at st hcl t2
  have ev := intT_tr t1 e1
  subst ev
  have run := meth_run2 c ok hbn I2 r2 r1 st t2 t1 q
  cases r2
  obtain ⟨tk, rfl⟩ := r1
  obtain ⟨mA, J0, _⟩ := ins_get I2.hok h1
  obtain ⟨od, J, _⟩ := J0.look
  obtain ⟨m, hF⟩ := I2.fr
  exact rmul_K hF I2.ok.mod.kin J rfl (by rw [c.K]; exact (W.ok _ _ hcl).sf) o1 mth.at_ mth.fn (by rw [c.K]; exact kit_sub ((W.ok _ _ hcl).b2 "int" (by decide))) (wpAny_mono run (fun _ _ h => ep_back h) fun _ _ h => h)
theorem not_first (c : CxI X W Wx G I k Γ) {cn : Str} {C : Addr} {kd : Kd} {u : Value} (hcl : W.cl cn = some C) (hk : tyW W kd u) : PySem.W.notFirst X.K C u = true := by
  rw [c.K]
  cases kd
  case obj d =>
    obtain ⟨D, hD, rfl⟩ := hk
    by_cases e : d = cn
    · subst e
      rw [hcl] at hD
      cases hD
      simp [PySem.W.notFirst]
    · have := W.oo d cn D C hD hcl
      rw [decide_eq_false e] at this
      have := kit_sub this
      simp [PySem.W.notFirst, this]
  all_goals
    cases hk
    exact (W.ok _ _ hcl).nf _ (by decide)
theorem eq_run (c : CxI X W Wx G I k Γ) {f : Nat} {op : CmpOp} (hm : mtB G f (cmpInfo op).2.1 = true) {pins : List (Addr × Obj)} {σ : L2.St} {H2 : Hp} {s2 : Shared} {v1 v2 : V} {u1 u2 : Value} {Q : VK} (I2 : Inv X pins σ H2 s2) (r1 : RelV v1 u1) (r2 : RelV v2 u2)
    (q : rOO W Wx (fun x y => Ev.bind (Ev.of (kdObj (I.mt f).1 x)) fun _ => Ev.bind (Ev.of (kdOf y)) fun _ => Ev.bind (I.call f [x, y]) fun r => Ev.of (blT r)) σ v1 v2 H2 Q) : wpAny (model X.prog X.w) X.A (richCompare op u1 u2) (EP X pins σ (fun v H => ∃ kk, v = .bl kk ∧ Q v H)) X.xe s2 := by
  obtain ⟨cn, hmt⟩ := mtB_some hm
  obtain ⟨em, C, ad, fd, hcl, mth, ok, _, hbn, _⟩ := c.fns.mt f _ _ hmt
  obtain ⟨F, bg, x, y, st, t1, t2, q⟩ := q
  rw [em] at q
  obtain ⟨_, e1, q⟩ := wpE_of.mp (wpE_bind.mp q)
  obtain ⟨kd, e2, q⟩ := wpE_of.mp (wpE_bind.mp q)
  obtain ⟨ns, ts, rfl⟩ := kdObj_some e1
  obtain ⟨a1, dx1, fs1, rfl, h1, _⟩ := obj_at st hcl t1
  have run := meth_run2 (Q := fun v H => ∃ kk, v = .bl kk ∧ Q v H) c ok hbn I2 r1 r2 st t1 t2 (wpE_mono (wpE_bind.mp q) (fun r b1 q v F' H' p => by
    obtain ⟨r', e3, q⟩ := wpE_of.mp q
    cases r <;> cases e3
    have hp := p
    cases hp.tr
    exact ⟨_, rfl, q _ F' H' p⟩) fun _ _ h => h)
  obtain ⟨u, hw, ty⟩ := kd_ty st t2 e2
  obtain ⟨Pp, Z, pz, _⟩ := kit_of I2 r2 (by rw [c.K]; exact ty)
  cases r1
  obtain ⟨mA, J, _⟩ := ins_get I2.hok h1
  obtain ⟨od, J, _⟩ := J.look
  obtain ⟨m, hF⟩ := I2.fr
  exact PySem.W.cmp_K (op := op) c.room.units0 hF I2.ok.mod.kin J (Z.ty _ _ I2.kIn pz) (not_first c hcl hw) mth.at_ mth.fn (wpAny_mono run (fun _ _ h => ep_back h) fun _ _ h => h)
theorem se_ocmp (c : CxI X W Wx G I k Γ) {f : Nat} {a b : E} {l r : Expr} {pos : Pos} (hm : mtB G f (cmpInfo .Eq).2.1 = true) (hp : plB r = true) (ha : PE X l (rdE W Wx (evE I a))) (hb : PE X r (rdE W Wx (evE I b))) :
    PE X (.Compare l [.Eq] [r] pos) (rdE W Wx (evE I (.ocmp .Eq f a b))) := by
  refine ⟨fun pins s σ H Q I' h => ?_⟩
  exact wpAny_Compare1 (L2.binT ha hb I' (rd2 (fun ρ => rfl) h) fun u1 u2 s2 v1 v2 H2 I2 r1 r2 q => wpAny_mono (show wpAny _ _ (compareOp .Eq u1 u2) _ _ _ from eq_run (op := .Eq) c hm I2 r1 r2 q) (fun u s3 ⟨v, H3, I3, r3, kk, _, q3⟩ => ⟨v, H3, I3, r3, q3⟩) fun _ _ h => h) (mark_of hp)
/-- .. as a test -/
theorem sT_ocmp (c : CxI X W Wx G I k Γ) {f : Nat} {a b : E} {l r : Expr} {pos : Pos} (hm : mtB G f (cmpInfo .Eq).2.1 = true) (hp : plB r = true) (ha : PE X l (rdE W Wx (evE I a))) (hb : PE X r (rdE W Wx (evE I b))) :
    PT X (.Compare l [.Eq] [r] pos) (rdT W Wx (evT I (.tr (.ocmp .Eq f a b)))) := by
  refine st_tst (te := fun σ H Q => rdE W Wx (evE I a) σ H fun v1 H1 => rdE W Wx (evE I b) σ H1 fun v2 H2 => rOO W Wx (fun x y => Ev.bind (Ev.of (kdObj (I.mt f).1 x)) fun _ => Ev.bind (Ev.of (kdOf y)) fun _ => Ev.bind (I.call f [x, y]) fun r => Ev.of (blT r)) σ v1 v2 H2 Q) (fun σ H Q q => rd2 (fun ρ => rfl) q) ?_ fun ρ b1 Q Xq q => ?_
  · refine ⟨fun pins s σ H Q I h => ?_⟩
    refine wpAny_isTrue_Compare1 (thn (ha.run pins s σ H _ I h) fun v s1 ⟨x, H1, I1, r1, q1⟩ => thn (hb.run pins s1 σ H1 _ I1 q1) fun u s2 ⟨y, H2, I2, r2, q2⟩ =>
      thn (show wpAny _ _ (compareOp .Eq v u) _ _ _ from eq_run (op := .Eq) c hm I2 r1 r2 q2) fun c s3 ⟨z, H3, I3, r3, kk, e, k, e', q3⟩ => ?_) (mark_of hp)
    subst e'
    cases r3
    exact wpAny_truthy_bool ⟨H3, I3, q3⟩
  · refine (wpE_bind (m := evE I a ρ)).mpr (wpE_mono (wpE_bind.mp (show wpE (Ev.bind (evE I a ρ) _) b1 _ _ from q)) (fun x b2 q => ?_) fun _ _ h => h)
    refine (wpE_bind (m := evE I b ρ)).mpr (wpE_mono (wpE_bind.mp q) (fun y b3 q => ?_) fun _ _ h => h)
    obtain ⟨u1, e1, q⟩ := wpE_of.mp (wpE_bind.mp q)
    refine wpE_bind.mpr (wpE_of.mpr ⟨u1, e1, ?_⟩)
    obtain ⟨u2, e2, q⟩ := wpE_of.mp (wpE_bind.mp q)
    refine wpE_bind.mpr (wpE_of.mpr ⟨u2, e2, ?_⟩)
    refine wpE_bind.mpr (wpE_mono (wpE_bind.mp q) (fun z b4 q => ?_) fun _ _ h => h)
    obtain ⟨t, e, q⟩ := wpE_of.mp q
    refine wpE_of.mpr ⟨t, e, q, ?_⟩
    cases z <;> cases e
    exact ⟨_, rfl⟩
theorem frames_in1 (A : Around) : A.in1.frames = A.frames := rfl
theorem ep_str {pins : List (Addr × Obj)} {σ : L2.St} {Q : VK} {u : Value} {s : Shared} (h : EP X pins σ (fun v H => ∃ y, v = .str y ∧ Q v H) u s) : PySem.W.StrBack (EP X pins σ Q) u s := by
  obtain ⟨v, H, I, r, y, rfl, q⟩ := h
  obtain ⟨t, e⟩ := r
  subst e
  exact ⟨.str y, H, I, ⟨t, rfl⟩, q⟩
theorem se_ostr (c : CxI X W Wx G I k Γ) {f : Nat} {a : E} {x : Expr} {p pos : Pos} (hg : glB Γ "str" = true) (hm : mtB G f "__str__" = true) (hp : plB x = true) (ha : PE X x (rdE W Wx (evE I a))) :
    PE X (.Call (.Name "str" p) [x] [] pos) (rdE W Wx (evE I (.ostr f a))) := by
  obtain ⟨cn, hmt⟩ := mtB_some hm
  obtain ⟨em, C, ad, fd, hcl, mth, _, ok, hbn, _⟩ := c.fns.mt f _ _ hmt
  obtain ⟨g1, g2⟩ := glB_of c hg
  refine ⟨fun pins s σ H Q I' h => ?_⟩
  refine wpAny_Call_Name_kw (ld_blt I' g1 (c.bi .str) (bi_boot .str) ?_ (by decide) g2)
  refine PyProof.Rows.callWith_type1 (thn ((pa_cons ha pa_nil (star_of hp)).run pos pins s σ H (fun vs H1 => ∃ v, vs = [v] ∧ rO1 W Wx (fun x => Ev.bind (Ev.of (kdObj (I.mt f).1 x)) fun _ => Ev.bind (I.low f [x]) fun r => Ev.of (strT r)) σ v H1 Q) I' ?_) fun us s1 ⟨vs, H1, I1, r1, v, ev, q1⟩ => ?_) (star_of hp) (star_all (es := []) (fun _ h => by cases h) pos)
  · obtain ⟨F, ρ, bg, st, vr, q⟩ := rd1 (g := fun x => Ev.bind (Ev.of (kdObj (I.mt f).1 x)) fun _ => Ev.bind (I.low f [x]) fun r => Ev.of (strT r)) (fun ρ => rfl) h
    exact ⟨F, ρ, bg, st, vr, wpE_mono q (fun t b' q v F' H' p => ⟨v, rfl, q v F' H' p⟩) fun _ _ h => h⟩
  · subst ev
    obtain ⟨u, rfl, r1'⟩ := vals1 r1
    obtain ⟨F, bg, x, st, t1, q⟩ := q1
    rw [em] at q
    obtain ⟨_, e1, q⟩ := wpE_of.mp (wpE_bind.mp q)
    obtain ⟨ns, ts, rfl⟩ := kdObj_some e1
    obtain ⟨a1, dx1, fs1, rfl, h1, _⟩ := obj_at st hcl t1
    have q := wpE_bind.mp q
    have hl : [T.obj cn ns ts].length = (I.pars f).length := call_len (fun b r h => c.fns.lenL f _ b r h) q
    have run : wpAny (model X.prog X.w) X.A.in1.in1 (call (.ref ad) [u]) (EP X pins σ fun v H => ∃ y, v = .str y ∧ Q v H) X.xe s1 := by
      refine call_at (run_at (us := [u]) (vs := [.ref a1]) (E := WE Wx σ) rfl (c.room.in1.in1) ok ?_ (passAt c.tk σ) I1 (.cons r1' .nil) (spF_of st (.cons t1 .nil) hl (wpE_mono q (fun r b1 q v F' H' p => ?_) fun _ _ h => h)))
      · have := hbn s1 [u] I1.kIn (by simpa using hl)
        simpa using this
      · obtain ⟨r', e2, q⟩ := wpE_of.mp q
        cases r <;> cases e2
        have p' := p
        cases p'.tr
        exact ⟨_, rfl, q _ F' H' p⟩
    cases r1'
    obtain ⟨mA, J, _⟩ := ins_get I1.hok h1
    obtain ⟨od, J, _⟩ := J.look
    exact PySem.W.kso_call (by have := c.room.un; show X.A.units + 1 + 1 < cLine; omega) I1.kIn J mth.at_ mth.fn (wpAny_mono run (fun _ _ h => ep_str h) fun _ _ h => h)
theorem se_fmt {a : E} {x : Expr} {pos : Pos} (ha : PE X x (rdE W Wx (evE I a))) : PE X (.FormattedValue x (-1) none pos) (rdE W Wx (evE I (.fmt a))) := by
  refine PE.imp (pe_fmt ha) fun σ H Q ⟨F, ρ, bg, st, vr, q⟩ => ?_
  refine rd_next (.refl st) vr (show wpE (Ev.bind (evE I a ρ) fun x => Ev.of (fmtT x)) bg _ _ from q) fun x b1 v F1 H1 p q => ?_
  obtain ⟨t, e, q⟩ := wpE_of.mp q
  have hp := p
  cases hp.tr <;> try (cases e; done)
  case int i =>
    simp only [fmtT] at e
    split at e
    · rename_i hw
      cases e
      have h1 := PySem.Flt.log2_lt_of (by decide : 0 < 300) (wide_lt2 hw.1)
      exact .inr ⟨_, rfl, by omega, q _ F1 H1 (p.go.at (.str _ hw.2))⟩
    · cases e
  case str y z =>
    cases e
    exact .inl ⟨_, rfl, Nat.le_trans z LIM_le, q _ F1 H1 p⟩
theorem se_fld (c : CxI X W Wx G I k Γ) {a : E} {f : Str} {x : Expr} {pos : Pos} (hr : rcB x = true) (ha : PE X x (rdE W Wx (evE I a))) : PE X (.Attribute x f pos) (rdE W Wx (evE I (.fld a f))) := by
  refine PE.imp (pe_fld ha (rc_of hr)) fun σ H Q ⟨F, ρ, bg, st, vr, q⟩ => ?_
  refine rd_next (.refl st) vr (show wpE (Ev.bind (evE I a ρ) fun x => Ev.of (fldT I.fok f x)) bg _ _ from q) fun x b1 v F1 H1 p q => ?_
  obtain ⟨t, e, q'⟩ := wpE_of.mp q
  clear q
  have hp := p
  cases hp.tr <;> try (cases e; done)
  rename_i ad C dx n fs ts ha' hc hl
  simp only [fldT] at e
  split at e
  · rename_i hfo
    have key : ∀ {fs : List (Str × V)} {ts : List T}, TrL W F1 (fs.map (·.2)) ts → ((fs.map (·.1)).zip ts).lookup f = some t → ∃ v, fs.lookup f = some v ∧ Tr W F1 v t := by
      intro fs
      induction fs with
      | nil => intro ts l e; simp at e
      | cons p r ih =>
        intro ts l e
        obtain ⟨n, v⟩ := p
        cases l with
        | @cons _ t' _ ts' h1 h2 =>
          simp only [List.map_cons, List.zip_cons_cons, List.lookup_cons] at e ⊢
          cases hb : f == n with
          | true => rw [hb] at e; cases e; exact ⟨v, rfl, h1⟩
          | false => rw [hb] at e; exact ih h2 e
    obtain ⟨w, e1, h1⟩ := key hl e
    exact ⟨_, _, _, _, w, rfl, p.sta.ins ha', by rw [c.K]; exact (W.ok _ _ hc).cls, c.fns.fok _ _ _ hfo hc, e1, q' _ F1 H1 (p.go.at h1)⟩
  · cases e
end
end DI

set_option Elab.async false
set_option linter.all false
set_option maxRecDepth 100000
set_option maxHeartbeats 8000000
namespace DI
open PySem L2

section
variable {M : Model} {A : Around} {E : Value → Shared → Prop} {s : Shared}
theorem eval_meth {env : Env} {o : Expr} {name : Str} {apos pos : Pos} {args : List Expr} {kws : List Keyword} {Q : Value → Shared → Prop} (hbase : attributeBase o name env (eval o env) = eval o env)
    (hform : methodCallForm (args.length + kws.length) (backTo pos (starEach args env)) (backToKw pos (keywordEach kws env)) = true) (hline : (apos.endLine == pos.line) = true)
    (h : wpAny M A (eval o env) (fun ov s1 => ∀ pl, wpAny M A (getMethod ov name pl) (fun fx s2 => wpAny M A (callWith pos fx.1 fx.2 (backTo pos (starEach args env)) (backToKw pos (keywordEach kws env))) Q E s2) E s1) E s) :
    wpAny M A (eval (.Call (.Attribute o name apos) args kws pos) env) Q E s := by
  rw [arm_eval_Call, hbase]
  refine wpAny_bind (wpAny_mono h (fun ov s₁ h₁ => wpAny_bind (wpAny_standAt ?_)) fun _ _ e => e)
  unfold methodCall calleeOf methodCallPos
  simp only [hform, hline, if_true, Bool.not_true, Bool.or_true]
  exact wpAny_bind (wpAny_holding (wpAny_mono (h₁ _) (fun fx s₂ h₂ => wpAny_bind (wpAny_pure h₂)) fun _ _ e => e))
end
section
variable {X : Cx} {W : Wd} {G : Gm} {Wx : WX} {I : Ien} {k : Nat} {Γ : Cc}
theorem star_form {pos : Pos} {env : Env} : ∀ {xs : List Expr}, (∀ e ∈ xs, plB e = true) → (backTo pos (starEach xs env)).all (fun x => !x.1) = true
  | [], _ => rfl
  | e :: r, h => by
    rw [star_of (h e (by simp))]
    have ih := star_form (pos := pos) (env := env) (xs := r) fun x hx => h x (by simp [hx])
    unfold backTo at ih ⊢
    rw [List.map_cons, List.all_cons, ih]
    rfl
theorem form_args {pos : Pos} {env : Env} {xs : List Expr} (h : ∀ e ∈ xs, plB e = true) (hl : xs.length < 29) : methodCallForm (xs.length + ([] : List Keyword).length) (backTo pos (starEach xs env)) (backToKw pos (keywordEach [] env)) = true := by
  unfold methodCallForm
  rw [star_form h]
  have e : backToKw pos (keywordEach [] env) = [] := rfl
  rw [e]
  simp
  omega
theorem form_kws {pos : Pos} {env : Env} {kws : List Keyword} {ks : List Str} (h : kws.map (·.arg) = ks.map some) (hl : kws.length < 28) : methodCallForm (([] : List Expr).length + kws.length) (backTo pos (starEach [] env)) (backToKw pos (keywordEach kws env)) = true := by
  obtain ⟨k1, _, _⟩ := kw_all (env := env) (pos := pos) h
  unfold methodCallForm
  rw [k1]
  have e : backTo pos (starEach [] env) = [] := rfl
  rw [e]
  simp
  split <;> omega
theorem objM_some {p : Str × Str} {x : T} {u : Unit} (h : objM p x = some u) : ∃ ns ts, x = .obj p.1 ns ts ∧ p.2 ∉ ns := by
  unfold objM at h
  split at h
  · split at h
    · rename_i e; obtain ⟨rfl, e⟩ := e; exact ⟨_, _, rfl, e⟩
    · cases h
  · cases h
theorem lookup_none {m : Str} : ∀ {fs : List (Str × V)}, m ∉ fs.map (·.1) → fs.lookup m = none
  | [], _ => rfl
  | (n, v) :: r, h => by
    simp only [List.map_cons, List.mem_cons, not_or] at h
    rw [List.lookup_cons]
    have : (m == n) = false := by simpa using h.1
    rw [this]
    exact lookup_none h.2
theorem se_meth (c : CxI X W Wx G I k Γ) {f : Nat} {a : E} {es : Es} {o : Expr} {xs : List Expr} {n : Str} {ap cp : Pos} (hm : mtB G f n = true) (hr : rcB o = true) (hl : (ap.endLine == cp.line) = true) (hln : xs.length < 29) (ho : PE X o (rdE W Wx (evE I a))) (ha : PA X xs (rdA W Wx (evEs I es))) (hp : ∀ e ∈ xs, plB e = true) (hnil : xs = [] → es = .nil) :
    PE X (.Call (.Attribute o n ap) xs [] cp) (rdE W Wx (evE I (.meth f a es))) := by
  obtain ⟨cn, hmt⟩ := mtB_some hm
  obtain ⟨em, C, ad, fd, hcl, mth, ok, _, hbn, _⟩ := c.fns.mt f _ _ hmt
  refine ⟨fun pins s σ H Q I' h => ?_⟩
  obtain ⟨F, ρ, bg, st, vr, q⟩ := h
  refine eval_meth (rc_of hr) (form_args hp hln) hl (thn (ho.run pins s σ H (fun v H1 => ∃ a1 dx fs, v = .ref a1 ∧ H1 a1 = some (.ins C dx fs) ∧ fs.lookup n = none ∧ rdA W Wx (evEs I es) σ H1 fun vs H2 => spF W (I.pars f).length (I.call f) (v :: vs) H2 Q (WE Wx σ)) I' ?_) fun u s1 ⟨v, H1, I1, r1, a1, dx, fs, ev, h1, hlk, q1⟩ pl => ?_)
  · refine rd_next (.refl st) vr (show wpE (Ev.bind (evE I a ρ) fun x => Ev.bind (Ev.of (objM (I.mt f) x)) fun _ => Ev.bind (evEs I es ρ) fun ts => I.call f (x :: ts)) bg _ _ from q) fun x b1 v F1 H1 p1 q => ?_
    rw [em] at q
    obtain ⟨_, e1, q⟩ := wpE_of.mp (wpE_bind.mp q)
    obtain ⟨ns, ts, rfl, hn⟩ := objM_some e1
    obtain ⟨a1, dx1, fs1, rfl, h1, en, _⟩ := obj_at p1.sta hcl p1.tr
    subst en
    refine ⟨a1, dx1, fs1, rfl, h1, lookup_none hn, rdA_next p1.go (vr.mono p1.grow.sub) q fun us b2 vs F2 H2 p2 q => ?_⟩
    have hl' := call_len (fun b r h => c.fns.len f _ b r h) q
    exact spF_of p2.sta (.cons (p1.tr.mono p2.grow.sub) p2.tr) (by rw [List.length_cons, p2.tr.length]; exact hl') (wpE_mono q (fun t b' q v F' H' p => q v F' H' (p1.go.post (p2.go.post p))) fun x b' h => (p1.go.trans p2.go).x h)
  · subst ev
    cases r1
    refine getmeth_ok I1 h1 (by rw [c.K]; exact (W.ok _ _ hcl).cls) mth hlk ?_
    have key : ∀ {us : List Value} {s2 : Shared} {H2 : Hp} {vs : List V}, Inv X pins σ H2 s2 → Vals vs us → spF W (I.pars f).length (I.call f) (.ref a1 :: vs) H2 Q (WE Wx σ) → wpAny (model X.prog X.w) X.A (call (.ref ad) (.ref a1 :: us)) (EP X pins σ Q) X.xe s2 := fun {us s2 H2 vs} I2 r2 q2 => by
      have hln : (Value.ref a1 :: us).length = (I.pars f).length := by
        rw [← ok.len _ _ _ _ q2, List.length_cons, List.length_cons, r2.length]
      refine call_at (run_at (us := .ref a1 :: us) (vs := .ref a1 :: vs) (E := WE Wx σ) rfl c.room ok ?_ (passAt c.tk σ) I2 (.cons rfl r2) q2)
      have := hbn s2 (.ref a1 :: us) I2.kIn (by rw [List.append_nil]; exact hln)
      rw [List.append_nil] at this
      exact this
    cases xs with
    | nil =>
      refine PySem.W.callWith_K0 (first := [.ref a1]) I1.kIn mth.kp ?_
      obtain rfl := hnil rfl
      obtain ⟨F2, ρ2, b2, st2, vr2, q2⟩ := q1
      exact key (us := []) (vs := []) I1 .nil ((show wpE (Ev.pure []) b2 _ _ from q2) [] F2 H1 ⟨Grow.refl _ _, Keep.refl _ _, st2, .nil⟩)
    | cons e r =>
      refine PySem.W.callWith_K (first := [.ref a1]) (h₀ := X.base) I1.ok.mod.kin mth.kp (thn (ha.run cp pins s1 σ H1 _ I1 q1) fun us s2 ⟨vs, H2, I2, r2, q2⟩ => ⟨I2.kIn, ?_⟩) (star_of (hp e (by simp))) (star_all (fun z hz => hp z (by simp [hz])) cp)
      exact key I2 r2 q2
theorem se_methK (c : CxI X W Wx G I k Γ) {f : Nat} {a : E} {es : Es} {ks : List Str} {o : Expr} {kws : List Keyword} {n : Str} {ap cp : Pos} (hm : mtB G f n = true) (hr : rcB o = true) (hl : (ap.endLine == cp.line) = true) (hln : kws.length < 28) (hkw : (f, ks) ∈ G.tkw) (hks : kws.map (·.arg) = ks.map some)
    (ho : PE X o (rdE W Wx (evE I a))) (ha : PK X kws (rdA W Wx (evEs I es))) (hlen : ∀ ρ b Q Xq, wpE (evEs I es ρ) b Q Xq → wpE (evEs I es ρ) b (fun ts b' => Q ts b' ∧ ts.length = ks.length) Xq) :
    PE X (.Call (.Attribute o n ap) [] kws cp) (rdE W Wx (evE I (.methK f a es ks))) := by
  obtain ⟨cn, hmt⟩ := mtB_some hm
  obtain ⟨em, C, ad, fd, hcl, mth, ok, _, hbn, hbk⟩ := c.fns.mt f _ _ hmt
  obtain ⟨k1, k2, k3⟩ := kw_all (env := X.env) (pos := cp) hks
  refine ⟨fun pins s σ H Q I' h => ?_⟩
  obtain ⟨F, ρ, bg, st, vr, q⟩ := h
  refine eval_meth (rc_of hr) (form_kws hks hln) hl (thn (ho.run pins s σ H (fun v H1 => ∃ a1 dx fs, v = .ref a1 ∧ H1 a1 = some (.ins C dx fs) ∧ fs.lookup n = none ∧ rdA W Wx (evEs I es) σ H1 fun vs H2 => vs.length = ks.length ∧ spF W (I.pars f).length (I.call f) (v :: permG ((I.pars f).drop 1) ks vs) H2 Q (WE Wx σ)) I' ?_) fun u s1 ⟨v, H1, I1, r1, a1, dx, fs, ev, h1, hlk, q1⟩ pl => ?_)
  · refine rd_next (.refl st) vr (show wpE (Ev.bind (evE I a ρ) fun x => Ev.bind (Ev.of (objM (I.mt f) x)) fun _ => Ev.bind (evEs I es ρ) fun ts => I.call f (x :: permG ((I.pars f).drop 1) ks ts)) bg _ _ from q) fun x b1 v F1 H1 p1 q => ?_
    rw [em] at q
    obtain ⟨_, e1, q⟩ := wpE_of.mp (wpE_bind.mp q)
    obtain ⟨ns, ts, rfl, hn⟩ := objM_some e1
    obtain ⟨a1, dx1, fs1, rfl, h1, en, _⟩ := obj_at p1.sta hcl p1.tr
    subst en
    refine ⟨a1, dx1, fs1, rfl, h1, lookup_none hn, F1, ρ, b1, p1.sta, vr.mono p1.grow.sub, wpE_mono (hlen _ _ _ _ (wpE_bind.mp q)) (fun us b2 q vs F2 H2 p2 => ⟨by rw [p2.tr.length]; exact q.2, ?_⟩) fun x b' h => p1.go.x h⟩
    have q := q.1
    have hl' := call_len (fun b r h => c.fns.len f _ b r h) q
    have pr := permG_rel (ps := (I.pars f).drop 1) (ks := ks) p2.tr.paired
    exact spF_of p2.sta (.cons (p1.tr.mono p2.grow.sub) (TrL.of_paired pr)) (by rw [List.length_cons, pr.length]; exact hl') (wpE_mono q (fun t b' q v F' H' p => q v F' H' (p1.go.post (p2.go.post p))) fun x b' h => (p1.go.trans p2.go).x h)
  · subst ev
    cases r1
    refine getmeth_ok I1 h1 (by rw [c.K]; exact (W.ok _ _ hcl).cls) mth hlk ?_
    refine PySem.W.callWith_KW0 (first := [.ref a1]) (h₀ := X.base) I1.ok.mod.kin mth.kp k1 (thn (ha.run cp pins s1 σ H1 _ I1 q1) fun ws s2 ⟨zs, H2, I2, rz, l1, q2⟩ => ⟨I2.kIn, ?_⟩) (by rw [k3]; rfl)
    rw [k2]
    have r2 : Vals (permG ((I.pars f).drop 1) ks zs) (permG ((I.pars f).drop 1) ks ws) := permG_rel rz
    refine wpAny_call (codeAny_mono (run_at (args := ⟨[.ref a1] ++ [], ks.zip ws⟩) (us := .ref a1 :: permG ((I.pars f).drop 1) ks ws) (vs := .ref a1 :: permG ((I.pars f).drop 1) ks zs) (E := WE Wx σ) rfl c.room ok (hbk ks hkw s2 _ ws I2.kIn (by rw [← rz.length]; exact l1)) (passAt c.tk σ) I2 (.cons rfl r2) q2) fun r s' hq => ?_)
    cases r with
    | error e => exact hq
    | ok fl =>
      cases fl with
      | ret u => exact hq
      | next => exact False.elim hq
      | brk => exact False.elim hq
      | cont => exact False.elim hq
/-- a new instance is made -/
theorem run_mk (c : CxI X W Wx G I k Γ) {C f : Addr} {fd : FuncData} {i : Nat} {cn : Str} {pins : List (Addr × Obj)} {σ : L2.St} {F H : Hp} {s : Shared} {b : Bag} {Q : VK} {us ws : List Value} {vs : List V} {ts : List T} {kw : List (Str × Value)} (hcl : W.cl cn = some C) (M : Mk X.K C f)
    (ok : FnOk X.prog X.w X.K X.mg X.base (L2.CX X.prog X.w) (k + 1) f fd (("self" : Str) :: I.mpars i) (spI W (I.mpars i).length cn (I.make i))) (hb : ∀ (s : Shared) (w0 : Value), X.K.In s.heap → BindsTo s fd ⟨w0 :: us, kw⟩ ((("self" : Str) :: I.mpars i).zip (w0 :: ws)))
    (I' : Inv X pins σ H s) (r : Vals vs ws) (st : Sta W F H b) (tl : TrL W F vs ts) (q : wpE (I.make i ts) b (fun t b' => ∀ v F' H', Post W F H b' t v F' H' → Q v H') (WXat W Wx σ F H)) :
    wpAny (model X.prog X.w) X.A (call (.ref C) us kw) (EP X pins σ Q) X.xe s := by
  have I2 := Inv.made (C := C) I'
  have n1 : H (s.heap.objs.size + 1) = none := I'.hok.fresh (Nat.le_succ _)
  have n2 : H s.heap.objs.size = none := I'.hok.fresh (Nat.le_refl _)
  have ne : s.heap.objs.size ≠ s.heap.objs.size + 1 := Nat.ne_of_lt (Nat.lt_succ_self _)
  have kp : Keep W H (upd (upd H s.heap.objs.size (.own (s.heap.objs.size + 1))) (s.heap.objs.size + 1) (.ins C s.heap.objs.size [])) := (Keep.new n2).trans (Keep.new (by rw [upd_ne ne.symm]; exact n1))
  have fn1 : F (s.heap.objs.size + 1) = none := st.free n1
  have st2 : Sta W F (upd (upd H s.heap.objs.size (.own (s.heap.objs.size + 1))) (s.heap.objs.size + 1) (.ins C s.heap.objs.size [])) b := (st.hid (st.free n2) (st.neB n2) (st.neC n2)).hid fn1 (st.neB n1) (st.neC n1)
  have hln : ts.length = (I.mpars i).length := call_len (fun b r h => c.fns.lenM i _ b r h) q
  have hq : spI W (I.mpars i).length cn (I.make i) (.ref (s.heap.objs.size + 1) :: vs) (upd (upd H s.heap.objs.size (.own (s.heap.objs.size + 1))) (s.heap.objs.size + 1) (.ins C s.heap.objs.size [])) (fun v H2 => v = .non ∧ Q (.ref (s.heap.objs.size + 1)) H2) (WE Wx σ) :=
    ⟨F, H, b, _, C, _, vs, ts, rfl, by rw [tl.length]; exact hln, hcl, upd_same, fn1, n1, st.neB n1, st.neC n1, kp, st2, tl, wpE_mono q (fun t b' q F' H' p => ⟨rfl, q _ F' H' p⟩) fun x b' h cls d F' H' p => h cls d F' H' p⟩
  refine wpAny_call (make_map (f := f) I'.kIn M.makes M.init (beq_iff_eq.mp M.fn) (codeAny_mono (ok.run _ X.stack _ _ ⟨Value.ref (s.heap.objs.size + 1) :: us, kw⟩ (Value.ref (s.heap.objs.size + 1) :: ws) _ _ (WE Wx σ) (c.room.make C us kw)
    (I2.env0.make C us kw) (hb _ _ I2.kIn) (show Vals (V.ref (s.heap.objs.size + 1) :: vs) (Value.ref (s.heap.objs.size + 1) :: ws) from .cons rfl r) hq) fun r s' hq' => ?_))
  cases r with
  | error e => exact passAt c.tk σ pins _ _ e s' I2 hq'
  | ok fl =>
    cases fl with
    | ret u =>
      obtain ⟨v, H', I3, rv, ev, q3⟩ := I2.after hq'
      subst ev
      exact ⟨rv, ⟨V.ref (s.heap.objs.size + 1), H', I3, rfl, q3⟩⟩
    | next => exact False.elim hq'
    | brk => exact False.elim hq'
    | cont => exact False.elim hq'
theorem se_mk (c : CxI X W Wx G I k Γ) {i : Nat} {es : Es} {x : Str} {e : Expr} {r : List Expr} {p pos : Pos} (hf : clB G Γ i x = true) (ha : PA X (e :: r) (rdA W Wx (evEs I es))) (hp : ∀ z ∈ e :: r, plB z = true) :
    PE X (.Call (.Name x p) (e :: r) [] pos) (rdE W Wx (evE I (.mk i es))) := by
  unfold clB at hf
  rw [Bool.and_eq_true, decide_eq_true_eq] at hf
  obtain ⟨g1, g2⟩ := glB_of c hf.2
  obtain ⟨C, ad, fd, hcl, M, hm, ok, hb, _⟩ := c.fns.mak i x hf.1
  refine ⟨fun pins s σ H Q I' h => ?_⟩
  obtain ⟨F, ρ, bg, st, vr, q⟩ := h
  refine wpAny_Call_Name_kw (ld_glob I' g1 hm ?_ g2)
  refine PySem.W.callWith_K (h₀ := X.base) I'.ok.mod.kin M.kp (thn (ha.run pos pins s σ H (fun vs H1 => ∃ F1 b1 ts, Sta W F1 H1 b1 ∧ TrL W F1 vs ts ∧ wpE (I.make i ts) b1 (fun t b' => ∀ v F' H', Post W F1 H1 b' t v F' H' → Q v H') (WXat W Wx σ F1 H1)) I' ?_) fun us s1 ⟨vs, H1, I1, r, F1, b1, ts, st1, tl, q⟩ => ⟨I1.kIn, ?_⟩) (star_of (hp e (by simp))) (star_all (fun z hz => hp z (by simp [hz])) pos)
  · exact rdA_next (.refl st) vr (show wpE (Ev.bind (evEs I es ρ) fun ts => I.make i ts) bg _ _ from q) fun us b2 vs F2 H2 p2 q => ⟨F2, b2, us, p2.sta, p2.tr, wpE_mono q (fun t b' q v F' H' p => q v F' H' (p2.go.post p)) fun x b' h => p2.go.x h⟩
  · refine run_mk (us := us) (ws := us) (kw := []) c hcl M ok (fun s2 w0 hk => ?_) I1 r st1 tl q
    have hln : ts.length = (I.mpars i).length := call_len (fun b r h => c.fns.lenM i _ b r h) q
    have := hb s2 (w0 :: us) hk (by rw [List.append_nil, List.length_cons, List.length_cons, ← hln, ← tl.length, r.length])
    rw [List.append_nil] at this
    exact this
theorem se_mkK (c : CxI X W Wx G I k Γ) {i : Nat} {es : Es} {ks : List Str} {x : Str} {kws : List Keyword} {p pos : Pos} (hf : clB G Γ i x = true) (hkw : (i, ks) ∈ G.mkw) (hks : kws.map (·.arg) = ks.map some) (ha : PK X kws (rdA W Wx (evEs I es))) (hl : ∀ ρ b Q Xq, wpE (evEs I es ρ) b Q Xq → wpE (evEs I es ρ) b (fun ts b' => Q ts b' ∧ ts.length = ks.length) Xq) :
    PE X (.Call (.Name x p) [] kws pos) (rdE W Wx (evE I (.mkK i es ks))) := by
  unfold clB at hf
  rw [Bool.and_eq_true, decide_eq_true_eq] at hf
  obtain ⟨g1, g2⟩ := glB_of c hf.2
  obtain ⟨C, ad, fd, hcl, M, hm, ok, hb, hbk⟩ := c.fns.mak i x hf.1
  obtain ⟨k1, k2, k3⟩ := kw_all (env := X.env) (pos := pos) hks
  refine ⟨fun pins s σ H Q I' h => ?_⟩
  obtain ⟨F, ρ, bg, st, vr, q⟩ := h
  have q := hl _ _ _ _ (wpE_bind.mp (show wpE (Ev.bind (evEs I es ρ) fun ts => I.make i (permG (I.mpars i) ks ts)) bg _ _ from q))
  refine wpAny_Call_Name_kw (ld_glob I' g1 hm ?_ g2)
  refine PySem.W.callWith_KW0 (h₀ := X.base) I'.ok.mod.kin M.kp k1 (thn (ha.run pos pins s σ H (fun vs H1 => vs.length = ks.length ∧ ∃ F1 b1 ts, Sta W F1 H1 b1 ∧ TrL W F1 vs ts ∧ wpE (I.make i (permG (I.mpars i) ks ts)) b1 (fun t b' => ∀ v F' H', Post W F1 H1 b' t v F' H' → Q v H') (WXat W Wx σ F1 H1)) I' ⟨F, ρ, bg, st, vr, wpE_mono q (fun ts b1 q vs F1 H1 p1 => ⟨by rw [p1.tr.length]; exact q.2, F1, b1, ts, p1.sta, p1.tr, wpE_mono q.1 (fun t b' q v F' H' p => q v F' H' (p1.go.post p)) fun x b' h => p1.go.x h⟩) fun _ _ h => h⟩) fun ws s2 ⟨zs, H2, I2, rz, l1, F1, b1, ts, st1, tl, q2⟩ => ⟨I2.kIn, ?_⟩) (by rw [k3]; rfl)
  rw [k2]
  exact run_mk (us := []) (ws := permG (I.mpars i) ks ws) (kw := ks.zip ws) c hcl M ok (fun s3 w0 hk => hbk ks hkw s3 w0 ws hk (by rw [← rz.length]; exact l1)) I2 (permG_rel rz) st1 (TrL.of_paired (permG_rel tl.paired)) q2
/-- the parts of a text -/
def JOk (W : Wd) (Wx : WX) (I : Ien) (es : Es) (ts : List TE) : Prop := ∀ (acc : Str) (σ : L2.St) (F0 H0 F H : Hp) (ρ : View) (b : Bag) (Q : Str → Hp → Prop), Go W F0 H0 b F H → VRel W F σ ρ →
  wpE (evJ I es acc ρ) b (fun y b' => ∀ F' H', Go W F0 H0 b' F' H' → Q y H') (WXat W Wx σ F0 H0) → tJs ts acc σ H Q
theorem jok_nil : JOk W Wx I .nil [] := fun acc σ F0 H0 F H ρ b Q g vr q => (show wpE (Ev.pure acc) b _ _ from q) F H g
theorem jok_cons {e : E} {r : Es} {ts : List TE} (h : JOk W Wx I r ts) : JOk W Wx I (.cons e r) (rdE W Wx (evE I e) :: ts) := fun acc σ F0 H0 F H ρ b Q g vr q => by
  refine rd_next g vr (show wpE (Ev.bind (evE I e ρ) fun x => Ev.bind (Ev.of (glue1 acc x)) fun y => evJ I r y ρ) b _ _ from q) fun x b1 v F1 H1 p q => ?_
  obtain ⟨y, e1, q⟩ := wpE_of.mp (wpE_bind.mp q)
  unfold glue1 at e1
  split at e1
  · split at e1
    · rename_i y' hl
      cases e1
      have hp := p
      cases hp.tr
      exact ⟨_, rfl, Nat.le_trans hl LIM_le, h _ σ F0 H0 F1 H1 ρ b1 Q (g.trans p.go) (vr.mono p.grow.sub) q⟩
    · cases e1
  · cases e1
theorem evJ_len : ∀ {es : Es} {acc : Str} {ρ : View} {b : Bag} {Q : Str → Bag → Prop} {Xq : Xc → Bag → Prop}, acc.length ≤ LIM → wpE (evJ I es acc ρ) b Q Xq → wpE (evJ I es acc ρ) b (fun y b' => Q y b' ∧ y.length ≤ LIM) Xq
  | .nil, acc, ρ, b, Q, Xq, hl, q => ⟨q, hl⟩
  | .cons e r, acc, ρ, b, Q, Xq, hl, q => by
    have q := wpE_bind.mp (show wpE (Ev.bind (evE I e ρ) fun x => Ev.bind (Ev.of (glue1 acc x)) fun y => evJ I r y ρ) b _ _ from q)
    refine (wpE_bind (m := evE I e ρ) (f := fun x => Ev.bind (Ev.of (glue1 acc x)) fun y => evJ I r y ρ)).mpr (wpE_mono q (fun x b1 q => ?_) fun _ _ h => h)
    obtain ⟨y, e1, q⟩ := wpE_of.mp (wpE_bind.mp q)
    refine wpE_bind.mpr (wpE_of.mpr ⟨y, e1, evJ_len ?_ q⟩)
    unfold glue1 at e1
    split at e1
    · split at e1
      · cases e1; assumption
      · cases e1
    · cases e1
theorem se_fstr {es : Es} {x y : Expr} {r : List Expr} {pos : Pos} {ts : List TE} (hj : PJ X (x :: y :: r) ts) (h : JOk W Wx I es ts) : PE X (.JoinedStr (x :: y :: r) pos) (rdE W Wx (evE I (.fstr es))) := by
  refine PE.imp (pe_joined hj) fun σ H Q ⟨F, ρ, bg, st, vr, q⟩ => ?_
  have q := evJ_len (Nat.zero_le _) (wpE_bind.mp (show wpE (Ev.bind (evJ I es Str.empty ρ) fun y => Ev.pure (T.str y)) bg _ _ from q))
  exact h _ σ F H F H ρ bg _ (.refl st) vr (wpE_mono q (fun y b' q F' H' g => q.1 _ F' H' (g.at (.str _ q.2))) fun _ _ h => h)
end
end DI

set_option Elab.async false
set_option linter.all false
set_option maxRecDepth 100000
set_option maxHeartbeats 8000000
namespace DI
open PySem L2

section
variable {W : Wd} {G : Gm} {I : Ien} {k : Nat}
theorem own_map (N : List Str) (l : List Nat) : (ownOf N l).map (·.2) = l := by
  unfold ownOf
  rw [List.map_map]
  exact List.map_id' l
section
variable {X : Cx} {Γ : Cc} {Wx : WX}
/-- what a comprehension of the reading tLc gives -/
theorem lc_to {tg : Tg} {it : It} {f : View → Ev (Option T)} {tt : TT} {te : TE} {e' : E} {σ : L2.St} {H : Hp} {Q : VK}
    (he : ∀ ρ, evE I e' ρ = Ev.bind (evI I it ρ) fun items => Ev.bind (lcE tg (wipeV ρ (tgSlots tg)) f items) fun ys => Ev.pure (.lst ys))
    (turn : ∀ σ2 F H b ρ' o b' (R : Option V → Hp → Prop), Sta W F H b → VRel W F σ2 ρ' → f ρ' b = some (.ok o, b') → (∀ (y : Option V) F' H', Grow F H F' → Keep W H H' → Sta W F' H' b' → (match o, y with
        | none, none => True
        | some t, some v => Tr W F' v t
        | _, _ => False) → R y H') →
      tt σ2 H fun c H3 => if c = true then te σ2 H3 fun y H4 => R (some y) H4 else R none H3) (hq : rdE W Wx (evE I e') σ H Q) : tLc (rdI W Wx (evI I it)) (rdG W tg) tt te (tgSlots tg) σ H Q := by
  obtain ⟨F, ρ, bg, st, vr, q⟩ := hq
  rw [he] at q
  refine rdI_next (.refl st) vr q fun items b1 J F1 H1 g1 ok hz q => ?_
  obtain ⟨ys, b2, e2, q⟩ := lcE_wp (wpE_bind.mp q)
  intro D hD
  have g1' := g1
  obtain ⟨g1, k1, s1⟩ := g1
  refine lc_loop s1 (vr.mono g1.sub) ok hz hD e2 turn fun F2 H2 vs s2 g2 k2 fD hd tl hl => ?_
  refine q _ (upd F2 D (.lst vs)) H2 ⟨⟨fun a o h => ?_, fun a o h => ?_⟩, k1.trans k2, ⟨fun a o h => ?_, ?_, ?_, s2.bag⟩, .lst upd_same hl (tl.mono fun a o h => ?_)⟩
  · have := g2.sub a o (g1.sub a o h)
    rw [upd_ne (ne_of_none this fD)]
    exact this
  · by_cases ha : a = D
    · subst ha; exact .inr (k1.free s1.bag hD)
    · rw [upd_ne ha] at h
      rcases (g1.trans k1 s1.bag g2).new a o h with z | z
      · exact .inl z
      · exact .inr z
  · by_cases ha : a = D
    · subst ha; rw [upd_same] at h; cases h; exact .inl hd
    · rw [upd_ne ha] at h; exact s2.fz a o h
  · rw [upd_ne (Ne.symm (s1.neB hD))]; exact s2.fB
  · rw [upd_ne (Ne.symm (s1.neC hD))]; exact s2.fc
  · rw [upd_ne (ne_of_none h fD)]; exact h
theorem lcR {elt : E} {tg : Tg} {it : It} {cd : Te} {σ : L2.St} {H : Hp} {Q : VK} (hq : rdE W Wx (evE I (.lc elt tg it cd)) σ H Q) :
    tLc (rdI W Wx (evI I it)) (rdG W tg) (rdT W (fun _ _ _ _ => False) (evT I cd)) (rdE W (fun _ _ _ _ => False) (evE I elt)) (tgSlots tg) σ H Q := by
  refine lc_to (fun ρ => rfl) (fun σ2 F H b ρ' o b' R st vr e q => ?_) hq
  obtain ⟨kk, b1, e1, ea⟩ := bind_ok e
  refine ⟨F, ρ', b, st, vr, wpE_eq e1 fun F1 H1 g1 k1 s1 => ?_⟩
  cases kk with
  | false =>
    rw [if_neg Bool.false_ne_true]
    cases (show some (Rs.ok (none : Option T), b1) = some (Rs.ok o, b') from ea)
    exact q none F1 H1 g1 k1 s1 trivial
  | true =>
    rw [if_pos rfl]
    obtain ⟨y, b2, e2, eb⟩ := bind_ok (show Ev.bind _ _ b1 = some (Rs.ok o, b') from ea)
    cases (show some (Rs.ok (some y), b2) = some (Rs.ok o, b') from eb)
    exact ⟨F1, ρ', b1, s1, vr.mono g1.sub, wpE_eq e2 fun v F' H' p => q (some v) F' H' (g1.trans k1 s1.bag p.grow) (k1.trans p.keep) p.sta p.tr⟩
theorem lcR0 {elt : E} {tg : Tg} {it : It} {σ : L2.St} {H : Hp} {Q : VK} (hq : rdE W Wx (evE I (.lc0 elt tg it)) σ H Q) :
    tLc (rdI W Wx (evI I it)) (rdG W tg) tYes (rdE W (fun _ _ _ _ => False) (evE I elt)) (tgSlots tg) σ H Q := by
  refine lc_to (fun ρ => rfl) (fun σ2 F H b ρ' o b' R st vr e q => ?_) hq
  show if true = true then rdE W (fun _ _ _ _ => False) (evE I elt) σ2 H (fun y H4 => R (some y) H4) else R none H
  rw [if_pos rfl]
  obtain ⟨y, b2, e2, eb⟩ := bind_ok (show Ev.bind _ _ b = some (Rs.ok o, b') from e)
  cases (show some (Rs.ok (some y), b2) = some (Rs.ok o, b') from eb)
  exact ⟨F, ρ', b, st, vr, wpE_eq e2 fun v F' H' p => q (some v) F' H' p.grow p.keep p.sta p.tr⟩
theorem se_lc (c : CxI X W Wx G I k Γ) {elt : E} {tg : Tg} {it : It} {cd : Te} {e t i f : Expr} {scope : Scope} {pos : Pos} (hp : plB i = true) (hi : PI X t i (rdI W Wx (evI I it))) (hb : blkC Γ.N Γ.sc scope (ownOf Γ.N (tgSlots tg)) = true) (hg : tgB (Γ.blk scope) tg t = true)
    (hc : ∀ {X' : Cx}, CxI X' W (fun _ _ _ _ => False) G I k (Γ.blk scope) → PT X' f (rdT W (fun _ _ _ _ => False) (evT I cd))) (he : ∀ {X' : Cx}, CxI X' W (fun _ _ _ _ => False) G I k (Γ.blk scope) → PE X' e (rdE W (fun _ _ _ _ => False) (evE I elt))) :
    PE X (.ListComp e [⟨t, i, [f], 0⟩] scope pos) (rdE W Wx (evE I (.lc elt tg it cd))) := by
  have ok : BlkOk X.N X.env.scope scope (ownOf Γ.N (tgSlots tg)) := by rw [c.N, c.sc]; exact blkOk_by hb
  have hx := pe_lc (pos := pos) (elt := e) (ifs := [f]) c.calm (by rw [c.N]; exact c.nd) hi ok (fun s H C cl fp => snd_tg (c.blk s H scope C cl fp) tg t hg) (fun s H C cl fp => pts_one (hc (c.blk s H scope C cl fp))) (fun s H C cl fp => he (c.blk s H scope C cl fp)) (fun x => fold_of hp)
  rw [own_map] at hx
  exact PE.imp hx fun σ H Q q => lcR q
theorem se_lc0 (c : CxI X W Wx G I k Γ) {elt : E} {tg : Tg} {it : It} {e t i : Expr} {scope : Scope} {pos : Pos} (hp : plB i = true) (hi : PI X t i (rdI W Wx (evI I it))) (hb : blkC Γ.N Γ.sc scope (ownOf Γ.N (tgSlots tg)) = true) (hg : tgB (Γ.blk scope) tg t = true)
    (he : ∀ {X' : Cx}, CxI X' W (fun _ _ _ _ => False) G I k (Γ.blk scope) → PE X' e (rdE W (fun _ _ _ _ => False) (evE I elt))) :
    PE X (.ListComp e [⟨t, i, [], 0⟩] scope pos) (rdE W Wx (evE I (.lc0 elt tg it))) := by
  have ok : BlkOk X.N X.env.scope scope (ownOf Γ.N (tgSlots tg)) := by rw [c.N, c.sc]; exact blkOk_by hb
  have hx := pe_lc (pos := pos) (elt := e) (ifs := []) c.calm (by rw [c.N]; exact c.nd) hi ok (fun s H C cl fp => snd_tg (c.blk s H scope C cl fp) tg t hg) (fun s H C cl fp => pts_nil) (fun s H C cl fp => he (c.blk s H scope C cl fp)) (fun x => fold_of hp)
  rw [own_map] at hx
  exact PE.imp hx fun σ H Q q => lcR0 q
end

/-- a chain of and, or is tested whatever its whole is -/
theorem pw_of {X : Cx} {op : BoolOp} {xs : List Expr} {pos : Pos} {t : TT} (h : PT X (.BoolOp op xs pos) t) : PW X (.BoolOp op xs pos) t := ⟨fun wh pins s σ H Q I q => h.run pins s σ H Q I q⟩
/-- a term's length -/
theorem evEs_len : ∀ {es : Es} {xs : List Expr} {Γ : Cc}, chkEs G es Γ xs = true → ∀ ρ b Q Xq, wpE (evEs I es ρ) b Q Xq → wpE (evEs I es ρ) b (fun ts b' => Q ts b' ∧ ts.length = xs.length) Xq := by
  intro es
  induction es using Es.rec (motive_1 := fun _ => True) (motive_2 := fun _ => True) (motive_4 := fun _ => True) with
  | nil =>
    intro xs Γ h ρ b Q Xq q
    cases xs with
    | nil => exact ⟨q, rfl⟩
    | cons _ _ => simp [chkEs] at h
  | cons d r _ ih =>
    intro xs Γ h ρ b Q Xq q
    cases xs with
    | nil => simp [chkEs] at h
    | cons y s =>
      simp only [chkEs, Bool.and_eq_true] at h
      have q := wpE_bind.mp (show wpE (Ev.bind (evE I d ρ) fun x => Ev.bind (evEs I r ρ) fun xs => Ev.pure (x :: xs)) b _ _ from q)
      refine (wpE_bind (m := evE I d ρ) (f := fun x => Ev.bind (evEs I r ρ) fun xs => Ev.pure (x :: xs))).mpr (wpE_mono q (fun u b1 q => ?_) fun _ _ h => h)
      refine wpE_bind.mpr (wpE_mono (ih h.2 _ _ _ _ (wpE_bind.mp q)) (fun us b2 q => ?_) fun _ _ h => h)
      exact ⟨q.1, by rw [List.length_cons, List.length_cons, q.2]⟩
  | _ => trivial

/-! ### THE RULE: a term that says what the text says is what the text is worth -/
mutual
theorem sndE : ∀ (e : E) {X : Cx} {Γ : Cc} {Wx : WX} {ex : Expr}, CxI X W Wx G I k Γ → chkE G e Γ ex = true → PE X ex (rdE W Wx (evE I e))
  | .var i, X, Γ, Wx, ex, c, h => se_var c h
  | .con t, X, Γ, Wx, ex, c, h => se_con c h
  | .glob x t, X, Γ, Wx, ex, c, h => se_glob c h
  | .bin op a b, X, Γ, Wx, ex, c, h => by
    simp only [chkE] at h
    split at h
    · simp only [Bool.and_eq_true, decide_eq_true_eq] at h
      obtain ⟨⟨rfl, h1⟩, h2⟩ := h
      have ha := sndE a c h1
      have hb := sndE b c h2
      exact se_op2 ha hb (fun _ _ _ _ q => q) (pe_op (op_binT c.K op) ha hb) fun ρ => rfl
    · cases h
  | .neg a, X, Γ, Wx, ex, c, h => by
    simp only [chkE] at h
    split at h
    · exact se_neg (sndE a c h)
    · cases h
  | .not a, X, Γ, Wx, ex, c, h => by
    simp only [chkE] at h
    split at h
    · exact se_not c (sndE a c h)
    · cases h
  | .and a b, X, Γ, Wx, ex, c, h => by
    simp only [chkE] at h
    split at h
    · rw [Bool.and_eq_true] at h
      exact se_and c (sndE a c h.1) (pe_one (sndE b c h.2))
    · rw [Bool.and_eq_true] at h
      exact se_and c (sndE a c h.1) (sndE b c h.2)
    · cases h
  | .or a b, X, Γ, Wx, ex, c, h => by
    simp only [chkE] at h
    split at h
    · rw [Bool.and_eq_true] at h
      exact se_or c (sndE a c h.1) (pe_one (sndE b c h.2))
    · rw [Bool.and_eq_true] at h
      exact se_or c (sndE a c h.1) (sndE b c h.2)
    · cases h
  | .cmp op a b, X, Γ, Wx, ex, c, h => by
    simp only [chkE] at h
    split at h
    · simp only [Bool.and_eq_true, decide_eq_true_eq] at h
      obtain ⟨⟨⟨rfl, hp⟩, h1⟩, h2⟩ := h
      have ha := sndE a c h1
      have hb := sndE b c h2
      exact se_op2 ha hb (fun _ _ _ _ q => q) (pe_cmpR (op_cmpT c.K c.hu op) ha hb (mark_of hp)) fun ρ => rfl
    · cases h
  | .chain op op' a b d, X, Γ, Wx, ex, c, h => by
    simp only [chkE] at h
    split at h
    · simp only [Bool.and_eq_true, decide_eq_true_eq] at h
      obtain ⟨⟨⟨⟨⟨rfl, rfl⟩, hp⟩, h1⟩, h2⟩, h3⟩ := h
      exact se_chain c (sndE a c h1) (sndE b c h2) (sndE d c h3) hp
    · cases h
  | .ife t a b, X, Γ, Wx, ex, c, h => by
    simp only [chkE] at h
    split at h
    · simp only [Bool.and_eq_true] at h
      obtain ⟨⟨h1, h2⟩, h3⟩ := h
      refine PE.imp (pe_ifExp (sndT t c h1) (sndE a c h2) (sndE b c h3)) fun σ H Q ⟨F, ρ, bg, st, vr, q⟩ => ?_
      refine rdT_next (.refl st) vr (show wpE (Ev.bind (evT I t ρ) fun k => if k then evE I a ρ else evE I b ρ) bg _ _ from q) fun kk b1 F1 H1 g1 q => ?_
      cases kk with
      | true => exact iteT (rd_last g1 (vr.mono g1.grow.sub) q)
      | false => exact iteF (rd_last g1 (vr.mono g1.grow.sub) q)
    · cases h
  | .tup es, X, Γ, Wx, ex, c, h => by
    simp only [chkE] at h
    split at h
    · exact se_tup (sndA es c h).1
    · cases h
  | .lst es, X, Γ, Wx, ex, c, h => by
    simp only [chkE] at h
    split at h
    · exact se_lst (sndA es c h).1
    · cases h
  | .dct ks vs, X, Γ, Wx, ex, c, h => by
    simp only [chkE] at h
    split at h
    · rw [Bool.and_eq_true, decide_eq_true_eq] at h
      obtain ⟨h1, h2⟩ := h
      refine se_dct0 h1 ?_
      cases vs with
      | nil => rfl
      | cons _ _ => simp [chkEs] at h2
    · simp only [Bool.and_eq_true, decide_eq_true_eq] at h
      obtain ⟨⟨h1, h2⟩, h3⟩ := h
      match vs, h3 with
      | .cons d .nil, h3 =>
        simp only [chkEs, Bool.and_eq_true] at h3
        exact se_dct1 h1 h2 (sndE d c h3.1.2)
      | .nil, h3 => simp [chkEs] at h3
      | .cons d (.cons _ _), h3 => simp [chkEs] at h3
    · cases h
  | .idx a i, X, Γ, Wx, ex, c, h => by
    simp only [chkE] at h
    split at h
    · simp only [Bool.and_eq_true] at h
      obtain ⟨⟨hp, h1⟩, h2⟩ := h
      have ha := sndE a c h1
      have hb := sndE i c h2
      exact se_op2 ha hb (fun _ _ _ _ q => q) (pe_ix (ix_T c.K) ha hb (plain_of hp)) fun ρ => rfl
    · cases h
  | .sl a lo hi, X, Γ, Wx, ex, c, h => by
    simp only [chkE] at h
    split at h
    · simp only [Bool.and_eq_true] at h
      exact se_sl c (sndE a c h.1.1) (sndE lo c h.1.2) (sndE hi c h.2)
    · cases h
  | .slH a hi, X, Γ, Wx, ex, c, h => by
    simp only [chkE] at h
    split at h
    · simp only [Bool.and_eq_true] at h
      exact se_slH c (sndE a c h.1) (sndE hi c h.2)
    · cases h
  | .slL a lo, X, Γ, Wx, ex, c, h => by
    simp only [chkE] at h
    split at h
    · simp only [Bool.and_eq_true] at h
      exact se_slL c (sndE a c h.1) (sndE lo c h.2)
    · cases h
  | .rev a, X, Γ, Wx, ex, c, h => by
    simp only [chkE] at h
    split at h
    · exact se_rev c (sndE a c h)
    · cases h
  | .call f es, X, Γ, Wx, ex, c, h => by
    simp only [chkE] at h
    split at h
    · simp only [Bool.and_eq_true] at h
      exact se_call c h.1 (sndA es c h.2).1 (chkEs_pl h.2)
    · cases h
  | .callK f es ks, X, Γ, Wx, ex, c, h => by
    simp only [chkE] at h
    split at h
    · rename_i x p kw r pos
      simp only [Bool.and_eq_true, decide_eq_true_eq] at h
      obtain ⟨⟨⟨h1, h2⟩, h3⟩, h4⟩ := h
      refine se_callK c h1 h2 h3 ((sndA es c h4).2.1 _ rfl) fun ρ b Q Xq q => wpE_mono (evEs_len h4 ρ b Q Xq q) (fun ts b' q => ⟨q.1, ?_⟩) fun _ _ h => h
      rw [q.2, List.length_map]
      have := congrArg List.length h3
      rw [List.length_map, List.length_map] at this
      exact this
    · cases h
  | .blt x es, X, Γ, Wx, ex, c, h => by
    simp only [chkE] at h
    split at h
    · simp only [Bool.and_eq_true, decide_eq_true_eq] at h
      obtain ⟨⟨h1, h2⟩, h3⟩ := h
      exact se_blt c h1 h2 (sndA es c h3).1 (chkEs_pl h3)
    · cases h
  | .mth m a es, X, Γ, Wx, ex, c, h => by
    simp only [chkE] at h
    split at h
    · simp only [Bool.and_eq_true, decide_eq_true_eq] at h
      obtain ⟨⟨⟨⟨h1, h2⟩, h3⟩, h4⟩, h5⟩ := h
      refine se_mth c h1 h2 h3 (sndE a c h4) (sndA es c h5).1 (chkEs_pl h5 _ (by simp)) ?_
      match es, h5 with
      | .cons d .nil, h5 =>
        simp only [chkEs, Bool.and_eq_true] at h5
        exact ⟨d, rfl, sndE d c h5.1.2⟩
      | .nil, h5 => simp [chkEs] at h5
      | .cons d (.cons _ _), h5 => simp [chkEs] at h5
    · cases h
  | .bget a n, X, Γ, Wx, ex, c, h => by
    simp only [chkE] at h
    split at h
    · simp only [Bool.and_eq_true, decide_eq_true_eq] at h
      obtain ⟨⟨rfl, h1⟩, h2⟩ := h
      exact se_bget c (sndE a c h2)
    · cases h
  | .blen a, X, Γ, Wx, ex, c, h => by
    simp only [chkE] at h
    split at h
    · simp only [Bool.and_eq_true, decide_eq_true_eq] at h
      obtain ⟨⟨rfl, h1⟩, h2⟩ := h
      exact se_blen c h1 (sndE a c h2)
    · cases h
  | .bcell a, X, Γ, Wx, ex, c, h => by
    simp only [chkE] at h
    split at h
    · simp only [Bool.and_eq_true] at h
      obtain ⟨⟨h0, h1⟩, h2⟩ := h
      refine se_bcell c (sndE a c h1) (sndE a c h2) ?_
      split at h0
      · exact ⟨_, rfl⟩
      · cases h0
    · cases h
  | .lc elt tg it cd, X, Γ, Wx, ex, c, h => by
    simp only [chkE] at h
    split at h
    · simp only [Bool.and_eq_true] at h
      obtain ⟨⟨⟨⟨⟨h1, h2⟩, h3⟩, h4⟩, h5⟩, h6⟩ := h
      exact se_lc c h1 (sndI it c h2) h3 h4 (fun c' => sndT cd c' h5) (fun c' => sndE elt c' h6)
    · cases h
  | .lc0 elt tg it, X, Γ, Wx, ex, c, h => by
    simp only [chkE] at h
    split at h
    · simp only [Bool.and_eq_true] at h
      obtain ⟨⟨⟨⟨h1, h2⟩, h3⟩, h4⟩, h6⟩ := h
      exact se_lc0 c h1 (sndI it c h2) h3 h4 (fun c' => sndE elt c' h6)
    · cases h
  | .mk i es, X, Γ, Wx, ex, c, h => by
    simp only [chkE] at h
    split at h
    · simp only [Bool.and_eq_true] at h
      exact se_mk c h.1 (sndA es c h.2).1 (chkEs_pl h.2)
    · cases h
  | .mkK i es ks, X, Γ, Wx, ex, c, h => by
    simp only [chkE] at h
    split at h
    · rename_i x p kw r pos
      simp only [Bool.and_eq_true, decide_eq_true_eq] at h
      obtain ⟨⟨⟨h1, h2⟩, h3⟩, h4⟩ := h
      refine se_mkK c h1 h2 h3 ((sndA es c h4).2.1 _ rfl) fun ρ b Q Xq q => wpE_mono (evEs_len h4 ρ b Q Xq q) (fun ts b' q => ⟨q.1, ?_⟩) fun _ _ h => h
      rw [q.2, List.length_map]
      have := congrArg List.length h3
      rw [List.length_map, List.length_map] at this
      exact this
    · cases h
  | .fld a f, X, Γ, Wx, ex, c, h => by
    simp only [chkE] at h
    split at h
    · simp only [Bool.and_eq_true, decide_eq_true_eq] at h
      obtain ⟨⟨rfl, h1⟩, h2⟩ := h
      exact se_fld c h1 (sndE a c h2)
    · cases h
  | .meth f a es, X, Γ, Wx, ex, c, h => by
    simp only [chkE] at h
    split at h
    · simp only [Bool.and_eq_true, decide_eq_true_eq] at h
      obtain ⟨⟨⟨⟨⟨h1, h2⟩, h3⟩, h4⟩, h5⟩, h6⟩ := h
      refine se_meth c h1 h2 h3 h4 (sndE a c h5) (sndA es c h6).1 (chkEs_pl h6) fun e => ?_
      subst e
      cases es with
      | nil => rfl
      | cons _ _ => simp [chkEs] at h6
    · cases h
  | .methK f a es ks, X, Γ, Wx, ex, c, h => by
    simp only [chkE] at h
    split at h
    · rename_i o n ap kw r cp
      simp only [Bool.and_eq_true, decide_eq_true_eq] at h
      obtain ⟨⟨⟨⟨⟨⟨⟨h1, h2⟩, h3⟩, h4⟩, h5⟩, h6⟩, h7⟩, h8⟩ := h
      refine se_methK c h1 h2 h3 h4 h5 h6 (sndE a c h7) ((sndA es c h8).2.1 _ rfl) fun ρ b Q Xq q => wpE_mono (evEs_len h8 ρ b Q Xq q) (fun ts b' q => ⟨q.1, ?_⟩) fun _ _ h => h
      rw [q.2, List.length_map]
      have := congrArg List.length h6
      rw [List.length_map, List.length_map] at this
      exact this
    · cases h
  | .obin op f a b, X, Γ, Wx, ex, c, h => by
    simp only [chkE] at h
    split at h
    · simp only [Bool.and_eq_true, decide_eq_true_eq] at h
      obtain ⟨⟨⟨rfl, h1⟩, h2⟩, h3⟩ := h
      exact se_obin c h1 (sndE a c h2) (sndE b c h3)
    · cases h
  | .obinI op f a b, X, Γ, Wx, ex, c, h => by
    simp only [chkE] at h
    split at h
    · simp only [Bool.and_eq_true, decide_eq_true_eq] at h
      obtain ⟨⟨⟨⟨⟨rfl, h1⟩, rfl⟩, h0⟩, h2⟩, h3⟩ := h
      exact se_obinI c h1 h0 (sndE a c h2) (sndE b c h3)
    · cases h
  | .orbin op f a b, X, Γ, Wx, ex, c, h => by
    simp only [chkE] at h
    split at h
    · simp only [Bool.and_eq_true, decide_eq_true_eq] at h
      obtain ⟨⟨⟨⟨⟨rfl, h1⟩, rfl⟩, h0⟩, h2⟩, h3⟩ := h
      exact se_orbin c h1 h0 (sndE a c h2) (sndE b c h3)
    · cases h
  | .ocmp op f a b, X, Γ, Wx, ex, c, h => by
    simp only [chkE] at h
    split at h
    · simp only [Bool.and_eq_true, decide_eq_true_eq] at h
      obtain ⟨⟨⟨⟨⟨rfl, h1⟩, rfl⟩, h0⟩, h2⟩, h3⟩ := h
      exact se_ocmp c h1 h0 (sndE a c h2) (sndE b c h3)
    · cases h
  | .ostr f a, X, Γ, Wx, ex, c, h => by
    simp only [chkE] at h
    split at h
    · simp only [Bool.and_eq_true, decide_eq_true_eq] at h
      obtain ⟨⟨⟨⟨rfl, h1⟩, h2⟩, h3⟩, h4⟩ := h
      exact se_ostr c h1 h2 h3 (sndE a c h4)
    · cases h
  | .fmt a, X, Γ, Wx, ex, c, h => by
    simp only [chkE] at h
    split at h
    · simp only [Bool.and_eq_true, decide_eq_true_eq] at h
      obtain ⟨rfl, h⟩ := h
      exact se_fmt (sndE a c h)
    · cases h
  | .fstr es, X, Γ, Wx, ex, c, h => by
    simp only [chkE] at h
    split at h
    · obtain ⟨ts, h1, h2⟩ := (sndA es c h).2.2
      exact se_fstr h1 h2
    · cases h
  | .dead, X, Γ, Wx, ex, c, h => ⟨fun pins s σ H Q I' ⟨F, ρ, bg, st, vr, q⟩ => (wpE_no (show wpE (Ev.no : Ev T) bg _ _ from q)).elim⟩
theorem sndT : ∀ (t : Te) {X : Cx} {Γ : Cc} {Wx : WX} {ex : Expr}, CxI X W Wx G I k Γ → chkT G t Γ ex = true → PT X ex (rdT W Wx (evT I t))
  | .tr e, X, Γ, Wx, ex, c, h => by
    simp only [chkT, Bool.and_eq_true, Bool.or_eq_true] at h
    obtain ⟨h1, h2⟩ := h
    have he := sndE e c h2
    rcases h1 with h1 | h1
    · exact st_val c he h1
    · split at h1
      · rename_i l ops cs pos
        cases e <;> try (simp [chkE] at h2)
        case cmp op a b =>
          split at h2
          · rename_i heq
            simp only [Expr.Compare.injEq] at heq
            obtain ⟨rfl, rfl, rfl, rfl⟩ := heq
            simp only [Bool.and_eq_true, decide_eq_true_eq] at h2
            obtain ⟨⟨⟨rfl, hp⟩, h3⟩, h4⟩ := h2
            have ha := sndE a c h3
            have hb := sndE b c h4
            refine st_tst (te := tOp (rTT W (cmpT op)) (rdE W Wx (evE I a)) (rdE W Wx (evE I b))) (fun σ H Q q => ?_) (pt_cmpR (op_cmpT c.K c.hu op) ha hb (mark_of hp)) fun ρ b1 Q Xq q => ?_
            · obtain ⟨F, ρ, bg, st, vr, q⟩ := q
              exact rd_next (.refl st) vr (show wpE (Ev.bind (evE I a ρ) _) bg _ _ from q) fun x b1 v1 F1 H1 p1 q => rd_next p1.go (vr.mono p1.grow.sub) q fun y b2 v2 F2 H2 p2 q =>
                let ⟨t, e, q⟩ := wpE_of.mp q
                ⟨F2, b2, x, y, t, p2.sta, p1.tr.mono p2.grow.sub, p2.tr, e, fun v F' H' p => q v F' H' (p1.trans (p2.trans p))⟩
            · refine (wpE_bind (m := evE I a ρ)).mpr (wpE_mono (wpE_bind.mp (show wpE (Ev.bind (evE I a ρ) _) b1 _ _ from q)) (fun x b2 q => ?_) fun _ _ h => h)
              refine (wpE_bind (m := evE I b ρ)).mpr (wpE_mono (wpE_bind.mp q) (fun y b3 q => ?_) fun _ _ h => h)
              obtain ⟨t, e, q⟩ := wpE_of.mp q
              exact wpE_of.mpr ⟨t, e, q, cmpT_bl e⟩
          · cases h2
        case dead => exact ⟨fun pins s σ H Q I' ⟨F, ρ, bg, st, vr, q⟩ => (wpE_no (show wpE (Ev.no : Ev Bool) bg _ _ from q)).elim⟩
        case ocmp op f a b =>
          split at h2
          · rename_i heq
            simp only [Expr.Compare.injEq] at heq
            obtain ⟨rfl, rfl, rfl, rfl⟩ := heq
            simp only [Bool.and_eq_true, decide_eq_true_eq] at h2
            obtain ⟨⟨⟨⟨⟨rfl, h3⟩, rfl⟩, hp⟩, h4⟩, h5⟩ := h2
            exact sT_ocmp c h3 hp (sndE a c h4) (sndE b c h5)
          · cases h2
        case chain op op' a b d =>
          split at h2
          · rename_i heq
            simp only [Expr.Compare.injEq] at heq
            obtain ⟨rfl, rfl, rfl, rfl⟩ := heq
            simp only [Bool.and_eq_true, decide_eq_true_eq] at h2
            obtain ⟨⟨⟨⟨⟨rfl, rfl⟩, hp⟩, h3⟩, h4⟩, h5⟩ := h2
            have ha := sndE a c h3
            have hb := sndE b c h4
            have hd := sndE d c h5
            refine st_tst (te := tChain (rTT W (cmpT op)) (rTT W (cmpT op')) (rdE W Wx (evE I a)) (rdE W Wx (evE I b)) (rdE W Wx (evE I d))) (fun σ H Q q => chain_rd q) (pt_chain (op_cmpT c.K c.hu op) (op_cmpT c.K c.hu op') ha hb hd (mark_of (op := op') hp)) fun ρ b1 Q Xq q => ?_
            refine (wpE_bind (m := evE I a ρ)).mpr (wpE_mono (wpE_bind.mp (show wpE (Ev.bind (evE I a ρ) _) b1 _ _ from q)) (fun x b2 q => ?_) fun _ _ h => h)
            refine (wpE_bind (m := evE I b ρ)).mpr (wpE_mono (wpE_bind.mp q) (fun y b3 q => ?_) fun _ _ h => h)
            obtain ⟨z, e3, q⟩ := wpE_of.mp (wpE_bind.mp q)
            refine wpE_bind.mpr (wpE_of.mpr ⟨z, e3, ?_⟩)
            obtain ⟨kk, rfl⟩ := cmpT_bl e3
            cases kk with
            | true =>
              refine (wpE_bind (m := evE I d ρ)).mpr (wpE_mono (wpE_bind.mp (show wpE (Ev.bind (evE I d ρ) _) b3 _ _ from q)) (fun w b4 q => ?_) fun _ _ h => h)
              obtain ⟨t, e, q⟩ := wpE_of.mp q
              exact wpE_of.mpr ⟨t, e, q, cmpT_bl e⟩
            | false => exact ⟨q, _, rfl⟩
          · cases h2
      · cases h1
  | .not a, X, Γ, Wx, ex, c, h => by
    simp only [chkT] at h
    split at h
    · exact PT.imp (pt_not (sndT a c h)) fun σ H Q ⟨F, ρ, bg, st, vr, q⟩ =>
        rdT_next (.refl st) vr (show wpE (Ev.bind (evT I a ρ) fun k => Ev.pure (!k)) bg _ _ from q) fun kk b1 F1 H1 g1 q => q F1 H1 g1.grow g1.keep g1.sta
    · cases h
  | .and a b, X, Γ, Wx, ex, c, h => by
    simp only [chkT] at h
    have go : ∀ {x y : Expr} {r : List Expr} {pos : Pos}, PT X x (rdT W Wx (evT I a)) → PW X (.BoolOp .And (y :: r) pos) (rdT W Wx (evT I b)) → PT X (.BoolOp .And (x :: y :: r) pos) (rdT W Wx (evT I (.and a b))) := fun {x y r pos} h1 h2 => by
      refine PT.imp (pw_and h1 h2).pt fun σ H Q ⟨F, ρ, bg, st, vr, q⟩ => ?_
      refine rdT_next (.refl st) vr (show wpE (Ev.bind (evT I a ρ) fun k => if k then evT I b ρ else Ev.pure false) bg _ _ from q) fun kk b1 F1 H1 g1 q => ?_
      cases kk with
      | true => exact iteT (rdT_last g1 (vr.mono g1.grow.sub) q)
      | false => exact iteF ((show wpE (Ev.pure false) b1 _ _ from q) F1 H1 g1.grow g1.keep g1.sta)
    split at h
    · rw [Bool.and_eq_true] at h
      exact go (sndT a c h.1) (pw_and1 (sndT b c h.2))
    · rw [Bool.and_eq_true] at h
      exact go (sndT a c h.1) (pw_of (sndT b c h.2))
    · cases h
  | .or a b, X, Γ, Wx, ex, c, h => by
    simp only [chkT] at h
    have go : ∀ {x y : Expr} {r : List Expr} {pos : Pos}, PT X x (rdT W Wx (evT I a)) → PW X (.BoolOp .Or (y :: r) pos) (rdT W Wx (evT I b)) → PT X (.BoolOp .Or (x :: y :: r) pos) (rdT W Wx (evT I (.or a b))) := fun {x y r pos} h1 h2 => by
      refine PT.imp (pw_or h1 h2).pt fun σ H Q ⟨F, ρ, bg, st, vr, q⟩ => ?_
      refine rdT_next (.refl st) vr (show wpE (Ev.bind (evT I a ρ) fun k => if k then Ev.pure true else evT I b ρ) bg _ _ from q) fun kk b1 F1 H1 g1 q => ?_
      cases kk with
      | true => exact iteT ((show wpE (Ev.pure true) b1 _ _ from q) F1 H1 g1.grow g1.keep g1.sta)
      | false => exact iteF (rdT_last g1 (vr.mono g1.grow.sub) q)
    split at h
    · rw [Bool.and_eq_true] at h
      exact go (sndT a c h.1) (pw_or1 (sndT b c h.2))
    · rw [Bool.and_eq_true] at h
      exact go (sndT a c h.1) (pw_of (sndT b c h.2))
    · cases h
theorem sndA : ∀ (es : Es) {X : Cx} {Γ : Cc} {Wx : WX} {xs : List Expr}, CxI X W Wx G I k Γ → chkEs G es Γ xs = true → PA X xs (rdA W Wx (evEs I es)) ∧ (∀ kws : List Keyword, kws.map (·.value) = xs → PK X kws (rdA W Wx (evEs I es))) ∧ ∃ ts, PJ X xs ts ∧ JOk W Wx I es ts
  | .nil, X, Γ, Wx, xs, c, h => by
    simp only [chkEs] at h
    split at h
    · refine ⟨sa_nil, fun kws e => ?_, [], .nil, jok_nil⟩
      cases kws with
      | nil => exact sk_nil
      | cons _ _ => cases e
    · cases h
  | .cons e r, X, Γ, Wx, xs, c, h => by
    simp only [chkEs] at h
    split at h
    · simp only [Bool.and_eq_true] at h
      have he := sndE e c h.1.2
      have hr := sndA r c h.2
      obtain ⟨ts, j1, j2⟩ := hr.2.2
      refine ⟨sa_cons he hr.1 h.1.1, fun kws e => ?_, _, .cons he j1, jok_cons j2⟩
      cases kws with
      | nil => cases e
      | cons kw ks =>
        obtain ⟨nm, x, kp⟩ := kw
        simp only [List.map_cons, List.cons.injEq] at e
        obtain ⟨rfl, e⟩ := e
        exact sk_cons he (hr.2.1 ks e)
    · cases h
theorem sndI : ∀ (it : It) {X : Cx} {Γ : Cc} {Wx : WX} {tg ex : Expr}, CxI X W Wx G I k Γ → chkI G it Γ tg ex = true → PI X tg ex (rdI W Wx (evI I it))
  | .val e, X, Γ, Wx, tg, ex, c, h => si_val c (sndE e c h)
  | .rng1 a, X, Γ, Wx, tg, ex, c, h => by
    simp only [chkI] at h
    split at h
    · simp only [Bool.and_eq_true, decide_eq_true_eq] at h
      obtain ⟨⟨⟨rfl, h1⟩, h2⟩, h3⟩ := h
      exact si_rng1 c h1 h2 (sndE a c h3)
    · cases h
  | .rng2 a b, X, Γ, Wx, tg, ex, c, h => by
    simp only [chkI] at h
    split at h
    · simp only [Bool.and_eq_true, decide_eq_true_eq] at h
      obtain ⟨⟨⟨⟨⟨rfl, h1⟩, h2⟩, h3⟩, h4⟩, h5⟩ := h
      exact si_rng2 c h1 h2 h3 (sndE a c h4) (sndE b c h5)
    · cases h
  | .zip a b, X, Γ, Wx, tg, ex, c, h => by
    simp only [chkI] at h
    split at h
    · simp only [Bool.and_eq_true, decide_eq_true_eq] at h
      obtain ⟨⟨⟨⟨⟨rfl, h1⟩, h2⟩, h3⟩, h4⟩, h5⟩ := h
      exact si_zip c h1 h2 h3 (sndE a c h4) (sndE b c h5)
    · cases h
  | .enum a, X, Γ, Wx, tg, ex, c, h => by
    simp only [chkI] at h
    split at h
    · simp only [Bool.and_eq_true, decide_eq_true_eq] at h
      obtain ⟨⟨⟨rfl, h1⟩, h2⟩, h3⟩ := h
      exact si_enum c h1 h2 (sndE a c h3)
    · cases h
end
end
end DI

set_option Elab.async false
set_option linter.all false
set_option maxRecDepth 100000
set_option maxHeartbeats 8000000
namespace DI
open PySem L2

/-! ### statements as terms. bs: the places whose own lists an expression may see -/
mutual
inductive S where
  | asg (i : Nat) (bs : List Nat) (e : E)
  | asgL (i : Nat) (bs : List Nat) (e : E)
  | new (i : Nat) (bs : List Nat) (e : E)
  | par2 (i j : Nat) (bs : List Nat) (a b : E)
  | app (i : Nat) (bs : List Nat) (e : E)
  | fset (i : Nat) (f : Str) (bs : List Nat) (e : E)
  | unp (g : Tg) (bs : List Nat) (e : E)
  | exp (bs : List Nat) (e : E)
  | bset (i k : Nat) (e : E)
  | ite (bs : List Nat) (c : Te) (a b : Ss)
  | for_ (g : Tg) (bs : List Nat) (it : It) (body : Ss)
  | whl (bs : List Nat) (c : Te) (body : Ss)
  | ret (bs : List Nat) (e : E)
  | retN
  | pass
  | brk
  | cont
  | dead
inductive Ss where
  | nil
  | cons (s : S) (r : Ss)
end
/-- a place: nothing, a worth, a list of one's own -/
inductive Sl where
  | un
  | val (t : T)
  | own (s : Bool) (t : T)
  deriving Inhabited
inductive Out where
  | nx (ss : List Sl)
  | ret (t : T)
  | bk (ss : List Sl)
  | ct (ss : List Sl)
def isAtom : T → Bool
  | .non => true
  | .bl _ => true
  | .int _ => true
  | .str _ => true
  | .ty _ => true
  | _ => false
def viewA (bs : List Nat) : Nat → List Sl → View
  | _, [] => []
  | i, .un :: r => none :: viewA bs (i + 1) r
  | i, .val t :: r => some t :: viewA bs (i + 1) r
  | i, .own _ t :: r => (if bs.contains i then some t else none) :: viewA bs (i + 1) r
def frzA (bs : List Nat) : Nat → List Sl → List Sl
  | _, [] => []
  | i, .own s t :: r => (if bs.contains i then .val t else .own s t) :: frzA bs (i + 1) r
  | i, s :: r => s :: frzA bs (i + 1) r
/-- behind an expression of the worth t -/
def frz (bs : List Nat) (t : T) (ss : List Sl) : List Sl := if bs.isEmpty then ss else if isAtom t then ss else frzA bs 0 ss
mutual
def tgS : Tg → T → List Sl → Option (List Sl)
  | .name i, t, ss => if i < ss.length then some (ss.set i (.val t)) else none
  | .seq l gs, t, ss => match l, t with
    | false, .tup ts => tgsS gs ts ss
    | true, .lst ts => tgsS gs ts ss
    | _, _ => none
def tgsS : Tgs → List T → List Sl → Option (List Sl)
  | .nil, ts, ss => match ts with
    | [] => some ss
    | _ => none
  | .cons g r, ts, ss => match ts with
    | [] => none
    | t :: us => match tgS g t ss with
      | some s1 => tgsS r us s1
      | none => none
end
def lstT : T → Option (List T)
  | .lst ts => some ts
  | _ => none
def forL (g : Tg) (f : List Sl → Ev Out) : List T → List Sl → Ev Out
  | [], ss => Ev.pure (.nx ss)
  | t :: r, ss => Ev.bind (Ev.of (tgS g t ss)) fun s1 => Ev.bind (f s1) fun o => match o with
    | .nx s2 => forL g f r s2
    | .ct s2 => forL g f r s2
    | .bk s2 => Ev.pure (.nx s2)
    | .ret t => Ev.pure (.ret t)
def whlL (c : List Sl → Ev Bool) (f : List Sl → Ev Out) : Nat → List Sl → Ev Out
  | 0, _ => Ev.no
  | n + 1, ss => Ev.bind (c ss) fun k => if k then Ev.bind (f ss) fun o => match o with
      | .nx s2 => whlL c f n s2
      | .ct s2 => whlL c f n s2
      | .bk s2 => Ev.pure (.nx s2)
      | .ret t => Ev.pure (.ret t)
    else Ev.pure (.nx ss)
@[irreducible] def WF : Nat := 2 ^ 2000
theorem WF_big : 2 ^ 1000 < WF := by unfold WF; decide +kernel
/-- a list of one's own stands at the place -/
def ownAt (ss : List Sl) (i : Nat) : Option Unit := match ss[i]? with
  | some (.own _ (.lst _)) => some ()
  | _ => none
/-- an attribute is put -/
def putT (f : Str) (x : T) : List Str → List T → List Str × List T
  | n :: ns, t :: ts => if n = f then (f :: ns, x :: ts) else (n :: (putT f x ns ts).1, t :: (putT f x ns ts).2)
  | _, _ => ([f], [x])
def bagSet (s : Option Sl) (t : T) (k : Nat) (b : Bag) : Option Bag := match s, t with
  | some (.val .bag), .int v => b.put v k
  | _, _ => none
def bagW (f : Bag → Option Bag) (o : Out) : Ev Out := fun b => match f b with
  | some b' => some (.ok o, b')
  | none => none
section
variable (I : Ien)
def evX (bs : List Nat) (e : E) (ss : List Sl) : Ev T := evE I e (viewA bs 0 ss)
def evC (bs : List Nat) (e : Te) (ss : List Sl) : Ev Bool := evT I e (viewA bs 0 ss)
mutual
def ex : S → List Sl → Ev Out
  | .asg i bs e, ss => Ev.bind (evX I bs e ss) fun t => Ev.of (if i < ss.length then some (.nx ((frz bs t ss).set i (.val t))) else none)
  | .asgL i bs e, ss => Ev.bind (evX I bs e ss) fun t => Ev.of (if i < ss.length then some (.nx ((frz bs t ss).set i (.val t))) else none)
  | .new i bs e, ss => Ev.bind (evX I [] e ss) fun t => Ev.bind (Ev.of (lstT t)) fun ts => Ev.of (if i < ss.length then some (.nx (ss.set i (.own false (.lst ts)))) else none)
  | .par2 i j bs a b, ss => Ev.bind (evX I [] a ss) fun x => Ev.bind (evX I [] b ss) fun y => Ev.of (if i < ss.length ∧ j < ss.length ∧ i ≠ j then some (.nx ((ss.set i (.val x)).set j (.val y))) else none)
  | .app i bs e, ss => Ev.bind (Ev.of (ownAt ss i)) fun _ => Ev.bind (evX I bs e ss) fun t => Ev.of (match ss[i]? with
    | some (.own s (.lst ts)) => if ts.length < LIM ∧ (isAtom t ∨ bs = []) then some (.nx (ss.set i (.own s (.lst (ts ++ [t]))))) else none
    | _ => none)
  | .fset i f bs e, ss => Ev.bind (evX I bs e ss) fun t => Ev.of (match ss[i]? with
    | some (.own s (.obj c ns ts)) => if I.fok c f ∧ ns.length < 900 ∧ ns.length = ts.length ∧ (isAtom t ∨ i ∉ bs) then some (.nx ((frz bs t ss).set i (.own s (.obj c (putT f t ns ts).1 (putT f t ns ts).2)))) else none
    | _ => none)
  | .unp g bs e, ss => Ev.bind (evX I bs e ss) fun t => Ev.of ((tgS g t (frz bs t ss)).map .nx)
  | .exp bs e, ss => Ev.bind (evX I bs e ss) fun t => Ev.pure (.nx (frz bs t ss))
  | .bset i k e, ss => Ev.bind (evX I [] e ss) fun t => bagW (bagSet ss[i]? t k) (.nx ss)
  | .ite bs c a b, ss => Ev.bind (evC I bs c ss) fun k => if k then exs a ss else exs b ss
  | .for_ g bs it body, ss => Ev.bind (evI I it (viewA bs 0 ss)) fun items => forL g (exs body) items (if bs.isEmpty then ss else frzA bs 0 ss)
  | .whl bs c body, ss => whlL (evC I bs c) (exs body) WF ss
  | .ret bs e, ss => Ev.bind (evX I bs e ss) fun t => Ev.pure (.ret t)
  | .retN, _ => Ev.pure (.ret .non)
  | .pass, ss => Ev.pure (.nx ss)
  | .brk, ss => Ev.pure (.bk ss)
  | .cont, ss => Ev.pure (.ct ss)
  | .dead, _ => Ev.no
def exs : Ss → List Sl → Ev Out
  | .nil, ss => Ev.pure (.nx ss)
  | .cons s r, ss => Ev.bind (ex s ss) fun o => match o with
    | .nx s1 => exs r s1
    | .ret t => Ev.pure (.ret t)
    | .bk s1 => Ev.pure (.bk s1)
    | .ct s1 => Ev.pure (.ct s1)
end
/-- a def's worth -/
def runF (n : Nat) (body : Ss) (as : List T) : Ev T := Ev.bind (exs I body (as.map .val ++ List.replicate (n - as.length) .un)) fun o => match o with
  | .ret t => Ev.pure t
  | .nx _ => Ev.pure .non
  | _ => Ev.no
end

/-- a making's worth -/
def runI (I : Ien) (c : Str) (n : Nat) (body : Ss) (as : List T) : Ev T := Ev.bind (exs I body (.own true (.obj c [] []) :: (as.map .val ++ List.replicate (n - (as.length + 1)) .un))) fun o => match o with
  | .nx (.own true t :: _) => Ev.pure t
  | _ => Ev.no

/-! ### does a statement's term say what its text says -/
def cpB : Expr → Bool
  | .ListComp _ _ _ _ => false
  | .SetComp _ _ _ _ => false
  | .DictComp _ _ _ _ _ => false
  | _ => true
def tuB : Expr → Bool
  | .Tuple _ _ _ => false
  | _ => true
def epB : Expr → Bool
  | .Call _ _ _ _ => true
  | _ => false
def newB : E → Bool
  | .lst _ => true
  | _ => false
mutual
def chkS (G : Gm) : S → Cc → Stmt → Bool
  | .asg i bs e, Γ, st => (match st with
    | .Assign [.Name x _] v _ => decide (Γ.N[i]? = some x) && locB Γ x && (cpB v || decide (Γ.sc.names.lookup x = some .cell)) && chkE G e Γ v
    | _ => false)
  | .asgL i bs e, Γ, st => (match st with
    | .Assign [.Name x px] (.ListComp el gs sc pos) _ => decide (Γ.N[i]? = some x) && decide (Γ.sc.names.lookup x = some .local) && (px.line == pos.line) && !(sc.names.any fun (n, k) => n == x && (k == .local || k == .cell)) && (match Γ.sc.kind with | .function => true | _ => false) && chkE G e Γ (.ListComp el gs sc pos)
    | _ => false)
  | .new i bs e, Γ, st => (match st with
    | .Assign [.Name x _] v _ => decide (Γ.N[i]? = some x) && locB Γ x && cpB v && newB e && chkE G e Γ v
    | _ => false)
  | .par2 i j bs a b, Γ, st => (match st with
    | .Assign [.Tuple [.Name x px, .Name y py] _ _] (.Tuple [u, v] _ _) _ => decide (Γ.N[i]? = some x) && decide (Γ.N[j]? = some y) && decide (Γ.sc.names.lookup x = some .local) && decide (Γ.sc.names.lookup y = some .local) && decide (x ≠ y) &&
      (px.line == py.line) && plB u && plB v && !(foldedForSure 8 u && foldedForSure 8 v) && !(constantsAlone 8 u && constantsAlone 8 v) && chkE G a Γ u && chkE G b Γ v && (match Γ.sc.kind with | .function => true | _ => false)
    | _ => false)
  | .app i bs e, Γ, st => (match st with
    | .Expr (.Call (.Attribute (.Name x _) n ap) [v] [] cp) _ => slB Γ i x && decide (n = ("append" : Str)) && (ap.endLine == cp.line) && plB v && chkE G e Γ v
    | _ => false)
  | .fset i f bs e, Γ, st => (match st with
    | .Assign [.Attribute (.Name x _) n _] v _ => slB Γ i x && decide (n = f) && cpB v && chkE G e Γ v
    | _ => false)
  | .unp g bs e, Γ, st => (match st with
    | .Assign [.Tuple xs k p] v _ => tuB v && tgB Γ g (.Tuple xs k p) && chkE G e Γ v
    | _ => false)
  | .exp bs e, Γ, st => (match st with
    | .Expr v _ => epB v && chkE G e Γ v
    | _ => false)
  | .bset i k e, Γ, st => (match st with
    | .Assign [.Subscript (.Name x _) (.Constant (.int n) _ _) _] v _ => slB Γ i x && decide (n = (k : Int)) && cpB v && chkE G e Γ v
    | _ => false)
  | .ite bs c a b, Γ, st => (match st with
    | .If t x y _ => chkT G c Γ t && chkSs G a Γ x && chkSs G b Γ y
    | _ => false)
  | .for_ g bs it body, Γ, st => (match st with
    | .For t i b [] _ => plB i && chkI G it Γ t i && tgB Γ g t && chkSs G body Γ b
    | _ => false)
  | .whl bs c body, Γ, st => (match st with
    | .While t b [] _ => chkT G c Γ t && chkSs G body Γ b
    | _ => false)
  | .ret bs e, Γ, st => (match st with
    | .Return (some v) _ => chkE G e Γ v
    | _ => false)
  | .retN, Γ, st => (match st with
    | .Return none _ => true
    | _ => false)
  | .pass, Γ, st => (match st with
    | .Pass _ => true
    | _ => false)
  | .brk, Γ, st => (match st with
    | .Break _ => true
    | _ => false)
  | .cont, Γ, st => (match st with
    | .Continue _ => true
    | _ => false)
  | .dead, Γ, st => true
def chkSs (G : Gm) : Ss → Cc → List Stmt → Bool
  | .nil, Γ, sts => (match sts with
    | [] => true
    | _ => false)
  | .cons s r, Γ, sts => (match sts with
    | x :: y => chkS G s Γ x && chkSs G r Γ y
    | _ => false)
end
end DI

set_option Elab.async false
set_option linter.all false
set_option maxRecDepth 100000
set_option maxHeartbeats 8000000
namespace DI
open PySem L2

/-! ### places and the heap -/
structure Bd (W : Wd) (F0 H0 F H : Hp) (b : Bag) : Prop where
  grow : Grow F0 H0 F
  keep : Keep W H0 H
  sta : Sta W F H b
structure SRel (W : Wd) (F H H0 : Hp) (P : Nat → Addr) (σ : L2.St) (ss : List Sl) : Prop where
  len : σ.length = ss.length
  val : ∀ (i : Nat) t, ss[i]? = some (.val t) → ∃ v, σ[i]? = some (some v) ∧ Tr W F v t
  own : ∀ (i : Nat) sf ts, ss[i]? = some (.own sf ts) → σ[i]? = some (some (.ref (P i))) ∧ F (P i) = none ∧ H0 (P i) = none ∧ P i ≠ W.B ∧ P i ≠ W.c ∧ (sf = true → P i = W.S) ∧ ∃ vs, H (P i) = some vs ∧ TrO W F vs ts
  sep : ∀ (i j : Nat) sf ts sg us, i ≠ j → ss[i]? = some (.own sf ts) → ss[j]? = some (.own sg us) → P i ≠ P j

def slV (bs : List Nat) (i : Nat) : Sl → Option T
  | .un => none
  | .val t => some t
  | .own _ ts => if bs.contains i then some ts else none
def slF (bs : List Nat) (i : Nat) : Sl → Sl
  | .own sf ts => if bs.contains i then .val ts else .own sf ts
  | s => s
theorem viewA_get (bs : List Nat) : ∀ (ss : List Sl) (k i : Nat), (viewA bs k ss)[i]? = ss[i]?.map (slV bs (k + i))
  | [], k, i => by simp [viewA]
  | s :: r, k, 0 => by cases s <;> simp [viewA, slV]
  | s :: r, k, i + 1 => by
    have ih := viewA_get bs r (k + 1) i
    have e : k + 1 + i = k + (i + 1) := by omega
    rw [e] at ih
    cases s <;> simpa [viewA] using ih
theorem viewA_len (bs : List Nat) : ∀ (ss : List Sl) (k : Nat), (viewA bs k ss).length = ss.length
  | [], k => rfl
  | s :: r, k => by cases s <;> simp [viewA, viewA_len bs r]
theorem frzA_get (bs : List Nat) : ∀ (ss : List Sl) (k i : Nat), (frzA bs k ss)[i]? = ss[i]?.map (slF bs (k + i))
  | [], k, i => by simp [frzA]
  | s :: r, k, 0 => by cases s <;> simp [frzA, slF]
  | s :: r, k, i + 1 => by
    have ih := frzA_get bs r (k + 1) i
    have e : k + 1 + i = k + (i + 1) := by omega
    rw [e] at ih
    cases s <;> simpa [frzA] using ih
theorem frzA_len (bs : List Nat) : ∀ (ss : List Sl) (k : Nat), (frzA bs k ss).length = ss.length
  | [], k => rfl
  | s :: r, k => by cases s <;> simp [frzA, frzA_len bs r]
theorem slF_nil (i : Nat) (s : Sl) : slF [] i s = s := by cases s <;> rfl
theorem frzA_nil (ss : List Sl) (k : Nat) : frzA [] k ss = ss := by
  apply List.ext_getElem?
  intro i
  rw [frzA_get]
  cases ss[i]? with
  | none => rfl
  | some s => simp [slF_nil]
theorem slV_nil_own (i : Nat) (sf : Bool) (ts : T) : slV [] i (.own sf ts) = none := rfl

section
variable {W : Wd} {F0 H0 F H : Hp} {P : Nat → Addr} {σ : L2.St} {ss : List Sl} {b : Bag}
open Classical in
/-- the lists of the places bs are seen -/
theorem borrow (sr : SRel W F H H0 P σ ss) (bd : Bd W F0 H0 F H b) (bs : List Nat) : ∃ F1, Sub F F1 ∧ Sta W F1 H b ∧ VRel W F1 σ (viewA bs 0 ss) ∧ (∀ a o, F1 a = some o → F a = some o ∨ H0 a = none) ∧
    (∀ (j : Nat) sf us, ss[j]? = some (.own sf us) → bs.contains j = false → F1 (P j) = none) ∧ (∀ (j : Nat) sf us, ss[j]? = some (.own sf us) → bs.contains j = true → Tr W F1 (.ref (P j)) us) := by
  let L : Addr → Prop := fun a => ∃ (j : Nat) (sf : Bool) (us : T), bs.contains j = true ∧ ss[j]? = some (.own sf us) ∧ a = P j
  let F1 : Hp := fun a => if L a then H a else F a
  have hin : ∀ (j : Nat) sf us, ss[j]? = some (.own sf us) → bs.contains j = true → F1 (P j) = H (P j) := fun j sf us h hb => if_pos ⟨j, sf, us, hb, h, rfl⟩
  have hout : ∀ a, ¬ L a → F1 a = F a := fun a h => if_neg h
  have hsub : Sub F F1 := fun a o h => by
    have : ¬ L a := by
      rintro ⟨j, sf, us, _, hj, rfl⟩
      have := (sr.own j sf us hj).2.1
      rw [this] at h; cases h
    rw [hout a this]; exact h
  have hnB : ¬ L W.B := by
    rintro ⟨j, sf, us, _, hj, e⟩
    exact (sr.own j sf us hj).2.2.2.1 e.symm
  have hnc : ¬ L W.c := by
    rintro ⟨j, sf, us, _, hj, e⟩
    exact (sr.own j sf us hj).2.2.2.2.1 e.symm
  have htr : ∀ (j : Nat) sf us, ss[j]? = some (.own sf us) → bs.contains j = true → Tr W F1 (.ref (P j)) us := fun j sf us h hb => by
    obtain ⟨_, _, _, _, _, hl, vs, hv, tl⟩ := sr.own j sf us h
    exact Tr.ofO (by rw [hin j sf us h hb]; exact hv) (tl.mono hsub)
  refine ⟨F1, hsub, ⟨fun a o h => ?_, by rw [hout _ hnB]; exact bd.sta.fB, by rw [hout _ hnc]; exact bd.sta.fc, bd.sta.bag⟩, ⟨by rw [viewA_len]; exact sr.len, fun i t e => ?_⟩, fun a o h => ?_, fun j sf us h hb => ?_, htr⟩
  · by_cases hL : L a
    · have e : F1 a = H a := if_pos hL
      rw [e] at h; exact .inl h
    · rw [hout a hL] at h; exact bd.sta.fz a o h
  · rw [viewA_get, Option.map_eq_some_iff] at e
    obtain ⟨s, e1, e2⟩ := e
    rw [Nat.zero_add] at e2
    cases s with
    | un => cases e2
    | val u =>
      cases e2
      obtain ⟨v, h1, h2⟩ := sr.val i _ e1
      exact ⟨v, h1, h2.mono hsub⟩
    | own sf ts =>
      simp only [slV] at e2
      split at e2
      · rename_i hb
        cases e2
        exact ⟨_, (sr.own i sf _ e1).1, htr i sf _ e1 hb⟩
      · cases e2
  · by_cases hL : L a
    · obtain ⟨j, sf, us, _, hj, rfl⟩ := hL
      exact .inr (sr.own j sf us hj).2.2.1
    · rw [hout a hL] at h; exact .inl h
  · have hL : ¬ L (P j) := by
      rintro ⟨i, sg, ts, hi, hs, e⟩
      by_cases hij : j = i
      · subst hij; rw [hb] at hi; cases hi
      · exact sr.sep j i sf us sg ts hij h hs e
    rw [hout _ hL]
    exact (sr.own j sf us h).2.1
/-- the frozen part forgotten again -/
theorem Sta.back {F' H' : Hp} {b b' : Bag} (st : Sta W F H b) (st' : Sta W F' H' b') (h : Sub F F') : Sta W F H' b' := ⟨fun a o e => st'.fz a o (h a o e), st.fB, st.fc, st'.bag⟩
theorem SRel.keep {H' : Hp} (sr : SRel W F H H0 P σ ss) (k : Keep W H H') : SRel W F H' H0 P σ ss :=
  ⟨sr.len, sr.val, fun i sf ts e => by
    obtain ⟨h1, h2, h3, h4, h5, h6, vs, h7, h8⟩ := sr.own i sf ts e
    exact ⟨h1, h2, h3, h4, h5, h6, vs, k _ _ h7 h4, h8⟩, sr.sep⟩
theorem atom_tr {F F' : Hp} {v : V} {t : T} (h : Tr W F v t) (e : isAtom t = true) : Tr W F' v t := by
  cases h with
  | non => exact .non
  | bl b => exact .bl b
  | int i => exact .int i
  | str x z => exact .str x z
  | ty n => exact .ty n
  | _ => cases e
/-- behind an expression: the places of bs are frozen -/
theorem afterF {bs : List Nat} {F1 F' H' : Hp} {b' : Bag} (sr : SRel W F H H0 P σ ss) (bd : Bd W F0 H0 F H b) (hs : Sub F F1) (hn : ∀ a o, F1 a = some o → F a = some o ∨ H0 a = none)
    (h1 : ∀ (j : Nat) sf us, ss[j]? = some (.own sf us) → bs.contains j = false → F1 (P j) = none) (h2 : ∀ (j : Nat) sf us, ss[j]? = some (.own sf us) → bs.contains j = true → Tr W F1 (.ref (P j)) us) (pg : Grow F1 H F') (pk : Keep W H H') (ps : Sta W F' H' b') :
    Bd W F0 H0 F' H' b' ∧ SRel W F' H' H0 P σ (frzA bs 0 ss) := by
  have grow : Grow F0 H0 F' := by
    refine ⟨(bd.grow.sub.trans hs).trans pg.sub, fun a o e => ?_⟩
    rcases pg.new a o e with z | z
    · rcases hn a o z with z | z
      · exact bd.grow.new a o z
      · exact .inr z
    · exact .inr (bd.keep.free bd.sta.bag z)
  refine ⟨⟨grow, bd.keep.trans pk, ps⟩, ?_⟩
  have key : ∀ (i : Nat) (s' : Sl), (frzA bs 0 ss)[i]? = some s' → ∃ s, ss[i]? = some s ∧ slF bs i s = s' := fun i s' e => by
    rw [frzA_get, Option.map_eq_some_iff, Nat.zero_add] at e
    exact e
  refine ⟨by rw [frzA_len]; exact sr.len, fun i u e => ?_, fun i sf ts e => ?_, fun i j sf ts sg us hij e e' => ?_⟩
  · obtain ⟨s, e1, e2⟩ := key i _ e
    cases s with
    | un => cases e2
    | val w =>
      cases e2
      obtain ⟨x, hx, ht⟩ := sr.val i _ e1
      exact ⟨x, hx, (ht.mono hs).mono pg.sub⟩
    | own sf ts =>
      simp only [slF] at e2
      split at e2
      · rename_i hb
        cases e2
        exact ⟨_, (sr.own i sf _ e1).1, (h2 i sf _ e1 hb).mono pg.sub⟩
      · cases e2
  · obtain ⟨s, e1, e2⟩ := key i _ e
    cases s with
    | un => cases e2
    | val w => cases e2
    | own sg us =>
      simp only [slF] at e2
      split at e2
      · cases e2
      · rename_i hb
        cases e2
        obtain ⟨a1, a2, a3, a4, a5, a6, vs, a7, a8⟩ := sr.own i _ _ e1
        refine ⟨a1, ?_, a3, a4, a5, a6, vs, pk _ _ a7 a4, (a8.mono hs).mono pg.sub⟩
        cases q : F' (P i) with
        | none => rfl
        | some u =>
          rcases pg.new _ u q with z | z
          · rw [h1 i _ _ e1 (by simpa using hb)] at z; cases z
          · rw [a7] at z; cases z
  · obtain ⟨s, e1, e2⟩ := key i _ e
    obtain ⟨s', e3, e4⟩ := key j _ e'
    have g : ∀ {i : Nat} {s : Sl} {sf : Bool} {ts : T}, slF bs i s = .own sf ts → s = .own sf ts := fun {i s sf ts} q => by
      cases s with
      | un => cases q
      | val w => cases q
      | own sg us => simp only [slF] at q; split at q <;> cases q; rfl
    exact sr.sep i j _ _ _ _ hij (by rw [e1, g e2]) (by rw [e3, g e4])
/-- behind an expression -/
theorem after {bs : List Nat} {F1 F' H' : Hp} {b' : Bag} {t : T} {v : V} (sr : SRel W F H H0 P σ ss) (bd : Bd W F0 H0 F H b) (hs : Sub F F1) (hn : ∀ a o, F1 a = some o → F a = some o ∨ H0 a = none)
    (h1 : ∀ (j : Nat) sf us, ss[j]? = some (.own sf us) → bs.contains j = false → F1 (P j) = none) (h2 : ∀ (j : Nat) sf us, ss[j]? = some (.own sf us) → bs.contains j = true → Tr W F1 (.ref (P j)) us) (p : Post W F1 H b' t v F' H') :
    ∃ F2, Bd W F0 H0 F2 H' b' ∧ SRel W F2 H' H0 P σ (frz bs t ss) ∧ Tr W F2 v t := by
  by_cases hA : bs.isEmpty = false ∧ isAtom t = true
  · refine ⟨F, ⟨bd.grow, bd.keep.trans p.keep, bd.sta.back p.sta (hs.trans p.grow.sub)⟩, ?_, atom_tr p.tr hA.2⟩
    unfold frz
    rw [hA.1, hA.2]
    exact sr.keep p.keep
  · have ef : frz bs t ss = frzA bs 0 ss := by
      unfold frz
      cases e1 : bs.isEmpty with
      | true =>
        have : bs = [] := by simpa using e1
        subst this
        rw [frzA_nil]; rfl
      | false =>
        cases e2 : isAtom t with
        | true => exact absurd ⟨e1, e2⟩ hA
        | false => rfl
    rw [ef]
    obtain ⟨a, c⟩ := afterF sr bd hs hn h1 h2 p.grow p.keep p.sta
    exact ⟨F', a, c, p.tr⟩
theorem SRel.vrel (sr : SRel W F H H0 P σ ss) : VRel W F σ (viewA [] 0 ss) := by
  refine ⟨by rw [viewA_len]; exact sr.len, fun i t e => ?_⟩
  rw [viewA_get, Option.map_eq_some_iff, Nat.zero_add] at e
  obtain ⟨s, e1, e2⟩ := e
  cases s with
  | un => cases e2
  | val u => cases e2; exact sr.val i _ e1
  | own sf ts => cases e2
theorem SRel.mono {F' : Hp} (sr : SRel W F H H0 P σ ss) (g : Grow F H F') : SRel W F' H H0 P σ ss :=
  ⟨sr.len, fun i t e => let ⟨v, a, c⟩ := sr.val i t e; ⟨v, a, c.mono g.sub⟩, fun i sf ts e => by
    obtain ⟨h1, h2, h3, h4, h5, h6, vs, h7, h8⟩ := sr.own i sf ts e
    refine ⟨h1, ?_, h3, h4, h5, h6, vs, h7, h8.mono g.sub⟩
    cases q : F' (P i) with
    | none => rfl
    | some u =>
      rcases g.new _ u q with z | z
      · rw [h2] at z
        cases z
      · rw [h7] at z
        exact (nomatch z), sr.sep⟩
/-- a worth is stored -/
theorem SRel.set {i : Nat} {v : V} {t : T} (sr : SRel W F H H0 P σ ss) (h : Tr W F v t) : SRel W F H H0 P (σ.set i (some v)) (ss.set i (.val t)) := by
  refine ⟨by rw [List.length_set, List.length_set]; exact sr.len, fun j u e => ?_, fun j sf ts e => ?_, fun j l sf ts sg us hjl e e' => ?_⟩
  · by_cases hj : i = j
    · subst hj
      have hl : i < ss.length := by have := (List.getElem?_eq_some_iff.mp e).1; simpa using this
      rw [List.getElem?_set_self hl] at e
      cases e
      exact ⟨v, by rw [List.getElem?_set_self (by rw [sr.len]; exact hl)], h⟩
    · rw [List.getElem?_set_ne hj] at e ⊢
      exact sr.val j u e
  · by_cases hj : i = j
    · subst hj
      have hl : i < ss.length := by have := (List.getElem?_eq_some_iff.mp e).1; simpa using this
      rw [List.getElem?_set_self hl] at e
      cases e
    · rw [List.getElem?_set_ne hj] at e ⊢
      exact sr.own j sf ts e
  · have g : ∀ {j : Nat} {sf ts}, (ss.set i (.val t))[j]? = some (.own sf ts) → ss[j]? = some (.own sf ts) := fun {j sf ts} q => by
      by_cases hj : i = j
      · subst hj
        have hl : i < ss.length := by have := (List.getElem?_eq_some_iff.mp q).1; simpa using this
        rw [List.getElem?_set_self hl] at q
        cases q
      · rw [List.getElem?_set_ne hj] at q; exact q
    exact sr.sep j l _ _ _ _ hjl (g e) (g e')
/-- a thing of one's own is stored -/
theorem SRel.setOwn {i : Nat} {p : Addr} {sf : Bool} {ts : T} {vs : HO} (sr : SRel W F H H0 P σ ss) (hF : F p = none) (hH0 : H0 p = none) (hB : p ≠ W.B) (hc : p ≠ W.c) (hl : sf = true → p = W.S) (hv : H p = some vs) (tl : TrO W F vs ts)
    (hne : ∀ (j : Nat) sg us, j ≠ i → ss[j]? = some (.own sg us) → P j ≠ p) : SRel W F H H0 (fun j => if j = i then p else P j) (σ.set i (some (.ref p))) (ss.set i (.own sf ts)) := by
  have g : ∀ {j : Nat} {s : Sl}, j ≠ i → (ss.set i (.own sf ts))[j]? = some s → ss[j]? = some s := fun {j s} hj q => by
    rw [List.getElem?_set_ne (Ne.symm hj)] at q; exact q
  have gi : ∀ {s : Sl}, (ss.set i (.own sf ts))[i]? = some s → s = .own sf ts ∧ i < ss.length := fun {s} q => by
    have hl : i < ss.length := by have := (List.getElem?_eq_some_iff.mp q).1; simpa using this
    rw [List.getElem?_set_self hl] at q
    exact ⟨(Option.some.inj q).symm, hl⟩
  refine ⟨by rw [List.length_set, List.length_set]; exact sr.len, fun j u e => ?_, fun j sg us e => ?_, fun j l sg us sh ws hjl e e' => ?_⟩
  · by_cases hj : j = i
    · subst hj; obtain ⟨z, _⟩ := gi e; cases z
    · rw [List.getElem?_set_ne (Ne.symm hj)]
      exact sr.val j u (g hj e)
  · by_cases hj : j = i
    · subst hj
      obtain ⟨z, hl'⟩ := gi e
      cases z
      simp only [if_true]
      exact ⟨by rw [List.getElem?_set_self (by rw [sr.len]; exact hl')], hF, hH0, hB, hc, hl, vs, hv, tl⟩
    · simp only [if_neg hj]
      rw [List.getElem?_set_ne (Ne.symm hj)]
      exact sr.own j sg us (g hj e)
  · show (if j = i then p else P j) ≠ (if l = i then p else P l)
    by_cases hj : j = i
    · have hl' : l ≠ i := fun q => hjl (hj.trans q.symm)
      rw [if_pos hj, if_neg hl']
      exact (hne l sh ws hl' (g hl' e')).symm
    · rw [if_neg hj]
      by_cases hl' : l = i
      · rw [if_pos hl']; exact hne j sg us hj (g hj e)
      · rw [if_neg hl']; exact sr.sep j l sg us sh ws hjl (g hj e) (g hl' e')
/-- a thing of one's own is changed -/
theorem own_upd {i : Nat} {sf : Bool} {ts ts' : T} {o' : HO} (sr : SRel W F H H0 P σ ss) (bd : Bd W F0 H0 F H b) (hi : ss[i]? = some (.own sf ts)) (ho : TrO W F o' ts') :
    Bd W F0 H0 F (upd H (P i) o') b ∧ SRel W F (upd H (P i) o') H0 P σ (ss.set i (.own sf ts')) := by
  obtain ⟨c1, c2, c3, c4, c5, c6, vs2, c7, c8⟩ := sr.own i sf ts hi
  have hl : i < ss.length := (List.getElem?_eq_some_iff.mp hi).1
  refine ⟨⟨bd.grow, fun a u h n => ?_, bd.sta.hid c2 c4 c5⟩, ?_⟩
  · rw [upd_ne (ne_of_none h c3)]
    exact bd.keep a u h n
  · have g : ∀ {j : Nat} {s : Sl}, (ss.set i (.own sf ts'))[j]? = some s → (j = i ∧ s = .own sf ts') ∨ (j ≠ i ∧ ss[j]? = some s) := fun {j s} qq => by
      by_cases hj : i = j
      · subst hj
        rw [List.getElem?_set_self hl] at qq
        exact .inl ⟨rfl, (Option.some.inj qq).symm⟩
      · rw [List.getElem?_set_ne hj] at qq; exact .inr ⟨Ne.symm hj, qq⟩
    refine ⟨by rw [List.length_set]; exact sr.len, fun j u h => ?_, fun j sg us h => ?_, fun j l sg us sh ws hjl h h' => ?_⟩
    · rcases g h with ⟨_, z⟩ | ⟨_, z⟩
      · cases z
      · exact sr.val j u z
    · rcases g h with ⟨rfl, z⟩ | ⟨hj, z⟩
      · cases z
        exact ⟨c1, c2, c3, c4, c5, c6, o', upd_same, ho⟩
      · obtain ⟨d1, d2, d3, d4, d5, d6, vs3, d7, d8⟩ := sr.own j sg us z
        exact ⟨d1, d2, d3, d4, d5, d6, vs3, by rw [upd_ne (sr.sep j i sg us sf ts hj z hi)]; exact d7, d8⟩
    · rcases g h with ⟨rfl, z⟩ | ⟨hj, z⟩
      · rcases g h' with ⟨rfl, z'⟩ | ⟨hl', z'⟩
        · exact absurd rfl hjl
        · exact sr.sep _ l _ _ _ _ hjl hi z'
      · rcases g h' with ⟨rfl, z'⟩ | ⟨hl', z'⟩
        · exact sr.sep j _ _ _ _ _ hjl z hi
        · exact sr.sep j l _ _ _ _ hjl z z'

/-! ### targets -/
mutual
theorem tgS_len : ∀ (g : Tg) {t : T} {ss s' : List Sl}, tgS g t ss = some s' → s'.length = ss.length
  | .name i, t, ss, s', e => by simp only [tgS] at e; split at e <;> cases e; simp
  | .seq l gs, t, ss, s', e => by
    simp only [tgS] at e
    split at e
    · exact tgsS_len gs e
    · exact tgsS_len gs e
    · cases e
theorem tgsS_len : ∀ (gs : Tgs) {ts : List T} {ss s' : List Sl}, tgsS gs ts ss = some s' → s'.length = ss.length
  | .nil, ts, ss, s', e => by
    simp only [tgsS] at e
    split at e
    · cases e; rfl
    · cases e
  | .cons g r, ts, ss, s', e => by
    simp only [tgsS] at e
    split at e
    · cases e
    · split at e
      · rename_i q
        rw [tgsS_len r e, tgS_len g q]
      · cases e
end
theorem viewA_set (ss : List Sl) (i : Nat) (t : T) : viewA [] 0 (ss.set i (.val t)) = (viewA [] 0 ss).set i (some t) := by
  apply List.ext_getElem?
  intro j
  rw [viewA_get]
  by_cases hj : i = j
  · subst hj
    by_cases hl : i < ss.length
    · rw [List.getElem?_set_self hl, List.getElem?_set_self (by rw [viewA_len]; exact hl)]; rfl
    · rw [List.getElem?_eq_none (by simpa using hl), List.getElem?_eq_none (by rw [List.length_set, viewA_len]; omega)]; rfl
  · rw [List.getElem?_set_ne hj, List.getElem?_set_ne hj, viewA_get]
mutual
theorem tgS_view : ∀ (g : Tg) {t : T} {ss s' : List Sl}, tgS g t ss = some s' → tgV g t (viewA [] 0 ss) = some (viewA [] 0 s')
  | .name i, t, ss, s', e => by
    simp only [tgS] at e
    split at e
    · rename_i hl
      cases e
      simp only [tgV]
      rw [if_pos (by rw [viewA_len]; exact hl), viewA_set]
    · cases e
  | .seq l gs, t, ss, s', e => by
    simp only [tgS] at e
    split at e
    · exact tgsS_view gs e
    · exact tgsS_view gs e
    · cases e
theorem tgsS_view : ∀ (gs : Tgs) {ts : List T} {ss s' : List Sl}, tgsS gs ts ss = some s' → tgsV gs ts (viewA [] 0 ss) = some (viewA [] 0 s')
  | .nil, ts, ss, s', e => by
    simp only [tgsS] at e
    split at e
    · cases e; rfl
    · cases e
  | .cons g r, ts, ss, s', e => by
    simp only [tgsS] at e
    split at e
    · cases e
    · split at e
      · rename_i q
        simp only [tgsV]
        rw [tgS_view g q]
        exact tgsS_view r e
      · cases e
end
mutual
theorem tgS_own : ∀ (g : Tg) {t : T} {ss s' : List Sl} {j : Nat} {sf : Bool} {us : T}, tgS g t ss = some s' → s'[j]? = some (.own sf us) → ss[j]? = some (.own sf us) ∧ j ∉ tgSlots g
  | .name i, t, ss, s', j, sf, us, e, h => by
    simp only [tgS] at e
    split at e
    · rename_i hl
      cases e
      by_cases hj : i = j
      · subst hj
        rw [List.getElem?_set_self hl] at h
        cases h
      · rw [List.getElem?_set_ne hj] at h
        exact ⟨h, by simp [tgSlots, Ne.symm hj]⟩
    · cases e
  | .seq l gs, t, ss, s', j, sf, us, e, h => by
    simp only [tgS] at e
    simp only [tgSlots]
    split at e
    · exact tgsS_own gs e h
    · exact tgsS_own gs e h
    · cases e
theorem tgsS_own : ∀ (gs : Tgs) {ts : List T} {ss s' : List Sl} {j : Nat} {sf : Bool} {us : T}, tgsS gs ts ss = some s' → s'[j]? = some (.own sf us) → ss[j]? = some (.own sf us) ∧ j ∉ tgsSlots gs
  | .nil, ts, ss, s', j, sf, us, e, h => by
    simp only [tgsS] at e
    split at e
    · cases e; exact ⟨h, by simp [tgsSlots]⟩
    · cases e
  | .cons g r, ts, ss, s', j, sf, us, e, h => by
    simp only [tgsS] at e
    split at e
    · cases e
    · split at e
      · rename_i q
        obtain ⟨h1, n1⟩ := tgsS_own r e h
        obtain ⟨h2, n2⟩ := tgS_own g q h1
        exact ⟨h2, by simp [tgsSlots, n1, n2]⟩
      · cases e
end
theorem SRel.tg {g : Tg} {t : T} {s' : List Sl} {σ' : L2.St} (sr : SRel W F H H0 P σ ss) (e : tgS g t ss = some s') (v : VRel W F σ' (viewA [] 0 s')) (hk : ∀ j : Nat, j ∉ tgSlots g → σ'[j]? = σ[j]?) : SRel W F H H0 P σ' s' := by
  refine ⟨by rw [v.len, viewA_len], fun i u h => ?_, fun i sf us h => ?_, fun i j sf us sg ws hij h h' => ?_⟩
  · exact v.get i u (by rw [viewA_get, h]; rfl)
  · obtain ⟨h1, n1⟩ := tgS_own g e h
    rw [hk i n1]
    exact sr.own i sf us h1
  · exact sr.sep i j _ _ _ _ hij (tgS_own g e h).1 (tgS_own g e h').1
end
end DI

set_option Elab.async false
set_option linter.all false
set_option maxRecDepth 100000
set_option maxHeartbeats 8000000
namespace DI
open PySem L2

def EndsOk (W : Wd) (F0 H0 : Hp) (b' : Bag) (o : Out) (D : Ends) : Prop := match o with
  | .nx s' => ∀ F' H' P' σ', Bd W F0 H0 F' H' b' → SRel W F' H' H0 P' σ' s' → D.nx σ' H'
  | .ret t => ∀ v F' H', Bd W F0 H0 F' H' b' → Tr W F' v t → D.rt v H'
  | .bk s' => ∀ F' H' P' σ', Bd W F0 H0 F' H' b' → SRel W F' H' H0 P' σ' s' → D.bk σ' H'
  | .ct s' => ∀ F' H' P' σ', Bd W F0 H0 F' H' b' → SRel W F' H' H0 P' σ' s' → D.ct σ' H'
/-- the wish of errors of statements: at whatever slots -/
def WXs (W : Wd) (Wx : WX) (F0 H0 : Hp) (x : Xc) (b' : Bag) : Prop := ∀ σ' cls d F' H', PostX W F0 H0 b' x cls d F' H' → Wx cls d σ' H'
def rdS (W : Wd) (Wx : WX) (f : List Sl → Ev Out) : TS := fun D σ H => ∃ F0 H0 F P ss b, Bd W F0 H0 F H b ∧ SRel W F H H0 P σ ss ∧ wpE (f ss) b (fun o b' => EndsOk W F0 H0 b' o D) (WXs W Wx F0 H0)

section
variable {W : Wd} {G : Gm} {Wx : WX} {I : Ien} {k : Nat}
section
variable {X : Cx} {Γ : Cc}
/-- an error behind what is seen -/
theorem x_err {F0 H0 F H F1 : Hp} {b b' : Bag} {σ : L2.St} {x : Xc} (bd : Bd W F0 H0 F H b) (hs : Sub F F1) (hn : ∀ a o, F1 a = some o → F a = some o ∨ H0 a = none) (h : WXs W Wx F0 H0 x b') : WXat W Wx σ F1 H x b' := fun cls d F' H' p => by
  refine h σ cls d F' H' ⟨⟨(bd.grow.sub.trans hs).trans p.grow.sub, fun a o e => ?_⟩, bd.keep.trans p.keep, p.sta, p.at_⟩
  rcases p.grow.new a o e with z | z
  · rcases hn a o z with z | z
    · exact bd.grow.new a o z
    · exact .inr z
  · exact .inr (bd.keep.free bd.sta.bag z)
/-- an expression in a statement -/
theorem x_read {α : Type} {bs : List Nat} {e : E} {F0 H0 F H : Hp} {P : Nat → Addr} {σ : L2.St} {ss : List Sl} {b : Bag} {g : T → Ev α} {Qf : α → Bag → Prop} {Q : VK} (bd : Bd W F0 H0 F H b) (sr : SRel W F H H0 P σ ss) (ev : wpE (Ev.bind (evX I bs e ss) g) b Qf (WXs W Wx F0 H0))
    (q : ∀ t b' v F2 H', Bd W F0 H0 F2 H' b' → SRel W F2 H' H0 P σ (frz bs t ss) → Tr W F2 v t → Keep W H H' → wpE (g t) b' Qf (WXs W Wx F0 H0) → Q v H') : rdE W Wx (evE I e) σ H Q := by
  obtain ⟨F1, hs, st1, vr, hn, h1, h2⟩ := borrow sr bd bs
  refine ⟨F1, viewA bs 0 ss, b, st1, vr, wpE_mono (wpE_bind.mp ev) (fun t b' ev v F' H' p => ?_) fun x b' h => x_err bd hs hn h⟩
  obtain ⟨F2, bd2, sr2, tr⟩ := after sr bd hs hn h1 h2 p
  exact q t b' v F2 H' bd2 sr2 tr p.keep ev
theorem c_read {α : Type} {bs : List Nat} {e : Te} {F0 H0 F H : Hp} {P : Nat → Addr} {σ : L2.St} {ss : List Sl} {b : Bag} {g : Bool → Ev α} {Qf : α → Bag → Prop} {Q : Bool → Hp → Prop} (bd : Bd W F0 H0 F H b) (sr : SRel W F H H0 P σ ss) (ev : wpE (Ev.bind (evC I bs e ss) g) b Qf (WXs W Wx F0 H0))
    (q : ∀ t b' H', Bd W F0 H0 F H' b' → SRel W F H' H0 P σ ss → wpE (g t) b' Qf (WXs W Wx F0 H0) → Q t H') : rdT W Wx (evT I e) σ H Q := by
  obtain ⟨F1, hs, st1, vr, hn, h1, h2⟩ := borrow sr bd bs
  refine ⟨F1, viewA bs 0 ss, b, st1, vr, wpE_mono (wpE_bind.mp ev) (fun t b' ev F' H' g kp st' => ?_) fun x b' h => x_err bd hs hn h⟩
  exact q t b' H' ⟨bd.grow, bd.keep.trans kp, bd.sta.back st' (hs.trans g.sub)⟩ (sr.keep kp) ev
theorem sw_of {v : Expr} {tg : Option Expr} {l : Nat} {env : Env} (h : cpB v = true) : swapsWith v tg l env = pure false := by
  cases v <;> first | rfl | cases h
theorem sw_cell {v : Expr} {x : Str} {p : Pos} {l : Nat} {env : Env} (h : env.scope.names.lookup x = some .cell) : swapsWith v (some (.Name x p)) l env = pure false := by
  have e : env.kindOf x = some .cell := h
  have z : (NameKind.cell == NameKind.local) = false := rfl
  cases v <;> first | rfl | (unfold swapsWith; simp [e, z])
theorem ss_asg (c : CxI X W Wx G I k Γ) {i : Nat} {bs : List Nat} {e : E} {x : Str} {v : Expr} {p pos : Pos} (h1 : Γ.N[i]? = some x) (h2 : locB Γ x = true) (h3 : cpB v = true ∨ Γ.sc.names.lookup x = some .cell) (he : PE X v (rdE W Wx (evE I e))) : PS X (.Assign [.Name x p] v pos) (rdS W Wx (ex I (.asg i bs e))) := by
  obtain ⟨l1, l2⟩ := locB_of c h2
  refine PS.imp (ps_set (i := i) (by rw [c.N]; exact c.nd) (by rw [c.N]; exact h1) l1 he (h3.elim sw_of fun z => sw_cell (by rw [c.sc]; exact z)) l2) fun D σ H q => ?_
  obtain ⟨F0, H0, F, P, ss, b, bd, sr, ev⟩ := q
  refine x_read bd sr (show wpE (Ev.bind (evX I bs e ss) _) b _ _ from ev) fun t b1 v F2 H' bd2 sr2 tr _ ev => ?_
  obtain ⟨o, eb, q⟩ := wpE_of.mp ev
  split at eb
  · cases eb
    exact q F2 H' P _ bd2 (sr2.set tr)
  · cases eb
theorem asg_rd {i : Nat} {bs : List Nat} {e : E} {D : Ends} {σ : L2.St} {H : Hp} (q : rdS W Wx (ex I (.asgL i bs e)) D σ H) : rdE W Wx (evE I e) σ H (fun v H' => gName i v σ H' D.nx) := by
  obtain ⟨F0, H0, F, P, ss, b, bd, sr, ev⟩ := q
  refine x_read bd sr (show wpE (Ev.bind (evX I bs e ss) _) b _ _ from ev) fun t b1 v F2 H' bd2 sr2 tr _ ev => ?_
  obtain ⟨o, eb, q⟩ := wpE_of.mp ev
  split at eb
  · cases eb
    exact q F2 H' P _ bd2 (sr2.set tr)
  · cases eb
theorem ss_asgL (c : CxI X W Wx G I k Γ) {i : Nat} {bs : List Nat} {elt : E} {tg : Tg} {it : It} {cd : Te} {x : Str} {e t ii f : Expr} {scope : Scope} {p pos spos : Pos} (h1 : Γ.N[i]? = some x) (h2 : Γ.sc.names.lookup x = some .local) (hl : (p.line == pos.line) = true) (hn : (scope.names.any fun (n, k) => n == x && (k == .local || k == .cell)) = false) (hk : Γ.sc.kind = .function)
    (hp : plB ii = true) (hi : PI X t ii (rdI W Wx (evI I it))) (hb : blkC Γ.N Γ.sc scope (ownOf Γ.N (tgSlots tg)) = true) (hg : tgB (Γ.blk scope) tg t = true)
    (hc : ∀ {X' : Cx}, CxI X' W (fun _ _ _ _ => False) G I k (Γ.blk scope) → PT X' f (rdT W (fun _ _ _ _ => False) (evT I cd))) (he : ∀ {X' : Cx}, CxI X' W (fun _ _ _ _ => False) G I k (Γ.blk scope) → PE X' e (rdE W (fun _ _ _ _ => False) (evE I elt))) :
    PS X (.Assign [.Name x p] (.ListComp e [⟨t, ii, [f], 0⟩] scope pos) spos) (rdS W Wx (ex I (.asgL i bs (.lc elt tg it cd)))) := by
  have ok : BlkOk X.N X.env.scope scope (ownOf Γ.N (tgSlots tg)) := by rw [c.N, c.sc]; exact blkOk_by hb
  have hx := ps_setLc (i := i) (y := x) (py := p) (pos := pos) (spos := spos) (elt := e) (ifs := [f]) c.calm (by rw [c.N]; exact c.nd) (by rw [c.N]; exact h1) (by rw [c.sc]; exact h2) (sw_true (by rw [c.sc]; exact hk) (by rw [c.sc]; exact h2) hl hn) hi ok (fun s H C cl fp => snd_tg (c.blk s H scope C cl fp) tg t hg) (fun s H C cl fp => pts_one (hc (c.blk s H scope C cl fp))) (fun s H C cl fp => he (c.blk s H scope C cl fp)) (fun x => fold_of hp)
  rw [own_map] at hx
  exact PS.imp hx fun D σ H q => lcR (asg_rd q)
theorem ss_asgL0 (c : CxI X W Wx G I k Γ) {i : Nat} {bs : List Nat} {elt : E} {tg : Tg} {it : It} {x : Str} {e t ii : Expr} {scope : Scope} {p pos spos : Pos} (h1 : Γ.N[i]? = some x) (h2 : Γ.sc.names.lookup x = some .local) (hl : (p.line == pos.line) = true) (hn : (scope.names.any fun (n, k) => n == x && (k == .local || k == .cell)) = false) (hk : Γ.sc.kind = .function)
    (hp : plB ii = true) (hi : PI X t ii (rdI W Wx (evI I it))) (hb : blkC Γ.N Γ.sc scope (ownOf Γ.N (tgSlots tg)) = true) (hg : tgB (Γ.blk scope) tg t = true)
    (he : ∀ {X' : Cx}, CxI X' W (fun _ _ _ _ => False) G I k (Γ.blk scope) → PE X' e (rdE W (fun _ _ _ _ => False) (evE I elt))) :
    PS X (.Assign [.Name x p] (.ListComp e [⟨t, ii, [], 0⟩] scope pos) spos) (rdS W Wx (ex I (.asgL i bs (.lc0 elt tg it)))) := by
  have ok : BlkOk X.N X.env.scope scope (ownOf Γ.N (tgSlots tg)) := by rw [c.N, c.sc]; exact blkOk_by hb
  have hx := ps_setLc (i := i) (y := x) (py := p) (pos := pos) (spos := spos) (elt := e) (ifs := []) c.calm (by rw [c.N]; exact c.nd) (by rw [c.N]; exact h1) (by rw [c.sc]; exact h2) (sw_true (by rw [c.sc]; exact hk) (by rw [c.sc]; exact h2) hl hn) hi ok (fun s H C cl fp => snd_tg (c.blk s H scope C cl fp) tg t hg) (fun s H C cl fp => pts_nil) (fun s H C cl fp => he (c.blk s H scope C cl fp)) (fun x => fold_of hp)
  rw [own_map] at hx
  exact PS.imp hx fun D σ H q => lcR0 (asg_rd q)
theorem ss_new (c : CxI X W Wx G I k Γ) {i : Nat} {bs : List Nat} {es : Es} {x : Str} {xs : List Expr} {p p2 pos : Pos} (h1 : Γ.N[i]? = some x) (h2 : locB Γ x = true) (ha : PA X xs (rdA W Wx (evEs I es))) : PS X (.Assign [.Name x p] (.List xs p2) pos) (rdS W Wx (ex I (.new i bs (.lst es)))) := by
  obtain ⟨l1, l2⟩ := locB_of c h2
  refine PS.imp (ps_set (i := i) (by rw [c.N]; exact c.nd) (by rw [c.N]; exact h1) l1 (pe_lst ha) rfl l2) fun D σ H q => ?_
  obtain ⟨F0, H0, F, P, ss, b, bd, sr, ev⟩ := q
  · have ev := wpE_bind.mp (wpE_bind.mp (show wpE (Ev.bind (Ev.bind (evEs I es (viewA [] 0 ss)) fun ts => Ev.of (if ts.length ≤ LIM then some (T.lst ts) else none)) _) b _ _ from ev))
    refine ⟨F, viewA [] 0 ss, b, bd.sta, sr.vrel, wpE_mono ev (fun ts b' ev vs F1 H1 pl => ?_) fun z b' h => x_err bd (Sub.refl _) (fun a o h => .inl h) h⟩
    obtain ⟨t, e1, ev⟩ := wpE_of.mp ev
    split at e1
    · rename_i hl
      cases e1
      obtain ⟨us, e2, ev⟩ := wpE_of.mp (wpE_bind.mp ev)
      cases e2
      obtain ⟨o, e3, q⟩ := wpE_of.mp ev
      split at e3
      · cases e3
        refine ⟨by rw [pl.tr.length]; exact Nat.le_trans hl LIM_le, fun p hp => ?_⟩
        have f1 := pl.sta.free hp
        have hp0 : H p = none := pl.keep.free pl.sta.bag hp
        have hp00 : H0 p = none := bd.keep.free bd.sta.bag hp0
        have sr1 : SRel W F1 H1 H0 P σ ss := (sr.mono pl.grow).keep pl.keep
        have sr2 : SRel W F1 (upd H1 p (.lst vs)) H0 P σ ss := sr1.keep (Keep.new hp)
        have bd1 : Bd W F0 H0 F1 (upd H1 p (.lst vs)) b' := ⟨bd.grow.trans bd.keep bd.sta.bag pl.grow, (bd.keep.trans pl.keep).trans (Keep.new hp), pl.sta.hid f1 (pl.sta.neB hp) (pl.sta.neC hp)⟩
        refine q F1 _ _ _ bd1 (sr2.setOwn f1 hp00 (pl.sta.neB hp) (pl.sta.neC hp) (fun z => by cases z) upd_same (.lst hl pl.tr) fun j sg ws hj hw e => ?_)
        obtain ⟨_, _, _, _, _, _, vs', h7, _⟩ := sr1.own j sg ws hw
        rw [e, hp] at h7
        cases h7
      · cases e3
    · cases e1
theorem ss_app (c : CxI X W Wx G I k Γ) {i : Nat} {bs : List Nat} {e : E} {x : Str} {v : Expr} {p ap cp pos : Pos} (h1 : slB Γ i x = true) (h2 : (ap.endLine == cp.line) = true) (h3 : plB v = true) (he : PE X v (rdE W Wx (evE I e))) :
    PS X (.Expr (.Call (.Attribute (.Name x p) "append" ap) [v] [] cp) pos) (rdS W Wx (ex I (.app i bs e))) := by
  obtain ⟨l1, l2, l3, l4⟩ := slB_of c h1
  refine PS.imp (ps_expr (pe_bm PySem.F.plainAttrs_list PySem.F.slot_list_append PySem.F.type_list_append mt_append (pe_var l1 l2 l3 l4) (pa_cons he pa_nil (star_of h3)) rfl (by rw [star_of h3]; rfl) h2 (star_of h3) rfl) rfl) fun D σ H q => ?_
  obtain ⟨F0, H0, F, P, ss, b, bd, sr, ev⟩ := q
  obtain ⟨u, eu, ev⟩ := wpE_of.mp (wpE_bind.mp (show wpE (Ev.bind (Ev.of (ownAt ss i)) _) b _ _ from ev))
  obtain ⟨sf, ts, hts⟩ : ∃ sf ts, ss[i]? = some (.own sf (.lst ts)) := by
    unfold ownAt at eu
    split at eu
    · exact ⟨_, _, by assumption⟩
    · cases eu
  obtain ⟨a1, a2, a3, a4, a5, a6, vs, a7, a8⟩ := sr.own i sf _ hts
  cases a8 with
  | @lst vs _ z0 a8 =>
  refine ⟨_, a1, .inl ⟨rfl, _, SqL.of a7⟩, x_read bd sr ev fun t b' y F2 H' bd2 sr2 tr kp ev => ?_⟩
  obtain ⟨o, eb, q⟩ := wpE_of.mp ev
  rw [hts] at eb
  simp only at eb
  split at eb
  · rename_i hc
    cases eb
    have ef : frz bs t ss = ss := by
      unfold frz
      rcases hc.2 with z | z
      · rw [z]; simp
      · subst z; rfl
    rw [ef] at sr2
    obtain ⟨c1, c2, c3, c4, c5, c6, vs2, c7, c8⟩ := sr2.own i sf _ hts
    cases c8 with
    | @lst vs2 _ z2 c8 =>
    refine ⟨P i, vs2, y, rfl, rfl, c7, ?_, ?_⟩
    · have h1 := c8.length
      have h2 := LIM_lt
      omega
    · obtain ⟨bd3, sr3⟩ := own_upd (ts' := .lst (ts ++ [t])) (o' := .lst (vs2 ++ [y])) sr2 bd2 hts (.lst (by rw [List.length_append]; have := hc.1; simp; omega) (c8.append (.cons tr .nil)))
      exact q F2 _ _ _ bd3 sr3
  · cases eb
theorem putT_len {f : Str} {x : T} : ∀ {ns : List Str} {ts : List T}, ns.length = ts.length → (putT f x ns ts).1.length = (putT f x ns ts).2.length
  | [], [], _ => rfl
  | [], _ :: _, h => by cases h
  | _ :: _, [], h => by cases h
  | n :: ns, t :: ts, h => by
    unfold putT
    split
    · simpa using h
    · simpa using putT_len (ns := ns) (ts := ts) (by simpa using h)
theorem putF_tr {F : Hp} {f : Str} {y : V} {x : T} (hy : Tr W F y x) : ∀ {fs : List (Str × V)} {ts : List T}, TrL W F (fs.map (·.2)) ts → (putF f y fs).map (·.1) = (putT f x (fs.map (·.1)) ts).1 ∧ TrL W F ((putF f y fs).map (·.2)) (putT f x (fs.map (·.1)) ts).2
  | [], _, .nil => ⟨rfl, .cons hy .nil⟩
  | (n, v) :: r, _, .cons (ts := ts) h l => by
    obtain ⟨h1, h2⟩ := putF_tr hy l
    simp only [putF, List.map_cons, putT]
    by_cases e : n = f
    · subst e
      simp only [if_true]
      exact ⟨rfl, .cons hy l⟩
    · simp only [e, if_false]
      exact ⟨by simp [h1], .cons h h2⟩
theorem ss_fset (c : CxI X W Wx G I k Γ) {i : Nat} {f : Str} {bs : List Nat} {e : E} {x : Str} {v : Expr} {p ap pos : Pos} (h1 : slB Γ i x = true) (h3 : cpB v = true) (he : PE X v (rdE W Wx (evE I e))) :
    PS X (.Assign [.Attribute (.Name x p) f ap] v pos) (rdS W Wx (ex I (.fset i f bs e))) := by
  obtain ⟨l1, l2, l3, l4⟩ := slB_of c h1
  refine PS.imp (ps_fld (pe_var l1 l2 l3 l4) he (sw_of h3)) fun D σ H q => ?_
  obtain ⟨F0, H0, F, P, ss, b, bd, sr, ev⟩ := q
  refine x_read bd sr (show wpE (Ev.bind (evX I bs e ss) _) b _ _ from ev) fun t b1 y F2 H' bd2 sr2 tr _ ev => ?_
  obtain ⟨o, eb, q⟩ := wpE_of.mp ev
  split at eb
  · rename_i sf cn ns ts hs
    split at eb
    · rename_i hc
      cases eb
      have hs2 : (frz bs t ss)[i]? = some (.own sf (.obj cn ns ts)) := by
        unfold frz
        split
        · exact hs
        · split
          · exact hs
          · rename_i hA
            rw [frzA_get, hs]
            have hni : i ∉ bs := hc.2.2.2.resolve_left hA
            simp [slF, hni]
      obtain ⟨c1, c2, c3, c4, c5, c6, vs2, c7, c8⟩ := sr2.own i sf _ hs2
      cases c8 with
      | @obj C dx _ fs _ hcl tl =>
      obtain ⟨k1, k2⟩ := putF_tr (f := f) tr tl
      refine ⟨_, c1, P i, C, dx, fs, rfl, c7, by rw [c.K]; exact (W.ok _ _ hcl).cls, c.fns.fok _ _ _ hc.1 hcl, ?_, ?_⟩
      · have := hc.2.1
        rw [List.length_map] at this
        omega
      · have ho : TrO W F2 (.ins C dx (putF f y fs)) (.obj cn (putT f t (fs.map (·.1)) ts).1 (putT f t (fs.map (·.1)) ts).2) := by
          rw [← k1]
          exact .obj hcl k2
        obtain ⟨bd3, sr3⟩ := own_upd sr2 bd2 hs2 ho
        exact q F2 _ _ _ bd3 sr3
    · cases eb
  · cases eb
theorem ss_unp (c : CxI X W Wx G I k Γ) {g : Tg} {bs : List Nat} {e : E} {xs : List Expr} {n : Nat} {v : Expr} {p pos : Pos} (h1 : cpB v = true ∨ True) (h2 : tuB v = true) (h3 : tgB Γ g (.Tuple xs n p) = true) (he : PE X v (rdE W Wx (evE I e))) :
    PS X (.Assign [.Tuple xs n p] v pos) (rdS W Wx (ex I (.unp g bs e))) := by
  refine PS.imp (ps_asg he (snd_tg c g _ h3) (by unfold swapsWithSole; cases v <;> first | rfl | (unfold swapsWith; rfl)) (by cases v <;> first | rfl | cases h2) rfl) fun D σ H q => ?_
  obtain ⟨F0, H0, F, P, ss, b, bd, sr, ev⟩ := q
  refine x_read bd sr (show wpE (Ev.bind (evX I bs e ss) _) b _ _ from ev) fun t b1 y F2 H' bd2 sr2 tr _ ev => ?_
  obtain ⟨o, eb, q⟩ := wpE_of.mp ev
  rw [Option.map_eq_some_iff] at eb
  obtain ⟨s', e2, rfl⟩ := eb
  exact ⟨F2, _, b1, t, _, bd2.sta, sr2.vrel, tr, tgS_view g e2, fun σ' v' hk => q F2 H' P σ' bd2 (sr2.tg e2 v' hk)⟩
theorem ss_exp {bs : List Nat} {e : E} {v : Expr} {pos : Pos} (h1 : epB v = true) (he : PE X v (rdE W Wx (evE I e))) : PS X (.Expr v pos) (rdS W Wx (ex I (.exp bs e))) := by
  refine PS.imp (ps_expr he (by cases v <;> first | rfl | cases h1)) fun D σ H q => ?_
  obtain ⟨F0, H0, F, P, ss, b, bd, sr, ev⟩ := q
  exact x_read bd sr (show wpE (Ev.bind (evX I bs e ss) fun t => Ev.pure (Out.nx (frz bs t ss))) b _ _ from ev) fun t b1 y F2 H' bd2 sr2 tr _ q => q F2 H' P σ bd2 sr2
theorem ss_ret {bs : List Nat} {e : E} {v : Expr} {pos : Pos} (he : PE X v (rdE W Wx (evE I e))) : PS X (.Return (some v) pos) (rdS W Wx (ex I (.ret bs e))) :=
  PS.imp (ps_ret he) fun D σ H ⟨F0, H0, F, P, ss, b, bd, sr, ev⟩ =>
    x_read bd sr (show wpE (Ev.bind (evX I bs e ss) fun t => Ev.pure (Out.ret t)) b _ _ from ev) fun t b1 v F2 H' bd2 sr2 tr _ q => q v F2 H' bd2 tr
theorem ss_seq {s : S} {r : Ss} {st : Stmt} {sts : List Stmt} (h1 : PS X st (rdS W Wx (ex I s))) (h2 : PSs X sts (rdS W Wx (exs I r))) : PSs X (st :: sts) (rdS W Wx (exs I (.cons s r))) := by
  refine PSs.imp (pss_cons h1 h2) fun D σ H ⟨F0, H0, F, P, ss, b, bd, sr, ev⟩ => ?_
  refine ⟨F0, H0, F, P, ss, b, bd, sr, wpE_mono (wpE_bind.mp (show wpE (Ev.bind (ex I s ss) fun o => match o with
    | .nx s1 => exs I r s1
    | .ret t => Ev.pure (.ret t)
    | .bk s1 => Ev.pure (.bk s1)
    | .ct s1 => Ev.pure (.ct s1)) b _ _ from ev)) (fun o1 b1 q => ?_) fun _ _ h => h⟩
  cases o1 with
  | nx s1 => exact fun F' H' P' σ' bd' sr' => ⟨F0, H0, F', P', s1, b1, bd', sr', q⟩
  | ret t => exact q
  | bk s1 => exact q
  | ct s1 => exact q
theorem ss_ite {bs : List Nat} {t : Te} {a d : Ss} {tx : Expr} {xs ys : List Stmt} {pos : Pos} (ht : PT X tx (rdT W Wx (evT I t))) (ha : PSs X xs (rdS W Wx (exs I a))) (hd : PSs X ys (rdS W Wx (exs I d))) : PS X (.If tx xs ys pos) (rdS W Wx (ex I (.ite bs t a d))) := by
  refine PS.imp (ps_if ht ha hd) fun D σ H ⟨F0, H0, F, P, ss, b, bd, sr, ev⟩ => ?_
  refine c_read bd sr (show wpE (Ev.bind (evC I bs t ss) fun k => if k then exs I a ss else exs I d ss) b _ _ from ev) fun kk b1 H' bd2 sr2 ev => ?_
  cases kk with
  | true => exact iteT ⟨F0, H0, F, P, ss, b1, bd2, sr2, ev⟩
  | false => exact iteF ⟨F0, H0, F, P, ss, b1, bd2, sr2, ev⟩
theorem ss_for (c : CxI X W Wx G I k Γ) {g : Tg} {bs : List Nat} {it : It} {body : Ss} {t i : Expr} {sts : List Stmt} {pos : Pos} (hp : plB i = true) (hi : PI X t i (rdI W Wx (evI I it))) (hg : tgB Γ g t = true) (hb : PSs X sts (rdS W Wx (exs I body))) :
    PS X (.For t i sts [] pos) (rdS W Wx (ex I (.for_ g bs it body))) := by
  refine PS.imp (ps_for c.po c.calm hi (snd_tg c g t hg) hb (fun x => fold_of hp)) fun D σ H ⟨F0, H0, F, P, ss, b, bd, sr, ev⟩ => ?_
  obtain ⟨F1, hs, st1, vr, hn, h1, h2⟩ := borrow sr bd bs
  refine ⟨F1, viewA bs 0 ss, b, st1, vr, wpE_mono (wpE_bind.mp (show wpE (Ev.bind (evI I it (viewA bs 0 ss)) fun items => forL g (exs I body) items (if bs.isEmpty then ss else frzA bs 0 ss)) b _ _ from ev)) (fun items b1 ea J F2 H2 g2 k2 s2 ok hz => ?_) fun x b' h => x_err bd hs hn h⟩
  -- the places of bs are frozen from now on
  obtain ⟨bd3, sr3⟩ := afterF (bs := bs) sr bd hs hn h1 h2 g2 k2 s2
  have es : (if bs.isEmpty then ss else frzA bs 0 ss) = frzA bs 0 ss := by
    cases e : bs.isEmpty with
    | true =>
      have : bs = [] := by simpa using e
      subst this
      rw [frzA_nil]; rfl
    | false => rfl
  rw [es] at ea
  refine ⟨fun n m σ H => m = items.length - n ∧ n ≤ items.length ∧ ∃ F P ss b, Bd W F0 H0 F H b ∧ SRel W F H H0 P σ ss ∧ Sub F2 F ∧ wpE (forL g (exs I body) (items.drop n) ss) b (fun o b' => EndsOk W F0 H0 b' o D) (WXs W Wx F0 H0), ⟨items.length, by simp, Nat.zero_le _, F2, P, _, b1, bd3, sr3, Sub.refl _, by rw [List.drop_zero]; exact ea⟩, ?_⟩
  rintro n m σ' H' ⟨rfl, hn', F', P', s', bb, bd', sr', sub', el⟩
  obtain ⟨ok1, ok2⟩ := ok F' H' bb sub' bd'.sta n
  by_cases hlt : n < items.length
  · have ei : items[n]? = some items[n] := by simp [hlt]
    obtain ⟨go, yl⟩ := ok1 _ ei
    rw [List.drop_eq_getElem_cons hlt] at el
    simp only [forL] at el
    obtain ⟨sa, esa, ela⟩ := wpE_of.mp (wpE_bind.mp el)
    have ela := wpE_bind.mp ela
    refine .inr ⟨go, fun σ H => n + 1 ≤ items.length ∧ ∃ F P ss b, Bd W F0 H0 F H b ∧ SRel W F H H0 P σ ss ∧ Sub F2 F ∧ wpE (forL g (exs I body) (items.drop (n + 1)) ss) b (fun o b' => EndsOk W F0 H0 b' o D) (WXs W Wx F0 H0), fun σ2 H3 qq => ⟨items.length - (n + 1), by omega, rfl, qq.1, qq.2⟩, fun x H3 hy => ?_⟩
    obtain ⟨F3, p⟩ := yl x H3 hy
    have bdp : Bd W F0 H0 F3 H3 bb := ⟨bd'.grow.trans bd'.keep bd'.sta.bag p.grow, bd'.keep.trans p.keep, p.sta⟩
    have srp : SRel W F3 H3 H0 P' σ' s' := (sr'.mono p.grow).keep p.keep
    refine ⟨F3, viewA [] 0 s', bb, _, viewA [] 0 sa, p.sta, srp.vrel, p.tr, tgS_view g esa, fun σ3 v3 k3 => ?_⟩
    have sr4 := srp.tg esa v3 k3
    have gl : ∀ {F4 : Hp}, Grow F3 H0 F4 → Grow F0 H0 F4 := fun {F4} z => ⟨bdp.grow.sub.trans z.sub, fun a u h => by
      rcases z.new a u h with w | w
      · exact bdp.grow.new a u w
      · exact .inr w⟩
    have lift : ∀ {F4 H4 : Hp} {b4 : Bag}, Bd W F3 H0 F4 H4 b4 → Bd W F0 H0 F4 H4 b4 ∧ Sub F2 F4 := fun {F4 H4 b4} z =>
      ⟨⟨gl z.grow, z.keep, z.sta⟩, (sub'.trans p.grow.sub).trans z.grow.sub⟩
    -- the body stands over the loop's own entry: what it knows grows on
    refine ⟨F3, H0, F3, P', sa, bb, ⟨Grow.refl _ _, bdp.keep, bdp.sta⟩, sr4, wpE_mono ela (fun o1 b2 elb => ?_) fun x b' h σ5 cls d F5 H5 p5 => h σ5 cls d F5 H5 ⟨gl p5.grow, p5.keep, p5.sta, p5.at_⟩⟩
    cases o1 with
    | nx s2 => exact fun F4 H4 P4 σ4 bd4 sr4 => ⟨hlt, F4, P4, s2, b2, (lift bd4).1, sr4, (lift bd4).2, elb⟩
    | ct s2 => exact fun F4 H4 P4 σ4 bd4 sr4 => ⟨hlt, F4, P4, s2, b2, (lift bd4).1, sr4, (lift bd4).2, elb⟩
    | bk s2 => exact fun F4 H4 P4 σ4 bd4 sr4 => (show EndsOk W F0 H0 b2 (.nx s2) D from elb) F4 H4 P4 σ4 (lift bd4).1 sr4
    | ret u => exact fun v F4 H4 bd4 tr => (show EndsOk W F0 H0 b2 (.ret u) D from elb) v F4 H4 (lift bd4).1 tr
  · have hii : n = items.length := by omega
    subst hii
    rw [List.drop_length] at el
    exact .inl ⟨ok2 (Nat.le_refl _), (show EndsOk W F0 H0 bb (.nx s') D from el) F' H' P' σ' bd' sr'⟩
theorem ss_whl (c : CxI X W Wx G I k Γ) {bs : List Nat} {t : Te} {body : Ss} {tx : Expr} {sts : List Stmt} {pos : Pos} (ht : PT X tx (rdT W Wx (evT I t))) (hb : PSs X sts (rdS W Wx (exs I body))) : PS X (.While tx sts [] pos) (rdS W Wx (ex I (.whl bs t body))) := by
  refine PS.imp (ps_while c.po ht hb) fun D σ H ⟨F0, H0, F, P, ss, b, bd, sr, ev⟩ => ?_
  refine ⟨fun m σ H => ∃ F P ss b, Bd W F0 H0 F H b ∧ SRel W F H H0 P σ ss ∧ wpE (whlL (evC I bs t) (exs I body) m ss) b (fun o b' => EndsOk W F0 H0 b' o D) (WXs W Wx F0 H0), ⟨WF, F, P, ss, b, bd, sr, ev⟩, ?_⟩
  rintro m σ' H' ⟨F', P', s', bb, bd', sr', el⟩
  cases m with
  | zero => exact (wpE_no (show wpE (Ev.no : Ev Out) bb _ _ from el)).elim
  | succ m =>
    simp only [whlL] at el
    refine c_read bd' sr' el fun kk b1 H2 bd2 sr2 ela => ?_
    cases kk with
    | false => exact iteF ((show EndsOk W F0 H0 b1 (.nx s') D from ela) F' H2 P' σ' bd2 sr2)
    | true =>
      refine iteT ?_
      refine ⟨fun σ H => ∃ F P ss b, Bd W F0 H0 F H b ∧ SRel W F H H0 P σ ss ∧ wpE (whlL (evC I bs t) (exs I body) m ss) b (fun o b' => EndsOk W F0 H0 b' o D) (WXs W Wx F0 H0), fun σ2 H3 qq => ⟨m, Nat.lt_succ_self m, qq⟩, F0, H0, F', P', s', b1, bd2, sr2, wpE_mono (wpE_bind.mp (show wpE (Ev.bind (exs I body s') _) b1 _ _ from ela)) (fun o1 b2 elb => ?_) fun _ _ h => h⟩
      cases o1 with
      | nx s2 => exact fun F4 H4 P4 σ4 bd4 sr4 => ⟨F4, P4, s2, b2, bd4, sr4, elb⟩
      | ct s2 => exact fun F4 H4 P4 σ4 bd4 sr4 => ⟨F4, P4, s2, b2, bd4, sr4, elb⟩
      | bk s2 => exact elb
      | ret u => exact elb
end
end
end DI

set_option Elab.async false
set_option linter.all false
set_option maxRecDepth 100000
set_option maxHeartbeats 8000000
namespace DI
open PySem L2

section
variable {W : Wd} {G : Gm} {I : Ien} {k : Nat}
section
variable {X : Cx} {Γ : Cc} {Wx : WX}
theorem sw2 {x y : Str} {px py pt pt2 : Pos} {kt k2 : Nat} {u v : Expr} {env : Env} (hk : env.scope.kind = .function) (hx : env.scope.names.lookup x = some .local) (hy : env.scope.names.lookup y = some .local) (hl : (px.line == py.line) = true) (hn : x ≠ y)
    (hu : plB u = true) (hv : plB v = true) (hf : (foldedForSure 8 u && foldedForSure 8 v) = false) (hc : (constantsAlone 8 u && constantsAlone 8 v) = false) :
    swappedStores [.Tuple [.Name x px, .Name y py] kt pt] (.Tuple [u, v] k2 pt2) env = pure (some [x, y]) := by
  have e1 : env.blockKind = .function := by
    unfold Env.blockKind
    rw [hk]
    rfl
  have e2 : env.kindOf x = some .local := hx
  have e3 : env.kindOf y = some .local := hy
  have e4 : py.line = px.line := (beq_iff_eq.mp hl).symm
  have e6 : ([x, y] : List Str).eraseDups = [x, y] := by
    have : (y == x) = false := beq_eq_false_iff_ne.mpr (Ne.symm hn)
    simp [List.eraseDups_cons, this]
  simp only [swappedStores]
  simp [e1, e2, e3, e4, e6, hf, hc, Expr.pos]
  intro h
  exfalso
  rcases h with h | h
  · cases u <;> first | (cases hu; done) | (cases h; done)
  · cases v <;> first | (cases hv; done) | (cases h; done)
theorem ss_par2 (c : CxI X W Wx G I k Γ) {i j : Nat} {bs : List Nat} {a d : E} {x y : Str} {u v : Expr} {px py pt pt2 pos : Pos} {kt k2 : Nat} (hk : Γ.sc.kind = .function) (h1 : Γ.N[i]? = some x) (h2 : Γ.N[j]? = some y) (hx : Γ.sc.names.lookup x = some .local) (hy : Γ.sc.names.lookup y = some .local) (hn : x ≠ y) (hl : (px.line == py.line) = true)
    (hu : plB u = true) (hv : plB v = true) (hf : (foldedForSure 8 u && foldedForSure 8 v) = false) (hc : (constantsAlone 8 u && constantsAlone 8 v) = false) (ha : PE X u (rdE W Wx (evE I a))) (hd : PE X v (rdE W Wx (evE I d))) :
    PS X (.Assign [.Tuple [.Name x px, .Name y py] kt pt] (.Tuple [u, v] k2 pt2) pos) (rdS W Wx (ex I (.par2 i j bs a d))) := by
  have hij : i ≠ j := fun e => hn (by subst e; rw [h1] at h2; exact Option.some.inj h2)
  refine PS.imp (ps_par (i := i) (j := j) c.calm (by rw [c.N]; exact c.nd) (by rw [c.N]; exact h1) (by rw [c.N]; exact h2) hij (by rw [c.sc]; exact hx) (by rw [c.sc]; exact hy) (pa_cons ha (pa_cons hd pa_nil (star_of hv)) (star_of hu)) (sw2 (by rw [c.sc]; exact hk) (by rw [c.sc]; exact hx) (by rw [c.sc]; exact hy) hl hn hu hv hf hc) rfl) fun D σ H q => ?_
  obtain ⟨F0, H0, F, P, ss, b, bd, sr, ev⟩ := q
  refine x_read bd sr (show wpE (Ev.bind (evX I [] a ss) _) b _ _ from ev) fun t1 b1 v1 F2 H' bd2 sr2 tr _ ev => ?_
  have sr2 : SRel W F2 H' H0 P σ ss := sr2
  obtain ⟨F1, hs, st1, vr, hn', g1, g2⟩ := borrow sr2 bd2 []
  refine ⟨F1, viewA [] 0 ss, b1, st1, vr, wpE_mono (wpE_bind.mp ev) (fun t2 b2 ev v2 F3 H3 p => ?_) fun z b' h => x_err bd2 hs hn' h⟩
  obtain ⟨bd3, sr3⟩ := afterF (bs := []) sr2 bd2 hs hn' g1 g2 p.grow p.keep p.sta
  rw [frzA_nil] at sr3
  obtain ⟨o, ec, q⟩ := wpE_of.mp ev
  split at ec
  · cases ec
    exact ⟨v1, v2, rfl, q F3 H3 P _ bd3 ((sr3.set ((tr.mono hs).mono p.grow.sub)).set p.tr)⟩
  · cases ec
theorem bag_put {b b' : Bag} {c : Addr} {v : Int} {k : Nat} (h : b.put v k = some b') : ∃ j, ixN 5 (k : Int) = some j ∧ ([V.ref c, .int b.i, .int b.j, .int b.s, .int b.n].set j (.int v)) = [V.ref c, .int b'.i, .int b'.j, .int b'.s, .int b'.n] ∧ b'.cells = b.cells := by
  match k, h with
  | 1, h => cases h; exact ⟨1, rfl, rfl, rfl⟩
  | 2, h => cases h; exact ⟨2, rfl, rfl, rfl⟩
  | 3, h => cases h; exact ⟨3, rfl, rfl, rfl⟩
  | 4, h => cases h; exact ⟨4, rfl, rfl, rfl⟩
theorem ss_bset (c : CxI X W Wx G I k Γ) {i n : Nat} {e : E} {x : Str} {v : Expr} {j : Nat} {p kp sp pos : Pos} (h1 : slB Γ i x = true) (h3 : cpB v = true) (he : PE X v (rdE W Wx (evE I e))) :
    PS X (.Assign [.Subscript (.Name x p) (.Constant (.int (n : Int)) j kp) sp] v pos) (rdS W Wx (ex I (.bset i n e))) := by
  obtain ⟨l1, l2, l3, l4⟩ := slB_of c h1
  refine PS.imp (ps_asg he (pg_sub (pe_var l1 l2 l3 l4) pe_int set_list) (by unfold swapsWithSole; exact sw_of h3) (by cases v <;> rfl) rfl) fun D σ H q => ?_
  obtain ⟨F0, H0, F, P, ss, b, bd, sr, ev⟩ := q
  refine x_read bd sr (show wpE (Ev.bind (evX I [] e ss) _) b _ _ from ev) fun t b1 w F2 H' bd2 sr2 tr _ ev => ?_
  obtain ⟨b', hb2, q⟩ : ∃ b2, bagSet ss[i]? t n b1 = some b2 ∧ EndsOk W F0 H0 b2 (.nx ss) D := by
    unfold wpE bagW at ev
    cases q : bagSet ss[i]? t n b1 with
    | none => simp only [q] at ev
    | some b2 =>
      simp only [q] at ev
      exact ⟨b2, rfl, ev⟩
  obtain ⟨v', hs, rfl, hb3⟩ : ∃ v', ss[i]? = some (.val .bag) ∧ t = .int v' ∧ b1.put v' n = some b' := by
    unfold bagSet at hb2
    split at hb2
    · exact ⟨_, by assumption, rfl, hb2⟩
    · cases hb2
  have sr2 : SRel W F2 H' H0 P σ ss := sr2
  obtain ⟨bv, e2, tb⟩ := sr2.val i _ hs
  have eb := bag_tr tb
  subst eb
  cases tr
  obtain ⟨jj, hj, hset, hcells⟩ := bag_put (c := W.c) hb3
  refine ⟨_, e2, W.B, _, (n : Int), jj, rfl, rfl, bd2.sta.bag.1, hj, ?_⟩
  rw [hset]
  have hk : Keep W H' (upd H' W.B (.lst [V.ref W.c, .int b'.i, .int b'.j, .int b'.s, .int b'.n])) := fun a u h n => by rw [upd_ne n]; exact h
  refine q F2 _ P σ ⟨bd2.grow, bd2.keep.trans hk, ⟨fun a u h => ?_, bd2.sta.fB, bd2.sta.fc, upd_same, ?_, bd2.sta.bag.2.2⟩⟩ (sr2.keep hk)
  · rw [upd_ne (ne_of_none h bd2.sta.fB)]
    exact bd2.sta.fz a u h
  · rw [upd_ne (Ne.symm bd2.sta.bag.2.2), hcells]
    exact bd2.sta.bag.2.1
end
mutual
theorem sndS : ∀ (s : S) {X : Cx} {Γ : Cc} {Wx : WX} {st : Stmt}, CxI X W Wx G I k Γ → chkS G s Γ st = true → PS X st (rdS W Wx (ex I s))
  | .asg i bs e, X, Γ, Wx, st, c, h => by
    simp only [chkS] at h
    split at h
    · simp only [Bool.and_eq_true, decide_eq_true_eq] at h
      obtain ⟨⟨⟨h1, h2⟩, h3⟩, h4⟩ := h
      refine ss_asg c h1 h2 ?_ (sndE e c h4)
      simpa [Bool.or_eq_true] using h3
    · cases h
  | .asgL i bs e, X, Γ, Wx, st, c, h => by
    simp only [chkS] at h
    split at h
    · rename_i x px el gs sc pos spos
      simp only [Bool.and_eq_true, decide_eq_true_eq, Bool.not_eq_true'] at h
      obtain ⟨⟨⟨⟨⟨h1, h2⟩, h3⟩, h4⟩, h5⟩, h6⟩ := h
      have hk : Γ.sc.kind = .function := by
        split at h5
        · assumption
        · cases h5
      cases e <;> try (simp only [chkE] at h6; cases h6; done)
      case dead => exact PS.imp (t := fun _ _ _ => False) ⟨fun pins s σ H D I h => h.elim⟩ fun D σ H ⟨F0, H0, F, P, ss, b, bd, sr, ev⟩ => (wpE_no (show wpE (Ev.no : Ev Out) b _ _ from ev))
      case lc elt tg it cd =>
        simp only [chkE] at h6
        split at h6
        · rename_i heq
          simp only [Expr.ListComp.injEq] at heq
          obtain ⟨rfl, rfl, rfl, rfl⟩ := heq
          simp only [Bool.and_eq_true] at h6
          obtain ⟨⟨⟨⟨⟨g1, g2⟩, g3⟩, g4⟩, g5⟩, g6⟩ := h6
          exact ss_asgL c h1 h2 h3 h4 hk g1 (sndI it c g2) g3 g4 (fun c' => sndT cd c' g5) (fun c' => sndE elt c' g6)
        · cases h6
      case lc0 elt tg it =>
        simp only [chkE] at h6
        split at h6
        · rename_i heq
          simp only [Expr.ListComp.injEq] at heq
          obtain ⟨rfl, rfl, rfl, rfl⟩ := heq
          simp only [Bool.and_eq_true] at h6
          obtain ⟨⟨⟨⟨g1, g2⟩, g3⟩, g4⟩, g6⟩ := h6
          exact ss_asgL0 c h1 h2 h3 h4 hk g1 (sndI it c g2) g3 g4 (fun c' => sndE elt c' g6)
        · cases h6
    · cases h
  | .fset i f bs e, X, Γ, Wx, st, c, h => by
    simp only [chkS] at h
    split at h
    · simp only [Bool.and_eq_true, decide_eq_true_eq] at h
      obtain ⟨⟨⟨h1, rfl⟩, h3⟩, h4⟩ := h
      exact ss_fset c h1 h3 (sndE e c h4)
    · cases h
  | .unp g bs e, X, Γ, Wx, st, c, h => by
    simp only [chkS] at h
    split at h
    · simp only [Bool.and_eq_true] at h
      obtain ⟨⟨h2, h3⟩, h4⟩ := h
      exact ss_unp c (.inr trivial) h2 h3 (sndE e c h4)
    · cases h
  | .exp bs e, X, Γ, Wx, st, c, h => by
    simp only [chkS] at h
    split at h
    · simp only [Bool.and_eq_true] at h
      exact ss_exp h.1 (sndE e c h.2)
    · cases h
  | .dead, X, Γ, Wx, st, c, h => PS.imp (t := fun _ _ _ => False) ⟨fun pins s σ H D I h => h.elim⟩ fun D σ H ⟨F0, H0, F, P, ss, b, bd, sr, ev⟩ => (wpE_no (show wpE (Ev.no : Ev Out) b _ _ from ev))
  | .new i bs e, X, Γ, Wx, st, c, h => by
    simp only [chkS] at h
    split at h
    · simp only [Bool.and_eq_true, decide_eq_true_eq] at h
      obtain ⟨⟨⟨⟨h1, h2⟩, h3⟩, h4⟩, h5⟩ := h
      cases e <;> try (cases h4)
      rename_i es
      simp only [chkE] at h5
      split at h5
      · exact ss_new c h1 h2 (sndA es c h5).1
      · cases h5
    · cases h
  | .par2 i j bs a b, X, Γ, Wx, st, c, h => by
    simp only [chkS] at h
    split at h
    · simp only [Bool.and_eq_true, decide_eq_true_eq, Bool.not_eq_true'] at h
      obtain ⟨⟨⟨⟨⟨⟨⟨⟨⟨⟨⟨⟨h1, h2⟩, h3⟩, h4⟩, h5⟩, h6⟩, h7⟩, h8⟩, h9⟩, h10⟩, h11⟩, h12⟩, h13⟩ := h
      refine ss_par2 c ?_ h1 h2 h3 h4 h5 h6 h7 h8 h9 h10 (sndE a c h11) (sndE b c h12)
      split at h13
      · assumption
      · cases h13
    · cases h
  | .app i bs e, X, Γ, Wx, st, c, h => by
    simp only [chkS] at h
    split at h
    · simp only [Bool.and_eq_true, decide_eq_true_eq] at h
      obtain ⟨⟨⟨⟨h1, rfl⟩, h3⟩, h4⟩, h5⟩ := h
      exact ss_app c h1 h3 h4 (sndE e c h5)
    · cases h
  | .bset i n e, X, Γ, Wx, st, c, h => by
    simp only [chkS] at h
    split at h
    · simp only [Bool.and_eq_true, decide_eq_true_eq] at h
      obtain ⟨⟨⟨h1, rfl⟩, h3⟩, h4⟩ := h
      exact ss_bset c h1 h3 (sndE e c h4)
    · cases h
  | .ite bs t a b, X, Γ, Wx, st, c, h => by
    simp only [chkS] at h
    split at h
    · simp only [Bool.and_eq_true] at h
      obtain ⟨⟨h1, h2⟩, h3⟩ := h
      exact ss_ite (sndT t c h1) (sndSs a c h2) (sndSs b c h3)
    · cases h
  | .for_ g bs it body, X, Γ, Wx, st, c, h => by
    simp only [chkS] at h
    split at h
    · simp only [Bool.and_eq_true] at h
      obtain ⟨⟨⟨h1, h2⟩, h3⟩, h4⟩ := h
      exact ss_for c h1 (sndI it c h2) h3 (sndSs body c h4)
    · cases h
  | .whl bs t body, X, Γ, Wx, st, c, h => by
    simp only [chkS] at h
    split at h
    · simp only [Bool.and_eq_true] at h
      exact ss_whl c (sndT t c h.1) (sndSs body c h.2)
    · cases h
  | .ret bs e, X, Γ, Wx, st, c, h => by
    simp only [chkS] at h
    split at h
    · exact ss_ret (sndE e c h)
    · cases h
  | .retN, X, Γ, Wx, st, c, h => by
    simp only [chkS] at h
    split at h
    · refine PS.imp ps_retN fun D σ H ⟨F0, H0, F, P, ss, b, bd, sr, ev⟩ => ?_
      exact ev .non F H bd .non
    · cases h
  | .pass, X, Γ, Wx, st, c, h => by
    simp only [chkS] at h
    split at h
    · refine PS.imp ps_pass fun D σ H ⟨F0, H0, F, P, ss, b, bd, sr, ev⟩ => ?_
      exact ev F H P σ bd sr
    · cases h
  | .brk, X, Γ, Wx, st, c, h => by
    simp only [chkS] at h
    split at h
    · refine PS.imp ps_break fun D σ H ⟨F0, H0, F, P, ss, b, bd, sr, ev⟩ => ?_
      exact ev F H P σ bd sr
    · cases h
  | .cont, X, Γ, Wx, st, c, h => by
    simp only [chkS] at h
    split at h
    · refine PS.imp ps_continue fun D σ H ⟨F0, H0, F, P, ss, b, bd, sr, ev⟩ => ?_
      exact ev F H P σ bd sr
    · cases h
theorem sndSs : ∀ (s : Ss) {X : Cx} {Γ : Cc} {Wx : WX} {sts : List Stmt}, CxI X W Wx G I k Γ → chkSs G s Γ sts = true → PSs X sts (rdS W Wx (exs I s))
  | .nil, X, Γ, Wx, sts, c, h => by
    simp only [chkSs] at h
    split at h
    · refine PSs.imp pss_nil fun D σ H ⟨F0, H0, F, P, ss, b, bd, sr, ev⟩ => ?_
      exact ev F H P σ bd sr
    · cases h
  | .cons s r, X, Γ, Wx, sts, c, h => by
    simp only [chkSs] at h
    split at h
    · simp only [Bool.and_eq_true] at h
      exact ss_seq (sndS s c h.1) (sndSs r c h.2)
    · cases h
end

/-! ### defs -/
/-- a def's text, its names -/
def fnsB (N ps : List Str) (sc : Scope) : Bool :=
  (match sc.kind with | .function => true | _ => false) && !sc.isCoroutine && !sc.isGenerator && decide N.Nodup && decide (N.take ps.length = ps) && (ps.all fun x => match sc.names.lookup x with
    | some .local => true
    | some .cell => true
    | _ => false) && sc.names.all fun y => match y.2 with
      | .free => false
      | _ => true
theorem fnsB_of {N ps : List Str} {sc : Scope} (h : fnsB N ps sc = true) : FnScope N ps sc := by
  unfold fnsB at h
  simp only [Bool.and_eq_true, decide_eq_true_eq, Bool.not_eq_true', List.all_eq_true] at h
  obtain ⟨⟨⟨⟨⟨⟨h1, h2⟩, h3⟩, h4⟩, h5⟩, h6⟩, h7⟩ := h
  refine ⟨?_, h2, h3, h4, h5, fun x hx => ?_, fun y hy e => ?_⟩
  · split at h1
    · assumption
    · cases h1
  · have := h6 x hx
    split at this
    · exact .inl (by assumption)
    · exact .inr (by assumption)
    · cases this
  · have := h7 y hy
    rw [e] at this
    cases this
theorem srel_start {F H : Hp} {vs : List V} {ts : List T} {n : Nat} (tl : TrL W F vs ts) : SRel W F H H (fun _ => 0) (vs.map some ++ List.replicate (n - vs.length) none) (ts.map .val ++ List.replicate (n - ts.length) .un) := by
  have hl := tl.length
  have own : ∀ (i : Nat) sf us, (ts.map Sl.val ++ List.replicate (n - ts.length) Sl.un)[i]? = some (.own sf us) → False := fun i sf us e => by
    by_cases hi : i < ts.length
    · rw [List.getElem?_append_left (by simpa using hi), List.getElem?_map] at e
      cases q : ts[i]? with
      | none => rw [q] at e; cases e
      | some t => rw [q] at e; cases e
    · rw [List.getElem?_append_right (by simpa using hi), List.getElem?_replicate] at e
      split at e <;> cases e
  refine ⟨by simp [hl], fun i t e => ?_, fun i sf us e => (own i sf us e).elim, fun i j sf us sg ws _ e => (own i sf us e).elim⟩
  by_cases hi : i < ts.length
  · rw [List.getElem?_append_left (by simpa using hi), List.getElem?_map] at e
    cases q : ts[i]? with
    | none => rw [q] at e; cases e
    | some t' =>
      rw [q] at e
      cases e
      obtain ⟨v, h1, h2⟩ := tl.get q
      refine ⟨v, ?_, h2⟩
      rw [List.getElem?_append_left (by simp; omega), List.getElem?_map, h1]
      rfl
  · rw [List.getElem?_append_right (by simpa using hi), List.getElem?_replicate] at e
    split at e <;> cases e
/-- a def of the text, its defaults whatever they are -/
structure Fdef (K : PySem.W.Frag) (x qual : Str) (st : Stmt) (f : Addr) (fd : FuncData) : Prop where
  ex : ∃ (oc : Value) (od : Option Addr) (dV kV doc pm : Value) (an : Option Addr) (cdv ct : Value) (osl : Array (Option Value)),
    fd = PySem.W.fnOf x qual (defArgs st) (defBody st) (defScope st) dV kV doc pm an cdv ct ∧ K.lookup f = some ⟨oc, od, .func fd, osl⟩ ∧ PySem.W.codeIn K cdv qual = true
  kp : PySem.W.keepIn K (.ref f) = true
theorem Fdef.okX {P : Program} {w : World} {K : PySem.W.Frag} {mg : Str → Option Value} {base : Heap} {x qual : Str} {st : Stmt} {f : Addr} {fd : FuncData} {N ps : List Str} {k : Nat} {sp : Sp} (F : Fdef K x qual st f fd) (S : FnScope N ps (defScope st)) (len : ∀ vs H Q E, sp vs H Q E → vs.length = ps.length)
    (hbody : ∀ (cdv : Value) (A : Around) (outer : List Env) (s : Shared) (H : Hp) (vs : List V) (Q : VK) (E : XK), Room k (A.deeper (PyProof.Rows.envOfC qual (defScope st) s.heap.objs.size f cdv)) → sp vs H Q E →
      ∃ t, PSs (cxOf (L2.CX P w) P w K mg base N qual (defScope st) f cdv A outer s H E) (defBody st) t ∧ t { nx := fun _ H' => Q .non H', rt := Q } (start N vs) H) : FnOk P w K mg base (L2.CX P w) (k + 1) f fd ps sp := by
  obtain ⟨oc, od, dV, kV, doc, pm, an, cdv, ct, osl, rfl, lk, hcd⟩ := F.ex
  exact fn_of lk hcd S len fun A outer s H vs Q E hr hsp => hbody cdv A outer s H vs Q E hr hsp
theorem fdef_mk {K : PySem.W.Frag} {x qual : Str} {st : Stmt} {f : Addr} {oc : Value} {od an : Option Addr} {osl : Array (Option Value)} {dV kV doc pm cdv ct : Value} (l : K.lookup f = some ⟨oc, od, .func (PySem.W.fnOf x qual (defArgs st) (defBody st) (defScope st) dV kV doc pm an cdv ct), osl⟩)
    (c : PySem.W.codeIn K cdv qual = true) (k : PySem.W.keepIn K (.ref f) = true) : Fdef K x qual st f (PySem.W.fnOf x qual (defArgs st) (defBody st) (defScope st) dV kV doc pm an cdv ct) := ⟨⟨oc, od, dV, kV, doc, pm, an, cdv, ct, osl, rfl, l, c⟩, k⟩
theorem Fdef.binds {K : PySem.W.Frag} {x qual : Str} {st : Stmt} {f : Addr} {fd : FuncData} {ps : List Str} (F : Fdef K x qual st f fd)
    (h : ∀ (dV kV doc pm : Value) (an : Option Addr) (cdv ct : Value) (us : List Value), us.length = ps.length → bindArgs (PySem.W.fnOf x qual (defArgs st) (defBody st) (defScope st) dV kV doc pm an cdv ct) ⟨us, []⟩ = pure (ps.zip us)) : Binds K fd ps [] := by
  obtain ⟨oc, od, dV, kV, doc, pm, an, cdv, ct, osl, rfl, lk, hcd⟩ := F.ex
  exact .all (h dV kV doc pm an cdv ct)
/-- THE RULE for a def -/
theorem fn_snd {P : Program} {w : World} {mg : Str → Option Value} {base : Heap} {f : Nat} {x qual : Str} {st : Stmt} {a : Addr} {fd : FuncData} {N : List Str} {body : Ss} (Fu : Fdef W.K x qual st a fd) (hs : fnsB N (I.pars f) (defScope st) = true)
    (hc : chkSs G body ⟨N, defScope st, fun _ => true⟩ (defBody st) = true) (fns : Fns P w W.K mg base W G I k)
    (con : ∀ x t, G.con.lookup x = some t → ∃ v u, (mg x = some u ∨ (mg x = none ∧ bootBuiltins x = some u ∧ x ≠ "__name__")) ∧ RelV v u ∧ ∀ F, Tr W F v t) (bi : ∀ x, mg (biName x) = none) (rng : mg "range" = none ∧ mg "zip" = none ∧ mg "enumerate" = none) :
    FnOk P w W.K mg base (L2.CX P w) (k + 3) a fd (I.pars f) (spF W (I.pars f).length (runF I N.length body)) := by
  have S := fnsB_of hs
  refine Fu.okX S (fun vs H Q E h => let ⟨_, _, _, h, _⟩ := h; h) fun cdv A outer s H vs Q E hr h => ?_
  obtain ⟨F, b, ts, hl, st0, tl, ev⟩ := h
  refine ⟨_, sndSs (W := W) (G := G) (I := I) (k := k) body (Γ := ⟨N, defScope st, fun _ => true⟩) (Wx := fun cls d _ H => E cls d H) ⟨rfl, rfl, S.nd, rfl, rfl, rfl, takes_of rfl rfl rfl rfl, passes_of rfl, hr, con, bi, rng, fns⟩ hc, ?_⟩
  refine ⟨F, H, F, fun _ => 0, ts.map .val ++ List.replicate (N.length - ts.length) .un, b, ⟨Grow.refl _ _, Keep.refl _ _, st0⟩, srel_start tl, wpE_mono (wpE_bind.mp (show wpE (Ev.bind (exs I body (ts.map .val ++ List.replicate (N.length - ts.length) .un)) _) b _ _ from ev)) (fun o b1 q => ?_) fun x b' h σ' cls d F' H' p => h cls d F' H' p⟩
  cases o with
  | ret u => exact fun v F' H' bd tr => q v F' H' ⟨bd.grow, bd.keep, bd.sta, tr⟩
  | nx s1 => exact fun F' H' P' σ' bd sr => q .non F' H' ⟨bd.grow, bd.keep, bd.sta, .non⟩
  | bk s1 => exact (wpE_no (show wpE (Ev.no : Ev T) b1 _ _ from q)).elim
  | ct s1 => exact (wpE_no (show wpE (Ev.no : Ev T) b1 _ _ from q)).elim
/-! ### a making -/
section
variable {W' : Wd}
mutual
theorem Tr.sim (hc : W'.cl = W.cl) (hB : W'.B = W.B) {F : Hp} : ∀ {v : V} {t : T}, Tr W F v t → Tr W' F v t
  | _, _, .non => .non
  | _, _, .bl b => .bl b
  | _, _, .int i => .int i
  | _, _, .str x h => .str x h
  | _, _, .ty n => .ty n
  | _, _, .cls h => .cls (by rw [hc]; exact h)
  | _, _, .tup h z l => .tup h z (TrL.sim hc hB l)
  | _, _, .lst h z l => .lst h z (TrL.sim hc hB l)
  | _, _, .dK h l => .dK h (TrL.sim hc hB l)
  | _, _, .dT h l => .dT h (TrL.sim hc hB l)
  | _, _, .obj h c l => .obj h (by rw [hc]; exact c) (TrL.sim hc hB l)
  | _, _, .bag => by rw [← hB]; exact .bag
theorem TrL.sim (hc : W'.cl = W.cl) (hB : W'.B = W.B) {F : Hp} : ∀ {vs : List V} {ts : List T}, TrL W F vs ts → TrL W' F vs ts
  | _, _, .nil => .nil
  | _, _, .cons h l => .cons (Tr.sim hc hB h) (TrL.sim hc hB l)
end
end
def Wd.at (W : Wd) (x : Addr) : Wd := { W with S := x }
theorem Sta.at {F H : Hp} {b : Bag} (x : Addr) (s : Sta W F H b) : Sta (W.at x) F H b := ⟨s.fz, s.fB, s.fc, s.bag⟩
theorem Sta.un {F H : Hp} {b : Bag} {x : Addr} (s : Sta (W.at x) F H b) : Sta W F H b := ⟨s.fz, s.fB, s.fc, s.bag⟩
theorem Post.un {F H F' H' : Hp} {b : Bag} {x : Addr} {t : T} {v : V} (p : Post (W.at x) F H b t v F' H') : Post W F H b t v F' H' := ⟨p.grow, p.keep, p.sta.un, p.tr.sim (W := W.at x) (W' := W) rfl rfl⟩
theorem PostX.un {F H F' H' : Hp} {b : Bag} {x : Addr} {z : Xc} {cls : Value} {d : Option Addr} (p : PostX (W.at x) F H b z cls d F' H') : PostX W F H b z cls d F' H' := by
  refine ⟨p.grow, p.keep, p.sta.un, ?_⟩
  obtain ⟨C, dd, fs, h1, h2, h3, h4, h5, h6, h7⟩ := p.at_
  exact ⟨C, dd, fs, h1, h2, h3, h4, h5, h6, h7.sim (W := W.at x) (W' := W) rfl rfl⟩
theorem srel_self {F H H0 : Hp} {vs : List V} {ts : List T} {n : Nat} {x C dx : Addr} {cn : Str} (hcl : W.cl cn = some C) (hS : W.S = x) (hx : H x = some (.ins C dx [])) (hF : F x = none) (h0 : H0 x = none) (hB : x ≠ W.B) (hc : x ≠ W.c) (tl : TrL W F vs ts) :
    SRel W F H H0 (fun _ => x) (some (.ref x) :: (vs.map some ++ List.replicate (n - vs.length) none)) (.own true (.obj cn [] []) :: (ts.map .val ++ List.replicate (n - ts.length) .un)) := by
  have base := srel_start (H := H) (n := n) tl
  refine ⟨by have := base.len; simp at this ⊢; exact this, fun i t e => ?_, fun i sf us e => ?_, fun i j sf us sg ws hij e e' => ?_⟩
  · cases i with
    | zero => cases e
    | succ i => exact base.val i t (by simpa using e)
  · cases i with
    | zero =>
      cases e
      exact ⟨rfl, hF, h0, hB, hc, fun _ => hS.symm, _, hx, .obj (fs := []) hcl .nil⟩
    | succ i =>
      obtain ⟨h1, _⟩ := base.own i sf us (by simpa using e)
      exfalso
      by_cases hi : i < ts.length
      · rw [List.getElem?_cons_succ, List.getElem?_append_left (by simpa using hi), List.getElem?_map] at e
        cases q : ts[i]? with
        | none => rw [q] at e; cases e
        | some t => rw [q] at e; cases e
      · rw [List.getElem?_cons_succ, List.getElem?_append_right (by simpa using hi), List.getElem?_replicate] at e
        split at e <;> cases e
  · have no : ∀ (i : Nat) sf us, (Sl.own true (.obj cn [] []) :: (ts.map Sl.val ++ List.replicate (n - ts.length) Sl.un))[i]? = some (.own sf us) → i = 0 := fun i sf us e => by
      cases i with
      | zero => rfl
      | succ i =>
        exfalso
        by_cases hi : i < ts.length
        · rw [List.getElem?_cons_succ, List.getElem?_append_left (by simpa using hi), List.getElem?_map] at e
          cases q : ts[i]? with
          | none => rw [q] at e; cases e
          | some t => rw [q] at e; cases e
        · rw [List.getElem?_cons_succ, List.getElem?_append_right (by simpa using hi), List.getElem?_replicate] at e
          split at e <;> cases e
    exact absurd ((no i _ _ e).trans (no j _ _ e').symm) hij
/-- THE RULE for a making -/
theorem in_snd {P : Program} {w : World} {mg : Str → Option Value} {base : Heap} {i : Nat} {cn x qual : Str} {st : Stmt} {a : Addr} {fd : FuncData} {N : List Str} {body : Ss} (Fu : Fdef W.K x qual st a fd) (hs : fnsB N (("self" : Str) :: I.mpars i) (defScope st) = true)
    (hc : chkSs G body ⟨N, defScope st, fun _ => true⟩ (defBody st) = true) (fns : ∀ x, Fns P w W.K mg base (W.at x) G I k)
    (con : ∀ x t, G.con.lookup x = some t → ∃ v u, (mg x = some u ∨ (mg x = none ∧ bootBuiltins x = some u ∧ x ≠ "__name__")) ∧ RelV v u ∧ ∀ F, Tr W F v t) (bi : ∀ x, mg (biName x) = none) (rng : mg "range" = none ∧ mg "zip" = none ∧ mg "enumerate" = none) :
    FnOk P w W.K mg base (L2.CX P w) (k + 3) a fd (("self" : Str) :: I.mpars i) (spI W (I.mpars i).length cn (runI I cn N.length body)) := by
  have S := fnsB_of hs
  refine Fu.okX S (fun vs H Q E h => ?_) fun cdv A outer s H vs Q E hr h => ?_
  · obtain ⟨F, H0, b, x, C, dx, ws, ts, rfl, hl, _⟩ := h
    rw [List.length_cons, List.length_cons, hl]
  obtain ⟨F, H0, b, x, C, dx, ws, ts, rfl, hl, hcl, hx, hF, h0, hB, hcc, kp, st0, tl, ev⟩ := h
  refine ⟨_, sndSs (W := W.at x) (G := G) (I := I) (k := k) body (Γ := ⟨N, defScope st, fun _ => true⟩) (Wx := fun cls d _ H => E cls d H) ⟨rfl, rfl, S.nd, rfl, rfl, rfl, takes_of rfl rfl rfl rfl, passes_of rfl, hr, fun y t h => let ⟨v, u, h1, h2, h3⟩ := con y t h; ⟨v, u, h1, h2, fun F => (h3 F).sim (W := W) (W' := W.at x) rfl rfl⟩, bi, rng, fns x⟩ hc, ?_⟩
  have tl' : TrL (W.at x) F ws ts := tl.sim (W := W) (W' := W.at x) rfl rfl
  have sr := srel_self (W := W.at x) (H := H) (H0 := H0) (n := N.length - 1) (dx := dx) (cn := cn) hcl rfl hx hF h0 hB hcc tl'
  have e1 : start N (V.ref x :: ws) = some (.ref x) :: (ws.map some ++ List.replicate (N.length - 1 - ws.length) none) := by
    show (V.ref x :: ws).map some ++ List.replicate (N.length - (V.ref x :: ws).length) none = _
    rw [List.map_cons, List.cons_append, List.length_cons, Nat.sub_sub, Nat.add_comm 1]
  have e2 : N.length - (ts.length + 1) = N.length - 1 - ts.length := by omega
  rw [e1]
  refine ⟨F, H0, F, fun _ => x, _, b, ⟨Grow.refl _ _, kp, st0.at x⟩, sr, ?_⟩
  have ev := wpE_bind.mp (show wpE (Ev.bind (exs I body (.own true (.obj cn [] []) :: (ts.map .val ++ List.replicate (N.length - (ts.length + 1)) .un))) _) b _ _ from ev)
  rw [e2] at ev
  refine wpE_mono ev (fun o b1 q => ?_) fun z b' h σ' cls d F' H' p => h cls d F' H' p.un
  cases o with
  | nx ss =>
    intro F' H' P' σ' bd sr
    match ss, sr, q with
    | .own true t :: r, sr, q =>
      obtain ⟨F1, hs1, st1, vr, hn, g1, g2⟩ := borrow sr bd [0]
      obtain ⟨c1, c2, c3, c4, c5, c6, _⟩ := sr.own 0 true t rfl
      have hp : P' 0 = x := c6 rfl
      have tr := g2 0 true t rfl (by decide)
      rw [hp] at tr
      refine (show wpE (Ev.pure t) b1 _ _ from q) F1 H' (Post.un (x := x) ⟨⟨bd.grow.sub.trans hs1, fun a o h => ?_⟩, bd.keep, st1, tr⟩)
      rcases hn a o h with z | z
      · exact bd.grow.new a o z
      · exact .inr z
    | [], sr, q => exact (wpE_no (show wpE (Ev.no : Ev T) b1 _ _ from q)).elim
    | .own false t :: r, sr, q => exact (wpE_no (show wpE (Ev.no : Ev T) b1 _ _ from q)).elim
    | .val t :: r, sr, q => exact (wpE_no (show wpE (Ev.no : Ev T) b1 _ _ from q)).elim
    | .un :: r, sr, q => exact (wpE_no (show wpE (Ev.no : Ev T) b1 _ _ from q)).elim
  | ret u => exact (wpE_no (show wpE (Ev.no : Ev T) b1 _ _ from q)).elim
  | bk s1 => exact (wpE_no (show wpE (Ev.no : Ev T) b1 _ _ from q)).elim
  | ct s1 => exact (wpE_no (show wpE (Ev.no : Ev T) b1 _ _ from q)).elim
end
end DI

set_option Elab.async false
set_option linter.all false
set_option maxRecDepth 100000
set_option maxHeartbeats 8000000
namespace DI
open PySem L2

/-! ### a table of defs, of classes -/
structure FnD where
  name : Str
  ps : List Str
  N : List Str
  body : Ss
  /-- the class whose method it is -/
  cls : Option Str := none
structure ClD where
  name : Str
  ps : List Str
  N : List Str
  body : Ss
structure Tb where
  tab : List FnD
  ctab : List ClD
  con : List (Str × T)
  kw : List (Nat × List Str)
  mkw : List (Nat × List Str)
  tkw : List (Nat × List Str)
  oi : List Nat
  fok : List (Str × Str)
variable (τ : Tb)
def parsT (f : Nat) : List Str := match τ.tab[f]? with
  | some d => d.ps
  | none => []
def mparsT (f : Nat) : List Str := match τ.ctab[f]? with
  | some d => d.ps
  | none => []
def mtT (f : Nat) : Str × Str := match τ.tab[f]? with
  | some d => (d.cls.getD Str.empty, d.name)
  | none => (Str.empty, Str.empty)
def fokT (c f : Str) : Bool := τ.fok.contains (c, f)
structure Lv where
  c0 : Nat → List T → Ev T
  c1 : Nat → List T → Ev T
  c2 : Nat → List T → Ev T
  i0 : Nat → List T → Ev T
  i1 : Nat → List T → Ev T
def ienL (L : Lv) : Ien := ⟨L.c0, L.c2, L.i1, parsT τ, mparsT τ, mtT τ, fokT τ⟩
def runC (I : Ien) (f : Nat) (ts : List T) : Ev T := match τ.tab[f]? with
  | some d => if ts.length = d.ps.length then runF I d.N.length d.body ts else Ev.no
  | none => Ev.no
def runM (I : Ien) (c : Nat) (ts : List T) : Ev T := match τ.ctab[c]? with
  | some d => if ts.length = d.ps.length then runI I d.name d.N.length d.body ts else Ev.no
  | none => Ev.no
def lv : Nat → Lv
  | 0 => ⟨fun _ _ => Ev.no, fun _ _ => Ev.no, fun _ _ => Ev.no, fun _ _ => Ev.no, fun _ _ => Ev.no⟩
  | k + 1 => ⟨runC τ (ienL τ (lv k)), (lv k).c0, (lv k).c1, runM τ (ienL τ (lv k)), (lv k).i0⟩
def ien (k : Nat) : Ien := ienL τ (lv τ k)
def callI (k : Nat) : Nat → List T → Ev T := (lv τ k).c0
def initI (k : Nat) : Nat → List T → Ev T := (lv τ k).i0
theorem lv_c1 : ∀ k, (lv τ k).c1 = callI τ (k - 1)
  | 0 => rfl
  | k + 1 => rfl
theorem lv_c2 : ∀ k, (lv τ k).c2 = callI τ (k - 2)
  | 0 => rfl
  | 1 => rfl
  | k + 2 => rfl
theorem lv_i1 : ∀ k, (lv τ k).i1 = initI τ (k - 1)
  | 0 => rfl
  | k + 1 => rfl
theorem ien_call (k : Nat) : (ien τ k).call = callI τ k := rfl
theorem ien_low (k : Nat) : (ien τ k).low = callI τ (k - 2) := lv_c2 τ k
theorem ien_make (k : Nat) : (ien τ k).make = initI τ (k - 1) := lv_i1 τ k
theorem callI_zero : callI τ 0 = fun _ _ => Ev.no := rfl
theorem callI_succ (k : Nat) : callI τ (k + 1) = runC τ (ien τ k) := rfl
theorem initI_zero : initI τ 0 = fun _ _ => Ev.no := rfl
theorem initI_succ (k : Nat) : initI τ (k + 1) = runM τ (ien τ k) := rfl
theorem callI_len {k f : Nat} {ts : List T} {b : Bag} {r : Rs T × Bag} (h : callI τ k f ts b = some r) : ts.length = (parsT τ f).length := by
  cases k with
  | zero => cases h
  | succ k =>
    rw [callI_succ] at h
    unfold runC at h
    unfold parsT
    cases hd : τ.tab[f]? with
    | none => rw [hd] at h; cases h
    | some d =>
      rw [hd] at h
      simp only at h
      split at h
      · assumption
      · cases h
theorem initI_len {k f : Nat} {ts : List T} {b : Bag} {r : Rs T × Bag} (h : initI τ k f ts b = some r) : ts.length = (mparsT τ f).length := by
  cases k with
  | zero => cases h
  | succ k =>
    rw [initI_succ] at h
    unfold runM at h
    unfold mparsT
    cases hd : τ.ctab[f]? with
    | none => rw [hd] at h; cases h
    | some d =>
      rw [hd] at h
      simp only at h
      split at h
      · assumption
      · cases h
def gmT : Gm := ⟨τ.con, fun f => match τ.tab[f]? with
    | some d => if d.cls.isNone then some d.name else none
    | none => none, τ.kw, fun c => (τ.ctab[c]?).map (·.name), fun f => match τ.tab[f]? with
    | some d => d.cls.map fun c => (c, d.name)
    | none => none, τ.mkw, τ.tkw, τ.oi⟩
/-- what the top has to say of a def -/
structure DefAt (K : PySem.W.Frag) (mg : Str → Option Value) (cl : Str → Option Addr) (f : Nat) (d : FnD) : Prop where
  ex : ∃ a fd st qual, Fdef K d.name qual st a fd ∧ fnsB d.N d.ps (defScope st) = true ∧ chkSs (gmT τ) d.body ⟨d.N, defScope st, fun _ => true⟩ (defBody st) = true ∧ (d.cls = none → mg d.name = some (.ref a)) ∧ (∀ c, d.cls = some c → ∃ C, cl c = some C ∧ Meth K C d.name a) ∧ Binds K fd d.ps [] ∧
    (∀ ks, (f, ks) ∈ τ.kw → ∀ (s : Shared) (ws : List Value), K.In s.heap → ws.length = ks.length → BindsTo s fd ⟨[], ks.zip ws⟩ (d.ps.zip (permG d.ps ks ws))) ∧
    (∀ ks, (f, ks) ∈ τ.tkw → ∀ (s : Shared) (w0 : Value) (ws : List Value), K.In s.heap → ws.length = ks.length → BindsTo s fd ⟨[w0], ks.zip ws⟩ (d.ps.zip (w0 :: permG (d.ps.drop 1) ks ws)))
/-- .. of a class -/
structure ClsAt (K : PySem.W.Frag) (mg : Str → Option Value) (cl : Str → Option Addr) (i : Nat) (d : ClD) : Prop where
  ex : ∃ C a fd st qual, cl d.name = some C ∧ Mk K C a ∧ mg d.name = some (.ref C) ∧ Fdef K "__init__" qual st a fd ∧ fnsB d.N (("self" : Str) :: d.ps) (defScope st) = true ∧ chkSs (gmT τ) d.body ⟨d.N, defScope st, fun _ => true⟩ (defBody st) = true ∧ Binds K fd (("self" : Str) :: d.ps) [] ∧
    (∀ ks, (i, ks) ∈ τ.mkw → ∀ (s : Shared) (w0 : Value) (ws : List Value), K.In s.heap → ws.length = ks.length → BindsTo s fd ⟨[w0], ks.zip ws⟩ ((("self" : Str) :: d.ps).zip (w0 :: permG d.ps ks ws)))
structure ModAt (K : PySem.W.Frag) (mg : Str → Option Value) (cl : Str → Option Addr) : Prop where
  con : ∀ x t, τ.con.lookup x = some t → ∃ v u, (mg x = some u ∨ (mg x = none ∧ bootBuiltins x = some u ∧ x ≠ "__name__")) ∧ RelV v u ∧ ∀ (W : Wd), W.cl = cl → ∀ F, Tr W F v t
  bi : ∀ x, mg (biName x) = none
  rng : mg "range" = none ∧ mg "zip" = none ∧ mg "enumerate" = none
  defs : ∀ f d, τ.tab[f]? = some d → DefAt τ K mg cl f d
  clss : ∀ i d, τ.ctab[i]? = some d → ClsAt τ K mg cl i d
  fok : ∀ c f C, fokT τ c f = true → cl c = some C → NoAttr K C f
  oi : ∀ f ∈ τ.oi, ∀ c m C, (gmT τ).mt f = some (c, m) → cl c = some C → ∃ a g : Addr, PySem.W.findIn K (.ref C) (PySem.dunder "mul") = some (some (.ref a)) ∧ PySem.W.isFn K (.ref a) = true ∧ PySem.W.findIn K (.ref C) (PySem.dunderR "mul") = some (some (.ref g)) ∧ PySem.W.isFn K (.ref g) = true
section
variable {τ} {P : Program} {w : World} {mg : Str → Option Value} {base : Heap}
theorem fnok_none {W : Wd} {K : PySem.W.Frag} {CX : CXT} {j : Nat} {a : Addr} {fd : FuncData} {ps : List Str} : FnOk P w K mg base CX j a fd ps (spF W ps.length (fun _ => Ev.no)) :=
  ⟨fun vs H Q E h => let ⟨_, _, _, h, _⟩ := h; h, fun A outer s H args us vs Q E hr he hb hv h => by
    obtain ⟨_, _, _, _, _, _, h⟩ := h
    exact (wpE_no h).elim⟩
theorem mkok_none {W : Wd} {K : PySem.W.Frag} {CX : CXT} {j : Nat} {a : Addr} {fd : FuncData} {ps : List Str} {c : Str} : FnOk P w K mg base CX j a fd (("self" : Str) :: ps) (spI W ps.length c (fun _ => Ev.no)) :=
  ⟨fun vs H Q E h => by
    obtain ⟨_, _, _, _, _, _, _, _, rfl, h, _⟩ := h
    rw [List.length_cons, List.length_cons, h], fun A outer s H args us vs Q E hr he hb hv h => by
    obtain ⟨_, _, _, _, _, _, _, _, _, _, _, _, _, _, _, _, _, _, _, h⟩ := h
    exact (wpE_no h).elim⟩
/-- at the level k: all defs, all makings -/
structure All (P : Program) (w : World) (mg : Str → Option Value) (base : Heap) (τ : Tb) (W : Wd) (k : Nat) : Prop where
  fn : ∀ f d, τ.tab[f]? = some d → ∀ a fd st qual, Fdef W.K d.name qual st a fd → fnsB d.N d.ps (defScope st) = true → chkSs (gmT τ) d.body ⟨d.N, defScope st, fun _ => true⟩ (defBody st) = true → FnOk P w W.K mg base (L2.CX P w) (k + 2) a fd d.ps (spF W d.ps.length (callI τ k f))
  mk' : ∀ i d, τ.ctab[i]? = some d → ∀ a fd st qual, Fdef W.K "__init__" qual st a fd → fnsB d.N (("self" : Str) :: d.ps) (defScope st) = true → chkSs (gmT τ) d.body ⟨d.N, defScope st, fun _ => true⟩ (defBody st) = true → FnOk P w W.K mg base (L2.CX P w) (k + 2) a fd (("self" : Str) :: d.ps) (spI W d.ps.length d.name (initI τ k i))
theorem fns_of {W : Wd} {k : Nat} {cl : Str → Option Addr} (M : ModAt τ W.K mg cl) (hcl : W.cl = cl) (A0 : All P w mg base τ W k) (A1 : All P w mg base τ W (k - 1)) (A2 : All P w mg base τ W (k - 2)) : Fns P w W.K mg base W (gmT τ) (ien τ k) k := by
  have ep : ∀ {f d}, τ.tab[f]? = some d → parsT τ f = d.ps := fun {f d} h => by unfold parsT; rw [h]
  have em : ∀ {f d}, τ.ctab[f]? = some d → mparsT τ f = d.ps := fun {f d} h => by unfold mparsT; rw [h]
  refine ⟨fun f ts b r h => callI_len τ h, fun f ts b r h => ?_, fun f ts b r h => ?_, fun f x hf => ?_, fun f c m hf => ?_, fun i c hi => ?_, fun c f C h h' => M.fok c f C h (by rw [← hcl]; exact h'), fun f hf c m C h h' => M.oi f hf c m C h (by rw [← hcl]; exact h')⟩
  · rw [ien_low] at h; exact callI_len τ h
  · rw [ien_make] at h; exact initI_len τ h
  · simp only [gmT] at hf
    cases hd : τ.tab[f]? with
    | none => rw [hd] at hf; cases hf
    | some d =>
      rw [hd] at hf
      simp only at hf
      split at hf
      · rename_i hn
        cases hf
        obtain ⟨a, fd, st, qual, Fu, h1, h2, hm, _, hb, hk, _⟩ := (M.defs f d hd).ex
        have e : (ien τ k).pars f = d.ps := ep hd
        rw [e]
        exact ⟨a, fd, A0.fn f d hd a fd st qual Fu h1 h2, hm (by simpa using hn), Fu.kp, hb, fun ks hks s ws hK hl => hk ks hks s ws hK hl⟩
      · cases hf
  · simp only [gmT] at hf
    cases hd : τ.tab[f]? with
    | none => rw [hd] at hf; cases hf
    | some d =>
      rw [hd] at hf
      simp only [Option.map_eq_some_iff] at hf
      obtain ⟨c', hc, e⟩ := hf
      cases e
      obtain ⟨a, fd, st, qual, Fu, h1, h2, _, hm, hb, _, hk⟩ := (M.defs f d hd).ex
      obtain ⟨C, h3, h4⟩ := hm c hc
      have e : (ien τ k).pars f = d.ps := ep hd
      refine ⟨by show mtT τ f = _; unfold mtT; rw [hd]; simp [hc], ?_⟩
      rw [e]
      refine ⟨C, a, fd, by rw [hcl]; exact h3, h4, A0.fn f d hd a fd st qual Fu h1 h2, ?_, hb, fun ks hks s w0 ws hK hl => hk ks hks s w0 ws hK hl⟩
      rw [ien_low]
      match k, A2 with
      | 0, _ => exact fnok_none
      | 1, _ => exact fnok_none
      | k + 2, A2 => exact A2.fn f d hd a fd st qual Fu h1 h2
  · simp only [gmT, Option.map_eq_some_iff] at hi
    obtain ⟨d, hd, rfl⟩ := hi
    obtain ⟨C, a, fd, st, qual, h3, h4, h5, Fu, h1, h2, hb, hk⟩ := (M.clss i d hd).ex
    have e : (ien τ k).mpars i = d.ps := em hd
    rw [e]
    refine ⟨C, a, fd, by rw [hcl]; exact h3, h4, h5, ?_, hb, hk⟩
    rw [ien_make]
    match k, A1 with
    | 0, _ => exact mkok_none
    | k + 1, A1 => exact A1.mk' i d hd a fd st qual Fu h1 h2
theorem all_ok {cl : Str → Option Addr} : ∀ k, ∀ W : Wd, ModAt τ W.K mg cl → W.cl = cl → All P w mg base τ W k
  | 0, W, M, hcl => ⟨fun f d hd a fd st qual Fu h1 h2 => fnok_none, fun f d hd a fd st qual Fu h1 h2 => mkok_none⟩
  | k + 1, W, M, hcl => by
    have F : ∀ W' : Wd, W'.K = W.K → W'.cl = cl → Fns P w W'.K mg base W' (gmT τ) (ien τ k) k := fun W' hK hc => fns_of (by rw [hK]; exact M) hc (all_ok k W' (by rw [hK]; exact M) hc) (all_ok (k - 1) W' (by rw [hK]; exact M) hc) (all_ok (k - 2) W' (by rw [hK]; exact M) hc)
    refine ⟨fun f d hd a fd st qual Fu h1 h2 => ?_, fun i d hd a fd st qual Fu h1 h2 => ?_⟩
    · have ep : parsT τ f = d.ps := by unfold parsT; rw [hd]
      have e2 : (ien τ k).pars f = d.ps := ep
      have ok := fn_snd (W := W) (G := gmT τ) (I := ien τ k) (k := k) (P := P) (w := w) (mg := mg) (base := base) (f := f) (N := d.N) (body := d.body) Fu (by rw [e2]; exact h1) h2 (F W rfl hcl) (fun x t h => let ⟨v, u, h1, h2, h3⟩ := M.con x t h; ⟨v, u, h1, h2, h3 W hcl⟩) M.bi M.rng
      rw [e2] at ok
      refine FnOk.imp ok fun vs H Q E h => ?_
      obtain ⟨F, b, ts, hl, st, tl, e⟩ := h
      refine ⟨F, b, ts, hl, st, tl, ?_⟩
      rw [callI_succ] at e
      unfold runC at e
      rw [hd] at e
      simp only at e
      rw [if_pos (by rw [← tl.length]; exact hl)] at e
      exact e
    · have ep : mparsT τ i = d.ps := by unfold mparsT; rw [hd]
      have e2 : (ien τ k).mpars i = d.ps := ep
      have ok := in_snd (W := W) (G := gmT τ) (I := ien τ k) (k := k) (P := P) (w := w) (mg := mg) (base := base) (i := i) (cn := d.name) (N := d.N) (body := d.body) Fu (by rw [e2]; exact h1) h2 (fun x => F (W.at x) rfl hcl) (fun x t h => let ⟨v, u, h1, h2, h3⟩ := M.con x t h; ⟨v, u, h1, h2, h3 W hcl⟩) M.bi M.rng
      rw [e2] at ok
      refine FnOk.imp ok fun vs H Q E h => ?_
      obtain ⟨F, H0, b, x, C, dx, ws, ts, h1, hl, h3, h4, h5, h6, h7, h8, h9, h10, tl, e⟩ := h
      refine ⟨F, H0, b, x, C, dx, ws, ts, h1, hl, h3, h4, h5, h6, h7, h8, h9, h10, tl, ?_⟩
      rw [initI_succ] at e
      unfold runM at e
      rw [hd] at e
      simp only at e
      rw [if_pos (by rw [← tl.length]; exact hl)] at e
      exact e
theorem fns_all {cl : Str → Option Addr} (W : Wd) (M : ModAt τ W.K mg cl) (hcl : W.cl = cl) (k : Nat) : Fns P w W.K mg base W (gmT τ) (ien τ k) k :=
  fns_of M hcl (all_ok k W M hcl) (all_ok (k - 1) W M hcl) (all_ok (k - 2) W M hcl)
end
end DI

set_option Elab.async false
set_option linter.all false
set_option maxRecDepth 100000
set_option maxHeartbeats 8000000
namespace DI
open PySem L2

/-! ### the bag's making, the law -/
/-- the bag that a script makes -/
def bagL (ns : List Int) : Bag := ⟨ns, 0, 0, 12030 + 31 * ns.length, 0⟩
def spBag (K : PySem.W.Frag) (bag0 : List Int → Bag) : Sp := fun vs H Q _ => ∃ (a : Addr) (ns : List Int), vs = [.ref a] ∧ SqL K H a (ns.map V.int) ∧ ns.length ≤ 63 ∧
  ∀ (B c : Addr) (H' : Hp), B ≠ c → H' B = some (.lst [.ref c, .int (bag0 ns).i, .int (bag0 ns).j, .int (bag0 ns).s, .int (bag0 ns).n]) → H' c = some (.lst ((bag0 ns).cells.map V.int)) → Q (.ref B) H'
def spLaw (K : PySem.W.Frag) : Sp := fun vs H Q _ => ∃ (a : Addr) (ns : List Int), vs = [.ref a] ∧ SqL K H a (ns.map V.int) ∧ ns.length ≤ 63 ∧ ∀ H', Q (.bl true) H'
section
variable {P : Program} {w : World} {K : PySem.W.Frag} {mg : Str → Option Value} {base : Heap}
/-- _law_bag -/
theorem ok_bag {qual : Str} {st : Stmt} {f : Addr} {fd : FuncData} {p1 p2 p3 p4 p5 p6 p7 p8 p9 p10 p11 p12 p13 p14 p15 p16 p17 p18 p19 p20 p21 : Pos} {j1 j2 j3 j4 j5 j6 : Nat} (Fu : Fun K "_law_bag" qual st f fd)
    (hs : fnsB ["_law_script", "_law_cells"] ["_law_script"] (defScope st) = true)
    (hb : defBody st = [.Assign [.Name "_law_cells" p1] (.Call (.Name "list" p2) [.Subscript (.Name "_law_script" p3) (.Slice none (some (.Constant (.int 63) j1 p4)) none p5) p6] [] p7) p8,
      .Return (some (.List [.Name "_law_cells" p9, .Constant (.int 0) j2 p10, .Constant (.int 0) j3 p11, .BinOp (.Constant (.int 12030) j4 p12) .Add (.BinOp (.Constant (.int 31) j5 p13) .Mult (.Call (.Name "len" p14) [.Name "_law_cells" p15] [] p16) p17) p18, .Constant (.int 0) j6 p19] p20)) p21])
    (hg : (defScope st).names.lookup ("list" : Str) = some .globalImplicit ∧ (defScope st).names.lookup ("len" : Str) = some .globalImplicit ∧ (defScope st).names.lookup ("_law_cells" : Str) = some .local ∧ (defScope st).names.lookup ("_law_script" : Str) = some .local) (hl : mg "list" = none) (hn : mg "len" = none) :
    FnOk P w K mg base CX0 1 f fd ["_law_script"] (spBag K bagL) := by
  have S := fnsB_of hs
  obtain ⟨g1, g2, g3, g4⟩ := hg
  refine Fu.ok S (fun vs H Q E h => ?_) (fun cdv A outer s H vs Q E hr h => ?_)
  · obtain ⟨a, ns, rfl, _⟩ := h
    rfl
  · obtain ⟨a, ns, rfl, hS, hlen, q⟩ := h
    rw [hb]
    refine ⟨_, pss_cons (ps_set (i := 1) S.nd rfl (.inl g3) (pe_callTy call_list_of g1 hl PyProof.Rows.boot_list (pa_cons (pe_slice sl_list (pe_var (i := 0) rfl (.inl g4)) po_none (po_some pe_int)) pa_nil)))
      (pss_one (ps_ret (pe_lst (pa_cons (pe_var (i := 1) rfl (.inl g3)) (pa_cons pe_int (pa_cons pe_int (pa_cons (pe_op op_add pe_int (pe_op op_mul pe_int (pe_callB call_len_seq g2 hn PySem.boot_len (pa_cons (pe_var (i := 1) rfl (.inl g3)) pa_nil)))) (pa_cons pe_int pa_nil)))))))), ?_⟩
    refine ⟨_, rfl, 63, rfl, a, _, rfl, hS, fun p hp => ?_⟩
    have ec : cutV (ns.map V.int) none (some 63) = ns.map V.int := by
      unfold cutV
      rw [HT.sIx_none, List.length_map]
      have : HT.sIx ns.length ns.length (some 63) = ns.length := by
        show (if (63 : Int) < 0 then ((63 : Int) + (ns.length : Int)).toNat else min (63 : Int).toNat ns.length) = ns.length
        rw [if_neg (by decide)]
        show min 63 ns.length = ns.length
        omega
      rw [this, List.drop_zero, Nat.sub_zero]
      exact List.take_of_length_le (by rw [List.length_map]; exact Nat.le_refl _)
    rw [ec]
    refine ⟨p, _, rfl, .inl (SqL.of upd_same), fun l hl' => ?_⟩
    refine ⟨_, rfl, _, rfl, l, _, rfl, .inl (SqL.of upd_same), _, _, rfl, rfl, .inl ⟨by decide, by decide⟩, _, _, rfl, rfl, ?_⟩
    refine ⟨by show 5 ≤ sizeLine; decide, fun B hB => ?_⟩
    have hne : l ≠ B := fun e => by subst e; rw [upd_same] at hB; cases hB
    refine q B l _ (Ne.symm hne) ?_ ?_
    · rw [upd_same]
      simp [bagL]
    · rw [upd_ne hne, upd_same]; rfl
/-- law: the bag, then the rest -/
theorem ok_law {τ : Tb} {cl : Str → Option Addr} {k : Nat} {N : List Str} {body : Ss} {qual : Str} {st : Stmt} {f fB : Addr} {fd fdB : FuncData} {p1 p2 p3 p4 p5 : Pos} {rest : List Stmt} {bx : Str} (M : ModAt τ K mg cl) (hok : ∀ n C, cl n = some C → ClsOk K C) (hoo : ∀ m n C D, cl m = some C → cl n = some D → PySem.W.kitOne K (.ref C) (.ref D) = some (decide (m = n))) (Fu : Fun K "law" qual st f fd)
    (hs : fnsB N ["_law_script"] (defScope st) = true) (hN : N[0]? = some ("_law_script" : Str) ∧ N[1]? = some bx) {bf : Str}
    (hb : defBody st = .Assign [.Name bx p1] (.Call (.Name bf p2) [.Name "_law_script" p3] [] p4) p5 :: rest)
    (hc : chkSs (gmT τ) body ⟨N, defScope st, fun _ => true⟩ rest = true)
    (hg : (defScope st).names.lookup bf = some .globalImplicit ∧ (bf == ("__debug__" : Str)) = false) (hv : visB ((defScope st).names.lookup ("_law_script" : Str)) = true) (hv2 : locB ⟨N, defScope st, fun _ => true⟩ bx = true)
    {bag0 : List Int → Bag} (GB : FnOk P w K mg base CX0 1 fB fdB ["_law_script"] (spBag K bag0)) (hm : mg bf = some (.ref fB)) (hkB : PySem.W.keepIn K (.ref fB) = true) (bB : Binds K fdB ["_law_script"] [])
    (law : ∀ ns : List Int, ns.length ≤ 63 → ∃ b', exs (ien τ (k + 1)) body (.un :: .val .bag :: List.replicate (N.length - 2) .un) (bag0 ns) = some (.ok (.ret (.bl true)), b')) :
    FnOk P w K mg base CX0 (k + 4) f fd ["_law_script"] (spLaw K) := by
  have S := fnsB_of hs
  refine Fu.ok S (fun vs H Q E h => ?_) (fun cdv A outer s H vs Q E hr h => ?_)
  · obtain ⟨a, ns, rfl, _⟩ := h
    rfl
  · obtain ⟨a, ns, rfl, hS, hlen, q⟩ := h
    rw [hb]
    have cx : ∀ (B c : Addr), CxI (cxOf CX0 P w K mg base N qual (defScope st) f cdv A outer s H E).nox ⟨K, B, c, 0, cl, fun _ => none, hok, hoo⟩ (fun _ _ _ _ => False) (gmT τ) (ien τ (k + 1)) (k + 1) ⟨N, defScope st, fun _ => true⟩ := fun B c =>
      ⟨rfl, rfl, S.nd, rfl, rfl, rfl, takes0, PassesOwn.never, hr, fun x t h => let ⟨v, u, h1, h2, h3⟩ := M.con x t h; ⟨v, u, h1, h2, h3 _ rfl⟩, M.bi, M.rng, fns_all ⟨K, B, c, 0, cl, fun _ => none, hok, hoo⟩ M rfl (k + 1)⟩
    have rst : PSs (cxOf CX0 P w K mg base N qual (defScope st) f cdv A outer s H E).nox rest (fun D σ H => ∃ B c, rdS ⟨K, B, c, 0, cl, fun _ => none, hok, hoo⟩ (fun _ _ _ _ => False) (exs (ien τ (k + 1)) body) D σ H) :=
      ⟨fun pins s σ H D I ⟨B, c, h⟩ => (sndSs body (cx B c) hc).run pins s σ H D I h⟩
    have vs0 : Vis (defScope st) "_law_script" := by
      unfold visB at hv
      split at hv
      · exact .inl (by assumption)
      · exact .inr (.inl (by assumption))
      · exact .inr (.inr (by assumption))
      · cases hv
    obtain ⟨l1, l2⟩ := locB_of (cx 0 0) hv2
    refine ⟨_, pss_cons (ps_set (i := 1) S.nd hN.2 l1 (pe_call (E := E0) (dvs := []) GB (hr.mono (by omega)) hg.1 hm hkB bB .nil pass0 (pa_cons (pe_var (i := 0) hN.1 vs0 (by decide) (by decide)) pa_nil) hg.2) rfl l2) rst, ?_⟩
    have hlN : 2 ≤ N.length := (List.getElem?_eq_some_iff.mp hN.2).1
    have e0 : (start N [V.ref a])[0]? = some (some (.ref a)) := rfl
    refine ⟨_, e0, a, ns, rfl, hS, hlen, fun B c H' hBc hB hc' => ?_⟩
    obtain ⟨b', ev⟩ := law ns hlen
    refine ⟨B, c, fun _ => none, fun _ => none, fun _ => none, fun _ => 0, _, bag0 ns, ⟨Grow.refl _ _, fun a o h _ => (nomatch h), ⟨fun a o h => (nomatch h), rfl, rfl, ⟨hB, hc', hBc⟩⟩⟩, ?_, wpE_eq ev ?_⟩
    · have hst : start N [V.ref a] = some (.ref a) :: List.replicate (N.length - 1) none := rfl
      have hst2 : (start N [V.ref a]).set 1 (some (.ref B)) = some (.ref a) :: some (.ref B) :: List.replicate (N.length - 2) none := by
        rw [hst]
        have : N.length - 1 = (N.length - 2) + 1 := by omega
        rw [this, List.replicate_succ]
        rfl
      rw [hst2]
      refine ⟨by simp, fun i t e => ?_, fun i sf ts e => ?_, fun i j sf ts sg us _ e => ?_⟩
      · match i, e with
        | 0, e => cases e
        | 1, e => cases e; exact ⟨_, rfl, .bag⟩
        | i + 2, e =>
          simp only [List.getElem?_cons_succ, List.getElem?_replicate] at e
          split at e <;> cases e
      · match i, e with
        | 0, e => cases e
        | 1, e => cases e
        | i + 2, e =>
          simp only [List.getElem?_cons_succ, List.getElem?_replicate] at e
          split at e <;> cases e
      · match i, e with
        | 0, e => cases e
        | 1, e => cases e
        | i + 2, e =>
          simp only [List.getElem?_cons_succ, List.getElem?_replicate] at e
          split at e <;> cases e
    · intro v F' H'' bd tr
      cases tr
      exact q H''
end
end DI

set_option Elab.async false
set_option linter.all false
set_option maxRecDepth 100000
set_option maxHeartbeats 8000000
namespace DI
open PySem L2

/-! ### what runs through -/
def BagOk (b : Bag) : Prop := 0 ≤ b.i ∧ b.i ≤ b.cells.length ∧ 0 ≤ b.j ∧ 0 ≤ b.s ∧ b.s < 2147483323
/-- m runs through from b, and Q holds of what it gives -/
def Ok {α : Type} (m : Ev α) (b : Bag) (Q : α → Bag → Prop) : Prop := ∃ a b', m b = some (.ok a, b') ∧ Q a b'
section
variable {α β : Type} {b : Bag} {Q : α → Bag → Prop}
theorem Ok.bind {m : Ev β} {f : β → Ev α} (h : Ok m b fun x b1 => Ok (f x) b1 Q) : Ok (Ev.bind m f) b Q := by
  obtain ⟨x, b1, e1, y, b2, e2, q⟩ := h
  exact ⟨y, b2, by unfold Ev.bind; rw [e1]; exact e2, q⟩
theorem Ok.pure {a : α} (h : Q a b) : Ok (Ev.pure a) b Q := ⟨a, b, rfl, h⟩
theorem Ok.of {o : Option α} {a : α} (e : o = some a) (h : Q a b) : Ok (Ev.of o) b Q := ⟨a, b, by unfold Ev.of; rw [e], h⟩
theorem Ok.mono {m : Ev α} {R : α → Bag → Prop} (h : Ok m b R) (k : ∀ a b', R a b' → Q a b') : Ok m b Q := by
  obtain ⟨a, b', e, r⟩ := h
  exact ⟨a, b', e, k a b' r⟩
theorem Ok.eq {m : Ev α} {a : α} {b' : Bag} (e : m b = some (.ok a, b')) (h : Q a b') : Ok m b Q := ⟨a, b', e, h⟩
end
theorem mul_right {i j : Int} (h : j.natAbs < 2 ^ 64) : mulOk i j = true := by
  unfold mulOk
  rw [decide_eq_true h]
  simp
theorem mul_left {i j : Int} (h : i.natAbs < 2 ^ 64) : mulOk i j = true := by
  unfold mulOk
  rw [decide_eq_true h]
  simp
/-- the drawing -/
def drawB : Ss := (.cons (.bset 0 4 (.bin .Add (.bget (.var 0) 4) (.con (.int 1))))
    (.cons (.ite [] (.and (.tr (.cmp .Eq (.bget (.var 0) 2) (.con (.int 0)))) (.tr (.cmp .Lt (.bget (.var 0) 1) (.blen (.var 0))))) (.cons (.asg 3 [] (.blt .abs (.cons (.bcell (.var 0)) .nil)))
    (.cons (.bset 0 1 (.bin .Add (.bget (.var 0) 1) (.con (.int 1))))
    (.cons (.ite [] (.tr (.cmp .GtE (.var 3) (.bin .Pow (.con (.int 10)) (.con (.int 18))))) (.cons (.bset 0 2 (.var 3))
    .nil) (.cons (.bset 0 3 (.bin .Mod (.blt .int (.cons (.bin .Add (.bin .Add (.bin .Mult (.bget (.var 0) 3) (.con (.int 40993))) (.bin .Mult (.bin .Mod (.blt .int (.cons (.var 3) .nil)) (.con (.int 2147483111))) (.con (.int 769)))) (.con (.int 41))) .nil)) (.con (.int 2147483323))))
    .nil))
    .nil))) .nil)
    (.cons (.ite [] (.tr (.cmp .Gt (.bget (.var 0) 2) (.con (.int 0)))) (.cons (.asg 4 [] (.bin .Mod (.blt .int (.cons (.bget (.var 0) 2) .nil)) (.var 1)))
    (.cons (.bset 0 2 (.bin .FloorDiv (.bget (.var 0) 2) (.var 1)))
    (.cons (.ret [] (.var 4))
    .nil))) .nil)
    (.cons (.asg 2 [] (.bget (.var 0) 3))
    (.cons (.bset 0 3 (.bin .Mod (.blt .int (.cons (.bin .Add (.bin .Add (.bin .Add (.bin .Pow (.var 2) (.con (.int 3))) (.bin .Mult (.var 2) (.con (.int 27611)))) (.bin .Mult (.bget (.var 0) 4) (.con (.int 1299709)))) (.con (.int 52361))) .nil)) (.con (.int 2147483323))))
    (.cons (.ret [] (.bin .Mod (.blt .int (.cons (.bin .Add (.bin .FloorDiv (.bget (.var 0) 3) (.con (.int 67))) (.bin .Mult (.bin .Mod (.blt .int (.cons (.bget (.var 0) 3) .nil)) (.con (.int 7919))) (.con (.int 53)))) .nil)) (.var 1)))
    .nil))))))
section
variable {I : Ien}
theorem seq_nx {s : S} {r : Ss} {ss : List Sl} {b : Bag} {Q : Out → Bag → Prop} (h : Ok (ex I s ss) b fun o b1 => match o with
    | .nx s1 => Ok (exs I r s1) b1 Q
    | o => Q o b1) : Ok (exs I (.cons s r) ss) b Q := by
  refine Ok.bind (h.mono fun o b1 q => ?_)
  cases o with
  | nx s1 => exact q
  | ret t => exact Ok.pure q
  | bk s1 => exact Ok.pure q
  | ct s1 => exact Ok.pure q
end
end DI

set_option Elab.async false
set_option linter.all false
set_option maxRecDepth 100000
set_option maxHeartbeats 8000000
namespace DI
open PySem L2
@[simp] theorem eqT_int (i j : Int) : eqT (.int i) (.int j) = some (decide (i = j)) := by
  show some (decide (V.int i = V.int j)) = _
  rw [dec_int, Bool.beq_eq_decide_eq]
@[simp] theorem eqT_bl (i j : Bool) : eqT (.bl i) (.bl j) = some (decide (i = j)) := by
  cases i <;> cases j <;> rfl
@[simp] theorem eqT_str (i j : Str) : eqT (.str i) (.str j) = some (decide (i = j)) := by
  show some (decide (V.str i = V.str j)) = _
  congr 1
  exact decide_eq_decide.mpr ⟨fun h => V.str.inj h, fun h => by rw [h]⟩
@[simp] theorem truT_bl (b : Bool) : truT (.bl b) = some b := rfl
@[simp] theorem cmpT_eq (x y : T) : cmpT .Eq x y = (eqT x y).map .bl := rfl
@[simp] theorem cmpT_ne (x y : T) : cmpT .NotEq x y = (eqT x y).map fun b => .bl (!b) := rfl
@[simp] theorem cmpT_in (x y : T) : cmpT .In x y = (inT x y).map .bl := rfl
@[simp] theorem cmpT_notin (x y : T) : cmpT .NotIn x y = (inT x y).map fun b => .bl (!b) := rfl
@[simp] theorem cmpT_lt (i j : Int) : cmpT .Lt (.int i) (.int j) = some (.bl (decide (i < j))) := rfl
@[simp] theorem cmpT_ltS (i j : Str) : cmpT .Lt (.str i) (.str j) = some (.bl (ltS i j)) := rfl
@[simp] theorem cmpT_le (i j : Int) : cmpT .LtE (.int i) (.int j) = some (.bl (decide (i ≤ j))) := rfl
@[simp] theorem cmpT_gt (i j : Int) : cmpT .Gt (.int i) (.int j) = some (.bl (decide (j < i))) := rfl
@[simp] theorem cmpT_ge (i j : Int) : cmpT .GtE (.int i) (.int j) = some (.bl (decide (j ≤ i))) := rfl
@[simp] theorem binT_add (x y : T) : binT .Add x y = addT x y := rfl
@[simp] theorem addT_int (i j : Int) : addT (.int i) (.int j) = some (.int (i + j)) := rfl
@[simp] theorem binT_sub (i j : Int) : binT .Sub (.int i) (.int j) = some (.int (i - j)) := rfl
@[simp] theorem binT_mul (x y : T) : binT .Mult x y = mulT x y := rfl
@[simp] theorem mulT_int (i j : Int) : mulT (.int i) (.int j) = if mulOk i j then some (.int (i * j)) else none := rfl
@[simp] theorem binT_mod (i j : Int) : binT .Mod (.int i) (.int j) = if 0 < j then some (.int (i % j)) else none := rfl
@[simp] theorem binT_div (i j : Int) : binT .FloorDiv (.int i) (.int j) = if 0 < j ∧ wide j then some (.int (i / j)) else none := rfl
@[simp] theorem binT_pow (i j : Int) : binT .Pow (.int i) (.int j) = if 0 ≤ j ∧ j ≤ 1000 ∧ i.natAbs < 2 ^ 64 then some (.int (i ^ j.toNat)) else none := rfl
@[simp] theorem blt_int (i : Int) : bltT .int [.int i] = some (.int i) := rfl
@[simp] theorem blt_abs (i : Int) : bltT .abs [.int i] = some (.int (if i < 0 then -i else i)) := rfl
@[simp] theorem blt_len_str (s : Str) : bltT .len [.str s] = some (.int s.length) := rfl
@[simp] theorem blt_len_lst (s : List T) : bltT .len [.lst s] = some (.int s.length) := rfl
@[simp] theorem blt_len_tup (s : List T) : bltT .len [.tup s] = some (.int s.length) := rfl
@[simp] theorem blt_isi (x c : T) : bltT .isi [x, c] = (isiT x c).map .bl := rfl
section
variable {I : Ien}
theorem draw_pos (b : Bag) (m : Int) (hj : 0 < b.j) (hm : 0 < m) (hw : wide m = true) : runF I 5 drawB [.bag, .int m] b = some (.ok (.int (b.j % m)), { b with n := b.n + 1, j := b.j / m }) := by
  have h0 : ¬ b.j = 0 := by omega
  simp [runF, drawB, exs, ex, evX, evC, viewA, evE, evT, evEs, Ev.bind, Ev.pure, Ev.of, bagE, Bag.get, Bag.put, bagW, bagSet, frz, h0, hj, hm, hw]
/-- the seed's turn -/
def seedN (b : Bag) : Int := (b.s ^ 3 + b.s * 27611 + b.n * 1299709 + 52361) % 2147483323
theorem draw_seed (b : Bag) (m : Int) (ok : BagOk b) (hj : b.j = 0) (hi : b.i = b.cells.length) (hm : 0 < m) :
    ∃ d s', runF I 5 drawB [.bag, .int m] b = some (.ok (.int (d % m)), { b with n := b.n + 1, s := s' }) ∧ 0 ≤ s' ∧ s' < 2147483323 := by
  obtain ⟨h1, h2, h3, h4, h5⟩ := ok
  have hs : b.s.natAbs < 18446744073709551616 := by omega
  have m1 : mulOk b.s 27611 = true := mul_right (by decide)
  have m2 : mulOk (b.n + 1) 1299709 = true := mul_right (by decide)
  have m3 : ∀ x : Int, mulOk x 53 = true := fun x => mul_right (by decide)
  have w67 : wide 67 = true := by decide +kernel
  refine ⟨(b.s ^ 3 + b.s * 27611 + (b.n + 1) * 1299709 + 52361) % 2147483323 / 67 + (b.s ^ 3 + b.s * 27611 + (b.n + 1) * 1299709 + 52361) % 2147483323 % 7919 * 53, (b.s ^ 3 + b.s * 27611 + (b.n + 1) * 1299709 + 52361) % 2147483323, ?_, by omega, by omega⟩
  simp [runF, drawB, exs, ex, evX, evC, viewA, evE, evT, evEs, Ev.bind, Ev.pure, Ev.of, bagE, Bag.get, Bag.put, bagW, bagSet, frz, hj, hi, hm, hs, m1, m2, m3, w67]
theorem atI_in {α : Type} {xs : List α} {i : Int} (h0 : 0 ≤ i) (h1 : i < xs.length) : ∃ v, atI xs i = some v ∧ v ∈ xs := by
  have hl : i.toNat < xs.length := by omega
  refine ⟨xs[i.toNat], ?_, List.getElem_mem hl⟩
  unfold atI ixN
  rw [if_pos h0, if_pos h1]
  show xs[i.toNat]? = _
  simp [hl]
theorem draw_cell (b : Bag) (m : Int) (ok : BagOk b) (hj : b.j = 0) (hi : b.i < b.cells.length) (hm : 0 < m) (hw : wide m = true) :
    Ok (runF I 5 drawB [.bag, .int m]) b fun t b' => BagOk b' ∧ ∃ d, t = .int d ∧ 0 ≤ d ∧ d < m := by
  obtain ⟨h1, h2, h3, h4, h5⟩ := ok
  obtain ⟨v, ev, _⟩ := atI_in h1 hi
  have hs : b.s.natAbs < 18446744073709551616 := by omega
  have m1 : ∀ x : Int, mulOk x 27611 = true := fun x => mul_right (by decide)
  have m2 : ∀ x : Int, mulOk x 1299709 = true := fun x => mul_right (by decide)
  have m3 : ∀ x : Int, mulOk x 53 = true := fun x => mul_right (by decide)
  have m4 : ∀ x : Int, mulOk x 40993 = true := fun x => mul_right (by decide)
  have m5 : ∀ x : Int, mulOk x 769 = true := fun x => mul_right (by decide)
  have w67 : wide 67 = true := by decide +kernel
  generalize hv : (if v < 0 then -v else v) = c
  have hc : 0 ≤ c := by rw [← hv]; split <;> omega
  by_cases hbig : 1000000000000000000 ≤ c
  · have hp : 0 < c := by omega
    refine Ok.eq (a := .int (c % m)) (b' := { b with n := b.n + 1, i := b.i + 1, j := c / m }) ?_ ⟨⟨by show 0 ≤ b.i + 1; omega, by show b.i + 1 ≤ (b.cells.length : Int); omega, by show 0 ≤ c / m; exact Int.ediv_nonneg hc (by omega), h4, h5⟩, _, rfl, Int.emod_nonneg _ (by omega), Int.emod_lt_of_pos _ hm⟩
    simp [runF, drawB, exs, ex, evX, evC, viewA, evE, evT, evEs, Ev.bind, Ev.pure, Ev.of, bagE, Bag.get, Bag.put, bagW, bagSet, frz, hj, hi, hm, hw, ev, hv, hbig, hp]
  · have hbig' : ¬ 1000000000000000000 ≤ c := hbig
    generalize hs1 : (b.s * 40993 + c % 2147483111 * 769 + 41) % 2147483323 = s1
    have hs1' : 0 ≤ s1 ∧ s1 < 2147483323 := by rw [← hs1]; omega
    have hs2 : s1.natAbs < 18446744073709551616 := by omega
    generalize hs3 : (s1 ^ 3 + s1 * 27611 + (b.n + 1) * 1299709 + 52361) % 2147483323 = s2
    have hs3' : 0 ≤ s2 ∧ s2 < 2147483323 := by rw [← hs3]; omega
    refine Ok.eq (a := .int ((s2 / 67 + s2 % 7919 * 53) % m)) (b' := { b with n := b.n + 1, i := b.i + 1, s := s2 }) ?_ ⟨⟨by show 0 ≤ b.i + 1; omega, by show b.i + 1 ≤ (b.cells.length : Int); omega, h3, hs3'.1, hs3'.2⟩, _, rfl, Int.emod_nonneg _ (by omega), Int.emod_lt_of_pos _ hm⟩
    simp [runF, drawB, exs, ex, evX, evC, viewA, evE, evT, evEs, Ev.bind, Ev.pure, Ev.of, bagE, Bag.get, Bag.put, bagW, bagSet, frz, hj, hi, hm, hw, ev, hv, hbig', m1, m2, m3, m4, m5, w67, hs1, hs2, hs3]
/-- THE DRAW: some number below m, the bag as good as before -/
theorem draw_ok (b : Bag) (m : Int) (ok : BagOk b) (hm : 0 < m) (hw : wide m = true) : Ok (runF I 5 drawB [.bag, .int m]) b fun t b' => BagOk b' ∧ ∃ d, t = .int d ∧ 0 ≤ d ∧ d < m := by
  by_cases hj : b.j = 0
  · by_cases hi : b.i < b.cells.length
    · exact draw_cell b m ok hj hi hm hw
    · obtain ⟨h1, h2, h3, h4, h5⟩ := id ok
      obtain ⟨d, s', e, a1, a2⟩ := draw_seed (I := I) b m ok hj (by omega) hm
      exact Ok.eq e ⟨⟨h1, h2, h3, a1, a2⟩, _, rfl, Int.emod_nonneg _ (by omega), Int.emod_lt_of_pos _ hm⟩
  · obtain ⟨h1, h2, h3, h4, h5⟩ := id ok
    exact Ok.eq (draw_pos b m (by omega) hm hw) ⟨⟨h1, h2, Int.ediv_nonneg h3 (by omega), h4, h5⟩, _, rfl, Int.emod_nonneg _ (by omega), Int.emod_lt_of_pos _ hm⟩
theorem bagL_ok (ns : List Int) (h : ns.length ≤ 63) : BagOk (bagL ns) := by
  refine ⟨Int.le_refl _, ?_, Int.le_refl _, ?_, ?_⟩
  · show (0 : Int) ≤ ns.length; omega
  · show (0 : Int) ≤ 12030 + 31 * ns.length; omega
  · show (12030 + 31 * ns.length : Int) < 2147483323; omega
end
end DI

set_option Elab.async false
set_option linter.all false
set_option maxRecDepth 100000
set_option maxHeartbeats 8000000
namespace DI
open PySem L2

/-! ### comprehensions -/
theorem Ok.calm {α : Type} {m : Ev α} {b : Bag} {Q : α → Bag → Prop} (h : Ok m b Q) : Ok (Ev.calm m) b Q := by
  obtain ⟨a, b', e, q⟩ := h
  exact ⟨a, b', by unfold Ev.calm; rw [e], q⟩
theorem lcE_map {i : Nat} {ρ : View} {f : View → Ev (Option T)} {g : T → T} {b : Bag} (hi : i < ρ.length) : ∀ {items : List T}, (∀ t ∈ items, f (ρ.set i (some t)) b = some (.ok (some (g t)), b)) → lcE (.name i) ρ f items b = some (.ok (items.map g), b)
  | [], _ => rfl
  | t :: r, h => by
    have h1 := h t (by simp)
    have ih := lcE_map hi (items := r) fun t ht => h t (by simp [ht])
    simp only [lcE, Ev.bind, Ev.of, Ev.calm, tgV, if_pos hi, h1, ih, Ev.pure, consO, List.map_cons]
theorem lcE_filter {i : Nat} {ρ : View} {f : View → Ev (Option T)} {p : T → Bool} {b : Bag} (hi : i < ρ.length) : ∀ {items : List T}, (∀ t ∈ items, f (ρ.set i (some t)) b = some (.ok (if p t then some t else none), b)) → lcE (.name i) ρ f items b = some (.ok (items.filter p), b)
  | [], _ => rfl
  | t :: r, h => by
    have h1 := h t (by simp)
    have ih := lcE_filter hi (items := r) fun t ht => h t (by simp [ht])
    cases hp : p t with
    | true =>
      rw [hp] at h1
      simp [lcE, Ev.bind, Ev.of, Ev.calm, tgV, hi, h1, ih, Ev.pure, consO, List.filter_cons, hp]
    | false =>
      rw [hp] at h1
      simp [lcE, Ev.bind, Ev.of, Ev.calm, tgV, hi, h1, ih, Ev.pure, consO, List.filter_cons, hp]
theorem lcE_map2 {i j : Nat} {ρ : View} {f : View → Ev (Option T)} {g : T → T → T} {b : Bag} (hi : i < ρ.length) (hj : j < ρ.length) : ∀ {items : List (T × T)}, (∀ p ∈ items, f ((ρ.set i (some p.1)).set j (some p.2)) b = some (.ok (some (g p.1 p.2)), b)) →
    lcE (.seq false (.cons (.name i) (.cons (.name j) .nil))) ρ f (items.map fun p => .tup [p.1, p.2]) b = some (.ok (items.map fun p => g p.1 p.2), b)
  | [], _ => rfl
  | p :: r, h => by
    have h1 := h p (by simp)
    have ih := lcE_map2 hi hj (items := r) fun t ht => h t (by simp [ht])
    have hj' : j < (ρ.set i (some p.1)).length := by rw [List.length_set]; exact hj
    simp only [List.map_cons, lcE, Ev.bind, Ev.of, Ev.calm, tgV, tgsV, if_pos hi, if_pos hj', h1, ih, Ev.pure, consO]
/-- each turn draws -/
theorem lcE_ok {i : Nat} {ρ : View} {f : View → Ev (Option T)} {R : T → Prop} (hi : i < ρ.length) : ∀ {items : List T} {b : Bag}, BagOk b → (∀ t ∈ items, ∀ b, BagOk b → Ok (f (ρ.set i (some t))) b fun o b' => BagOk b' ∧ ∃ y, o = some y ∧ R y) →
    Ok (lcE (.name i) ρ f items) b fun ys b' => BagOk b' ∧ ys.length = items.length ∧ ∀ y ∈ ys, R y
  | [], b, ok, _ => Ok.pure ⟨ok, rfl, fun _ h => (nomatch h)⟩
  | t :: r, b, ok, h => by
    refine Ok.bind (Ok.of (by simp only [tgV, if_pos hi]) (Ok.bind ((Ok.calm (h t (by simp) b ok)).mono fun o b1 q => ?_)))
    obtain ⟨ok1, y, rfl, hy⟩ := q
    refine Ok.bind ((lcE_ok hi ok1 fun t ht => h t (by simp [ht])).mono fun ys b2 q => ?_)
    obtain ⟨ok2, hl, hr⟩ := q
    exact Ok.pure ⟨ok2, by simp [consO, hl], fun z hz => by
      simp only [consO, List.mem_cons] at hz
      rcases hz with rfl | hz
      · exact hy
      · exact hr z hz⟩
/-! ### loops -/
theorem forL_ok {g : Tg} {f : List Sl → Ev Out} {I : List Sl → Prop} {J : List T → List Sl → Bag → Prop} : ∀ {items : List T} {ss : List Sl} {b : Bag} {Q : Out → Bag → Prop}, J items ss b →
    (∀ t r ss b, J (t :: r) ss b → ∃ s1, tgS g t ss = some s1 ∧ Ok (f s1) b fun o b' => match o with
      | .nx s2 => J r s2 b'
      | .ct s2 => J r s2 b'
      | .bk s2 => Q (.nx s2) b'
      | .ret t => Q (.ret t) b') → (∀ ss b, J [] ss b → Q (.nx ss) b) → Ok (forL g f items ss) b Q
  | [], ss, b, Q, h, _, hd => Ok.pure (hd ss b h)
  | t :: r, ss, b, Q, h, hs, hd => by
    obtain ⟨s1, e1, h1⟩ := hs t r ss b h
    refine Ok.bind (Ok.of e1 (Ok.bind (h1.mono fun o b1 q => ?_)))
    cases o with
    | nx s2 => exact forL_ok (I := I) q hs hd
    | ct s2 => exact forL_ok (I := I) q hs hd
    | bk s2 => exact Ok.pure q
    | ret u => exact Ok.pure q
theorem boolsT_map (bs : List Bool) : boolsT (bs.map .bl) = some bs := by
  induction bs with
  | nil => rfl
  | cons a r ih => simp [boolsT, ih]
theorem strsT_map (xs : List Str) : strsT (xs.map .str) = some xs := by
  induction xs with
  | nil => rfl
  | cons a r ih => simp [strsT, ih]
theorem atomVs_strs (xs : List Str) : atomVs (xs.map .str) = some (xs.map V.str) := by
  induction xs with
  | nil => rfl
  | cons a r ih => simp [atomVs, atomV, ih]
theorem inT_strs (x : Str) (xs : List Str) : inT (.str x) (.lst (xs.map .str)) = some (decide (x ∈ xs)) := by
  show inSeq (.str x) (xs.map .str) = _
  unfold inSeq
  rw [atomVs_strs]
  show some (inV (.str x) (xs.map V.str)) = _
  congr 1
  unfold inV
  rw [List.any_map]
  induction xs with
  | nil => rfl
  | cons a r ih =>
    rw [List.any_cons, ih]
    show ((a == x) || decide (x ∈ r)) = _
    by_cases h : a = x
    · subst h; simp
    · have h' : ¬ x = a := fun e => h e.symm
      rw [beq_eq_false_iff_ne.mpr h]; simp [h']
/-! ### texts -/
theorem str_ext {x y : Str} (h : x.cps.toList = y.cps.toList) : x = y := by
  obtain ⟨⟨a⟩⟩ := x
  obtain ⟨⟨c⟩⟩ := y
  simp at h
  rw [h]
theorem len_list (x : Str) : x.length = x.cps.toList.length := by simp [Str.length]
theorem append_list (x y : Str) : (x ++ y).cps.toList = x.cps.toList ++ y.cps.toList := by
  show (x.cps ++ y.cps).toList = _
  simp
theorem join_empty (ys : List Str) : (Str.join (Str.ofString "") ys).cps.toList = (ys.map fun y => y.cps.toList).flatten := by
  have e0 : (Str.ofString "").cps.toList = [] := by decide +kernel
  induction ys with
  | nil => rfl
  | cons y r ih =>
    cases r with
    | nil => simp [Str.join]
    | cons z r =>
      show (y ++ Str.ofString "" ++ Str.join (Str.ofString "") (z :: r)).cps.toList = _
      rw [append_list, append_list, e0, ih]
      simp
/-- letters -/
def isL (c : Nat) : Bool := decide (97 ≤ c ∧ c ≤ 122)
def letS : Str := Str.ofString "abcdefghijklmnopqrstuvwxyz"
theorem let_list : letS.cps.toList = [97, 98, 99, 100, 101, 102, 103, 104, 105, 106, 107, 108, 109, 110, 111, 112, 113, 114, 115, 116, 117, 118, 119, 120, 121, 122] := by decide +kernel
theorem let_mem (c : Nat) : decide (c ∈ letS.cps.toList) = isL c := by
  rw [let_list]
  unfold isL
  refine decide_eq_decide.mpr ⟨fun h => ?_, fun h => ?_⟩
  · simp at h; omega
  · simp; omega
def lets (s : Str) : Bool := s.cps.toList.all isL
def nameS (s : Str) : Bool := decide (1 ≤ s.length) && decide (s.length ≤ 6) && lets s
def nameT : T → Bool
  | .str s => nameS s
  | _ => false
end DI

set_option Elab.async false
set_option linter.all false
set_option maxRecDepth 100000
set_option maxHeartbeats 8000000
namespace DI
open PySem L2

/-! ### running by rewriting -/
@[simp] theorem evb_pure {α β : Type} (x : α) (f : α → Ev β) : Ev.bind (Ev.pure x) f = f x := rfl
@[simp] theorem evb_ofs {α β : Type} (x : α) (f : α → Ev β) : Ev.bind (Ev.of (some x)) f = f x := rfl
@[simp] theorem evb_assoc {α β γ : Type} (m : Ev α) (f : α → Ev β) (g : β → Ev γ) : Ev.bind (Ev.bind m f) g = Ev.bind m fun x => Ev.bind (f x) g := by
  funext b
  unfold Ev.bind
  cases m b with
  | none => rfl
  | some p =>
    obtain ⟨r, b'⟩ := p
    cases r <;> rfl
@[simp] theorem of_somes {α : Type} (x : α) : Ev.of (some x) = Ev.pure x := rfl
/-- a place that is no list of one's own -/
def sl : Option T → Sl
  | none => .un
  | some t => .val t
@[simp] theorem viewA_nil (bs : List Nat) (i : Nat) : viewA bs i [] = [] := rfl
@[simp] theorem viewA_sl (bs : List Nat) (i : Nat) (o : Option T) (r : List Sl) : viewA bs i (sl o :: r) = o :: viewA bs (i + 1) r := by
  cases o <;> rfl
@[simp] theorem viewA_val (bs : List Nat) (i : Nat) (t : T) (r : List Sl) : viewA bs i (.val t :: r) = some t :: viewA bs (i + 1) r := rfl
@[simp] theorem viewA_un (bs : List Nat) (i : Nat) (r : List Sl) : viewA bs i (.un :: r) = none :: viewA bs (i + 1) r := rfl
@[simp] theorem viewA_own (bs : List Nat) (i : Nat) (sf : Bool) (ts : T) (r : List Sl) : viewA bs i (.own sf ts :: r) = (if bs.contains i then some ts else none) :: viewA bs (i + 1) r := rfl
theorem frzA_sl (bs : List Nat) (i : Nat) (o : Option T) (r : List Sl) : frzA bs i (sl o :: r) = sl o :: frzA bs (i + 1) r := by
  cases o <;> rfl
section
variable {I : Ien} {r : Ss} {ss : List Sl} {b : Bag} {Q : Out → Bag → Prop}
theorem st_asg {i : Nat} {bs : List Nat} {e : E} {R : T → Bag → Prop} (h : Ok (evE I e (viewA bs 0 ss)) b R) (hi : i < ss.length) (k : ∀ t b', R t b' → Ok (exs I r ((frz bs t ss).set i (.val t))) b' Q) : Ok (exs I (.cons (.asg i bs e) r) ss) b Q := by
  refine seq_nx ?_
  unfold ex
  refine Ok.bind (h.mono fun t b' q => ?_)
  rw [if_pos hi]
  exact Ok.of rfl (k t b' q)
theorem st_if {bs : List Nat} {c : Te} {x y : Ss} {R : Bool → Bag → Prop} (h : Ok (evT I c (viewA bs 0 ss)) b R) (k : ∀ t b', R t b' → Ok (if t then exs I x ss else exs I y ss) b' fun o b1 => match o with
    | .nx s1 => Ok (exs I r s1) b1 Q
    | o => Q o b1) : Ok (exs I (.cons (.ite bs c x y) r) ss) b Q := by
  refine seq_nx ?_
  unfold ex
  exact Ok.bind (h.mono k)
/-- a test that fails -/
theorem st_skip {bs : List Nat} {c : Te} {x : Ss} {R : Bag → Prop} (h : Ok (evT I c (viewA bs 0 ss)) b fun t b' => t = false ∧ R b') (k : ∀ b', R b' → Ok (exs I r ss) b' Q) : Ok (exs I (.cons (.ite bs c x .nil) r) ss) b Q := by
  refine st_if h fun t b' q => ?_
  obtain ⟨rfl, q⟩ := q
  rw [if_neg Bool.false_ne_true]
  exact Ok.eq (a := .nx ss) (b' := b') (by unfold exs; rfl) (k b' q)
theorem st_for {g : Tg} {bs : List Nat} {it : It} {body : Ss} {R : List T → Bag → Prop} (h : Ok (evI I it (viewA bs 0 ss)) b R) (k : ∀ ts b', R ts b' → Ok (forL g (exs I body) ts (if bs.isEmpty then ss else frzA bs 0 ss)) b' fun o b1 => match o with
    | .nx s1 => Ok (exs I r s1) b1 Q
    | o => Q o b1) : Ok (exs I (.cons (.for_ g bs it body) r) ss) b Q := by
  refine seq_nx ?_
  unfold ex
  exact Ok.bind (h.mono k)
theorem st_ret {bs : List Nat} {e : E} {R : T → Bag → Prop} (h : Ok (evE I e (viewA bs 0 ss)) b R) (k : ∀ t b', R t b' → Q (.ret t) b') : Ok (exs I (.cons (.ret bs e) r) ss) b Q := by
  refine seq_nx ?_
  unfold ex
  exact Ok.bind (h.mono fun t b' q => Ok.pure (k t b' q))
theorem st_nil (h : Q (.nx ss) b) : Ok (exs I .nil ss) b Q := Ok.pure h
theorem run_ok {n : Nat} {body : Ss} {as : List T} {R : T → Bag → Prop} (h : Ok (exs I body (as.map .val ++ List.replicate (n - as.length) .un)) b fun o b' => ∃ t, o = .ret t ∧ R t b') : Ok (runF I n body as) b R := by
  unfold runF
  refine Ok.bind (h.mono fun o b' q => ?_)
  obtain ⟨t, rfl, q⟩ := q
  exact Ok.pure q
end
theorem wide_small {m : Int} (h0 : 0 < m) (h1 : m ≤ 10 ^ 18) : wide m = true := by
  unfold wide
  rw [decide_eq_true_iff]
  have : m.natAbs ≤ 10 ^ 18 := by omega
  exact Nat.lt_of_le_of_lt this (by decide +kernel)
/-! ### what each term is, one rewriting each -/
def chn (z : T) (m : Ev T) : Ev T := match z with
  | .bl true => m
  | .bl false => Ev.pure (.bl false)
  | _ => Ev.no
@[simp] theorem chn_bl (p : Bool) (m : Ev T) : chn (.bl p) m = if p = true then m else Ev.pure (.bl false) := by
  cases p <;> rfl
def lcB (I : Ien) (elt : E) (tg : Tg) (ρ : View) (items : List T) : Ev (List T) := lcE tg (wipeV ρ (tgSlots tg)) (fun ρ' => Ev.bind (evE I elt ρ') fun y => Ev.pure (some y)) items
def lcC (I : Ien) (elt : E) (tg : Tg) (c : Te) (ρ : View) (items : List T) : Ev (List T) := lcE tg (wipeV ρ (tgSlots tg)) (fun ρ' => Ev.bind (evT I c ρ') fun k => if k then Ev.bind (evE I elt ρ') fun y => Ev.pure (some y) else Ev.pure none) items
section
variable {I : Ien} {ρ : View}
@[simp] theorem e_var (i : Nat) : evE I (.var i) ρ = Ev.of (match ρ[i]? with | some (some t) => some t | _ => none) := rfl
@[simp] theorem e_con (t : T) : evE I (.con t) ρ = Ev.pure t := rfl
@[simp] theorem e_glob (x : Str) (t : T) : evE I (.glob x t) ρ = Ev.pure t := rfl
@[simp] theorem e_bin (op : Operator) (a b : E) : evE I (.bin op a b) ρ = Ev.bind (evE I a ρ) fun x => Ev.bind (evE I b ρ) fun y => Ev.of (binT op x y) := rfl
@[simp] theorem e_neg (a : E) : evE I (.neg a) ρ = Ev.bind (evE I a ρ) fun x => Ev.of ((intT x).map fun i => .int (-i)) := rfl
@[simp] theorem e_not (a : E) : evE I (.not a) ρ = Ev.bind (evE I a ρ) fun x => Ev.of ((truT x).map fun b => .bl (!b)) := rfl
@[simp] theorem e_and (a b : E) : evE I (.and a b) ρ = Ev.bind (evE I a ρ) fun x => Ev.bind (Ev.of (truT x)) fun k => if k = true then evE I b ρ else Ev.pure x := rfl
@[simp] theorem e_or (a b : E) : evE I (.or a b) ρ = Ev.bind (evE I a ρ) fun x => Ev.bind (Ev.of (truT x)) fun k => if k = true then Ev.pure x else evE I b ρ := rfl
@[simp] theorem e_cmp (op : CmpOp) (a b : E) : evE I (.cmp op a b) ρ = Ev.bind (evE I a ρ) fun x => Ev.bind (evE I b ρ) fun y => Ev.of (cmpT op x y) := rfl
@[simp] theorem e_chain (op op' : CmpOp) (a b c : E) : evE I (.chain op op' a b c) ρ = Ev.bind (evE I a ρ) fun x => Ev.bind (evE I b ρ) fun y => Ev.bind (Ev.of (cmpT op x y)) fun z => chn z (Ev.bind (evE I c ρ) fun w => Ev.of (cmpT op' y w)) := rfl
@[simp] theorem e_ife (c : Te) (a b : E) : evE I (.ife c a b) ρ = Ev.bind (evT I c ρ) fun k => if k = true then evE I a ρ else evE I b ρ := rfl
@[simp] theorem e_tup (es : Es) : evE I (.tup es) ρ = Ev.bind (evEs I es ρ) fun ts => Ev.of (if ts.length ≤ LIM then some (.tup ts) else none) := rfl
@[simp] theorem e_lst (es : Es) : evE I (.lst es) ρ = Ev.bind (evEs I es ρ) fun ts => Ev.of (if ts.length ≤ LIM then some (.lst ts) else none) := rfl
@[simp] theorem e_dct (ks : List Str) (vs : Es) : evE I (.dct ks vs) ρ = Ev.bind (evEs I vs ρ) fun ts => Ev.of (if ks.length = ts.length ∧ ks.length ≤ 15 ∧ ks.Nodup then some (.dK (ks.map Sum.inr) ts) else none) := rfl
@[simp] theorem e_idx (a i : E) : evE I (.idx a i) ρ = Ev.bind (evE I a ρ) fun x => Ev.bind (evE I i ρ) fun y => Ev.of (idxT x y) := rfl
@[simp] theorem e_sl (a lo hi : E) : evE I (.sl a lo hi) ρ = Ev.bind (evE I a ρ) fun x => Ev.bind (evE I lo ρ) fun l => Ev.bind (Ev.of (intT l)) fun i => Ev.bind (evE I hi ρ) fun h => Ev.bind (Ev.of (intT h)) fun j => Ev.of (slT x (some i) (some j)) := rfl
@[simp] theorem e_slH (a hi : E) : evE I (.slH a hi) ρ = Ev.bind (evE I a ρ) fun x => Ev.bind (evE I hi ρ) fun h => Ev.bind (Ev.of (intT h)) fun j => Ev.of (slT x none (some j)) := rfl
@[simp] theorem e_slL (a lo : E) : evE I (.slL a lo) ρ = Ev.bind (evE I a ρ) fun x => Ev.bind (evE I lo ρ) fun l => Ev.bind (Ev.of (intT l)) fun i => Ev.of (slT x (some i) none) := rfl
@[simp] theorem e_rev (a : E) : evE I (.rev a) ρ = Ev.bind (evE I a ρ) fun x => Ev.of (revT x) := rfl
@[simp] theorem e_call (f : Nat) (es : Es) : evE I (.call f es) ρ = Ev.bind (evEs I es ρ) fun ts => I.call f ts := rfl
@[simp] theorem e_callK (f : Nat) (es : Es) (ks : List Str) : evE I (.callK f es ks) ρ = Ev.bind (evEs I es ρ) fun ts => I.call f (permG (I.pars f) ks ts) := rfl
@[simp] theorem e_blt (x : Bi) (es : Es) : evE I (.blt x es) ρ = Ev.bind (evEs I es ρ) fun ts => Ev.of (bltT x ts) := rfl
@[simp] theorem e_mth (m : Me) (a : E) (es : Es) : evE I (.mth m a es) ρ = Ev.bind (evE I a ρ) fun x => Ev.bind (Ev.of (meK m x)) fun _ => Ev.bind (evEs I es ρ) fun ts => Ev.of (mthT m x ts) := rfl
@[simp] theorem e_lc (elt : E) (tg : Tg) (it : It) (c : Te) : evE I (.lc elt tg it c) ρ = Ev.bind (evI I it ρ) fun items => Ev.bind (lcC I elt tg c ρ items) fun ys => Ev.pure (.lst ys) := rfl
@[simp] theorem e_lc0 (elt : E) (tg : Tg) (it : It) : evE I (.lc0 elt tg it) ρ = Ev.bind (evI I it ρ) fun items => Ev.bind (lcB I elt tg ρ items) fun ys => Ev.pure (.lst ys) := rfl
@[simp] theorem t_not (a : Te) : evT I (.not a) ρ = Ev.bind (evT I a ρ) fun k => Ev.pure (!k) := rfl
@[simp] theorem t_and (a b : Te) : evT I (.and a b) ρ = Ev.bind (evT I a ρ) fun k => if k = true then evT I b ρ else Ev.pure false := rfl
@[simp] theorem t_or (a b : Te) : evT I (.or a b) ρ = Ev.bind (evT I a ρ) fun k => if k = true then Ev.pure true else evT I b ρ := rfl
@[simp] theorem t_tr (e : E) : evT I (.tr e) ρ = Ev.bind (evE I e ρ) fun x => Ev.of (truT x) := rfl
@[simp] theorem es_nil : evEs I .nil ρ = Ev.pure [] := rfl
@[simp] theorem es_cons (e : E) (r : Es) : evEs I (.cons e r) ρ = Ev.bind (evE I e ρ) fun x => Ev.bind (evEs I r ρ) fun xs => Ev.pure (x :: xs) := rfl
@[simp] theorem i_val (e : E) : evI I (.val e) ρ = Ev.bind (evE I e ρ) fun x => Ev.of (seqT x) := rfl
@[simp] theorem i_rng1 (a : E) : evI I (.rng1 a) ρ = Ev.bind (evE I a ρ) fun x => Ev.of ((intT x).bind fun j => rngT 0 j) := rfl
@[simp] theorem i_rng2 (a b : E) : evI I (.rng2 a b) ρ = Ev.bind (evE I a ρ) fun x => Ev.bind (evE I b ρ) fun y => Ev.of ((intT x).bind fun i => (intT y).bind fun j => rngT i j) := rfl
@[simp] theorem i_zip (a b : E) : evI I (.zip a b) ρ = Ev.bind (evE I a ρ) fun x => Ev.bind (evE I b ρ) fun y => Ev.of (zipT x y) := rfl
@[simp] theorem i_enum (a : E) : evI I (.enum a) ρ = Ev.bind (evE I a ρ) fun x => Ev.of (enumT x) := rfl
end
@[simp] theorem ok_pure {α : Type} {a : α} {b : Bag} {Q : α → Bag → Prop} : Ok (Ev.pure a) b Q ↔ Q a b := ⟨fun ⟨a', b', e, q⟩ => by cases e; exact q, Ok.pure⟩
theorem Ok.get {α : Type} {m : Ev α} {b : Bag} {a : α} (h : Ok m b fun x b' => x = a ∧ b' = b) : m b = some (.ok a, b) := by
  obtain ⟨x, b', e, rfl, rfl⟩ := h
  exact e
/-- a part whose worth is known -/
theorem Ok.at {α β : Type} {m : Ev β} {f : β → Ev α} {b b' : Bag} {a : β} {Q : α → Bag → Prop} (e : m b = some (.ok a, b')) (h : Ok (f a) b' Q) : Ok (Ev.bind m f) b Q := Ok.bind ⟨a, b', e, h⟩
theorem Ok.then {α β : Type} {m : Ev β} {f : β → Ev α} {b : Bag} {R : β → Bag → Prop} {Q : α → Bag → Prop} (e : Ok m b R) (h : ∀ x b', R x b' → Ok (f x) b' Q) : Ok (Ev.bind m f) b Q := Ok.bind (e.mono h)
@[simp] theorem seqT_lst (ts : List T) : seqT (.lst ts) = some ts := rfl
@[simp] theorem seqT_tup (ts : List T) : seqT (.tup ts) = some ts := rfl
@[simp] theorem seqT_str (s : Str) : seqT (.str s) = some ((chrs s).map .str) := rfl
@[simp] theorem intT_int (i : Int) : intT (.int i) = some i := rfl
@[simp] theorem idxT_lst (ts : List T) (k : Int) : idxT (.lst ts) (.int k) = atI ts k := rfl
@[simp] theorem idxT_tup (ts : List T) (k : Int) : idxT (.tup ts) (.int k) = atI ts k := rfl
@[simp] theorem idxT_str (s : Str) (k : Int) : idxT (.str s) (.int k) = (atI s.cps.toList k).map fun c => .str ⟨#[c]⟩ := rfl
@[simp] theorem slT_str (s : Str) (lo hi : Option Int) : slT (.str s) lo hi = some (.str (cutS s lo hi)) := rfl
@[simp] theorem slT_lst (s : List T) (lo hi : Option Int) : slT (.lst s) lo hi = some (.lst (cutT s lo hi)) := rfl
@[simp] theorem slT_tup (s : List T) (lo hi : Option Int) : slT (.tup s) lo hi = some (.tup (cutT s lo hi)) := rfl
@[simp] theorem revT_tup (s : List T) : revT (.tup s) = some (.tup s.reverse) := rfl
@[simp] theorem revT_lst (s : List T) : revT (.lst s) = some (.lst s.reverse) := rfl
@[simp] theorem blt_all (ts : List T) : bltT .all [.lst ts] = (boolsT ts).map fun bs => .bl (bs.all id) := rfl
@[simp] theorem blt_any (ts : List T) : bltT .any [.lst ts] = (boolsT ts).map fun bs => .bl (bs.any id) := rfl
@[simp] theorem blt_listL (ts : List T) : bltT .list [.lst ts] = some (.lst ts) := rfl
@[simp] theorem blt_listT (ts : List T) : bltT .list [.tup ts] = some (.lst ts) := rfl
@[simp] theorem blt_listS (s : Str) : bltT .list [.str s] = some (.lst ((chrs s).map .str)) := rfl
@[simp] theorem blt_tupL (ts : List T) : bltT .tuple [.lst ts] = some (.tup ts) := rfl
@[simp] theorem blt_tupT (ts : List T) : bltT .tuple [.tup ts] = some (.tup ts) := rfl
@[simp] theorem zip_lst (xs ys : List T) : zipT (.lst xs) (.lst ys) = some ((xs.zip ys).map fun p => .tup [p.1, p.2]) := rfl
@[simp] theorem zip_tup (xs ys : List T) : zipT (.tup xs) (.tup ys) = some ((xs.zip ys).map fun p => .tup [p.1, p.2]) := rfl
@[simp] theorem cmpT_is (x : T) : cmpT .Is x .non = some (.bl (isNon x)) := rfl
@[simp] theorem truT_str (x : Str) : truT (.str x) = some (x.length != 0) := rfl
@[simp] theorem truT_lst (x : List T) : truT (.lst x) = some (!x.isEmpty) := rfl
@[simp] theorem bools_comp {α : Type} (f : α → Bool) (l : List α) : boolsT (l.map (T.bl ∘ f)) = some (l.map f) := by
  rw [← List.map_map, boolsT_map]
@[simp] theorem bools_fun {α : Type} (f : α → Bool) (l : List α) : boolsT (l.map fun x => T.bl (f x)) = some (l.map f) := bools_comp f l
@[simp] theorem strs_comp {α : Type} (f : α → Str) (l : List α) : strsT (l.map (T.str ∘ f)) = some (l.map f) := by
  rw [← List.map_map, strsT_map]
@[simp] theorem bools_map (bs : List Bool) : boolsT (bs.map .bl) = some bs := boolsT_map bs
@[simp] theorem strs_map (xs : List Str) : strsT (xs.map .str) = some xs := strsT_map xs
theorem lim_le {n : Nat} (h : n ≤ 100000) : n ≤ LIM := Nat.le_trans h (by decide)
end DI
namespace DI
open PySem L2
section
variable {I : Ien} {r : Ss} {ss : List Sl} {b : Bag} {Q : Out → Bag → Prop}
theorem st_new {i : Nat} {e : E} {R : List T → Bag → Prop} (h : Ok (evE I e (viewA [] 0 ss)) b fun t b' => ∃ ts, t = .lst ts ∧ R ts b') (hi : i < ss.length) (k : ∀ ts b', R ts b' → Ok (exs I r (ss.set i (.own false (.lst ts)))) b' Q) : Ok (exs I (.cons (.new i [] e) r) ss) b Q := by
  refine seq_nx ?_
  unfold ex
  refine Ok.bind (h.mono fun t b' q => ?_)
  obtain ⟨ts, rfl, q⟩ := q
  refine Ok.bind (Ok.of rfl ?_)
  rw [if_pos hi]
  exact Ok.of rfl (k ts b' q)
theorem st_app {i : Nat} {bs : List Nat} {e : E} {sf : Bool} {ts : List T} {R : T → Bag → Prop} (h : Ok (evE I e (viewA bs 0 ss)) b R) (hi : ss[i]? = some (.own sf (.lst ts))) (hl : ts.length < LIM) (k : ∀ t b', R t b' → (isAtom t = true ∨ bs = []) ∧ Ok (exs I r (ss.set i (.own sf (.lst (ts ++ [t]))))) b' Q) : Ok (exs I (.cons (.app i bs e) r) ss) b Q := by
  refine seq_nx ?_
  unfold ex
  refine Ok.bind (Ok.of (a := ()) (by unfold ownAt; rw [hi]) (Ok.bind (h.mono fun t b' q => ?_)))
  obtain ⟨h1, h2⟩ := k t b' q
  rw [hi]
  simp only
  rw [if_pos ⟨hl, h1⟩]
  exact Ok.of rfl h2
theorem st_asgL {i : Nat} {bs : List Nat} {e : E} {R : T → Bag → Prop} (h : Ok (evE I e (viewA bs 0 ss)) b R) (hi : i < ss.length) (k : ∀ t b', R t b' → Ok (exs I r ((frz bs t ss).set i (.val t))) b' Q) : Ok (exs I (.cons (.asgL i bs e) r) ss) b Q := by
  refine seq_nx ?_
  unfold ex
  refine Ok.bind (h.mono fun t b' q => ?_)
  rw [if_pos hi]
  exact Ok.of rfl (k t b' q)
theorem st_unp {g : Tg} {bs : List Nat} {e : E} {R : T → Bag → Prop} (h : Ok (evE I e (viewA bs 0 ss)) b R) (k : ∀ t b', R t b' → ∃ s1, tgS g t (frz bs t ss) = some s1 ∧ Ok (exs I r s1) b' Q) : Ok (exs I (.cons (.unp g bs e) r) ss) b Q := by
  refine seq_nx ?_
  unfold ex
  refine Ok.bind (h.mono fun t b' q => ?_)
  obtain ⟨s1, e1, h1⟩ := k t b' q
  rw [e1]
  exact Ok.of rfl h1
theorem st_exp {bs : List Nat} {e : E} {R : T → Bag → Prop} (h : Ok (evE I e (viewA bs 0 ss)) b R) (k : ∀ t b', R t b' → Ok (exs I r (frz bs t ss)) b' Q) : Ok (exs I (.cons (.exp bs e) r) ss) b Q := by
  refine seq_nx ?_
  unfold ex
  exact Ok.bind (h.mono fun t b' q => Ok.pure (k t b' q))
theorem st_par2 {i j : Nat} {bs : List Nat} {x y : E} {R : T → T → Bag → Prop} (h : Ok (evE I x (viewA [] 0 ss)) b fun t b1 => Ok (evE I y (viewA [] 0 ss)) b1 fun u b2 => R t u b2) (hi : i < ss.length) (hj : j < ss.length) (hij : i ≠ j) (k : ∀ t u b', R t u b' → Ok (exs I r ((ss.set i (.val t)).set j (.val u))) b' Q) : Ok (exs I (.cons (.par2 i j bs x y) r) ss) b Q := by
  refine seq_nx ?_
  unfold ex
  refine Ok.bind (h.mono fun t b' q => Ok.bind (q.mono fun u b2 q => ?_))
  rw [if_pos ⟨hi, hj, hij⟩]
  exact Ok.of rfl (k t u b2 q)
theorem st_fset {i : Nat} {f c : Str} {bs : List Nat} {e : E} {sf : Bool} {ns : List Str} {ts : List T} {R : T → Bag → Prop} (h : Ok (evE I e (viewA bs 0 ss)) b R) (hi : ss[i]? = some (.own sf (.obj c ns ts))) (hf : I.fok c f = true) (hl : ns.length < 900) (hl2 : ns.length = ts.length)
    (k : ∀ t b', R t b' → (isAtom t = true ∨ i ∉ bs) ∧ Ok (exs I r ((frz bs t ss).set i (.own sf (.obj c (putT f t ns ts).1 (putT f t ns ts).2)))) b' Q) : Ok (exs I (.cons (.fset i f bs e) r) ss) b Q := by
  refine seq_nx ?_
  unfold ex
  refine Ok.bind (h.mono fun t b' q => ?_)
  obtain ⟨h1, h2⟩ := k t b' q
  rw [hi]
  simp only
  rw [if_pos ⟨hf, hl, hl2, h1⟩]
  exact Ok.of rfl h2
theorem st_whl {bs : List Nat} {c : Te} {body : Ss} (h : Ok (whlL (evC I bs c) (exs I body) WF ss) b fun o b1 => match o with
    | .nx s1 => Ok (exs I r s1) b1 Q
    | o => Q o b1) : Ok (exs I (.cons (.whl bs c body) r) ss) b Q := by
  refine seq_nx ?_
  unfold ex
  exact h
/-- a while by a measure -/
theorem whlL_ok {c : List Sl → Ev Bool} {f : List Sl → Ev Out} {J : List Sl → Bag → Prop} {μ : List Sl → Bag → Nat} (hs : ∀ ss b, J ss b → Ok (c ss) b fun k b1 => if k = true then Ok (f ss) b1 fun o b2 => match o with
      | .nx s2 => J s2 b2 ∧ μ s2 b2 < μ ss b
      | .ct s2 => J s2 b2 ∧ μ s2 b2 < μ ss b
      | .bk s2 => Q (.nx s2) b2
      | .ret t => Q (.ret t) b2
    else Q (.nx ss) b1) : ∀ (n : Nat) {ss : List Sl} {b : Bag}, J ss b → μ ss b < n → Ok (whlL c f n ss) b Q
  | 0, ss, b, h, hm => absurd hm (Nat.not_lt_zero _)
  | n + 1, ss, b, h, hm => by
    refine Ok.bind ((hs ss b h).mono fun k b1 q => ?_)
    cases k with
    | false => exact Ok.pure (by simpa using q)
    | true =>
      rw [if_pos rfl] at q ⊢
      refine Ok.bind (q.mono fun o b2 q => ?_)
      cases o with
      | nx s2 => exact whlL_ok hs n q.1 (by omega)
      | ct s2 => exact whlL_ok hs n q.1 (by omega)
      | bk s2 => exact Ok.pure q
      | ret t => exact Ok.pure q
theorem runI_ok {c : Str} {n : Nat} {body : Ss} {as : List T} {R : T → Bag → Prop} (h : Ok (exs I body (.own true (.obj c [] []) :: (as.map .val ++ List.replicate (n - (as.length + 1)) .un))) b fun o b' => ∃ t r, o = .nx (.own true t :: r) ∧ R t b') : Ok (runI I c n body as) b R := by
  unfold runI
  refine Ok.bind (h.mono fun o b' q => ?_)
  obtain ⟨t, r, rfl, q⟩ := q
  exact Ok.pure q
end
section
variable {I : Ien} {ρ : View}
@[simp] theorem e_mk (c : Nat) (es : Es) : evE I (.mk c es) ρ = Ev.bind (evEs I es ρ) fun ts => I.make c ts := rfl
@[simp] theorem e_mkK (c : Nat) (es : Es) (ks : List Str) : evE I (.mkK c es ks) ρ = Ev.bind (evEs I es ρ) fun ts => I.make c (permG (I.mpars c) ks ts) := rfl
@[simp] theorem e_fld (a : E) (f : Str) : evE I (.fld a f) ρ = Ev.bind (evE I a ρ) fun x => Ev.of (fldT I.fok f x) := rfl
@[simp] theorem e_meth (f : Nat) (a : E) (es : Es) : evE I (.meth f a es) ρ = Ev.bind (evE I a ρ) fun x => Ev.bind (Ev.of (objM (I.mt f) x)) fun _ => Ev.bind (evEs I es ρ) fun ts => I.call f (x :: ts) := rfl
@[simp] theorem e_methK (f : Nat) (a : E) (es : Es) (ks : List Str) : evE I (.methK f a es ks) ρ = Ev.bind (evE I a ρ) fun x => Ev.bind (Ev.of (objM (I.mt f) x)) fun _ => Ev.bind (evEs I es ρ) fun ts => I.call f (x :: permG ((I.pars f).drop 1) ks ts) := rfl
@[simp] theorem e_obin (op : Operator) (f : Nat) (a b : E) : evE I (.obin op f a b) ρ = Ev.bind (evE I a ρ) fun x => Ev.bind (evE I b ρ) fun y => Ev.bind (Ev.of (kdObj (I.mt f).1 x)) fun _ => Ev.bind (Ev.of (kdObj (I.mt f).1 y)) fun _ => I.call f [x, y] := rfl
@[simp] theorem e_obinI (op : Operator) (f : Nat) (a b : E) : evE I (.obinI op f a b) ρ = Ev.bind (evE I a ρ) fun x => Ev.bind (evE I b ρ) fun y => Ev.bind (Ev.of (kdObj (I.mt f).1 x)) fun _ => Ev.bind (Ev.of (intT y)) fun _ => I.call f [x, y] := rfl
@[simp] theorem e_orbin (op : Operator) (f : Nat) (a b : E) : evE I (.orbin op f a b) ρ = Ev.bind (evE I a ρ) fun x => Ev.bind (evE I b ρ) fun y => Ev.bind (Ev.of (intT x)) fun _ => Ev.bind (Ev.of (kdObj (I.mt f).1 y)) fun _ => I.call f [y, x] := rfl
@[simp] theorem e_ocmp (op : CmpOp) (f : Nat) (a b : E) : evE I (.ocmp op f a b) ρ = Ev.bind (evE I a ρ) fun x => Ev.bind (evE I b ρ) fun y => Ev.bind (Ev.of (kdObj (I.mt f).1 x)) fun _ => Ev.bind (Ev.of (kdOf y)) fun _ => Ev.bind (I.call f [x, y]) fun r => Ev.of (blT r) := rfl
@[simp] theorem e_ostr (f : Nat) (a : E) : evE I (.ostr f a) ρ = Ev.bind (evE I a ρ) fun x => Ev.bind (Ev.of (kdObj (I.mt f).1 x)) fun _ => Ev.bind (I.low f [x]) fun r => Ev.of (strT r) := rfl
@[simp] theorem e_fmt (a : E) : evE I (.fmt a) ρ = Ev.bind (evE I a ρ) fun x => Ev.of (fmtT x) := rfl
@[simp] theorem e_fstr (es : Es) : evE I (.fstr es) ρ = Ev.bind (evJ I es Str.empty ρ) fun y => Ev.pure (.str y) := rfl
@[simp] theorem j_nil (acc : Str) : evJ I .nil acc ρ = Ev.pure acc := rfl
@[simp] theorem j_cons (e : E) (r : Es) (acc : Str) : evJ I (.cons e r) acc ρ = Ev.bind (evE I e ρ) fun x => Ev.bind (Ev.of (glue1 acc x)) fun y => evJ I r y ρ := rfl
@[simp] theorem kdObj_obj (c d : Str) (ns : List Str) (ts : List T) : kdObj c (.obj d ns ts) = if d = c then some () else none := rfl
@[simp] theorem blT_bl (b : Bool) : blT (.bl b) = some (.bl b) := rfl
@[simp] theorem strT_str (y : Str) : strT (.str y) = some (.str y) := rfl
@[simp] theorem fmtT_str (y : Str) : fmtT (.str y) = some (.str y) := rfl
end
/-! ### lists of texts against the empty list -/
def stOk (s : Str) : Bool := PyData.strOk s
theorem toDs_strs (xs : List Str) : toDs (xs.map .str) = some (xs.map PyData.str) := by
  induction xs with
  | nil => rfl
  | cons a r ih => simp [toDs, toD, ih]
theorem lay_strs (xs : List Str) (h : ∀ x ∈ xs, PyData.strOk x = true) : SeqAt.shaped (.list (xs.map PyData.str)) = true := by
  unfold SeqAt.shaped
  rw [Bool.and_eq_true]
  constructor
  · show PyData.canLayAll0 (xs.map PyData.str) = true
    induction xs with
    | nil => rfl
    | cons a r ih =>
      show (PyData.strOk a && PyData.canLayAll0 (r.map PyData.str)) = true
      rw [h a (by simp), ih fun x hx => h x (by simp [hx])]
      rfl
  · have : PyData.depth (.list (xs.map PyData.str)) ≤ 1 := by
      clear h
      have : PyData.depthAll (xs.map PyData.str) = 0 := by
        induction xs with
        | nil => rfl
        | cons a r ih => simp [PyData.depthAll, PyData.depth, ih]
      simp [PyData.depth, this]
    rw [decide_eq_true_iff]
    omega
theorem eqT_empty (xs : List Str) (h : ∀ x ∈ xs, PyData.strOk x = true) : eqT (.lst (xs.map .str)) (.lst []) = some xs.isEmpty := by
  show eqD _ _ = _
  unfold eqD
  have e1 : toD (.lst (xs.map .str)) = some (.list (xs.map PyData.str)) := by
    simp [toD, toDs_strs]
  have e2 : toD (.lst []) = some (.list []) := rfl
  have e3 : SeqAt.shaped (.list []) = true := by decide +kernel
  rw [e1, e2]
  simp only [lay_strs xs h, e3]
  cases xs <;> rfl
theorem lets_strOk {x : Str} (h : lets x = true) : PyData.strOk x = true := by
  unfold lets at h
  rw [List.all_eq_true] at h
  unfold PyData.strOk
  have : ∀ c ∈ x.cps.toList, c < 1114112 := by
    intro c hc
    have := h c hc
    unfold isL at this
    simp at this
    omega
  rw [Array.all_eq_true]
  intro i hi
  exact decide_eq_true (this _ (by simp))
/-! ### cuts of texts -/
theorem cutS_list (s : Str) (lo hi : Option Int) : (cutS s lo hi).cps.toList = (s.cps.toList.drop (HT.sIx s.length 0 lo)).take (HT.sIx s.length s.length hi - HT.sIx s.length 0 lo) := by
  unfold cutS
  simp
theorem lets_cut {s : Str} (lo hi : Option Int) (h : lets s = true) : lets (cutS s lo hi) = true := by
  unfold lets at *
  rw [cutS_list]
  rw [List.all_eq_true] at *
  intro c hc
  exact h c (List.mem_of_mem_drop (List.mem_of_mem_take hc))
theorem lets_app {x y : Str} (h : lets x = true) (h' : lets y = true) : lets (x ++ y) = true := by
  unfold lets at *
  rw [append_list, List.all_append, h, h']
  rfl
theorem len_app (x y : Str) : (x ++ y).length = x.length + y.length := by
  rw [len_list, append_list, List.length_append, ← len_list, ← len_list]
theorem len_cut (s : Str) (lo hi : Option Int) : (cutS s lo hi).length = min (HT.sIx s.length s.length hi - HT.sIx s.length 0 lo) (s.length - HT.sIx s.length 0 lo) := by
  rw [len_list, cutS_list, List.length_take, List.length_drop, ← len_list]
theorem len_cutH (s : Str) (k : Nat) : (cutS s none (some (k : Int))).length = min k s.length := by
  rw [len_cut, HT.sIx_none, HT.sIx_nat]
  omega
theorem nodup_len {α : Type} [DecidableEq α] : ∀ {l m : List α}, l.Nodup → (∀ x ∈ l, x ∈ m) → l.length ≤ m.length
  | [], _, _, _ => Nat.zero_le _
  | a :: l, m, h, hs => by
    obtain ⟨h1, h2⟩ := List.nodup_cons.mp h
    have hm := hs a (by simp)
    have := nodup_len (l := l) (m := m.erase a) h2 fun x hx => (List.mem_erase_of_ne (fun e : x = a => h1 (by rw [← e]; exact hx))).mpr (hs x (by simp [hx]))
    rw [List.length_erase_of_mem hm] at this
    have hp : 0 < m.length := List.length_pos_of_mem hm
    simp only [List.length_cons]
    omega
end DI

set_option Elab.async false
set_option linter.all false
set_option maxRecDepth 100000
set_option maxHeartbeats 8000000
namespace DI
open PySem L2

/-! ### the top's facts, gathered -/
def AllAt (P : Nat → FnD → Prop) : Nat → List FnD → Prop
  | _, [] => True
  | n, d :: r => P n d ∧ AllAt P (n + 1) r
theorem allAt_get {P : Nat → FnD → Prop} : ∀ {l : List FnD} {n : Nat}, AllAt P n l → ∀ f d, l[f]? = some d → P (n + f) d
  | [], _, _, f, d, h => by simp at h
  | a :: r, n, h, 0, d, e => by
    simp at e
    subst e
    exact h.1
  | a :: r, n, h, f + 1, d, e => by
    have := allAt_get h.2 f d (by simpa using e)
    have e : n + (f + 1) = n + 1 + f := by omega
    rw [e]
    exact this
theorem defs_all {P : Nat → FnD → Prop} {l : List FnD} (h : AllAt P 0 l) (f : Nat) (d : FnD) (e : l[f]? = some d) : P f d := by
  have := allAt_get h f d e
  rw [Nat.zero_add] at this
  exact this
def AllC (P : Str → T → Prop) : List (Str × T) → Prop
  | [] => True
  | p :: r => P p.1 p.2 ∧ AllC P r
theorem allC_get {P : Str → T → Prop} : ∀ {l : List (Str × T)}, AllC P l → ∀ x t, l.lookup x = some t → P x t
  | [], _, x, t, h => by cases h
  | (y, u) :: r, h, x, t, e => by
    rw [List.lookup_cons] at e
    by_cases hx : x = y
    · subst hx
      simp at e
      subst e
      exact h.1
    · have : (x == y) = false := by simpa using hx
      rw [this] at e
      exact allC_get h.2 x t e
def AtG (mg : Str → Option Value) (cl : Str → Option Addr) (x : Str) (t : T) : Prop := ∃ v u, (mg x = some u ∨ (mg x = none ∧ bootBuiltins x = some u ∧ x ≠ "__name__")) ∧ RelV v u ∧ ∀ (W : Wd), W.cl = cl → ∀ F, Tr W F v t
theorem atg_str {mg : Str → Option Value} {cl : Str → Option Addr} {x y : Str} {k : Tok} (h : mg x = some (.str y k)) (hl : y.length ≤ LIM) : AtG mg cl x (.str y) := ⟨.str y, .str y k, .inl h, ⟨k, rfl⟩, fun W _ F => .str _ hl⟩
theorem atg_int {mg : Str → Option Value} {cl : Str → Option Addr} {x : Str} {i : Int} {k : Tok} (h : mg x = some (.int i k)) : AtG mg cl x (.int i) := ⟨.int i, .int i k, .inl h, ⟨k, rfl⟩, fun W _ F => .int _⟩
theorem atg_ty {mg : Str → Option Value} {cl : Str → Option Addr} {x : Str} {n : String} (h : mg x = none) (hb : bootBuiltins x = some (.type n)) (hn : x ≠ "__name__") : AtG mg cl x (.ty n) := ⟨.ty n, .type n, .inr ⟨h, hb, hn⟩, rfl, fun W _ F => .ty _⟩
theorem atg_cls {mg : Str → Option Value} {cl : Str → Option Addr} {x : Str} {C : Addr} (h : mg x = some (.ref C)) (hc : cl x = some C) : AtG mg cl x (.cls x) := ⟨.ref C, .ref C, .inl h, rfl, fun W e F => .cls (by rw [e]; exact hc)⟩
def AllK (P : Nat → ClD → Prop) : Nat → List ClD → Prop
  | _, [] => True
  | n, d :: r => P n d ∧ AllK P (n + 1) r
theorem allK_get {P : Nat → ClD → Prop} : ∀ {l : List ClD} {n : Nat}, AllK P n l → ∀ f d, l[f]? = some d → P (n + f) d
  | [], _, _, f, d, h => by simp at h
  | a :: r, n, h, 0, d, e => by
    simp at e
    subst e
    exact h.1
  | a :: r, n, h, f + 1, d, e => by
    have := allK_get h.2 f d (by simpa using e)
    have e : n + (f + 1) = n + 1 + f := by omega
    rw [e]
    exact this
theorem clss_all {P : Nat → ClD → Prop} {l : List ClD} (h : AllK P 0 l) (f : Nat) (d : ClD) (e : l[f]? = some d) : P f d := by
  have := allK_get h f d e
  rw [Nat.zero_add] at this
  exact this
/-- what is written of a class -/
def clsOf (l : List (Str × Addr)) (n : Str) : Option Addr := l.lookup n
theorem clsOf_all {P : Str → Addr → Prop} : ∀ {l : List (Str × Addr)}, (∀ p ∈ l, P p.1 p.2) → ∀ n C, clsOf l n = some C → P n C
  | [], _, n, C, h => by cases h
  | (m, D) :: r, hp, n, C, h => by
    unfold clsOf at h
    rw [List.lookup_cons] at h
    cases q : n == m with
    | true =>
      rw [q] at h
      cases h
      rw [beq_iff_eq.mp q]
      exact hp (m, D) (by simp)
    | false =>
      rw [q] at h
      exact clsOf_all (l := r) (fun p hh => hp p (by simp [hh])) n C h
theorem kit_of_sub {K : PySem.W.Frag} {t : Value} {C : Addr} {b : Bool} (h1 : PySem.W.isClsIn K C = true) (h2 : PySem.W.typeIn K (.ref C) = some (.type "type")) (h3 : PySem.W.subIn K t (.ref C) = some b) (h4 : (t == .ref C) = false) : PySem.W.kitOne K t (.ref C) = some b := by
  unfold PySem.W.kitOne
  rw [if_neg (by rw [h4]; decide)]
  unfold PySem.W.kitCls
  simp only
  rw [if_pos (by rw [h2]; unfold PySem.W.isClsIn at h1; simp [h1]), h3]
theorem kit_of_ty {K : PySem.W.Frag} {n : String} {C : Addr} {b : Bool} (h1 : PySem.W.kitMeta n = true) (h3 : PySem.W.subIn K (.ref C) (.type n) = some b) : PySem.W.kitOne K (.ref C) (.type n) = some b := by
  unfold PySem.W.kitOne
  rw [if_neg (by simp)]
  unfold PySem.W.kitCls
  simp only
  rw [if_pos h1, h3]
theorem clsOk_mk {K : PySem.W.Frag} {C : Addr} (c1 : PySem.W.plainGet K C Str.empty = true) (c2 : PySem.W.hasDictIn K C = true) (c3 : PySem.W.plainOver K C = true) (c4 : PySem.W.findIn K (.ref C) "__setattr__" = some (some (.builtin "object.__setattr__")))
    (c5 : PySem.W.findIn K (.ref C) "__class__" = some (some (.builtin "object.__class__"))) (c6 : PySem.W.specialIn K (.builtin "object.__class__") "__get__" = some (some (.builtin "getset_descriptor.__get__"))) (c7 : PySem.W.takesIn K (.builtin "object.__class__") = some true) (c8 : PySem.W.mroIn K C (.type "object") = some true)
    (i1 : PySem.W.isClsIn K C = true) (i2 : PySem.W.typeIn K (.ref C) = some (.type "type")) (sf : PySem.W.selfFirst K C = true)
    (a1 : PySem.W.subIn K (.type "NoneType") (.ref C) = some false) (a2 : PySem.W.subIn K (.type "bool") (.ref C) = some false) (a3 : PySem.W.subIn K (.type "int") (.ref C) = some false) (a4 : PySem.W.subIn K (.type "str") (.ref C) = some false) (a5 : PySem.W.subIn K (.type "list") (.ref C) = some false) (a6 : PySem.W.subIn K (.type "tuple") (.ref C) = some false) (a7 : PySem.W.subIn K (.type "dict") (.ref C) = some false)
    (b1 : PySem.W.subIn K (.ref C) (.type "NoneType") = some false) (b2 : PySem.W.subIn K (.ref C) (.type "bool") = some false) (b3 : PySem.W.subIn K (.ref C) (.type "int") = some false) (b4 : PySem.W.subIn K (.ref C) (.type "str") = some false) (b5 : PySem.W.subIn K (.ref C) (.type "list") = some false) (b6 : PySem.W.subIn K (.ref C) (.type "tuple") = some false) (b7 : PySem.W.subIn K (.ref C) (.type "dict") = some false) : ClsOk K C := by
  have key : ∀ n ∈ kinds, PySem.W.subIn K (.type n) (.ref C) = some false ∧ PySem.W.subIn K (.ref C) (.type n) = some false ∧ PySem.W.kitMeta n = true := by
    intro n hn
    simp only [kinds, List.mem_cons, List.mem_nil_iff, or_false] at hn
    rcases hn with rfl | rfl | rfl | rfl | rfl | rfl | rfl
    · exact ⟨a1, b1, by decide +kernel⟩
    · exact ⟨a2, b2, by decide +kernel⟩
    · exact ⟨a3, b3, by decide +kernel⟩
    · exact ⟨a4, b4, by decide +kernel⟩
    · exact ⟨a5, b5, by decide +kernel⟩
    · exact ⟨a6, b6, by decide +kernel⟩
    · exact ⟨a7, b7, by decide +kernel⟩
  refine ⟨⟨c1, c2, c3, c4⟩, c5, c6, c7, c8, fun n hn => kit_of_sub i1 i2 (key n hn).1 (by simp), fun n hn => kit_of_ty (key n hn).2.2 (key n hn).2.1, fun n hn => ?_, sf⟩
  unfold PySem.W.notFirst
  simp [(key n hn).1]
theorem bindsTo_d {K : PySem.W.Frag} {s : Shared} {fd : FuncData} {args : Args} {T : Addr} {o : Obj} {its : Array Value} {n : Nat} {k : Option (Array Value) → Sem (List (Str × Value))} {r : List (Str × Value)} (X : K.In s.heap) (lT : K.lookup T = some o) (oT : o.data = .seq its n) (e1 : bindArgs fd args = seqItems? (.ref T) >>= k) (e2 : k (some its) = pure r) : BindsTo s fd args r := by
  refine BindsTo.of_looks fun M => ?_
  rw [e1]
  exact looks_items X lT oT (.of_pure e2)
theorem binds_d {K : PySem.W.Frag} {fd : FuncData} {ps : List Str} {T : Addr} {o : Obj} {its : Array Value} {n : Nat} (lT : K.lookup T = some o) (oT : o.data = .seq its n) (h : ∀ us : List Value, us.length = ps.length → ∃ k, bindArgs fd ⟨us, []⟩ = seqItems? (.ref T) >>= k ∧ k (some its) = pure (ps.zip us)) : Binds K fd ps [] := fun s us X hl => by
  rw [List.append_nil] at hl ⊢
  obtain ⟨k, e1, e2⟩ := h us hl
  exact bindsTo_d X lT oT e1 e2
/-- a def within a class -/
def inCls (st : Stmt) (j : Nat) : Stmt := match st with
  | .ClassDef (body := b) .. => b.getD j (.Pass ⟨0, 0, 0, 0⟩)
  | _ => .Pass ⟨0, 0, 0, 0⟩
theorem walk {l : PySem.W.OpenLaw} {q : Program} {loose : List Str} {XP : (Str → Option Value) → Heap → Prop} {YP : World → Heap → Prop} {d : DefRec} {K : Params → PySem.W.Frag} (hn : l.most = some 63) (hdf : d.params.defaults = [])
    (hY : ∀ (w : World) (h : Heap), YP w h → (K w.params).In h)
    (F : ∀ (w : World) (mg : Str → Option Value) (fa : Addr) (h : Heap), (K w.params).In h → h.Ns mainGlobals mg → mg d.name = some (.ref fa) →
      ∃ fd : FuncData, (∀ (s : Shared) (u : Value), BindsTo s fd ⟨[u], []⟩ [("_law_script", u)]) ∧ ∀ base : Heap, (K w.params).In base → base.Ns mainGlobals mg → FnOk l.prog w (K w.params) mg base CX0 40 fa fd ["_law_script"] (spLaw (K w.params))) :
    PySem.W.WalkO q loose XP YP l.row.toRowW d [] (fun f vs => PySem.call f vs) :=
  L2.walk_of (n := 63) (k := 40) (x := "_law_script") (CX := fun _ => CX0) (sp := fun w => spLaw (K w.params)) hn (by decide) hdf ⟨rfl, by decide, by decide⟩ hY F (fun _ _ a ns hl _ hS => ⟨a, ns, rfl, hS, hl, fun _ => rfl⟩) fun _ _ _ _ _ z => z
end DI

set_option Elab.async false
set_option linter.all false
set_option maxRecDepth 100000
set_option maxHeartbeats 4000000
namespace DI
open PySem L2

/-! ### straight code by rewriting -/
def outT : Out → Ev T
  | .ret t => Ev.pure t
  | .nx _ => Ev.pure .non
  | _ => Ev.no
@[simp] theorem outT_ret (t : T) : outT (.ret t) = Ev.pure t := rfl
@[simp] theorem outT_nx (s : List Sl) : outT (.nx s) = Ev.pure .non := rfl
def thn (I : Ien) (r : Ss) : Out → Ev Out
  | .nx s1 => exs I r s1
  | .ret t => Ev.pure (.ret t)
  | .bk s1 => Ev.pure (.bk s1)
  | .ct s1 => Ev.pure (.ct s1)
def outI : Out → Ev T
  | .nx (.own true t :: _) => Ev.pure t
  | _ => Ev.no
@[simp] theorem outI_own (t : T) (r : List Sl) : outI (.nx (.own true t :: r)) = Ev.pure t := rfl
section
variable {I : Ien} {r : Ss} {ss : List Sl}
@[simp] theorem thn_nx (s : List Sl) : thn I r (.nx s) = exs I r s := rfl
@[simp] theorem thn_ret (t : T) : thn I r (.ret t) = Ev.pure (.ret t) := rfl
@[simp] theorem thn_bk (s : List Sl) : thn I r (.bk s) = Ev.pure (.bk s) := rfl
@[simp] theorem thn_ct (s : List Sl) : thn I r (.ct s) = Ev.pure (.ct s) := rfl
@[simp] theorem evb_ite {α β : Type} (c : Prop) [Decidable c] (x y : Ev α) (f : α → Ev β) : Ev.bind (if c then x else y) f = if c then Ev.bind x f else Ev.bind y f := by split <;> rfl
@[simp] theorem evb_no {α β : Type} (f : α → Ev β) : Ev.bind (Ev.no : Ev α) f = Ev.no := rfl
@[simp] theorem of_none {α : Type} : Ev.of (none : Option α) = Ev.no := rfl
@[simp] theorem of_ite {α : Type} (c : Prop) [Decidable c] (x y : Option α) : Ev.of (if c then x else y) = if c then Ev.of x else Ev.of y := by split <;> rfl
@[simp] theorem x_nil : exs I .nil ss = Ev.pure (.nx ss) := rfl
@[simp] theorem x_ret (bs : List Nat) (e : E) : exs I (.cons (.ret bs e) r) ss = Ev.bind (evE I e (viewA bs 0 ss)) fun t => Ev.pure (.ret t) := by
  show Ev.bind (Ev.bind (evX I bs e ss) fun t => Ev.pure (Out.ret t)) _ = _
  rw [evb_assoc]; rfl
theorem thn_eq (o : Out) : (match o with
    | .nx s1 => exs I r s1
    | .ret t => Ev.pure (.ret t)
    | .bk s1 => Ev.pure (.bk s1)
    | .ct s1 => Ev.pure (.ct s1)) = thn I r o := by cases o <;> rfl
@[simp] theorem x_ite (bs : List Nat) (c : Te) (a d : Ss) : exs I (.cons (.ite bs c a d) r) ss = Ev.bind (evT I c (viewA bs 0 ss)) fun k => if k = true then Ev.bind (exs I a ss) (thn I r) else Ev.bind (exs I d ss) (thn I r) := by
  show Ev.bind (Ev.bind (evC I bs c ss) fun k => if k = true then exs I a ss else exs I d ss) _ = _
  rw [evb_assoc]
  congr 1
  funext k
  rw [evb_ite]
  congr 1 <;> (congr 1; funext o; exact thn_eq o)
@[simp] theorem x_asg (i : Nat) (bs : List Nat) (e : E) : exs I (.cons (.asg i bs e) r) ss = Ev.bind (evE I e (viewA bs 0 ss)) fun t => if i < ss.length then exs I r ((frz bs t ss).set i (.val t)) else Ev.no := by
  show Ev.bind (Ev.bind (evX I bs e ss) fun t => Ev.of (if i < ss.length then some (Out.nx ((frz bs t ss).set i (.val t))) else none)) _ = _
  rw [evb_assoc]
  congr 1
  funext t
  split <;> rfl
@[simp] theorem x_asgL (i : Nat) (bs : List Nat) (e : E) : exs I (.cons (.asgL i bs e) r) ss = Ev.bind (evE I e (viewA bs 0 ss)) fun t => if i < ss.length then exs I r ((frz bs t ss).set i (.val t)) else Ev.no := x_asg i bs e
@[simp] theorem x_unp (g : Tg) (bs : List Nat) (e : E) : exs I (.cons (.unp g bs e) r) ss = Ev.bind (evE I e (viewA bs 0 ss)) fun t => Ev.bind (Ev.of (tgS g t (frz bs t ss))) fun s1 => exs I r s1 := by
  show Ev.bind (Ev.bind (evX I bs e ss) fun t => Ev.of ((tgS g t (frz bs t ss)).map Out.nx)) _ = _
  rw [evb_assoc]
  congr 1
  funext t
  cases tgS g t (frz bs t ss) <;> rfl
@[simp] theorem x_exp (bs : List Nat) (e : E) : exs I (.cons (.exp bs e) r) ss = Ev.bind (evE I e (viewA bs 0 ss)) fun t => exs I r (frz bs t ss) := by
  show Ev.bind (Ev.bind (evX I bs e ss) fun t => Ev.pure (Out.nx (frz bs t ss))) _ = _
  rw [evb_assoc]; rfl
@[simp] theorem x_par2 (i j : Nat) (bs : List Nat) (x y : E) : exs I (.cons (.par2 i j bs x y) r) ss = Ev.bind (evE I x (viewA [] 0 ss)) fun t => Ev.bind (evE I y (viewA [] 0 ss)) fun u => if i < ss.length ∧ j < ss.length ∧ i ≠ j then exs I r ((ss.set i (.val t)).set j (.val u)) else Ev.no := by
  show Ev.bind (Ev.bind (evX I [] x ss) fun t => Ev.bind (evX I [] y ss) fun u => Ev.of (if i < ss.length ∧ j < ss.length ∧ i ≠ j then some (Out.nx ((ss.set i (.val t)).set j (.val u))) else none)) _ = _
  rw [evb_assoc]
  congr 1
  funext t
  rw [evb_assoc]
  congr 1
  funext u
  split <;> rfl
@[simp] theorem x_fset (i : Nat) (f : Str) (bs : List Nat) (e : E) : exs I (.cons (.fset i f bs e) r) ss = Ev.bind (evE I e (viewA bs 0 ss)) fun t => Ev.bind (Ev.of (match ss[i]? with
    | some (.own s (.obj c ns ts)) => if I.fok c f ∧ ns.length < 900 ∧ ns.length = ts.length ∧ (isAtom t ∨ i ∉ bs) then some ((frz bs t ss).set i (.own s (.obj c (putT f t ns ts).1 (putT f t ns ts).2))) else none
    | _ => none)) fun s1 => exs I r s1 := by
  show Ev.bind (Ev.bind (evX I bs e ss) fun t => Ev.of _) _ = _
  rw [evb_assoc]
  congr 1
  funext t
  cases h : ss[i]? with
  | none => rfl
  | some x =>
    cases x with
    | un => rfl
    | val t => rfl
    | own s o =>
      cases o <;> try rfl
      simp only
      split <;> rfl
@[simp] theorem x_dead : exs I (.cons .dead r) ss = Ev.no := rfl
@[simp] theorem x_pass : exs I (.cons .pass r) ss = exs I r ss := rfl
@[simp] theorem x_retN : exs I (.cons .retN r) ss = Ev.pure (.ret .non) := rfl
theorem runF_eq (n : Nat) (body : Ss) (as : List T) : runF I n body as = Ev.bind (exs I body (as.map .val ++ List.replicate (n - as.length) .un)) outT := by
  unfold runF
  congr 1
theorem runI_eq (c : Str) (n : Nat) (body : Ss) (as : List T) : runI I c n body as = Ev.bind (exs I body (.own true (.obj c [] []) :: (as.map .val ++ List.replicate (n - (as.length + 1)) .un))) outI := by
  unfold runI
  congr 1
end
/-- a call's worth by its body -/
theorem call_of {τ : Tb} {k f : Nat} {as : List T} {d : FnD} (h : τ.tab[f]? = some d) (hl : as.length = d.ps.length) : callI τ (k + 1) f as = Ev.bind (exs (ien τ k) d.body (as.map .val ++ List.replicate (d.N.length - as.length) .un)) outT := by
  rw [callI_succ]
  unfold runC
  rw [h]
  simp only
  rw [if_pos hl, runF_eq]
theorem init_of {τ : Tb} {k f : Nat} {as : List T} {d : ClD} (h : τ.ctab[f]? = some d) (hl : as.length = d.ps.length) : initI τ (k + 1) f as = Ev.bind (exs (ien τ k) d.body (.own true (.obj d.name [] []) :: (as.map .val ++ List.replicate (d.N.length - (as.length + 1)) .un))) outI := by
  rw [initI_succ]
  unfold runM
  rw [h]
  simp only
  rw [if_pos hl, runI_eq]
theorem Ok.fun {α : Type} {m : Ev α} {a : α} (h : ∀ b, Ok m b fun x b' => x = a ∧ b' = b) : m = Ev.pure a := by
  funext b
  exact (h b).get
@[simp] theorem ien_pars {τ : Tb} (k : Nat) : (ien τ k).pars = parsT τ := rfl
@[simp] theorem ien_mt {τ : Tb} (k : Nat) : (ien τ k).mt = mtT τ := rfl
@[simp] theorem ien_fok {τ : Tb} (k : Nat) : (ien τ k).fok = fokT τ := rfl
@[simp] theorem ien_mpars {τ : Tb} (k : Nat) : (ien τ k).mpars = mparsT τ := rfl
theorem atI_lt {α : Type} {xs : List α} {n : Nat} (h : n < xs.length) : atI xs (n : Int) = some xs[n] := by
  unfold atI ixN
  rw [if_pos (by omega), if_pos (by omega)]
  show xs[(n : Int).toNat]? = _
  simp [h]
@[simp] theorem atI_0 {α : Type} (x : α) (r : List α) : atI (x :: r) 0 = some x := atI_lt (n := 0) (by simp)
@[simp] theorem atI_1 {α : Type} (x y : α) (r : List α) : atI (x :: y :: r) 1 = some y := atI_lt (n := 1) (by simp)
@[simp] theorem atI_2 {α : Type} (x y z : α) (r : List α) : atI (x :: y :: z :: r) 2 = some z := atI_lt (n := 2) (by simp)
@[simp] theorem atI_3 {α : Type} (x y z u : α) (r : List α) : atI (x :: y :: z :: u :: r) 3 = some u := atI_lt (n := 3) (by simp)
@[simp] theorem blt_str (i : Int) : bltT .str [.int i] = if wide i ∧ (Str.ofString i.repr).length ≤ LIM then some (.str (Str.ofString i.repr)) else none := rfl
@[simp] theorem addT_str (a b : Str) : addT (.str a) (.str b) = if a.length + b.length ≤ LIM then some (.str (a ++ b)) else none := rfl
@[simp] theorem addT_lst (a b : List T) : addT (.lst a) (.lst b) = (catT a b).map .lst := rfl
@[simp] theorem addT_tup (a b : List T) : addT (.tup a) (.tup b) = (catT a b).map .tup := rfl
@[simp] theorem fmtT_int (i : Int) : fmtT (.int i) = if wide i ∧ (Str.ofString i.repr).length ≤ LIM then some (.str (Str.ofString i.repr)) else none := rfl
@[simp] theorem glue1_str (acc y : Str) : glue1 acc (.str y) = if (acc ++ y).length ≤ LIM then some (acc ++ y) else none := rfl
@[simp] theorem frz_nil (t : T) (ss : List Sl) : frz [] t ss = ss := rfl
@[simp] theorem fldT_obj (fok : Str → Str → Bool) (f c : Str) (ns : List Str) (ts : List T) : fldT fok f (.obj c ns ts) = if fok c f then (ns.zip ts).lookup f else none := rfl
/-- a comprehension whose turns are plain -/
theorem lcB_eq {α : Type} {I : Ien} {elt : E} {tg : Tg} {ρ : View} (f g : α → T) : ∀ (xs : List α), (∀ x ∈ xs, ∃ ρ', tgV tg (f x) (wipeV ρ (tgSlots tg)) = some ρ' ∧ evE I elt ρ' = Ev.pure (g x)) → lcB I elt tg ρ (xs.map f) = Ev.pure (xs.map g)
  | [], _ => rfl
  | x :: r, h => by
    obtain ⟨ρ', e1, e2⟩ := h x (by simp)
    have ih := lcB_eq f g r fun y hy => h y (by simp [hy])
    funext b
    have ih := congrFun ih b
    unfold lcB at ih ⊢
    simp only [List.map_cons, lcE, e1, Ev.bind, Ev.of, Ev.calm, e2, Ev.pure, ih, consO]
theorem lcC_eq {α : Type} {I : Ien} {elt : E} {tg : Tg} {c : Te} {ρ : View} (f g : α → T) (p : α → Bool) : ∀ (xs : List α), (∀ x ∈ xs, ∃ ρ', tgV tg (f x) (wipeV ρ (tgSlots tg)) = some ρ' ∧ evT I c ρ' = Ev.pure (p x) ∧ (p x = true → evE I elt ρ' = Ev.pure (g x))) → lcC I elt tg c ρ (xs.map f) = Ev.pure ((xs.filter p).map g)
  | [], _ => rfl
  | x :: r, h => by
    obtain ⟨ρ', e1, e2, e3⟩ := h x (by simp)
    have ih := lcC_eq f g p r fun y hy => h y (by simp [hy])
    funext b
    have ih := congrFun ih b
    unfold lcC at ih ⊢
    cases hp : p x with
    | true =>
      have e3 := e3 hp
      rw [hp] at e2
      simp only [List.map_cons, lcE, e1, Ev.bind, Ev.of, Ev.calm, e2, e3, Ev.pure, ih, consO, if_true, List.filter_cons, hp]
    | false =>
      rw [hp] at e2
      simp only [List.map_cons, lcE, e1, Ev.bind, Ev.of, Ev.calm, e2, Ev.pure, ih, consO, if_false, List.filter_cons, hp, Bool.false_eq_true]
end DI

set_option Elab.async false
set_option linter.all false
set_option maxRecDepth 100000
namespace K03
open PySem L2 DI
def top (i : Nat) : Stmt := PySem.Challenge.pw_deedranks_k03_whole_shares_added_and_mul.main.body.getD i (.Pass ⟨0, 0, 0, 0⟩)
abbrev F_is_whole : Nat := 0
abbrev F_common_divisor : Nat := 1
abbrev F_Share_add : Nat := 2
abbrev F_Share_sub : Nat := 3
abbrev F_Share_mul : Nat := 4
abbrev F_Share_rmul : Nat := 5
abbrev F_Share_eq : Nat := 6
abbrev F_Share_less : Nat := 7
abbrev F_Share_str : Nat := 8
abbrev F_l_draw : Nat := 9
abbrev F_l_pick : Nat := 10
abbrev F_l_same : Nat := 11
abbrev F_l_common : Nat := 12
abbrev F_l_low : Nat := 13
abbrev F_l_share_text : Nat := 14
abbrev F_l_fraction : Nat := 15
abbrev F_l_pair : Nat := 16
abbrev F_l_plus : Nat := 17
abbrev C_Share : Nat := 0
/-- is_whole -/
def b0 : Ss := (.cons (.ret [] (.and (.blt .isi (.cons (.var 0) (.cons (.glob (Str.ofString "int") (.ty "int")) .nil))) (.not (.blt .isi (.cons (.var 0) (.cons (.glob (Str.ofString "bool") (.ty "bool")) .nil))))))
    .nil)
def d0 : FnD := ⟨(Str.ofString "is_whole"), [(Str.ofString "value")], [(Str.ofString "value")], b0, none⟩
def s0 : Stmt := top 5
/-- common_divisor -/
def b1 : Ss := (.cons (.whl [] (.tr (.cmp .NotEq (.var 1) (.con (.int 0)))) (.cons (.par2 0 1 [] (.var 1) (.bin .Mod (.var 0) (.var 1)))
    .nil))
    (.cons (.ret [] (.blt .abs (.cons (.var 0) .nil)))
    .nil))
def d1 : FnD := ⟨(Str.ofString "common_divisor"), [(Str.ofString "first"), (Str.ofString "second")], [(Str.ofString "first"), (Str.ofString "second")], b1, none⟩
def s1 : Stmt := top 10
/-- ('Share', '__add__') -/
def b2 : Ss := (.cons (.ret [] (.mk C_Share (.cons (.bin .Add (.bin .Mult (.fld (.var 0) (Str.ofString "top")) (.fld (.var 1) (Str.ofString "bottom"))) (.bin .Mult (.fld (.var 1) (Str.ofString "top")) (.fld (.var 0) (Str.ofString "bottom")))) (.cons (.bin .Mult (.fld (.var 0) (Str.ofString "bottom")) (.fld (.var 1) (Str.ofString "bottom"))) .nil))))
    .nil)
def d2 : FnD := ⟨(Str.ofString "__add__"), [(Str.ofString "self"), (Str.ofString "other")], [(Str.ofString "self"), (Str.ofString "other")], b2, some (Str.ofString "Share")⟩
def s2 : Stmt := inCls (top 11) 1
/-- ('Share', '__sub__') -/
def b3 : Ss := (.cons (.ret [] (.mk C_Share (.cons (.bin .Sub (.bin .Mult (.fld (.var 0) (Str.ofString "top")) (.fld (.var 1) (Str.ofString "bottom"))) (.bin .Mult (.fld (.var 1) (Str.ofString "top")) (.fld (.var 0) (Str.ofString "bottom")))) (.cons (.bin .Mult (.fld (.var 0) (Str.ofString "bottom")) (.fld (.var 1) (Str.ofString "bottom"))) .nil))))
    .nil)
def d3 : FnD := ⟨(Str.ofString "__sub__"), [(Str.ofString "self"), (Str.ofString "other")], [(Str.ofString "self"), (Str.ofString "other")], b3, some (Str.ofString "Share")⟩
def s3 : Stmt := inCls (top 11) 2
/-- ('Share', '__mul__') -/
def b4 : Ss := (.cons (.ite [] (.tr (.blt .isi (.cons (.var 1) (.cons (.glob (Str.ofString "Share") (.cls (Str.ofString "Share"))) .nil)))) (.cons (.ret [] (.mk C_Share (.cons (.bin .Mult (.fld (.var 0) (Str.ofString "top")) (.fld (.var 1) (Str.ofString "top"))) (.cons (.bin .Mult (.fld (.var 0) (Str.ofString "bottom")) (.fld (.var 1) (Str.ofString "bottom"))) .nil))))
    .nil) .nil)
    (.cons (.ret [] (.mk C_Share (.cons (.bin .Mult (.fld (.var 0) (Str.ofString "top")) (.var 1)) (.cons (.fld (.var 0) (Str.ofString "bottom")) .nil))))
    .nil))
def d4 : FnD := ⟨(Str.ofString "__mul__"), [(Str.ofString "self"), (Str.ofString "other")], [(Str.ofString "self"), (Str.ofString "other")], b4, some (Str.ofString "Share")⟩
def s4 : Stmt := inCls (top 11) 3
/-- ('Share', '__rmul__') -/
def b5 : Ss := (.cons (.ret [] (.mk C_Share (.cons (.bin .Mult (.fld (.var 0) (Str.ofString "top")) (.var 1)) (.cons (.fld (.var 0) (Str.ofString "bottom")) .nil))))
    .nil)
def d5 : FnD := ⟨(Str.ofString "__rmul__"), [(Str.ofString "self"), (Str.ofString "other")], [(Str.ofString "self"), (Str.ofString "other")], b5, some (Str.ofString "Share")⟩
def s5 : Stmt := inCls (top 11) 4
/-- ('Share', '__eq__') -/
def b6 : Ss := (.cons (.ret [] (.and (.blt .isi (.cons (.var 1) (.cons (.glob (Str.ofString "Share") (.cls (Str.ofString "Share"))) .nil))) (.and (.cmp .Eq (.fld (.var 0) (Str.ofString "top")) (.fld (.var 1) (Str.ofString "top"))) (.cmp .Eq (.fld (.var 0) (Str.ofString "bottom")) (.fld (.var 1) (Str.ofString "bottom"))))))
    .nil)
def d6 : FnD := ⟨(Str.ofString "__eq__"), [(Str.ofString "self"), (Str.ofString "other")], [(Str.ofString "self"), (Str.ofString "other")], b6, some (Str.ofString "Share")⟩
def s6 : Stmt := inCls (top 11) 5
/-- ('Share', 'less') -/
def b7 : Ss := (.cons (.ret [] (.cmp .Lt (.bin .Mult (.fld (.var 0) (Str.ofString "top")) (.fld (.var 1) (Str.ofString "bottom"))) (.bin .Mult (.fld (.var 1) (Str.ofString "top")) (.fld (.var 0) (Str.ofString "bottom")))))
    .nil)
def d7 : FnD := ⟨(Str.ofString "less"), [(Str.ofString "self"), (Str.ofString "other")], [(Str.ofString "self"), (Str.ofString "other")], b7, some (Str.ofString "Share")⟩
def s7 : Stmt := inCls (top 11) 6
/-- ('Share', '__str__') -/
def b8 : Ss := (.cons (.ite [] (.tr (.cmp .Eq (.fld (.var 0) (Str.ofString "bottom")) (.con (.int 1)))) (.cons (.ret [] (.blt .str (.cons (.fld (.var 0) (Str.ofString "top")) .nil)))
    .nil) .nil)
    (.cons (.ret [] (.fstr (.cons (.fmt (.fld (.var 0) (Str.ofString "top"))) (.cons (.con (.str (Str.ofString "/"))) (.cons (.fmt (.fld (.var 0) (Str.ofString "bottom"))) .nil)))))
    .nil))
def d8 : FnD := ⟨(Str.ofString "__str__"), [(Str.ofString "self")], [(Str.ofString "self")], b8, some (Str.ofString "Share")⟩
def s8 : Stmt := inCls (top 11) 7
/-- _law_draw -/
def b9 : Ss := (.cons (.bset 0 4 (.bin .Add (.bget (.var 0) 4) (.con (.int 1))))
    (.cons (.ite [] (.and (.tr (.cmp .Eq (.bget (.var 0) 2) (.con (.int 0)))) (.tr (.cmp .Lt (.bget (.var 0) 1) (.blen (.var 0))))) (.cons (.asg 3 [] (.blt .abs (.cons (.bcell (.var 0)) .nil)))
    (.cons (.bset 0 1 (.bin .Add (.bget (.var 0) 1) (.con (.int 1))))
    (.cons (.ite [] (.tr (.cmp .GtE (.var 3) (.bin .Pow (.con (.int 10)) (.con (.int 18))))) (.cons (.bset 0 2 (.var 3))
    .nil) (.cons (.bset 0 3 (.bin .Mod (.blt .int (.cons (.bin .Add (.bin .Add (.bin .Mult (.bget (.var 0) 3) (.con (.int 40993))) (.bin .Mult (.bin .Mod (.blt .int (.cons (.var 3) .nil)) (.con (.int 2147483111))) (.con (.int 769)))) (.con (.int 41))) .nil)) (.con (.int 2147483323))))
    .nil))
    .nil))) .nil)
    (.cons (.ite [] (.tr (.cmp .Gt (.bget (.var 0) 2) (.con (.int 0)))) (.cons (.asg 4 [] (.bin .Mod (.blt .int (.cons (.bget (.var 0) 2) .nil)) (.var 1)))
    (.cons (.bset 0 2 (.bin .FloorDiv (.bget (.var 0) 2) (.var 1)))
    (.cons (.ret [] (.var 4))
    .nil))) .nil)
    (.cons (.asg 2 [] (.bget (.var 0) 3))
    (.cons (.bset 0 3 (.bin .Mod (.blt .int (.cons (.bin .Add (.bin .Add (.bin .Add (.bin .Pow (.var 2) (.con (.int 3))) (.bin .Mult (.var 2) (.con (.int 27611)))) (.bin .Mult (.bget (.var 0) 4) (.con (.int 1299709)))) (.con (.int 52361))) .nil)) (.con (.int 2147483323))))
    (.cons (.ret [] (.bin .Mod (.blt .int (.cons (.bin .Add (.bin .FloorDiv (.bget (.var 0) 3) (.con (.int 67))) (.bin .Mult (.bin .Mod (.blt .int (.cons (.bget (.var 0) 3) .nil)) (.con (.int 7919))) (.con (.int 53)))) .nil)) (.var 1)))
    .nil))))))
def d9 : FnD := ⟨(Str.ofString "_law_draw"), [(Str.ofString "_law_bag_here"), (Str.ofString "_law_many")], [(Str.ofString "_law_bag_here"), (Str.ofString "_law_many"), (Str.ofString "_law_seed"), (Str.ofString "_law_cell"), (Str.ofString "_law_digit")], b9, none⟩
def s9 : Stmt := top 14
/-- _law_pick -/
def b10 : Ss := (.cons (.ret [] (.idx (.var 1) (.call F_l_draw (.cons (.var 0) (.cons (.blt .len (.cons (.var 1) .nil)) .nil)))))
    .nil)
def d10 : FnD := ⟨(Str.ofString "_law_pick"), [(Str.ofString "_law_bag_here"), (Str.ofString "_law_some")], [(Str.ofString "_law_bag_here"), (Str.ofString "_law_some")], b10, none⟩
def s10 : Stmt := top 15
/-- _law_same -/
def b11 : Ss := (.cons (.ite [] (.tr (.blt .isi (.cons (.var 1) (.cons (.tup (.cons (.glob (Str.ofString "list") (.ty "list")) (.cons (.glob (Str.ofString "tuple") (.ty "tuple")) .nil))) .nil)))) (.cons (.ite [] (.or (.tr (.cmp .NotEq (.blt .isi (.cons (.var 0) (.cons (.glob (Str.ofString "list") (.ty "list")) .nil))) (.blt .isi (.cons (.var 1) (.cons (.glob (Str.ofString "list") (.ty "list")) .nil))))) (.tr (.cmp .NotEq (.blt .isi (.cons (.var 0) (.cons (.glob (Str.ofString "tuple") (.ty "tuple")) .nil))) (.blt .isi (.cons (.var 1) (.cons (.glob (Str.ofString "tuple") (.ty "tuple")) .nil)))))) (.cons (.ret [] (.con (.bl false)))
    .nil) .nil)
    (.cons (.ret [] (.and (.cmp .Eq (.blt .len (.cons (.var 0) .nil)) (.blt .len (.cons (.var 1) .nil))) (.blt .all (.cons (.lc0 (.call F_l_same (.cons (.var 2) (.cons (.var 3) .nil))) (.seq false (.cons (.name 2) (.cons (.name 3) .nil))) (.zip (.var 0) (.var 1))) .nil))))
    .nil)) .nil)
    (.cons (.ite [] (.or (.tr (.cmp .Is (.var 1) (.con .non))) (.tr (.cmp .Is (.var 0) (.con .non)))) (.cons (.ret [] (.and (.cmp .Is (.var 1) (.con .non)) (.cmp .Is (.var 0) (.con .non))))
    .nil) .nil)
    (.cons (.ite [] (.or (.tr (.blt .isi (.cons (.var 1) (.cons (.glob (Str.ofString "dict") (.ty "dict")) .nil)))) (.tr (.blt .isi (.cons (.var 0) (.cons (.glob (Str.ofString "dict") (.ty "dict")) .nil))))) (.cons (.ret [] (.and (.blt .isi (.cons (.var 1) (.cons (.glob (Str.ofString "dict") (.ty "dict")) .nil))) (.and (.blt .isi (.cons (.var 0) (.cons (.glob (Str.ofString "dict") (.ty "dict")) .nil))) (.cmp .Eq (.var 0) (.var 1)))))
    .nil) .nil)
    (.cons (.ite [] (.or (.tr (.blt .isi (.cons (.var 1) (.cons (.glob (Str.ofString "bool") (.ty "bool")) .nil)))) (.tr (.blt .isi (.cons (.var 0) (.cons (.glob (Str.ofString "bool") (.ty "bool")) .nil))))) (.cons (.ret [] (.and (.blt .isi (.cons (.var 1) (.cons (.glob (Str.ofString "bool") (.ty "bool")) .nil))) (.and (.blt .isi (.cons (.var 0) (.cons (.glob (Str.ofString "bool") (.ty "bool")) .nil))) (.cmp .Eq (.var 0) (.var 1)))))
    .nil) .nil)
    (.cons (.ite [] (.tr (.blt .isi (.cons (.var 1) (.cons (.glob (Str.ofString "int") (.ty "int")) .nil)))) (.cons (.ret [] (.and (.blt .isi (.cons (.var 0) (.cons (.glob (Str.ofString "int") (.ty "int")) .nil))) (.cmp .Eq (.var 0) (.var 1))))
    .nil) .nil)
    (.cons (.ret [] (.and (.blt .isi (.cons (.var 1) (.cons (.glob (Str.ofString "str") (.ty "str")) .nil))) (.and (.blt .isi (.cons (.var 0) (.cons (.glob (Str.ofString "str") (.ty "str")) .nil))) (.cmp .Eq (.var 0) (.var 1)))))
    .nil))))))
def d11 : FnD := ⟨(Str.ofString "_law_same"), [(Str.ofString "_law_found"), (Str.ofString "_law_due")], [(Str.ofString "_law_found"), (Str.ofString "_law_due"), (Str.ofString "_law_one"), (Str.ofString "_law_two")], b11, none⟩
def s11 : Stmt := top 16
/-- _law_common -/
def b12 : Ss := (.cons (.par2 2 3 [] (.blt .abs (.cons (.var 0) .nil)) (.blt .abs (.cons (.var 1) .nil)))
    (.cons (.whl [] (.tr (.cmp .Gt (.var 3) (.con (.int 0)))) (.cons (.par2 2 3 [] (.var 3) (.bin .Mod (.blt .int (.cons (.var 2) .nil)) (.var 3)))
    .nil))
    (.cons (.ret [] (.var 2))
    .nil)))
def d12 : FnD := ⟨(Str.ofString "_law_common"), [(Str.ofString "_law_one"), (Str.ofString "_law_two")], [(Str.ofString "_law_one"), (Str.ofString "_law_two"), (Str.ofString "_law_a"), (Str.ofString "_law_b")], b12, none⟩
def s12 : Stmt := top 17
/-- _law_low -/
def b13 : Ss := (.cons (.asg 2 [] (.call F_l_common (.cons (.var 0) (.cons (.var 1) .nil))))
    (.cons (.ret [] (.tup (.cons (.bin .FloorDiv (.var 0) (.var 2)) (.cons (.bin .FloorDiv (.var 1) (.var 2)) .nil))))
    .nil))
def d13 : FnD := ⟨(Str.ofString "_law_low"), [(Str.ofString "_law_top"), (Str.ofString "_law_bottom")], [(Str.ofString "_law_top"), (Str.ofString "_law_bottom"), (Str.ofString "_law_part")], b13, none⟩
def s13 : Stmt := top 18
/-- _law_share_text -/
def b14 : Ss := (.cons (.ret [] (.bin .Add (.blt .str (.cons (.idx (.var 0) (.con (.int 0))) .nil)) (.ife (.tr (.cmp .Eq (.idx (.var 0) (.con (.int 1))) (.con (.int 1)))) (.con (.str (Str.ofString ""))) (.bin .Add (.con (.str (Str.ofString "/"))) (.blt .str (.cons (.idx (.var 0) (.con (.int 1))) .nil))))))
    .nil)
def d14 : FnD := ⟨(Str.ofString "_law_share_text"), [(Str.ofString "_law_low_here")], [(Str.ofString "_law_low_here")], b14, none⟩
def s14 : Stmt := top 19
/-- _law_fraction -/
def b15 : Ss := (.cons (.asg 1 [] (.call F_l_pick (.cons (.var 0) (.cons (.lst (.cons (.con (.int 3)) (.cons (.con (.int 12)) (.cons (.con (.int 12)) (.cons (.con (.int 60)) (.cons (.bin .Pow (.con (.int 10)) (.con (.int 6))) (.cons (.bin .Pow (.con (.int 10)) (.con (.int 11))) .nil))))))) .nil))))
    (.cons (.asg 2 [] (.call F_l_pick (.cons (.var 0) (.cons (.lst (.cons (.con (.int 1)) (.cons (.con (.int 1)) (.cons (.con (.int 2)) (.cons (.con (.int 3)) (.cons (.con (.int 6)) (.cons (.con (.int 9)) .nil))))))) .nil))))
    (.cons (.ret [] (.tup (.cons (.bin .Mult (.var 2) (.bin .Sub (.call F_l_draw (.cons (.var 0) (.cons (.bin .Add (.bin .Mult (.con (.int 2)) (.var 1)) (.con (.int 1))) .nil))) (.var 1))) (.cons (.bin .Mult (.var 2) (.bin .Add (.con (.int 1)) (.call F_l_draw (.cons (.var 0) (.cons (.var 1) .nil))))) .nil))))
    .nil)))
def d15 : FnD := ⟨(Str.ofString "_law_fraction"), [(Str.ofString "_law_bag_here")], [(Str.ofString "_law_bag_here"), (Str.ofString "_law_size"), (Str.ofString "_law_factor")], b15, none⟩
def s15 : Stmt := top 20
/-- _law_pair -/
def b16 : Ss := (.cons (.ret [] (.tup (.cons (.fld (.var 0) (Str.ofString "top")) (.cons (.fld (.var 0) (Str.ofString "bottom")) .nil))))
    .nil)
def d16 : FnD := ⟨(Str.ofString "_law_pair"), [(Str.ofString "_law_one")], [(Str.ofString "_law_one")], b16, none⟩
def s16 : Stmt := top 21
/-- _law_plus -/
def b17 : Ss := (.cons (.ret [] (.call F_l_low (.cons (.bin .Add (.bin .Mult (.idx (.var 0) (.con (.int 0))) (.idx (.var 1) (.con (.int 1)))) (.bin .Mult (.bin .Mult (.var 2) (.idx (.var 1) (.con (.int 0)))) (.idx (.var 0) (.con (.int 1))))) (.cons (.bin .Mult (.idx (.var 0) (.con (.int 1))) (.idx (.var 1) (.con (.int 1)))) .nil))))
    .nil)
def d17 : FnD := ⟨(Str.ofString "_law_plus"), [(Str.ofString "_law_one"), (Str.ofString "_law_two"), (Str.ofString "_law_sign")], [(Str.ofString "_law_one"), (Str.ofString "_law_two"), (Str.ofString "_law_sign")], b17, none⟩
def s17 : Stmt := top 22
/-- Share -/
def cb0 : Ss := (.cons (.ite [] (.not (.tr (.call F_is_whole (.cons (.var 1) .nil)))) (.cons .dead
    .nil) .nil)
    (.cons (.ite [] (.or (.not (.tr (.call F_is_whole (.cons (.var 2) .nil)))) (.tr (.cmp .Lt (.var 2) (.con (.int 1))))) (.cons .dead
    .nil) .nil)
    (.cons (.asg 3 [] (.call F_common_divisor (.cons (.var 1) (.cons (.var 2) .nil))))
    (.cons (.fset 0 (Str.ofString "top") [] (.bin .FloorDiv (.var 1) (.var 3)))
    (.cons (.fset 0 (Str.ofString "bottom") [] (.bin .FloorDiv (.var 2) (.var 3)))
    .nil)))))
def cd0 : ClD := ⟨(Str.ofString "Share"), [(Str.ofString "top"), (Str.ofString "bottom")], [(Str.ofString "self"), (Str.ofString "top"), (Str.ofString "bottom"), (Str.ofString "common")], cb0⟩
def cs0 : Stmt := inCls (top 11) 0
def sBag : Stmt := top 13
def sLaw : Stmt := top 23
def τ : Tb where
  tab := [d0, d1, d2, d3, d4, d5, d6, d7, d8, d9, d10, d11, d12, d13, d14, d15, d16, d17]
  ctab := [cd0]
  con := [((Str.ofString "int"), .ty "int"), ((Str.ofString "str"), .ty "str"), ((Str.ofString "bool"), .ty "bool"), ((Str.ofString "list"), .ty "list"), ((Str.ofString "tuple"), .ty "tuple"), ((Str.ofString "dict"), .ty "dict"), ((Str.ofString "Share"), .cls (Str.ofString "Share"))]
  kw := []
  mkw := []
  tkw := []
  oi := [F_Share_mul, F_Share_rmul]
  fok := [((Str.ofString "Share"), (Str.ofString "top")), ((Str.ofString "Share"), (Str.ofString "bottom"))]
def lawN : List Str := [(Str.ofString "_law_script"), (Str.ofString "_law_bag_here"), (Str.ofString "_law_turn"), (Str.ofString "_law_parts"), (Str.ofString "_law_lows"), (Str.ofString "_law_many"), (Str.ofString "_law_told"), (Str.ofString "_law_due"), (Str.ofString "_law_both"), (Str.ofString "_law_total"), (Str.ofString "_law_one"), (Str.ofString "_law_two"), (Str.ofString "_law_three"), (Str.ofString "_law_a"), (Str.ofString "_law_b"), (Str.ofString "_law_c"), (Str.ofString "_law_product"), (Str.ofString "_law_times"), (Str.ofString "_law_k"), (Str.ofString "_law_top"), (Str.ofString "_law_bottom"), (Str.ofString "_law_late")]
def lawB : Ss := (.cons (.for_ (.name 2) [] (.rng1 (.con (.int 3))) (.cons (.asgL 3 [] (.lc0 (.call F_l_fraction (.cons (.var 1) .nil)) (.name 18) (.rng1 (.con (.int 3)))))
    (.cons (.asgL 4 [] (.lc0 (.call F_l_low (.cons (.var 19) (.cons (.var 20) .nil))) (.seq false (.cons (.name 19) (.cons (.name 20) .nil))) (.val (.var 3))))
    (.cons (.unp (.seq true (.cons (.name 10) (.cons (.name 11) (.cons (.name 12) .nil)))) [] (.lc0 (.mk C_Share (.cons (.var 19) (.cons (.var 20) .nil))) (.seq false (.cons (.name 19) (.cons (.name 20) .nil))) (.val (.var 3))))
    (.cons (.asg 5 [] (.call F_l_pick (.cons (.var 1) (.cons (.lst (.cons (.con (.int 0)) (.cons (.con (.int 1)) (.cons (.neg (.con (.int 1))) (.cons (.con (.int 7)) (.cons (.bin .Sub (.call F_l_draw (.cons (.var 1) (.cons (.bin .Pow (.con (.int 10)) (.con (.int 6))) .nil))) (.con (.int 500000))) .nil)))))) .nil))))
    (.cons (.asg 6 [] (.lst (.cons (.obin .Add F_Share_add (.var 10) (.var 11)) (.cons (.obin .Sub F_Share_sub (.var 10) (.var 11)) (.cons (.obin .Mult F_Share_mul (.var 10) (.var 11)) (.cons (.obinI .Mult F_Share_mul (.var 10) (.var 5)) (.cons (.orbin .Mult F_Share_rmul (.var 5) (.var 10)) (.cons (.obin .Sub F_Share_sub (.var 10) (.var 10)) (.cons (.obin .Add F_Share_add (.var 11) (.var 10)) (.cons (.obin .Mult F_Share_mul (.var 11) (.var 10)) (.cons (.obin .Sub F_Share_sub (.var 11) (.var 10)) (.cons (.obinI .Mult F_Share_mul (.var 10) (.con (.int 0))) .nil))))))))))))
    (.cons (.unp (.seq true (.cons (.name 13) (.cons (.name 14) (.cons (.name 15) .nil)))) [] (.var 4))
    (.cons (.par2 16 17 [] (.call F_l_low (.cons (.bin .Mult (.idx (.var 13) (.con (.int 0))) (.idx (.var 14) (.con (.int 0)))) (.cons (.bin .Mult (.idx (.var 13) (.con (.int 1))) (.idx (.var 14) (.con (.int 1)))) .nil))) (.call F_l_low (.cons (.bin .Mult (.var 5) (.idx (.var 13) (.con (.int 0)))) (.cons (.idx (.var 13) (.con (.int 1))) .nil))))
    (.cons (.asg 7 [] (.lst (.cons (.call F_l_plus (.cons (.var 13) (.cons (.var 14) (.cons (.con (.int 1)) .nil)))) (.cons (.call F_l_plus (.cons (.var 13) (.cons (.var 14) (.cons (.neg (.con (.int 1))) .nil)))) (.cons (.var 16) (.cons (.var 17) (.cons (.var 17) (.cons (.tup (.cons (.con (.int 0)) (.cons (.con (.int 1)) .nil))) (.cons (.call F_l_plus (.cons (.var 14) (.cons (.var 13) (.cons (.con (.int 1)) .nil)))) (.cons (.var 16) (.cons (.call F_l_plus (.cons (.var 14) (.cons (.var 13) (.cons (.neg (.con (.int 1))) .nil)))) (.cons (.tup (.cons (.con (.int 0)) (.cons (.con (.int 1)) .nil))) .nil))))))))))))
    (.cons (.ite [] (.not (.tr (.call F_l_same (.cons (.lc0 (.call F_l_pair (.cons (.var 21) .nil)) (.name 21) (.val (.var 6))) (.cons (.var 7) .nil))))) (.cons (.ret [] (.con (.bl false)))
    .nil) .nil)
    (.cons (.asg 8 [] (.lst (.cons (.ocmp .Eq F_Share_eq (.obin .Add F_Share_add (.obin .Add F_Share_add (.var 10) (.var 11)) (.var 12)) (.obin .Add F_Share_add (.var 10) (.obin .Add F_Share_add (.var 11) (.var 12)))) (.cons (.ocmp .Eq F_Share_eq (.obin .Mult F_Share_mul (.obin .Mult F_Share_mul (.var 10) (.var 11)) (.var 12)) (.obin .Mult F_Share_mul (.var 10) (.obin .Mult F_Share_mul (.var 11) (.var 12)))) (.cons (.ocmp .Eq F_Share_eq (.obin .Mult F_Share_mul (.var 10) (.obin .Add F_Share_add (.var 11) (.var 12))) (.obin .Add F_Share_add (.obin .Mult F_Share_mul (.var 10) (.var 11)) (.obin .Mult F_Share_mul (.var 10) (.var 12)))) (.cons (.ocmp .Eq F_Share_eq (.obin .Sub F_Share_sub (.obin .Add F_Share_add (.var 10) (.var 11)) (.var 11)) (.var 10)) (.cons (.ocmp .Eq F_Share_eq (.obin .Add F_Share_add (.obin .Sub F_Share_sub (.var 10) (.var 11)) (.var 11)) (.var 10)) (.cons (.ocmp .Eq F_Share_eq (.obinI .Mult F_Share_mul (.obin .Add F_Share_add (.var 10) (.var 11)) (.var 5)) (.obin .Add F_Share_add (.obinI .Mult F_Share_mul (.var 10) (.var 5)) (.orbin .Mult F_Share_rmul (.var 5) (.var 11)))) .nil))))))))
    (.cons (.ite [] (.not (.tr (.call F_l_same (.cons (.bin .Add (.var 8) (.lst (.cons (.ocmp .Eq F_Share_eq (.obin .Add F_Share_add (.var 10) (.var 11)) (.obin .Add F_Share_add (.var 11) (.var 10))) .nil))) (.cons (.bin .Mult (.lst (.cons (.con (.bl true)) .nil)) (.con (.int 7))) .nil))))) (.cons (.ret [] (.con (.bl false)))
    .nil) .nil)
    (.cons (.asg 9 [] (.call F_l_plus (.cons (.call F_l_plus (.cons (.var 13) (.cons (.var 14) (.cons (.con (.int 1)) .nil)))) (.cons (.var 15) (.cons (.con (.int 1)) .nil)))))
    (.cons (.ite [] (.not (.tr (.call F_l_same (.cons (.lst (.cons (.call F_l_pair (.cons (.obin .Add F_Share_add (.obin .Add F_Share_add (.var 10) (.var 11)) (.var 12)) .nil)) (.cons (.ostr F_Share_str (.obin .Add F_Share_add (.obin .Add F_Share_add (.var 10) (.var 11)) (.var 12))) .nil))) (.cons (.lst (.cons (.var 9) (.cons (.call F_l_share_text (.cons (.var 9) .nil)) .nil))) .nil))))) (.cons (.ret [] (.con (.bl false)))
    .nil) .nil)
    (.cons (.ite [] (.not (.tr (.call F_l_same (.cons (.lc0 (.call F_l_pair (.cons (.var 21) .nil)) (.name 21) (.val (.lst (.cons (.var 10) (.cons (.var 11) (.cons (.var 12) .nil)))))) (.cons (.var 4) .nil))))) (.cons (.ret [] (.con (.bl false)))
    .nil) .nil)
    (.cons (.ite [] (.not (.tr (.call F_l_same (.cons (.lst (.cons (.meth F_Share_less (.obin .Add F_Share_add (.var 10) (.var 11)) (.cons (.var 10) .nil)) (.cons (.meth F_Share_less (.var 10) (.cons (.obin .Add F_Share_add (.var 10) (.var 11)) .nil)) .nil))) (.cons (.lst (.cons (.cmp .Lt (.idx (.var 14) (.con (.int 0))) (.con (.int 0))) (.cons (.cmp .Gt (.idx (.var 14) (.con (.int 0))) (.con (.int 0))) .nil))) .nil))))) (.cons (.ret [] (.con (.bl false)))
    .nil) .nil)
    .nil))))))))))))))))
    (.cons (.ret [] (.con (.bl true)))
    .nil))
theorem f0 : fnsB d0.N d0.ps (defScope s0) = true := by decide +kernel
theorem c0 : chkSs (gmT τ) d0.body ⟨d0.N, defScope s0, fun _ => true⟩ (defBody s0) = true := by decide +kernel
theorem f1 : fnsB d1.N d1.ps (defScope s1) = true := by decide +kernel
theorem c1 : chkSs (gmT τ) d1.body ⟨d1.N, defScope s1, fun _ => true⟩ (defBody s1) = true := by decide +kernel
theorem f2 : fnsB d2.N d2.ps (defScope s2) = true := by decide +kernel
theorem c2 : chkSs (gmT τ) d2.body ⟨d2.N, defScope s2, fun _ => true⟩ (defBody s2) = true := by decide +kernel
theorem f3 : fnsB d3.N d3.ps (defScope s3) = true := by decide +kernel
theorem c3 : chkSs (gmT τ) d3.body ⟨d3.N, defScope s3, fun _ => true⟩ (defBody s3) = true := by decide +kernel
theorem f4 : fnsB d4.N d4.ps (defScope s4) = true := by decide +kernel
theorem c4 : chkSs (gmT τ) d4.body ⟨d4.N, defScope s4, fun _ => true⟩ (defBody s4) = true := by decide +kernel
theorem f5 : fnsB d5.N d5.ps (defScope s5) = true := by decide +kernel
theorem c5 : chkSs (gmT τ) d5.body ⟨d5.N, defScope s5, fun _ => true⟩ (defBody s5) = true := by decide +kernel
theorem f6 : fnsB d6.N d6.ps (defScope s6) = true := by decide +kernel
theorem c6 : chkSs (gmT τ) d6.body ⟨d6.N, defScope s6, fun _ => true⟩ (defBody s6) = true := by decide +kernel
theorem f7 : fnsB d7.N d7.ps (defScope s7) = true := by decide +kernel
theorem c7 : chkSs (gmT τ) d7.body ⟨d7.N, defScope s7, fun _ => true⟩ (defBody s7) = true := by decide +kernel
theorem f8 : fnsB d8.N d8.ps (defScope s8) = true := by decide +kernel
theorem c8 : chkSs (gmT τ) d8.body ⟨d8.N, defScope s8, fun _ => true⟩ (defBody s8) = true := by decide +kernel
theorem f9 : fnsB d9.N d9.ps (defScope s9) = true := by decide +kernel
theorem c9 : chkSs (gmT τ) d9.body ⟨d9.N, defScope s9, fun _ => true⟩ (defBody s9) = true := by decide +kernel
theorem f10 : fnsB d10.N d10.ps (defScope s10) = true := by decide +kernel
theorem c10 : chkSs (gmT τ) d10.body ⟨d10.N, defScope s10, fun _ => true⟩ (defBody s10) = true := by decide +kernel
theorem f11 : fnsB d11.N d11.ps (defScope s11) = true := by decide +kernel
theorem c11 : chkSs (gmT τ) d11.body ⟨d11.N, defScope s11, fun _ => true⟩ (defBody s11) = true := by decide +kernel
theorem f12 : fnsB d12.N d12.ps (defScope s12) = true := by decide +kernel
theorem c12 : chkSs (gmT τ) d12.body ⟨d12.N, defScope s12, fun _ => true⟩ (defBody s12) = true := by decide +kernel
theorem f13 : fnsB d13.N d13.ps (defScope s13) = true := by decide +kernel
theorem c13 : chkSs (gmT τ) d13.body ⟨d13.N, defScope s13, fun _ => true⟩ (defBody s13) = true := by decide +kernel
theorem f14 : fnsB d14.N d14.ps (defScope s14) = true := by decide +kernel
theorem c14 : chkSs (gmT τ) d14.body ⟨d14.N, defScope s14, fun _ => true⟩ (defBody s14) = true := by decide +kernel
theorem f15 : fnsB d15.N d15.ps (defScope s15) = true := by decide +kernel
theorem c15 : chkSs (gmT τ) d15.body ⟨d15.N, defScope s15, fun _ => true⟩ (defBody s15) = true := by decide +kernel
theorem f16 : fnsB d16.N d16.ps (defScope s16) = true := by decide +kernel
theorem c16 : chkSs (gmT τ) d16.body ⟨d16.N, defScope s16, fun _ => true⟩ (defBody s16) = true := by decide +kernel
theorem f17 : fnsB d17.N d17.ps (defScope s17) = true := by decide +kernel
theorem c17 : chkSs (gmT τ) d17.body ⟨d17.N, defScope s17, fun _ => true⟩ (defBody s17) = true := by decide +kernel
theorem cf0 : fnsB cd0.N (("self" : Str) :: cd0.ps) (defScope cs0) = true := by decide +kernel
theorem cc0 : chkSs (gmT τ) cd0.body ⟨cd0.N, defScope cs0, fun _ => true⟩ (defBody cs0) = true := by decide +kernel
theorem fL : fnsB lawN ["_law_script"] (defScope sLaw) = true := by decide +kernel
theorem cL : chkSs (gmT τ) lawB ⟨lawN, defScope sLaw, fun _ => true⟩ ((defBody sLaw).drop 1) = true := by decide +kernel
end K03

set_option Elab.async false
set_option linter.all false
set_option maxRecDepth 100000
set_option maxHeartbeats 4000000
namespace K03
open PySem L2 DI

theorem gcd_step (a b : Int) : Int.gcd b (a % b) = Int.gcd a b := by
  have h := Int.gcd_add_mul_right_right b (a % b) (a / b)
  have e : a % b + a / b * b = a := by
    have := Int.emod_add_mul_ediv a b
    rw [Int.mul_comm] at this
    exact this
  rw [e] at h
  rw [← h, Int.gcd_comm]
/-- x / y in lowest terms is N / D -/
structure Rep (x y N D : Int) : Prop where
  y0 : 0 < y
  d0 : 0 < D
  co : Int.gcd x y = 1
  eq : x * D = N * y
def gz (a b : Int) : Int := (Int.gcd a b : Int)
theorem gz_pos (a : Int) {b : Int} (h : 0 < b) : 0 < gz a b := by
  have := Int.gcd_pos_of_ne_zero_right a (b := b) (by omega)
  unfold gz
  omega
theorem gz_dl (a b : Int) : gz a b ∣ a := Int.gcd_dvd_left a b
theorem gz_dr (a b : Int) : gz a b ∣ b := Int.gcd_dvd_right a b
theorem gz_le (a : Int) {b : Int} (h : 0 < b) : gz a b ≤ b := Int.le_of_dvd h (gz_dr a b)
theorem lo_pos (a : Int) {b : Int} (h : 0 < b) : 0 < b / gz a b := Int.ediv_pos_of_pos_of_dvd h (Int.le_of_lt (gz_pos a h)) (gz_dr a b)
theorem rep_lo (a : Int) {b : Int} (h : 0 < b) : Rep (a / gz a b) (b / gz a b) a b := by
  refine ⟨lo_pos a h, h, Int.gcd_ediv_gcd_ediv_gcd (Int.gcd_pos_of_ne_zero_right a (by omega)), ?_⟩
  have h1 := Int.ediv_mul_cancel (gz_dl a b)
  have h2 := Int.ediv_mul_cancel (gz_dr a b)
  generalize a / gz a b = x at *
  generalize b / gz a b = y at *
  generalize gz a b = g at *
  grind
theorem rep_uniq {x y N D x' y' N' D' : Int} (r : Rep x y N D) (s : Rep x' y' N' D') (h : N * D' = N' * D) : x = x' ∧ y = y' := by
  obtain ⟨y0, d0, co, e⟩ := r
  obtain ⟨y0', d0', co', e'⟩ := s
  have hc : x * y' = x' * y := by
    refine Int.eq_of_mul_eq_mul_right (a := D * D') (by intro z; rcases Int.mul_eq_zero.mp z with z | z <;> omega) ?_
    grind
  have hn : x.natAbs * y'.natAbs = x'.natAbs * y.natAbs := by rw [← Int.natAbs_mul, ← Int.natAbs_mul, hc]
  have d1 : y.natAbs ∣ y'.natAbs := by
    refine Nat.Coprime.dvd_of_dvd_mul_left (m := x.natAbs) ?_ ⟨x'.natAbs, by rw [hn, Nat.mul_comm]⟩
    rw [Nat.Coprime, Nat.gcd_comm]
    exact co
  have d2 : y'.natAbs ∣ y.natAbs := by
    refine Nat.Coprime.dvd_of_dvd_mul_left (m := x'.natAbs) ?_ ⟨x.natAbs, by rw [← hn, Nat.mul_comm]⟩
    rw [Nat.Coprime, Nat.gcd_comm]
    exact co'
  have hy : y = y' := by
    have := Nat.dvd_antisymm d1 d2
    omega
  subst hy
  exact ⟨Int.eq_of_mul_eq_mul_right (by omega) hc, rfl⟩
/-- a value in lowest terms, below 2 ^ k -/
structure Sm (x y : Int) (k : Nat) : Prop where
  x1 : x.natAbs < 2 ^ k
  y1 : y.natAbs < 2 ^ k
theorem ediv_small {a g : Int} {k : Nat} (hd : g ∣ a) (hg : 0 < g) (h : a.natAbs < 2 ^ k) : (a / g).natAbs < 2 ^ k := by
  have e := Int.natAbs_ediv a g
  rw [if_pos (.inr (.inr hd))] at e
  rw [e]
  exact Nat.lt_of_le_of_lt (Nat.div_le_self _ _) h
theorem lo_small {a b : Int} {k : Nat} (hb : 0 < b) (h1 : a.natAbs < 2 ^ k) (h2 : b.natAbs < 2 ^ k) : Sm (a / gz a b) (b / gz a b) k :=
  ⟨ediv_small (gz_dl a b) (gz_pos a hb) h1, ediv_small (gz_dr a b) (gz_pos a hb) h2⟩
theorem mul_small {a b : Int} {j k : Nat} (h1 : a.natAbs < 2 ^ j) (h2 : b.natAbs < 2 ^ k) : (a * b).natAbs < 2 ^ (j + k) := by
  rw [Int.natAbs_mul, Nat.pow_add]
  exact Nat.mul_lt_mul'' h1 h2
theorem add_small {a b : Int} {k : Nat} (h1 : a.natAbs < 2 ^ k) (h2 : b.natAbs < 2 ^ k) : (a + b).natAbs < 2 ^ (k + 1) := by
  rw [Nat.pow_succ]
  omega
theorem sub_small {a b : Int} {k : Nat} (h1 : a.natAbs < 2 ^ k) (h2 : b.natAbs < 2 ^ k) : (a - b).natAbs < 2 ^ (k + 1) := by
  rw [Nat.pow_succ]
  omega
theorem mono_small {a : Int} {j k : Nat} (h : a.natAbs < 2 ^ j) (hk : j ≤ k) : a.natAbs < 2 ^ k := Nat.lt_of_lt_of_le h (Nat.pow_le_pow_right (by decide) hk)
theorem wide_of {a : Int} {k : Nat} (h : a.natAbs < 2 ^ k) (hk : k ≤ 300) : wide a = true := decide_eq_true (mono_small h hk)
theorem mul_of {a b : Int} (h1 : wide a = true) (h2 : wide b = true) : mulOk a b = true := by
  unfold mulOk
  simp [h1, h2]
/-! sums, products -/
theorem rep_add {x y N D x' y' N' D' : Int} (r : Rep x y N D) (s : Rep x' y' N' D') : Rep ((x * y' + x' * y) / gz (x * y' + x' * y) (y * y')) (y * y' / gz (x * y' + x' * y) (y * y')) (N * D' + N' * D) (D * D') := by
  have h := rep_lo (x * y' + x' * y) (Int.mul_pos r.y0 s.y0)
  refine ⟨h.y0, Int.mul_pos r.d0 s.d0, h.co, ?_⟩
  have e := h.eq
  generalize (x * y' + x' * y) / gz (x * y' + x' * y) (y * y') = u at *
  generalize y * y' / gz (x * y' + x' * y) (y * y') = v at *
  have e1 := r.eq
  have e2 := s.eq
  refine Int.eq_of_mul_eq_mul_right (a := y * y') (by have := Int.mul_pos r.y0 s.y0; omega) ?_
  grind
theorem rep_sub {x y N D x' y' N' D' : Int} (r : Rep x y N D) (s : Rep x' y' N' D') : Rep ((x * y' - x' * y) / gz (x * y' - x' * y) (y * y')) (y * y' / gz (x * y' - x' * y) (y * y')) (N * D' - N' * D) (D * D') := by
  have h := rep_lo (x * y' - x' * y) (Int.mul_pos r.y0 s.y0)
  refine ⟨h.y0, Int.mul_pos r.d0 s.d0, h.co, ?_⟩
  have e := h.eq
  generalize (x * y' - x' * y) / gz (x * y' - x' * y) (y * y') = u at *
  generalize y * y' / gz (x * y' - x' * y) (y * y') = v at *
  have e1 := r.eq
  have e2 := s.eq
  refine Int.eq_of_mul_eq_mul_right (a := y * y') (by have := Int.mul_pos r.y0 s.y0; omega) ?_
  grind
theorem rep_mul {x y N D x' y' N' D' : Int} (r : Rep x y N D) (s : Rep x' y' N' D') : Rep ((x * x') / gz (x * x') (y * y')) (y * y' / gz (x * x') (y * y')) (N * N') (D * D') := by
  have h := rep_lo (x * x') (Int.mul_pos r.y0 s.y0)
  refine ⟨h.y0, Int.mul_pos r.d0 s.d0, h.co, ?_⟩
  have e := h.eq
  generalize (x * x') / gz (x * x') (y * y') = u at *
  generalize y * y' / gz (x * x') (y * y') = v at *
  have e1 := r.eq
  have e2 := s.eq
  refine Int.eq_of_mul_eq_mul_right (a := y * y') (by have := Int.mul_pos r.y0 s.y0; omega) ?_
  grind
theorem rep_mulI {x y N D : Int} (m : Int) (r : Rep x y N D) : Rep ((x * m) / gz (x * m) y) (y / gz (x * m) y) (N * m) D := by
  have h := rep_lo (x * m) r.y0
  refine ⟨h.y0, r.d0, h.co, ?_⟩
  have e := h.eq
  generalize (x * m) / gz (x * m) y = u at *
  generalize y / gz (x * m) y = v at *
  have e1 := r.eq
  refine Int.eq_of_mul_eq_mul_right (a := y) (by have := r.y0; omega) ?_
  grind
theorem rep_self {x y : Int} (h : 0 < y) (c : Int.gcd x y = 1) : Rep x y x y := ⟨h, h, c, rfl⟩
/-- less, by the difference's sign -/
theorem less_iff {x y u v N D : Int} (hy : 0 < y) (r : Rep u v N D) : (u * y < x * v) ↔ (N * y < x * D) := by
  have e := r.eq
  have h1 : u * y * D = N * y * v := by grind
  have h2 : x * v * D = x * D * v := by grind
  constructor
  · intro h
    have := Int.mul_lt_mul_of_pos_right h r.d0
    rw [h1, h2] at this
    exact Int.lt_of_mul_lt_mul_right this (Int.le_of_lt r.y0)
  · intro h
    have := Int.mul_lt_mul_of_pos_right h r.y0
    rw [← h1, ← h2] at this
    exact Int.lt_of_mul_lt_mul_right this (Int.le_of_lt r.d0)
theorem less_iff' {x y u v N D : Int} (hy : 0 < y) (r : Rep u v N D) : (x * v < u * y) ↔ (x * D < N * y) := by
  have e := r.eq
  have h1 : u * y * D = N * y * v := by grind
  have h2 : x * v * D = x * D * v := by grind
  constructor
  · intro h
    have := Int.mul_lt_mul_of_pos_right h r.d0
    rw [h1, h2] at this
    exact Int.lt_of_mul_lt_mul_right this (Int.le_of_lt r.y0)
  · intro h
    have := Int.mul_lt_mul_of_pos_right h r.y0
    rw [← h1, ← h2] at this
    exact Int.lt_of_mul_lt_mul_right this (Int.le_of_lt r.d0)
end K03

set_option Elab.async false
set_option linter.all false
set_option maxRecDepth 100000
set_option maxHeartbeats 4000000
namespace K03
open PySem L2 DI
theorem whole_eq (k : Nat) (i : Int) : callI τ (k + 1) F_is_whole [.int i] = Ev.pure (.bl true) := by
  rw [call_of (d := d0) rfl rfl]
  rfl
theorem nat_of_wide {c : Int} (h : wide c = true) : c.natAbs < 2 ^ 300 := of_decide_eq_true h
theorem cd_eq (k : Nat) (a c : Int) (hc : 0 ≤ c) (hw : wide c = true) : callI τ (k + 1) F_common_divisor [.int a, .int c] = Ev.pure (.int (gz a c)) := by
  refine Ok.fun fun b => ?_
  rw [callI_succ]
  show Ok (runF (ien τ k) 2 b1 [.int a, .int c]) b _
  refine run_ok (st_whl (whlL_ok (J := fun ss b' => b' = b ∧ ∃ x y : Int, ss = [.val (.int x), .val (.int y)] ∧ 0 ≤ y ∧ Int.gcd x y = Int.gcd a c) (μ := fun ss _ => match ss with | [_, .val (.int y)] => y.toNat | _ => 0) (fun ss b' q => ?_) WF ⟨rfl, a, c, rfl, hc, rfl⟩ ?_))
  · obtain ⟨rfl, x, y, rfl, hy, hg⟩ := q
    by_cases h0 : y = 0
    · subst h0
      simp [evC]
      unfold gz
      rw [← hg, Int.gcd_zero_right]
      split <;> omega
    · have hp : 0 < y := by omega
      simp [evC, h0]
      simp [hp]
      refine ⟨⟨y, x % y, ⟨rfl, rfl⟩, Int.emod_nonneg _ h0, by rw [gcd_step]; exact hg⟩, ?_⟩
      have := Int.emod_lt_of_pos x hp
      have := Int.emod_nonneg x h0
      omega
  · show c.toNat < WF
    have h1 := nat_of_wide hw
    have h2 : (2 : Nat) ^ 300 ≤ 2 ^ 1000 := Nat.pow_le_pow_right (by decide) (by decide)
    have := WF_big
    omega

theorem lcommon_eq (k : Nat) (a c : Int) (hw : wide c = true) : callI τ (k + 1) F_l_common [.int a, .int c] = Ev.pure (.int (gz a c)) := by
  refine Ok.fun fun b => ?_
  rw [callI_succ]
  show Ok (runF (ien τ k) 4 b12 [.int a, .int c]) b _
  refine run_ok ?_
  unfold b12
  simp
  refine st_whl (whlL_ok (J := fun ss b' => b' = b ∧ ∃ x y : Int, ss = [.val (.int a), .val (.int c), .val (.int x), .val (.int y)] ∧ 0 ≤ x ∧ 0 ≤ y ∧ Int.gcd x y = Int.gcd a c) (μ := fun ss _ => match ss with | [_, _, _, .val (.int y)] => y.toNat | _ => 0) (fun ss b' q => ?_) WF ⟨rfl, _, _, rfl, ?_, ?_, ?_⟩ ?_)
  · obtain ⟨rfl, x, y, rfl, hx, hy, hg⟩ := q
    by_cases h0 : y = 0
    · subst h0
      simp [evC]
      unfold gz
      rw [← hg, Int.gcd_zero_right]
      omega
    · have hp : 0 < y := by omega
      simp [evC, hp]
      refine ⟨⟨y, x % y, ⟨rfl, rfl⟩, hy, Int.emod_nonneg _ h0, by rw [gcd_step]; exact hg⟩, ?_⟩
      have := Int.emod_lt_of_pos x hp
      have := Int.emod_nonneg x h0
      omega
  · split <;> omega
  · split <;> omega
  · have e1 : (if a < 0 then -a else a).natAbs = a.natAbs := by split <;> omega
    have e2 : (if c < 0 then -c else c).natAbs = c.natAbs := by split <;> omega
    show Nat.gcd _ _ = Nat.gcd _ _
    rw [e1, e2]
  · show (if c < 0 then -c else c).toNat < WF
    have h1 := nat_of_wide hw
    have h2 : (2 : Nat) ^ 300 ≤ 2 ^ 1000 := Nat.pow_le_pow_right (by decide) (by decide)
    have := WF_big
    split <;> omega
theorem wide_gz (a : Int) {c : Int} (hc : 0 < c) (hw : wide c = true) : wide (gz a c) = true := by
  have h1 := nat_of_wide hw
  have h2 := gz_le a hc
  have h3 := gz_pos a hc
  exact decide_eq_true (by omega)
/-- a pair in lowest terms -/
abbrev Pr := Int × Int
def lo (a b : Int) : Pr := (a / gz a b, b / gz a b)
def Tp (p : Pr) : T := .tup [.int p.1, .int p.2]
def Sh (p : Pr) : T := .obj (Str.ofString "Share") [Str.ofString "top", Str.ofString "bottom"] [.int p.1, .int p.2]
theorem low_eq (k : Nat) (a c : Int) (hc : 0 < c) (hw : wide c = true) : callI τ (k + 2) F_l_low [.int a, .int c] = Ev.pure (Tp (lo a c)) := by
  rw [call_of (d := d13) rfl rfl]
  show Ev.bind (exs (ien τ (k + 1)) b13 [.val (.int a), .val (.int c), .un]) outT = _
  unfold b13
  have h1 := gz_pos a hc
  have h2 := wide_gz a hc hw
  simp [ien_call, lcommon_eq k a c hw, h1, h2, LIM, Tp, lo]
theorem init_eq (k : Nat) (a c : Int) (hc : 0 < c) (hw : wide c = true) : initI τ (k + 2) C_Share [.int a, .int c] = Ev.pure (Sh (lo a c)) := by
  rw [init_of (d := cd0) rfl rfl]
  show Ev.bind (exs (ien τ (k + 1)) cb0 [.own true (.obj (Str.ofString "Share") [] []), .val (.int a), .val (.int c), .un]) outI = _
  unfold cb0
  have h1 := gz_pos a hc
  have h2 := wide_gz a hc hw
  have h3 : ¬ c < 1 := by omega
  have f1 : fokT τ (Str.ofString "Share") (Str.ofString "top") = true := by decide +kernel
  have f2 : fokT τ (Str.ofString "Share") (Str.ofString "bottom") = true := by decide +kernel
  have f3 : ¬ (Str.ofString "top" = Str.ofString "bottom") := by decide +kernel
  simp [ien_call, whole_eq k, cd_eq k a c (by omega) hw, h1, h2, h3, isAtom, putT, f1, f2, f3, Sh, lo]
end K03

set_option Elab.async false
set_option linter.all false
set_option maxRecDepth 100000
set_option maxHeartbeats 4000000
set_option exponentiation.threshold 400
namespace K03
open PySem L2 DI
/-- a good pair: N / D in lowest terms, below 2 ^ k -/
structure Gd (p : Pr) (k : Nat) (N D : Int) : Prop where
  rep : Rep p.1 p.2 N D
  sm : Sm p.1 p.2 k
def addS (p q : Pr) : Pr := lo (p.1 * q.2 + q.1 * p.2) (p.2 * q.2)
def subS (p q : Pr) : Pr := lo (p.1 * q.2 - q.1 * p.2) (p.2 * q.2)
def mulS (p q : Pr) : Pr := lo (p.1 * q.1) (p.2 * q.2)
def mulI (p : Pr) (m : Int) : Pr := lo (p.1 * m) p.2
section
variable {p q : Pr} {j k : Nat} {N D N' D' : Int}
theorem Gd.y0 (g : Gd p k N D) : 0 < p.2 := g.rep.y0
theorem Gd.wx (g : Gd p k N D) (h : k ≤ 300) : wide p.1 = true := wide_of g.sm.x1 h
theorem Gd.wy (g : Gd p k N D) (h : k ≤ 300) : wide p.2 = true := wide_of g.sm.y1 h
theorem gd_lo {a b : Int} (hb : 0 < b) (h1 : a.natAbs < 2 ^ k) (h2 : b.natAbs < 2 ^ k) : Gd (lo a b) k a b := ⟨rep_lo a hb, lo_small hb h1 h2⟩
theorem gd_add (g : Gd p j N D) (h : Gd q k N' D') : Gd (addS p q) (j + k + 1) (N * D' + N' * D) (D * D') := by
  refine ⟨rep_add g.rep h.rep, lo_small (Int.mul_pos g.y0 h.y0) (add_small (mul_small g.sm.x1 h.sm.y1) ?_) (mono_small (mul_small g.sm.y1 h.sm.y1) (by omega))⟩
  rw [Nat.add_comm]
  exact mul_small h.sm.x1 g.sm.y1
theorem gd_sub (g : Gd p j N D) (h : Gd q k N' D') : Gd (subS p q) (j + k + 1) (N * D' - N' * D) (D * D') := by
  refine ⟨rep_sub g.rep h.rep, lo_small (Int.mul_pos g.y0 h.y0) (sub_small (mul_small g.sm.x1 h.sm.y1) ?_) (mono_small (mul_small g.sm.y1 h.sm.y1) (by omega))⟩
  rw [Nat.add_comm]
  exact mul_small h.sm.x1 g.sm.y1
theorem gd_mul (g : Gd p j N D) (h : Gd q k N' D') : Gd (mulS p q) (j + k) (N * N') (D * D') :=
  ⟨rep_mul g.rep h.rep, lo_small (Int.mul_pos g.y0 h.y0) (mul_small g.sm.x1 h.sm.x1) (mul_small g.sm.y1 h.sm.y1)⟩
theorem gd_mulI (g : Gd p j N D) {m : Int} (h : m.natAbs < 2 ^ k) : Gd (mulI p m) (j + k) (N * m) D :=
  ⟨rep_mulI m g.rep, lo_small g.y0 (mul_small g.sm.x1 h) (mono_small g.sm.y1 (by omega))⟩
theorem Gd.eq (g : Gd p j N D) (h : Gd q k N' D') (e : N * D' = N' * D) : p = q := by
  obtain ⟨h1, h2⟩ := rep_uniq g.rep h.rep e
  exact Prod.ext h1 h2
theorem shf1 : fokT τ (Str.ofString "Share") (Str.ofString "top") = true := by decide +kernel
theorem shf2 : fokT τ (Str.ofString "Share") (Str.ofString "bottom") = true := by decide +kernel
@[simp] theorem fld_top (p : Pr) : fldT (fokT τ) (Str.ofString "top") (Sh p) = some (.int p.1) := by
  unfold Sh
  rw [fldT_obj, if_pos shf1]
  rfl
@[simp] theorem fld_bottom (p : Pr) : fldT (fokT τ) (Str.ofString "bottom") (Sh p) = some (.int p.2) := by
  unfold Sh
  rw [fldT_obj, if_pos shf2]
  have h : (Str.ofString "bottom" == Str.ofString "top") = false := by decide +kernel
  simp [List.lookup_cons, h]
section
variable (n : Nat)
theorem add_eq (g : Gd p j N D) (h : Gd q k N' D') (hk : j + k + 1 ≤ 300) : callI τ (n + 4) F_Share_add [Sh p, Sh q] = Ev.pure (Sh (addS p q)) := by
  rw [call_of (d := d2) rfl rfl]
  show Ev.bind (exs (ien τ (n + 3)) b2 [.val (Sh p), .val (Sh q)]) outT = _
  unfold b2
  have m1 := mul_of (g.wx (by omega)) (h.wy (by omega))
  have m2 := mul_of (h.wx (by omega)) (g.wy (by omega))
  have m3 := mul_of (g.wy (by omega)) (h.wy (by omega))
  have w := wide_of (mul_small g.sm.y1 h.sm.y1) (by omega)
  simp [ien_make, m1, m2, m3, init_eq n _ _ (Int.mul_pos g.y0 h.y0) w, addS]
theorem sub_eq (g : Gd p j N D) (h : Gd q k N' D') (hk : j + k + 1 ≤ 300) : callI τ (n + 4) F_Share_sub [Sh p, Sh q] = Ev.pure (Sh (subS p q)) := by
  rw [call_of (d := d3) rfl rfl]
  show Ev.bind (exs (ien τ (n + 3)) b3 [.val (Sh p), .val (Sh q)]) outT = _
  unfold b3
  have m1 := mul_of (g.wx (by omega)) (h.wy (by omega))
  have m2 := mul_of (h.wx (by omega)) (g.wy (by omega))
  have m3 := mul_of (g.wy (by omega)) (h.wy (by omega))
  have w := wide_of (mul_small g.sm.y1 h.sm.y1) (by omega)
  simp [ien_make, m1, m2, m3, init_eq n _ _ (Int.mul_pos g.y0 h.y0) w, subS]
theorem isi_sh (p : Pr) : isiT (Sh p) (.cls (Str.ofString "Share")) = some true := by rfl
theorem isi_int (i : Int) : isiT (.int i) (.cls (Str.ofString "Share")) = some false := by rfl
theorem mul_eq (g : Gd p j N D) (h : Gd q k N' D') (hk : j + k ≤ 300) : callI τ (n + 4) F_Share_mul [Sh p, Sh q] = Ev.pure (Sh (mulS p q)) := by
  rw [call_of (d := d4) rfl rfl]
  show Ev.bind (exs (ien τ (n + 3)) b4 [.val (Sh p), .val (Sh q)]) outT = _
  unfold b4
  have m1 := mul_of (g.wx (by omega)) (h.wx (by omega))
  have m3 := mul_of (g.wy (by omega)) (h.wy (by omega))
  have w := wide_of (mul_small g.sm.y1 h.sm.y1) (by omega)
  simp [ien_make, m1, m3, isi_sh, init_eq n _ _ (Int.mul_pos g.y0 h.y0) w, mulS]
theorem mulI_eq (g : Gd p j N D) {m : Int} (h : m.natAbs < 2 ^ k) (hk : j + k ≤ 300) : callI τ (n + 4) F_Share_mul [Sh p, .int m] = Ev.pure (Sh (mulI p m)) := by
  rw [call_of (d := d4) rfl rfl]
  show Ev.bind (exs (ien τ (n + 3)) b4 [.val (Sh p), .val (.int m)]) outT = _
  unfold b4
  have m1 := mul_of (g.wx (by omega)) (wide_of h (by omega))
  simp [ien_make, m1, isi_int, init_eq n _ _ g.y0 (g.wy (by omega)), mulI]
theorem rmul_eq (g : Gd p j N D) {m : Int} (h : m.natAbs < 2 ^ k) (hk : j + k ≤ 300) : callI τ (n + 4) F_Share_rmul [Sh p, .int m] = Ev.pure (Sh (mulI p m)) := by
  rw [call_of (d := d5) rfl rfl]
  show Ev.bind (exs (ien τ (n + 3)) b5 [.val (Sh p), .val (.int m)]) outT = _
  unfold b5
  have m1 := mul_of (g.wx (by omega)) (wide_of h (by omega))
  simp [ien_make, m1, init_eq n _ _ g.y0 (g.wy (by omega)), mulI]
theorem eq_eq (p q : Pr) : callI τ (n + 1) F_Share_eq [Sh p, Sh q] = Ev.pure (.bl (decide (p = q))) := by
  rw [call_of (d := d6) rfl rfl]
  show Ev.bind (exs (ien τ n) b6 [.val (Sh p), .val (Sh q)]) outT = _
  unfold b6
  obtain ⟨x, y⟩ := p
  obtain ⟨u, v⟩ := q
  simp [isi_sh]
  by_cases h1 : x = u
  · subst h1
    simp
  · simp [h1]
theorem less_eq (g : Gd p j N D) (h : Gd q k N' D') (hk : j ≤ 300 ∧ k ≤ 300) : callI τ (n + 1) F_Share_less [Sh p, Sh q] = Ev.pure (.bl (decide (p.1 * q.2 < q.1 * p.2))) := by
  rw [call_of (d := d7) rfl rfl]
  show Ev.bind (exs (ien τ n) b7 [.val (Sh p), .val (Sh q)]) outT = _
  unfold b7
  have m1 := mul_of (g.wx hk.1) (h.wy hk.2)
  have m2 := mul_of (h.wx hk.2) (g.wy hk.1)
  simp [m1, m2]
theorem len_wide {i : Int} (h : wide i = true) : (Str.ofString i.repr).length ≤ 1000 := by
  have h1 := PySem.Flt.log2_lt_of (by decide : 0 < 300) (nat_of_wide h)
  have e := int_text_length_le (k := 300) (by decide) h1
  show (Str.ofString (toString i)).length ≤ 1000
  rw [ofString_length]
  omega
def txt (p : Pr) : Str := if p.2 = 1 then (toString p.1 : Str) else (toString p.1 : Str) ++ (Str.ofString "/" ++ (toString p.2 : Str))
theorem str_eq (g : Gd p j N D) (hk : j ≤ 300) : callI τ (n + 1) F_Share_str [Sh p] = Ev.pure (.str (txt p)) := by
  rw [call_of (d := d8) rfl rfl]
  show Ev.bind (exs (ien τ n) b8 [.val (Sh p)]) outT = _
  unfold b8
  have h1 := len_wide (g.wx hk)
  have h2 := len_wide (g.wy hk)
  have l1 : (Str.ofString p.1.repr).length ≤ LIM := Nat.le_trans h1 (by decide)
  have l2 : (Str.ofString p.2.repr).length ≤ LIM := Nat.le_trans h2 (by decide)
  have e1 : Str.empty ++ (Str.ofString p.1.repr) = (Str.ofString p.1.repr) := str_ext (by rw [append_list]; rfl)
  have ls : (Str.ofString "/").length = 1 := by decide +kernel
  have l3 : ((Str.ofString p.1.repr) ++ Str.ofString "/").length ≤ LIM := by
    rw [len_app, ls]
    have : LIM = 1000000 := rfl
    omega
  have l4 : ((Str.ofString p.1.repr) ++ (Str.ofString "/" ++ (Str.ofString p.2.repr))).length ≤ LIM := by
    rw [len_app, len_app, ls]
    have : LIM = 1000000 := rfl
    omega
  have e2 : (Str.ofString p.1.repr) ++ Str.ofString "/" ++ (Str.ofString p.2.repr) = (Str.ofString p.1.repr) ++ (Str.ofString "/" ++ (Str.ofString p.2.repr)) := str_ext (by rw [append_list, append_list, append_list, append_list, List.append_assoc])
  by_cases h : p.2 = 1
  · simp [h, g.wx hk, l1, txt]
  · simp [h, g.wx hk, g.wy hk, l1, l2, l3, l4, e1, e2, txt]
theorem pair_eq (p : Pr) : callI τ (n + 1) F_l_pair [Sh p] = Ev.pure (Tp p) := by
  rw [call_of (d := d16) rfl rfl]
  show Ev.bind (exs (ien τ n) b16 [.val (Sh p)]) outT = _
  unfold b16
  simp [LIM, Tp]
theorem ltext_eq (g : Gd p j N D) (hk : j ≤ 300) : callI τ (n + 1) F_l_share_text [Tp p] = Ev.pure (.str (txt p)) := by
  rw [call_of (d := d14) rfl rfl]
  show Ev.bind (exs (ien τ n) b14 [.val (Tp p)]) outT = _
  unfold b14
  have h1 := len_wide (g.wx hk)
  have h2 := len_wide (g.wy hk)
  have l1 : (Str.ofString p.1.repr).length ≤ LIM := Nat.le_trans h1 (by decide)
  have l2 : (Str.ofString p.2.repr).length ≤ LIM := Nat.le_trans h2 (by decide)
  have ls : (Str.ofString "/").length = 1 := by decide +kernel
  have l0 : (Str.ofString "").length = 0 := by decide +kernel
  have a0 : atI [T.int p.1, T.int p.2] 0 = some (.int p.1) := rfl
  have a1 : atI [T.int p.1, T.int p.2] 1 = some (.int p.2) := rfl
  have hL : LIM = 1000000 := rfl
  have l3 : 1 + (Str.ofString p.2.repr).length ≤ LIM := by omega
  have l4 : (Str.ofString p.1.repr).length + (1 + (Str.ofString p.2.repr).length) ≤ LIM := by omega
  have ee : (Str.ofString "").cps.toList = [] := by decide +kernel
  have e0 : (Str.ofString p.1.repr) ++ Str.ofString "" = (Str.ofString p.1.repr) := str_ext (by rw [append_list, ee, List.append_nil])
  by_cases h : p.2 = 1
  · simp [Tp, h, g.wx hk, l0, l1, e0, txt]
  · simp [Tp, h, g.wx hk, g.wy hk, l1, l2, l3, l4, ls, len_app, txt]
theorem plus_eq (g : Gd p j N D) (h : Gd q k N' D') (hk : j + k + 1 ≤ 300) (s : Int) (hs : s = 1 ∨ s = -1) : callI τ (n + 3) F_l_plus [Tp p, Tp q, .int s] = Ev.pure (Tp (if s = 1 then addS p q else subS p q)) := by
  rw [call_of (d := d17) rfl rfl]
  show Ev.bind (exs (ien τ (n + 2)) b17 [.val (Tp p), .val (Tp q), .val (.int s)]) outT = _
  unfold b17
  have a0 : ∀ r : Pr, atI [T.int r.1, T.int r.2] 0 = some (.int r.1) := fun _ => rfl
  have a1 : ∀ r : Pr, atI [T.int r.1, T.int r.2] 1 = some (.int r.2) := fun _ => rfl
  have m0 : mulOk s q.1 = true := mul_left (by rcases hs with rfl | rfl <;> decide)
  have ws : wide (s * q.1) = true := by
    have := h.wx (by omega)
    rcases hs with rfl | rfl
    · simpa using this
    · have e : (-1 : Int) * q.1 = - q.1 := by omega
      rw [e]
      unfold wide at *
      simpa using this
  have m1 := mul_of (g.wx (by omega)) (h.wy (by omega))
  have m2 := mul_of ws (g.wy (by omega))
  have m3 := mul_of (g.wy (by omega)) (h.wy (by omega))
  have w := wide_of (mul_small g.sm.y1 h.sm.y1) (by omega)
  rcases hs with rfl | rfl <;> simp at m2
  · simp [ien_call, Tp, m0, m1, m2, m3]
    rw [low_eq n _ _ (Int.mul_pos g.y0 h.y0) w]
    simp [Tp, addS]
  · simp [ien_call, Tp, m0, m1, m2, m3]
    rw [low_eq n _ _ (Int.mul_pos g.y0 h.y0) w]
    simp [Tp, subS, Int.sub_eq_add_neg, Int.neg_mul]
end
end
end K03

set_option Elab.async false
set_option linter.all false
set_option maxRecDepth 100000
set_option maxHeartbeats 4000000
set_option exponentiation.threshold 400
namespace K03
open PySem L2 DI
theorem same_int (k : Nat) (i : Int) : callI τ (k + 1) F_l_same [.int i, .int i] = Ev.pure (.bl true) := by
  rw [call_of (d := d11) rfl rfl]
  show Ev.bind (exs (ien τ k) b11 [.val (.int i), .val (.int i), .un, .un]) outT = _
  unfold b11
  have h1 : isiT (.int i) (.tup [.ty "list", .ty "tuple"]) = some false := rfl
  have h2 : isiT (.int i) (.ty "dict") = some false := rfl
  have h3 : isiT (.int i) (.ty "bool") = some false := rfl
  have h4 : isiT (.int i) (.ty "int") = some true := rfl
  simp [h1, h2, h3, h4, LIM, isNon]
theorem same_bl (k : Nat) (i : Bool) : callI τ (k + 1) F_l_same [.bl i, .bl i] = Ev.pure (.bl true) := by
  rw [call_of (d := d11) rfl rfl]
  show Ev.bind (exs (ien τ k) b11 [.val (.bl i), .val (.bl i), .un, .un]) outT = _
  unfold b11
  have h1 : isiT (.bl i) (.tup [.ty "list", .ty "tuple"]) = some false := rfl
  have h2 : isiT (.bl i) (.ty "dict") = some false := rfl
  have h3 : isiT (.bl i) (.ty "bool") = some true := rfl
  simp [h1, h2, h3, LIM, isNon]
theorem same_str (k : Nat) (i : Str) : callI τ (k + 1) F_l_same [.str i, .str i] = Ev.pure (.bl true) := by
  rw [call_of (d := d11) rfl rfl]
  show Ev.bind (exs (ien τ k) b11 [.val (.str i), .val (.str i), .un, .un]) outT = _
  unfold b11
  have h1 : isiT (.str i) (.tup [.ty "list", .ty "tuple"]) = some false := rfl
  have h2 : isiT (.str i) (.ty "dict") = some false := rfl
  have h3 : isiT (.str i) (.ty "bool") = some false := rfl
  have h4 : isiT (.str i) (.ty "int") = some false := rfl
  have h5 : isiT (.str i) (.ty "str") = some true := rfl
  simp [h1, h2, h3, h4, h5, LIM, isNon]
theorem same_items (k : Nat) (t u : T) (ts : List T) (h : ∀ t ∈ ts, callI τ k F_l_same [t, t] = Ev.pure (.bl true)) :
    lcB (ien τ k) (.call F_l_same (.cons (.var 2) (.cons (.var 3) .nil))) (.seq false (.cons (.name 2) (.cons (.name 3) .nil))) [some t, some u, none, none] ((ts.zip ts).map fun p => .tup [p.1, p.2]) = Ev.pure ((ts.zip ts).map fun _ => .bl true) := by
  funext b
  unfold lcB
  refine lcE_map2 (g := fun _ _ => .bl true) (by simp [wipeV, tgSlots, tgsSlots]) (by simp [wipeV, tgSlots, tgsSlots]) fun p hp => ?_
  obtain ⟨x, y⟩ := p
  have hx : x = y ∧ y ∈ ts := by
    clear h
    induction ts with
    | nil => cases hp
    | cons a r ih =>
      simp only [List.zip_cons_cons, List.mem_cons, Prod.mk.injEq] at hp
      rcases hp with ⟨rfl, rfl⟩ | hp
      · simp
      · have := ih hp
        simp [this.1, this.2]
  obtain ⟨rfl, hx⟩ := hx
  simp [wipeV, tgSlots, tgsSlots, ien_call, h x hx]
  rfl
theorem zip_true (ts : List T) : boolsT ((ts.zip ts).map fun _ => T.bl true) = some ((ts.zip ts).map fun _ => true) := bools_fun (fun _ => true) _
theorem same_lst (k : Nat) (ts : List T) (h : ∀ t ∈ ts, callI τ (k + 1) F_l_same [t, t] = Ev.pure (.bl true)) : callI τ (k + 2) F_l_same [.lst ts, .lst ts] = Ev.pure (.bl true) := by
  rw [call_of (d := d11) rfl rfl]
  show Ev.bind (exs (ien τ (k + 1)) b11 [.val (.lst ts), .val (.lst ts), .un, .un]) outT = _
  unfold b11
  have h1 : isiT (.lst ts) (.tup [.ty "list", .ty "tuple"]) = some true := rfl
  have h2 : isiT (.lst ts) (.ty "list") = some true := rfl
  have h3 : isiT (.lst ts) (.ty "tuple") = some false := rfl
  simp [h1, h2, h3, LIM, same_items (k + 1) _ _ ts h, zip_true]
  have e : ((ts.zip ts).all fun _ => true) = true := by simp [List.all_eq_true]
  rw [e]
theorem same_tup (k : Nat) (ts : List T) (h : ∀ t ∈ ts, callI τ (k + 1) F_l_same [t, t] = Ev.pure (.bl true)) : callI τ (k + 2) F_l_same [.tup ts, .tup ts] = Ev.pure (.bl true) := by
  rw [call_of (d := d11) rfl rfl]
  show Ev.bind (exs (ien τ (k + 1)) b11 [.val (.tup ts), .val (.tup ts), .un, .un]) outT = _
  unfold b11
  have h1 : isiT (.tup ts) (.tup [.ty "list", .ty "tuple"]) = some true := rfl
  have h2 : isiT (.tup ts) (.ty "list") = some false := rfl
  have h3 : isiT (.tup ts) (.ty "tuple") = some true := rfl
  simp [h1, h2, h3, LIM, same_items (k + 1) _ _ ts h, zip_true]
  have e : ((ts.zip ts).all fun _ => true) = true := by simp [List.all_eq_true]
  rw [e]
theorem same_Tp (k : Nat) (p : Pr) : callI τ (k + 2) F_l_same [Tp p, Tp p] = Ev.pure (.bl true) := same_tup k _ fun t ht => by
  simp at ht
  rcases ht with rfl | rfl <;> exact same_int k _
/-! ### drawing -/
theorem draw_k (k : Nat) (b : Bag) (m : Int) (ok : BagOk b) (hm : 0 < m) (hw : wide m = true) : Ok (callI τ (k + 1) F_l_draw [.bag, .int m]) b fun t b' => BagOk b' ∧ ∃ d, t = .int d ∧ 0 ≤ d ∧ d < m := draw_ok (I := ien τ k) b m ok hm hw
theorem pick_k (k : Nat) (b : Bag) (ts : List T) (ok : BagOk b) (h0 : ts ≠ []) (h1 : ts.length ≤ 1000) : Ok (callI τ (k + 2) F_l_pick [.bag, .lst ts]) b fun t b' => BagOk b' ∧ t ∈ ts := by
  rw [call_of (d := d10) rfl rfl]
  show Ok (Ev.bind (exs (ien τ (k + 1)) b10 [.val .bag, .val (.lst ts)]) outT) b _
  unfold b10
  have hl : 0 < ts.length := List.length_pos_iff.mpr h0
  simp [ien_call]
  refine Ok.then (draw_k k b ts.length ok (by omega) (wide_small (by omega) (by omega))) fun t b' q => ?_
  obtain ⟨ok', d, rfl, d0, d1⟩ := q
  obtain ⟨v, e, hv⟩ := atI_in d0 d1
  simp [e]
  exact ⟨ok', hv⟩
theorem fraction_k (k : Nat) (b : Bag) (ok : BagOk b) : Ok (callI τ (k + 3) F_l_fraction [.bag]) b fun t b' => BagOk b' ∧ ∃ a c : Int, t = Tp (a, c) ∧ 0 < c ∧ c.natAbs < 2 ^ 40 ∧ a.natAbs < 2 ^ 40 := by
  rw [call_of (d := d15) rfl rfl]
  show Ok (Ev.bind (exs (ien τ (k + 2)) b15 [.val .bag, .un, .un]) outT) b _
  unfold b15
  simp [ien_call, LIM]
  refine Ok.then (pick_k k b _ ok (by simp) (by simp)) fun t b1 q => ?_
  obtain ⟨ok1, hs⟩ := q
  obtain ⟨sz, rfl, s0, s1⟩ : ∃ sz : Int, t = .int sz ∧ 1 ≤ sz ∧ sz ≤ 10 ^ 11 := by
    simp at hs
    rcases hs with rfl | rfl | rfl | rfl | rfl <;> exact ⟨_, rfl, by decide, by decide⟩
  simp
  refine Ok.then (pick_k k b1 _ ok1 (by simp) (by simp)) fun t b2 q => ?_
  obtain ⟨ok2, hf⟩ := q
  obtain ⟨f, rfl, f0, f1⟩ : ∃ f : Int, t = .int f ∧ 1 ≤ f ∧ f ≤ 9 := by
    simp at hf
    rcases hf with rfl | rfl | rfl | rfl | rfl <;> exact ⟨_, rfl, by decide, by decide⟩
  have m1 : mulOk 2 sz = true := mul_left (by decide)
  simp [m1]
  refine Ok.then (draw_k (k + 1) b2 _ ok2 (by omega) (wide_small (by omega) (by omega))) fun t b3 q => ?_
  obtain ⟨ok3, d, rfl, d0, d1⟩ := q
  have m2 : mulOk f (d - sz) = true := mul_left (by omega)
  simp [m2]
  refine Ok.then (draw_k (k + 1) b3 _ ok3 (by omega) (wide_small (by omega) (by omega))) fun t b4 q => ?_
  obtain ⟨ok4, e, rfl, e0, e1⟩ := q
  have m3 : mulOk f (1 + e) = true := mul_left (by omega)
  simp [m3]
  refine ⟨ok4, f * (d - sz), f * (1 + e), rfl, Int.mul_pos (by omega) (by omega), ?_, ?_⟩
  · rw [Int.natAbs_mul]
    have : f.natAbs * (1 + e).natAbs ≤ 9 * 10 ^ 11 := Nat.mul_le_mul (by omega) (by omega)
    omega
  · rw [Int.natAbs_mul]
    have : f.natAbs * (d - sz).natAbs ≤ 9 * 10 ^ 11 := Nat.mul_le_mul (by omega) (by omega)
    omega
end K03

set_option Elab.async false
set_option linter.all false
set_option maxRecDepth 100000
set_option maxHeartbeats 8000000
set_option exponentiation.threshold 400
namespace K03
open PySem L2 DI
theorem mt2 : mtT τ F_Share_add = (Str.ofString "Share", Str.ofString "__add__") := rfl
theorem mt3 : mtT τ F_Share_sub = (Str.ofString "Share", Str.ofString "__sub__") := rfl
theorem mt4 : mtT τ F_Share_mul = (Str.ofString "Share", Str.ofString "__mul__") := rfl
theorem mt5 : mtT τ F_Share_rmul = (Str.ofString "Share", Str.ofString "__rmul__") := rfl
theorem mt6 : mtT τ F_Share_eq = (Str.ofString "Share", Str.ofString "__eq__") := rfl
theorem mt7 : mtT τ F_Share_less = (Str.ofString "Share", Str.ofString "less") := rfl
theorem mt8 : mtT τ F_Share_str = (Str.ofString "Share", Str.ofString "__str__") := rfl
theorem kd_sh (p : Pr) : kdObj (Str.ofString "Share") (Sh p) = some () := by simp [Sh]
theorem om_sh (p : Pr) : objM (Str.ofString "Share", Str.ofString "less") (Sh p) = some () := by
  have h : Str.ofString "less" ∉ [Str.ofString "top", Str.ofString "bottom"] := by decide +kernel
  have e : objM (Str.ofString "Share", Str.ofString "less") (Sh p) = if (Str.ofString "Share" = Str.ofString "Share" ∧ Str.ofString "less" ∉ [Str.ofString "top", Str.ofString "bottom"]) then some () else none := rfl
  rw [e, if_pos ⟨rfl, h⟩]
theorem kdOf_sh (p : Pr) : kdOf (Sh p) = some (.obj (Str.ofString "Share")) := rfl
theorem lo_zero {d : Int} (h : 0 < d) : lo 0 d = (0, 1) := by
  have e : gz 0 d = d := by
    unfold gz
    rw [Int.gcd_zero_left]
    omega
  unfold lo
  rw [e, Int.ediv_self (by omega), Int.zero_ediv]
theorem neg_iff {x k : Int} (hk : 0 < k) : x * k < 0 ↔ x < 0 := by
  constructor
  · intro h
    apply Classical.byContradiction
    intro hx
    have := Int.mul_nonneg (a := x) (b := k) (by omega) (by omega)
    omega
  · intro h
    exact Int.mul_neg_of_neg_of_pos h hk
theorem pos_iff {x k : Int} (hk : 0 < k) : 0 < x * k ↔ 0 < x := by
  constructor
  · intro h
    apply Classical.byContradiction
    intro hx
    have := Int.mul_nonneg (a := -x) (b := k) (by omega) (by omega)
    rw [Int.neg_mul] at this
    omega
  · intro h
    exact Int.mul_pos h hk
theorem less1 {p q : Pr} {j k : Nat} {N D N' D' : Int} (g : Gd p j N D) (h : Gd q k N' D') : decide ((addS p q).1 * p.2 < p.1 * (addS p q).2) = decide (q.1 < 0) := by
  have r := rep_add (rep_self g.y0 g.rep.co) (rep_self h.y0 h.rep.co)
  refine decide_eq_decide.mpr ((less_iff (x := p.1) g.y0 r).trans ?_)
  have e : (p.1 * q.2 + q.1 * p.2) * p.2 = p.1 * (p.2 * q.2) + q.1 * (p.2 * p.2) := by grind
  rw [e]
  rw [← neg_iff (x := q.1) (Int.mul_pos g.y0 g.y0)]
  omega
theorem less2 {p q : Pr} {j k : Nat} {N D N' D' : Int} (g : Gd p j N D) (h : Gd q k N' D') : decide (p.1 * (addS p q).2 < (addS p q).1 * p.2) = decide (0 < q.1) := by
  have r := rep_add (rep_self g.y0 g.rep.co) (rep_self h.y0 h.rep.co)
  refine decide_eq_decide.mpr ((less_iff' (x := p.1) g.y0 r).trans ?_)
  have e : (p.1 * q.2 + q.1 * p.2) * p.2 = p.1 * (p.2 * q.2) + q.1 * (p.2 * p.2) := by grind
  rw [e]
  rw [← pos_iff (x := q.1) (Int.mul_pos g.y0 g.y0)]
  omega
theorem catT_ok {α : Type} {a b : List α} (h : a.length + b.length ≤ 1000) : catT a b = some (a ++ b) := by
  unfold catT
  rw [if_pos (Nat.le_trans h (by decide))]
/-- the loop's body -/
def turnB : Ss := match lawB with
  | .cons (.for_ _ _ _ b) _ => b
  | _ => .nil
theorem turn_ok (b : Bag) (ok : BagOk b) (t : T) (o3 o4 o5 o6 o7 o8 o9 o10 o11 o12 o13 o14 o15 o16 o17 o18 o19 o20 o21 : Option T) :
    Ok (exs (ien τ 37) turnB [.un, .val .bag, .val t, sl o3, sl o4, sl o5, sl o6, sl o7, sl o8, sl o9, sl o10, sl o11, sl o12, sl o13, sl o14, sl o15, sl o16, sl o17, sl o18, sl o19, sl o20, sl o21]) b fun o b' => BagOk b' ∧ ∃ os : List (Option T), os.length = 20 ∧ o = .nx (.un :: .val .bag :: os.map sl) := by
  unfold turnB lawB
  simp only
  refine st_asgL (R := fun t b' => BagOk b' ∧ ∃ a1 c1 a2 c2 a3 c3 : Int, t = .lst ([(a1, c1), (a2, c2), (a3, c3)].map Tp) ∧ (0 < c1 ∧ c1.natAbs < 2 ^ 40 ∧ a1.natAbs < 2 ^ 40) ∧ (0 < c2 ∧ c2.natAbs < 2 ^ 40 ∧ a2.natAbs < 2 ^ 40) ∧ (0 < c3 ∧ c3.natAbs < 2 ^ 40 ∧ a3.natAbs < 2 ^ 40)) ?_ (by simp) fun t1 b1 q => ?_
  · have e3 : rngT 0 3 = some [.int 0, .int 1, .int 2] := by rfl
    simp [e3]
    unfold lcB
    refine Ok.then (lcE_ok (R := fun y => ∃ a c : Int, y = Tp (a, c) ∧ 0 < c ∧ c.natAbs < 2 ^ 40 ∧ a.natAbs < 2 ^ 40) (by simp [wipeV, tgSlots]) ok fun t ht b1 ok1 => ?_) fun ys b2 q => ?_
    · simp [wipeV, tgSlots, ien_call]
      refine Ok.then (fraction_k 34 b1 ok1) fun t b2 q => ?_
      obtain ⟨ok2, a, c, rfl, h⟩ := q
      simp
      exact ⟨ok2, a, c, rfl, h⟩
    · obtain ⟨ok2, hl, hy⟩ := q
      match ys, hl with
      | [y1, y2, y3], _ =>
        obtain ⟨a1, c1, rfl, h1⟩ := hy y1 (by simp)
        obtain ⟨a2, c2, rfl, h2⟩ := hy y2 (by simp)
        obtain ⟨a3, c3, rfl, h3⟩ := hy y3 (by simp)
        simp
        exact ⟨ok2, a1, c1, a2, c2, a3, c3, ⟨rfl, rfl, rfl⟩, h1, h2, h3⟩
  obtain ⟨ok1, a1, c1, a2, c2, a3, c3, rfl, ⟨h1, h1c, h1a⟩, ⟨h2, h2c, h2a⟩, h3, h3c, h3a⟩ := q
  have w1 := wide_of h1c (by decide)
  have w2 := wide_of h2c (by decide)
  have w3 := wide_of h3c (by decide)
  have g1 := gd_lo h1 h1a h1c
  have g2 := gd_lo h2 h2a h2c
  have g3 := gd_lo h3 h3a h3c
  refine st_asgL (R := fun t b' => t = .lst ([lo a1 c1, lo a2 c2, lo a3 c3].map Tp) ∧ b' = b1) ?_ (by simp) fun t2 b2 q => ?_
  · have e := lcB_eq (I := ien τ 37) (elt := .call F_l_low (.cons (.var 19) (.cons (.var 20) .nil))) (tg := .seq false (.cons (.name 19) (.cons (.name 20) .nil))) (ρ := [none, some .bag, some t, some (.lst ([(a1, c1), (a2, c2), (a3, c3)].map Tp)), o4, o5, o6, o7, o8, o9, o10, o11, o12, o13, o14, o15, o16, o17, o18, o19, o20, o21]) Tp (fun p => Tp (lo p.1 p.2)) [(a1, c1), (a2, c2), (a3, c3)] fun p hp => by
      refine ⟨_, rfl, ?_⟩
      simp at hp
      rcases hp with rfl | rfl | rfl
      · simp [wipeV, tgSlots, tgsSlots, ien_call, low_eq 35 _ _ h1 w1]
      · simp [wipeV, tgSlots, tgsSlots, ien_call, low_eq 35 _ _ h2 w2]
      · simp [wipeV, tgSlots, tgsSlots, ien_call, low_eq 35 _ _ h3 w3]
    simp at e ⊢
    rw [e]
    simp
  obtain ⟨rfl, rfl⟩ := q
  simp only [frz_nil]
  generalize hp1 : lo a1 c1 = p1 at *
  generalize hp2 : lo a2 c2 = p2 at *
  generalize hp3 : lo a3 c3 = p3 at *
  refine st_unp (R := fun t b' => t = .lst ([p1, p2, p3].map Sh) ∧ b' = b2) ?_ fun t3 b3 q => ?_
  · have e := lcB_eq (I := ien τ 37) (elt := .mk C_Share (.cons (.var 19) (.cons (.var 20) .nil))) (tg := .seq false (.cons (.name 19) (.cons (.name 20) .nil))) (ρ := [none, some .bag, some t, some (.lst ([(a1, c1), (a2, c2), (a3, c3)].map Tp)), some (.lst ([p1, p2, p3].map Tp)), o5, o6, o7, o8, o9, o10, o11, o12, o13, o14, o15, o16, o17, o18, o19, o20, o21]) Tp (fun p => Sh (lo p.1 p.2)) [(a1, c1), (a2, c2), (a3, c3)] fun p hp => by
      refine ⟨_, rfl, ?_⟩
      simp at hp
      rcases hp with rfl | rfl | rfl
      · simp [wipeV, tgSlots, tgsSlots, ien_make, init_eq 34 _ _ h1 w1]
      · simp [wipeV, tgSlots, tgsSlots, ien_make, init_eq 34 _ _ h2 w2]
      · simp [wipeV, tgSlots, tgsSlots, ien_make, init_eq 34 _ _ h3 w3]
    simp [hp1, hp2, hp3] at e ⊢
    rw [e]
    simp
  obtain ⟨rfl, rfl⟩ := q
  refine ⟨[.un, .val .bag, .val t, .val (.lst ([(a1, c1), (a2, c2), (a3, c3)].map Tp)), .val (.lst ([p1, p2, p3].map Tp)), sl o5, sl o6, sl o7, sl o8, sl o9, .val (Sh p1), .val (Sh p2), .val (Sh p3), sl o13, sl o14, sl o15, sl o16, sl o17, sl o18, sl o19, sl o20, sl o21], rfl, ?_⟩
  clear w1 w2 w3 hp1 hp2 hp3 h1 h1c h1a h2 h2c h2a h3 h3c h3a
  refine st_asg (R := fun t b' => BagOk b' ∧ ∃ m : Int, t = .int m ∧ m.natAbs < 2 ^ 20) ?_ (by simp) fun t4 b4 q => ?_
  · simp [ien_call]
    refine Ok.then (draw_k 36 b3 _ ok1 (by omega) (wide_small (by omega) (by omega))) fun t b4 q => ?_
    obtain ⟨ok4, d, rfl, d0, d1⟩ := q
    simp [LIM]
    refine (pick_k 35 b4 _ ok4 (by simp) (by simp)).mono fun t b5 q => ?_
    obtain ⟨ok5, hm⟩ := q
    simp at hm
    refine ⟨ok5, ?_⟩
    rcases hm with rfl | rfl | rfl | rfl | rfl
    · exact ⟨_, rfl, by decide⟩
    · exact ⟨_, rfl, by decide⟩
    · exact ⟨_, rfl, by decide⟩
    · exact ⟨_, rfl, by decide⟩
    · exact ⟨_, rfl, by omega⟩
  obtain ⟨ok4, m, rfl, hm⟩ := q
  simp only [frz_nil]
  -- what is made of the three
  have z0 : (0 : Int).natAbs < 2 ^ 1 := by decide
  have g12 := gd_add g1 g2
  have g23 := gd_add g2 g3
  have d12 := gd_sub g1 g2
  have m12 := gd_mul g1 g2
  have m23 := gd_mul g2 g3
  have m13 := gd_mul g1 g3
  have g1m := gd_mulI g1 hm
  have g2m := gd_mulI g2 hm
  have e12 := add_eq 33 g1 g2 (by decide)
  have e12s := sub_eq 33 g1 g2 (by decide)
  have e12m := mul_eq 33 g1 g2 (by decide)
  have e1m := mulI_eq 33 g1 hm (by decide)
  have er1m := rmul_eq 33 g1 hm (by decide)
  have e11s := sub_eq 33 g1 g1 (by decide)
  have e21 := add_eq 33 g2 g1 (by decide)
  have e21m := mul_eq 33 g2 g1 (by decide)
  have e21s := sub_eq 33 g2 g1 (by decide)
  have e10 := mulI_eq 33 g1 z0 (by decide)
  have k0 : ∀ p : Pr, kdObj (Str.ofString "Share") (Sh p) = some () := kd_sh
  refine st_asg (R := fun t b' => t = .lst ([addS p1 p2, subS p1 p2, mulS p1 p2, mulI p1 m, mulI p1 m, subS p1 p1, addS p2 p1, mulS p2 p1, subS p2 p1, mulI p1 0].map Sh) ∧ b' = b4) ?_ (by simp) fun t5 b5 q => ?_
  · simp [ien_call, mt2, mt3, mt4, mt5, k0, e12, e12s, e12m, e1m, er1m, e11s, e21, e21m, e21s, e10, LIM]
  obtain ⟨rfl, rfl⟩ := q
  simp only [frz_nil]
  refine st_unp (R := fun t b' => t = .lst ([p1, p2, p3].map Tp) ∧ b' = b5) (by simp) fun t6 b6 q => ?_
  obtain ⟨rfl, rfl⟩ := q
  refine ⟨[.un, .val .bag, .val t, .val (.lst ([(a1, c1), (a2, c2), (a3, c3)].map Tp)), .val (.lst ([p1, p2, p3].map Tp)), .val (.int m), .val (.lst ([addS p1 p2, subS p1 p2, mulS p1 p2, mulI p1 m, mulI p1 m, subS p1 p1, addS p2 p1, mulS p2 p1, subS p2 p1, mulI p1 0].map Sh)), sl o7, sl o8, sl o9, .val (Sh p1), .val (Sh p2), .val (Sh p3), .val (Tp p1), .val (Tp p2), .val (Tp p3), sl o16, sl o17, sl o18, sl o19, sl o20, sl o21], rfl, ?_⟩
  refine st_par2 (R := fun t u b' => (t = Tp (mulS p1 p2) ∧ u = Tp (mulI p1 m)) ∧ b' = b6) ?_ (by simp) (by simp) (by decide) fun t7 u7 b7 q => ?_
  · have q1 := mul_of (g1.wx (by decide)) (g2.wx (by decide))
    have q2 := mul_of (g1.wy (by decide)) (g2.wy (by decide))
    have q3 := mul_of (wide_of hm (by decide)) (g1.wx (by decide))
    have l1 := low_eq 35 (p1.1 * p2.1) (p1.2 * p2.2) (Int.mul_pos g1.y0 g2.y0) (wide_of (mul_small g1.sm.y1 g2.sm.y1) (by decide))
    have l2 := low_eq 35 (m * p1.1) p1.2 g1.y0 (g1.wy (by decide))
    have l3 : mulI p1 m = lo (m * p1.1) p1.2 := by unfold mulI; rw [Int.mul_comm]
    have t0 : ∀ p : Pr, idxT (Tp p) (.int 0) = some (.int p.1) := fun p => by simp [Tp]
    have t1 : ∀ p : Pr, idxT (Tp p) (.int 1) = some (.int p.2) := fun p => by simp [Tp]
    simp [ien_call, t0, t1, q1, q2, q3, l1, l2, l3, mulS]
  obtain ⟨⟨rfl, rfl⟩, rfl⟩ := q
  have pl := fun {p q : Pr} {j k : Nat} {N D N' D' : Int} (g : Gd p j N D) (h : Gd q k N' D') (hk : j + k + 1 ≤ 300) => plus_eq 34 g h hk 1 (.inl rfl)
  have pm := fun {p q : Pr} {j k : Nat} {N D N' D' : Int} (g : Gd p j N D) (h : Gd q k N' D') (hk : j + k + 1 ≤ 300) => plus_eq 34 g h hk (-1) (.inr rfl)
  simp only [if_true, show ¬ ((-1 : Int) = 1) from by decide, if_false] at pl pm
  have pl12 := pl g1 g2 (by decide)
  have pl21 := pl g2 g1 (by decide)
  have pm12 := pm g1 g2 (by decide)
  have pm21 := pm g2 g1 (by decide)
  refine st_asg (R := fun t b' => t = .lst ([addS p1 p2, subS p1 p2, mulS p1 p2, mulI p1 m, mulI p1 m, (0, 1), addS p2 p1, mulS p1 p2, subS p2 p1, (0, 1)].map Tp) ∧ b' = b7) ?_ (by simp) fun t8 b8 q => ?_
  · simp [ien_call, pl12, pl21, pm12, pm21, LIM]
    rfl
  obtain ⟨rfl, rfl⟩ := q
  simp only [frz_nil]
  -- the first sameness
  have x1 : subS p1 p1 = (0, 1) := by
    unfold subS
    rw [Int.sub_self]
    exact lo_zero (Int.mul_pos g1.y0 g1.y0)
  have x2 : mulI p1 0 = (0, 1) := by
    unfold mulI
    rw [Int.mul_zero]
    exact lo_zero g1.y0
  have x3 : mulS p2 p1 = mulS p1 p2 := by
    unfold mulS
    rw [Int.mul_comm, Int.mul_comm p2.2]
  rw [x1, x2, x3]
  have pr : ∀ (ρ : View) (ps : List Pr), 21 < ρ.length → lcB (ien τ 37) (.call F_l_pair (.cons (.var 21) .nil)) (.name 21) ρ (ps.map Sh) = Ev.pure (ps.map Tp) := fun ρ ps hl => lcB_eq Sh Tp ps fun p _ => by
    refine ⟨(wipeV ρ [21]).set 21 (some (Sh p)), by simp [tgV, tgSlots, wipeV, hl], ?_⟩
    have e : ((wipeV ρ [21]).set 21 (some (Sh p)))[21]? = some (some (Sh p)) := by simp [wipeV, hl]
    simp [ien_call, e, pair_eq 36]
  have sm : ∀ ps : List Pr, callI τ 37 F_l_same [.lst (ps.map Tp), .lst (ps.map Tp)] = Ev.pure (.bl true) := fun ps => same_lst 35 _ fun t ht => by
    obtain ⟨p, _, rfl⟩ := List.mem_map.mp ht
    exact same_Tp 34 p
  refine st_skip (R := fun b' => b' = b8) ?_ fun b9 q => ?_
  · have e := pr [none, some .bag, some t, some (.lst ([(a1, c1), (a2, c2), (a3, c3)].map Tp)), some (.lst ([p1, p2, p3].map Tp)), some (.int m), some (.lst ([addS p1 p2, subS p1 p2, mulS p1 p2, mulI p1 m, mulI p1 m, (0, 1), addS p2 p1, mulS p1 p2, subS p2 p1, (0, 1)].map Sh)), some (.lst ([addS p1 p2, subS p1 p2, mulS p1 p2, mulI p1 m, mulI p1 m, (0, 1), addS p2 p1, mulS p1 p2, subS p2 p1, (0, 1)].map Tp)), o8, o9, some (Sh p1), some (Sh p2), some (Sh p3), some (Tp p1), some (Tp p2), some (Tp p3), some (Tp (mulS p1 p2)), some (Tp (mulI p1 m)), o18, o19, o20, o21] [addS p1 p2, subS p1 p2, mulS p1 p2, mulI p1 m, mulI p1 m, (0, 1), addS p2 p1, mulS p1 p2, subS p2 p1, (0, 1)] (by simp)
    have s := sm [addS p1 p2, subS p1 p2, mulS p1 p2, mulI p1 m, mulI p1 m, (0, 1), addS p2 p1, mulS p1 p2, subS p2 p1, (0, 1)]
    simp [ien_call] at e s ⊢
    rw [e]
    simp [s]
  subst q
  have gA := gd_add g12 g3
  have gB := gd_add g1 g23
  have E1 : addS (addS p1 p2) p3 = addS p1 (addS p2 p3) := gA.eq gB (by grind)
  have E2 : mulS (mulS p1 p2) p3 = mulS p1 (mulS p2 p3) := (gd_mul m12 g3).eq (gd_mul g1 m23) (by grind)
  have E3 : mulS p1 (addS p2 p3) = addS (mulS p1 p2) (mulS p1 p3) := (gd_mul g1 g23).eq (gd_add m12 m13) (by grind)
  have E4 : subS (addS p1 p2) p2 = p1 := (gd_sub g12 g2).eq g1 (by grind)
  have E5 : addS (subS p1 p2) p2 = p1 := (gd_add d12 g2).eq g1 (by grind)
  have E6 : mulI (addS p1 p2) m = addS (mulI p1 m) (mulI p2 m) := (gd_mulI g12 hm).eq (gd_add g1m g2m) (by grind)
  have E7 : addS p1 p2 = addS p2 p1 := g12.eq (gd_add g2 g1) (by grind)
  have y1 := add_eq 33 g12 g3 (by decide)
  have y2 := add_eq 33 g2 g3 (by decide)
  have y3 := add_eq 33 g1 g23 (by decide)
  have y4 := mul_eq 33 m12 g3 (by decide)
  have y5 := mul_eq 33 g2 g3 (by decide)
  have y6 := mul_eq 33 g1 m23 (by decide)
  have y7 := mul_eq 33 g1 g23 (by decide)
  have y8 := mul_eq 33 g1 g3 (by decide)
  have y9 := add_eq 33 m12 m13 (by decide)
  have y10 := sub_eq 33 g12 g2 (by decide)
  have y11 := add_eq 33 d12 g2 (by decide)
  have y12 := mulI_eq 33 g12 hm (by decide)
  have y13 := rmul_eq 33 g2 hm (by decide)
  have y14 := add_eq 33 g1m g2m (by decide)
  have q0 : ∀ p q : Pr, callI τ 37 F_Share_eq [Sh p, Sh q] = Ev.pure (.bl (decide (p = q))) := fun p q => eq_eq 36 p q
  refine st_asg (R := fun t b' => t = .lst [.bl true, .bl true, .bl true, .bl true, .bl true, .bl true] ∧ b' = b9) ?_ (by simp) fun t10 b10 q => ?_
  · simp [ien_call, mt2, mt3, mt4, mt5, mt6, k0, kdOf_sh, e12, e12s, e12m, e1m, y1, y2, y3, y4, y5, y6, y7, y8, y9, y10, y11, y12, y13, y14, q0, E1, E2, E3, E4, E5, E6, LIM]
  obtain ⟨rfl, rfl⟩ := q
  simp only [frz_nil]
  have sb : callI τ 37 F_l_same [.lst ([true, true, true, true, true, true, true].map .bl), .lst ([true, true, true, true, true, true, true].map .bl)] = Ev.pure (.bl true) := same_lst 35 _ fun t ht => by
    obtain ⟨p, _, rfl⟩ := List.mem_map.mp ht
    exact same_bl 35 p
  refine st_skip (R := fun b' => b' = b10) ?_ fun b11 q => ?_
  · have e7 : mulT (.lst [.bl true]) (.int 7) = some (.lst [.bl true, .bl true, .bl true, .bl true, .bl true, .bl true, .bl true]) := by rfl
    have ec : catT [T.bl true, T.bl true, T.bl true, T.bl true, T.bl true, T.bl true] [T.bl true] = some [T.bl true, .bl true, .bl true, .bl true, .bl true, .bl true, .bl true] := catT_ok (by simp)
    simp [ien_call, mt2, mt6, k0, kdOf_sh, e12, e21, q0, E7, LIM, e7, ec] at sb ⊢
    simp [sb]
  subst q
  have pl123 := pl g12 g3 (by decide)
  refine st_asg (R := fun t b' => t = Tp (addS (addS p1 p2) p3) ∧ b' = b11) ?_ (by simp) fun t12 b12 q => ?_
  · simp [ien_call, pl12, pl123]
  obtain ⟨rfl, rfl⟩ := q
  simp only [frz_nil]
  have st1 := str_eq 34 gA (by decide)
  have st2 := ltext_eq 36 gA (by decide)
  have sx : callI τ 37 F_l_same [.lst [Tp (addS (addS p1 p2) p3), .str (txt (addS (addS p1 p2) p3))], .lst [Tp (addS (addS p1 p2) p3), .str (txt (addS (addS p1 p2) p3))]] = Ev.pure (.bl true) := same_lst 35 _ fun t ht => by
    simp at ht
    rcases ht with rfl | rfl
    · exact same_Tp 34 _
    · exact same_str 35 _
  refine st_skip (R := fun b' => b' = b12) ?_ fun b13 q => ?_
  · simp [ien_call, ien_low, mt2, mt8, k0, e12, y1, pair_eq 36, st1, st2, sx, LIM]
  subst q
  refine st_skip (R := fun b' => b' = b13) ?_ fun b14 q => ?_
  · have s := sm [p1, p2, p3]
    have e := fun ρ hl => pr ρ [p1, p2, p3] hl
    simp [ien_call, LIM] at s e ⊢
    rw [e _ (by simp)]
    simp [s]
  subst q
  have ls1 := less_eq 36 g12 g1 (by decide)
  have ls2 := less_eq 36 g1 g12 (by decide)
  rw [less1 g1 g2] at ls1
  rw [less2 g1 g2] at ls2
  have sz : callI τ 37 F_l_same [.lst ([decide (p2.1 < 0), decide (0 < p2.1)].map .bl), .lst ([decide (p2.1 < 0), decide (0 < p2.1)].map .bl)] = Ev.pure (.bl true) := same_lst 35 _ fun t ht => by
    obtain ⟨p, _, rfl⟩ := List.mem_map.mp ht
    exact same_bl 35 p
  refine st_skip (R := fun b' => b' = b14) ?_ fun b15 q => ?_
  · have t0 : idxT (Tp p2) (.int 0) = some (.int p2.1) := by simp [Tp]
    simp [ien_call, mt2, mt7, k0, om_sh, e12, ls1, ls2, t0, LIM] at sz ⊢
    simp [sz]
  subst q
  refine st_nil ⟨ok4, [some t, some (.lst ([(a1, c1), (a2, c2), (a3, c3)].map Tp)), some (.lst ([p1, p2, p3].map Tp)), some (.int m), some (.lst ([addS p1 p2, subS p1 p2, mulS p1 p2, mulI p1 m, mulI p1 m, (0, 1), addS p2 p1, mulS p1 p2, subS p2 p1, (0, 1)].map Sh)), some (.lst ([addS p1 p2, subS p1 p2, mulS p1 p2, mulI p1 m, mulI p1 m, (0, 1), addS p2 p1, mulS p1 p2, subS p2 p1, (0, 1)].map Tp)), some (.lst [.bl true, .bl true, .bl true, .bl true, .bl true, .bl true]), some (Tp (addS (addS p1 p2) p3)), some (Sh p1), some (Sh p2), some (Sh p3), some (Tp p1), some (Tp p2), some (Tp p3), some (Tp (mulS p1 p2)), some (Tp (mulI p1 m)), o18, o19, o20, o21], by simp, ?_⟩
  rfl
theorem law_ok (ns : List Int) (h : ns.length ≤ 63) : ∃ b', exs (ien τ 37) lawB (.un :: .val .bag :: List.replicate (lawN.length - 2) .un) (bagL ns) = some (.ok (.ret (.bl true)), b') := by
  have key : Ok (exs (ien τ 37) lawB (.un :: .val .bag :: List.replicate (lawN.length - 2) .un)) (bagL ns) fun o _ => o = .ret (.bl true) := by
    have e : lawB = .cons (.for_ (.name 2) [] (.rng1 (.con (.int 3))) turnB) (.cons (.ret [] (.con (.bl true))) .nil) := rfl
    rw [e]
    have e3 : rngT 0 3 = some [.int 0, .int 1, .int 2] := by rfl
    refine st_for (R := fun ts b' => ts = [.int 0, .int 1, .int 2] ∧ b' = bagL ns) (by simp [e3]) fun ts b' q => ?_
    obtain ⟨rfl, rfl⟩ := q
    refine forL_ok (I := fun _ => True) (J := fun r ss b => BagOk b ∧ ∃ os : List (Option T), os.length = 20 ∧ ss = .un :: .val .bag :: os.map sl) ⟨bagL_ok ns h, List.replicate 20 none, by simp, rfl⟩ ?_ ?_
    · intro t r ss b ⟨ok, os, hl, hs⟩
      subst hs
      match os, hl with
      | [o2, o3, o4, o5, o6, o7, o8, o9, o10, o11, o12, o13, o14, o15, o16, o17, o18, o19, o20, o21], _ =>
        refine ⟨_, rfl, (turn_ok b ok t o3 o4 o5 o6 o7 o8 o9 o10 o11 o12 o13 o14 o15 o16 o17 o18 o19 o20 o21).mono fun o b' q => ?_⟩
        obtain ⟨ok', os, hl, rfl⟩ := q
        exact ⟨ok', os, hl, rfl⟩
    · intro ss b ⟨ok, os, hl, hs⟩
      simp
  obtain ⟨o, b', e, rfl⟩ := key
  exact ⟨b', e⟩
end K03

set_option Elab.async false
set_option linter.all false
set_option maxRecDepth 100000
namespace K03
open PySem L2 DI
abbrev bag0 := bagL
theorem gb_mk {P : Program} {w : World} {K : PySem.W.Frag} {mg : Str → Option Value} {base : Heap} {qual : Str} {f : Addr} {fd : FuncData} (F : Fun K "_law_bag" qual sBag f fd) (h1 : mg "list" = none) (h2 : mg "len" = none) : FnOk P w K mg base CX0 1 f fd ["_law_script"] (spBag K bagL) := ok_bag F (by decide +kernel) rfl ⟨rfl, rfl, rfl, rfl⟩ h1 h2
end K03
namespace K03
open PySem L2 DI
theorem all_mk {l : PySem.W.OpenLaw} {w : World} {K : PySem.W.Frag} {h : Heap} {mg : Str → Option Value} {fa a0 a1 a2 a3 a4 a5 a6 a7 a8 a9 a10 a11 a12 a13 a14 a15 a16 a17 a18 a19 a20 A0 : Addr} (X : K.In h) (G : h.Ns mainGlobals mg) (hfa : mg "law" = some (.ref fa))
    {od0 an0 od1 an1 od2 an2 od3 an3 od4 an4 od5 an5 od6 an6 od7 an7 od8 an8 od9 an9 od10 an10 od11 an11 od12 an12 od13 an13 od14 an14 od15 an15 od16 an16 od17 an17 od18 an18 od19 an19 od20 an20 : Option Addr} {sl0 sl1 sl2 sl3 sl4 sl5 sl6 sl7 sl8 sl9 sl10 sl11 sl12 sl13 sl14 sl15 sl16 sl17 sl18 sl19 sl20 : Array (Option Value)} {oc0 kV0 dc0 pm0 cv0 ct0 oc1 kV1 dc1 pm1 cv1 ct1 oc2 kV2 dc2 pm2 cv2 ct2 oc3 kV3 dc3 pm3 cv3 ct3 oc4 kV4 dc4 pm4 cv4 ct4 oc5 kV5 dc5 pm5 cv5 ct5 oc6 kV6 dc6 pm6 cv6 ct6 oc7 kV7 dc7 pm7 cv7 ct7 oc8 kV8 dc8 pm8 cv8 ct8 oc9 kV9 dc9 pm9 cv9 ct9 oc10 kV10 dc10 pm10 cv10 ct10 oc11 kV11 dc11 pm11 cv11 ct11 oc12 kV12 dc12 pm12 cv12 ct12 oc13 kV13 dc13 pm13 cv13 ct13 oc14 kV14 dc14 pm14 cv14 ct14 oc15 kV15 dc15 pm15 cv15 ct15 oc16 kV16 dc16 pm16 cv16 ct16 oc17 kV17 dc17 pm17 cv17 ct17 oc18 kV18 dc18 pm18 cv18 ct18 oc19 kV19 dc19 pm19 cv19 ct19 oc20 kV20 dc20 pm20 cv20 ct20 : Value}
    (nA0 : PySem.W.nsIn K mainGlobals "Share" = some (some (.ref A0)))
    (na0 : PySem.W.nsIn K mainGlobals "is_whole" = some (some (.ref a0)))
    (nl0 : K.lookup a0 = some ⟨oc0, od0, .func (PySem.W.fnOf "is_whole" "is_whole" (defArgs s0) (defBody s0) (defScope s0) .none kV0 dc0 pm0 an0 cv0 ct0), sl0⟩)
    (nc0 : PySem.W.codeIn K cv0 "is_whole" = true)
    (nk0 : PySem.W.keepIn K (.ref a0) = true)
    (na1 : PySem.W.nsIn K mainGlobals "common_divisor" = some (some (.ref a1)))
    (nl1 : K.lookup a1 = some ⟨oc1, od1, .func (PySem.W.fnOf "common_divisor" "common_divisor" (defArgs s1) (defBody s1) (defScope s1) .none kV1 dc1 pm1 an1 cv1 ct1), sl1⟩)
    (nc1 : PySem.W.codeIn K cv1 "common_divisor" = true)
    (nk1 : PySem.W.keepIn K (.ref a1) = true)
    (na2 : PySem.W.findIn K (.ref A0) "__add__" = some (some (.ref a2)))
    (ni2 : PySem.W.isFn K (.ref a2) = true)
    (nl2 : K.lookup a2 = some ⟨oc2, od2, .func (PySem.W.fnOf "__add__" "Share.__add__" (defArgs s2) (defBody s2) (defScope s2) .none kV2 dc2 pm2 an2 cv2 ct2), sl2⟩)
    (nc2 : PySem.W.codeIn K cv2 "Share.__add__" = true)
    (nk2 : PySem.W.keepIn K (.ref a2) = true)
    (na3 : PySem.W.findIn K (.ref A0) "__sub__" = some (some (.ref a3)))
    (ni3 : PySem.W.isFn K (.ref a3) = true)
    (nl3 : K.lookup a3 = some ⟨oc3, od3, .func (PySem.W.fnOf "__sub__" "Share.__sub__" (defArgs s3) (defBody s3) (defScope s3) .none kV3 dc3 pm3 an3 cv3 ct3), sl3⟩)
    (nc3 : PySem.W.codeIn K cv3 "Share.__sub__" = true)
    (nk3 : PySem.W.keepIn K (.ref a3) = true)
    (na4 : PySem.W.findIn K (.ref A0) "__mul__" = some (some (.ref a4)))
    (ni4 : PySem.W.isFn K (.ref a4) = true)
    (nl4 : K.lookup a4 = some ⟨oc4, od4, .func (PySem.W.fnOf "__mul__" "Share.__mul__" (defArgs s4) (defBody s4) (defScope s4) .none kV4 dc4 pm4 an4 cv4 ct4), sl4⟩)
    (nc4 : PySem.W.codeIn K cv4 "Share.__mul__" = true)
    (nk4 : PySem.W.keepIn K (.ref a4) = true)
    (na5 : PySem.W.findIn K (.ref A0) "__rmul__" = some (some (.ref a5)))
    (ni5 : PySem.W.isFn K (.ref a5) = true)
    (nl5 : K.lookup a5 = some ⟨oc5, od5, .func (PySem.W.fnOf "__rmul__" "Share.__rmul__" (defArgs s5) (defBody s5) (defScope s5) .none kV5 dc5 pm5 an5 cv5 ct5), sl5⟩)
    (nc5 : PySem.W.codeIn K cv5 "Share.__rmul__" = true)
    (nk5 : PySem.W.keepIn K (.ref a5) = true)
    (na6 : PySem.W.findIn K (.ref A0) "__eq__" = some (some (.ref a6)))
    (ni6 : PySem.W.isFn K (.ref a6) = true)
    (nl6 : K.lookup a6 = some ⟨oc6, od6, .func (PySem.W.fnOf "__eq__" "Share.__eq__" (defArgs s6) (defBody s6) (defScope s6) .none kV6 dc6 pm6 an6 cv6 ct6), sl6⟩)
    (nc6 : PySem.W.codeIn K cv6 "Share.__eq__" = true)
    (nk6 : PySem.W.keepIn K (.ref a6) = true)
    (na7 : PySem.W.findIn K (.ref A0) "less" = some (some (.ref a7)))
    (ni7 : PySem.W.isFn K (.ref a7) = true)
    (nl7 : K.lookup a7 = some ⟨oc7, od7, .func (PySem.W.fnOf "less" "Share.less" (defArgs s7) (defBody s7) (defScope s7) .none kV7 dc7 pm7 an7 cv7 ct7), sl7⟩)
    (nc7 : PySem.W.codeIn K cv7 "Share.less" = true)
    (nk7 : PySem.W.keepIn K (.ref a7) = true)
    (na8 : PySem.W.findIn K (.ref A0) "__str__" = some (some (.ref a8)))
    (ni8 : PySem.W.isFn K (.ref a8) = true)
    (nl8 : K.lookup a8 = some ⟨oc8, od8, .func (PySem.W.fnOf "__str__" "Share.__str__" (defArgs s8) (defBody s8) (defScope s8) .none kV8 dc8 pm8 an8 cv8 ct8), sl8⟩)
    (nc8 : PySem.W.codeIn K cv8 "Share.__str__" = true)
    (nk8 : PySem.W.keepIn K (.ref a8) = true)
    (na9 : PySem.W.nsIn K mainGlobals "_law_draw" = some (some (.ref a9)))
    (nl9 : K.lookup a9 = some ⟨oc9, od9, .func (PySem.W.fnOf "_law_draw" "_law_draw" (defArgs s9) (defBody s9) (defScope s9) .none kV9 dc9 pm9 an9 cv9 ct9), sl9⟩)
    (nc9 : PySem.W.codeIn K cv9 "_law_draw" = true)
    (nk9 : PySem.W.keepIn K (.ref a9) = true)
    (na10 : PySem.W.nsIn K mainGlobals "_law_pick" = some (some (.ref a10)))
    (nl10 : K.lookup a10 = some ⟨oc10, od10, .func (PySem.W.fnOf "_law_pick" "_law_pick" (defArgs s10) (defBody s10) (defScope s10) .none kV10 dc10 pm10 an10 cv10 ct10), sl10⟩)
    (nc10 : PySem.W.codeIn K cv10 "_law_pick" = true)
    (nk10 : PySem.W.keepIn K (.ref a10) = true)
    (na11 : PySem.W.nsIn K mainGlobals "_law_same" = some (some (.ref a11)))
    (nl11 : K.lookup a11 = some ⟨oc11, od11, .func (PySem.W.fnOf "_law_same" "_law_same" (defArgs s11) (defBody s11) (defScope s11) .none kV11 dc11 pm11 an11 cv11 ct11), sl11⟩)
    (nc11 : PySem.W.codeIn K cv11 "_law_same" = true)
    (nk11 : PySem.W.keepIn K (.ref a11) = true)
    (na12 : PySem.W.nsIn K mainGlobals "_law_common" = some (some (.ref a12)))
    (nl12 : K.lookup a12 = some ⟨oc12, od12, .func (PySem.W.fnOf "_law_common" "_law_common" (defArgs s12) (defBody s12) (defScope s12) .none kV12 dc12 pm12 an12 cv12 ct12), sl12⟩)
    (nc12 : PySem.W.codeIn K cv12 "_law_common" = true)
    (nk12 : PySem.W.keepIn K (.ref a12) = true)
    (na13 : PySem.W.nsIn K mainGlobals "_law_low" = some (some (.ref a13)))
    (nl13 : K.lookup a13 = some ⟨oc13, od13, .func (PySem.W.fnOf "_law_low" "_law_low" (defArgs s13) (defBody s13) (defScope s13) .none kV13 dc13 pm13 an13 cv13 ct13), sl13⟩)
    (nc13 : PySem.W.codeIn K cv13 "_law_low" = true)
    (nk13 : PySem.W.keepIn K (.ref a13) = true)
    (na14 : PySem.W.nsIn K mainGlobals "_law_share_text" = some (some (.ref a14)))
    (nl14 : K.lookup a14 = some ⟨oc14, od14, .func (PySem.W.fnOf "_law_share_text" "_law_share_text" (defArgs s14) (defBody s14) (defScope s14) .none kV14 dc14 pm14 an14 cv14 ct14), sl14⟩)
    (nc14 : PySem.W.codeIn K cv14 "_law_share_text" = true)
    (nk14 : PySem.W.keepIn K (.ref a14) = true)
    (na15 : PySem.W.nsIn K mainGlobals "_law_fraction" = some (some (.ref a15)))
    (nl15 : K.lookup a15 = some ⟨oc15, od15, .func (PySem.W.fnOf "_law_fraction" "_law_fraction" (defArgs s15) (defBody s15) (defScope s15) .none kV15 dc15 pm15 an15 cv15 ct15), sl15⟩)
    (nc15 : PySem.W.codeIn K cv15 "_law_fraction" = true)
    (nk15 : PySem.W.keepIn K (.ref a15) = true)
    (na16 : PySem.W.nsIn K mainGlobals "_law_pair" = some (some (.ref a16)))
    (nl16 : K.lookup a16 = some ⟨oc16, od16, .func (PySem.W.fnOf "_law_pair" "_law_pair" (defArgs s16) (defBody s16) (defScope s16) .none kV16 dc16 pm16 an16 cv16 ct16), sl16⟩)
    (nc16 : PySem.W.codeIn K cv16 "_law_pair" = true)
    (nk16 : PySem.W.keepIn K (.ref a16) = true)
    (na17 : PySem.W.nsIn K mainGlobals "_law_plus" = some (some (.ref a17)))
    (nl17 : K.lookup a17 = some ⟨oc17, od17, .func (PySem.W.fnOf "_law_plus" "_law_plus" (defArgs s17) (defBody s17) (defScope s17) .none kV17 dc17 pm17 an17 cv17 ct17), sl17⟩)
    (nc17 : PySem.W.codeIn K cv17 "_law_plus" = true)
    (nk17 : PySem.W.keepIn K (.ref a17) = true)
    (na18 : PySem.W.findIn K (.ref A0) "__init__" = some (some (.ref a18)))
    (ni18 : PySem.W.isFn K (.ref a18) = true)
    {T18 : Addr} {oT18 : Obj} {dw18_0 : Value} {nT18 : Nat}
    (nl18 : K.lookup a18 = some ⟨oc18, od18, .func (PySem.W.fnOf "__init__" "Share.__init__" (defArgs cs0) (defBody cs0) (defScope cs0) (.ref T18) kV18 dc18 pm18 an18 cv18 ct18), sl18⟩)
    (nT18_ : K.lookup T18 = some oT18)
    (nD18_ : oT18.data = .seq #[dw18_0] nT18)
    (nc18 : PySem.W.codeIn K cv18 "Share.__init__" = true)
    (nk18 : PySem.W.keepIn K (.ref a18) = true)
    (na19 : PySem.W.nsIn K mainGlobals "_law_bag" = some (some (.ref a19)))
    (nl19 : K.lookup a19 = some ⟨oc19, od19, .func (PySem.W.fnOf "_law_bag" "_law_bag" (defArgs sBag) (defBody sBag) (defScope sBag) .none kV19 dc19 pm19 an19 cv19 ct19), sl19⟩)
    (nc19 : PySem.W.codeIn K cv19 "_law_bag" = true)
    (nk19 : PySem.W.keepIn K (.ref a19) = true)
    (na20 : PySem.W.nsIn K mainGlobals "law" = some (some (.ref a20)))
    (nl20 : K.lookup a20 = some ⟨oc20, od20, .func (PySem.W.fnOf "law" "law" (defArgs sLaw) (defBody sLaw) (defScope sLaw) .none kV20 dc20 pm20 an20 cv20 ct20), sl20⟩)
    (nc20 : PySem.W.codeIn K cv20 "law" = true)
    (nk20 : PySem.W.keepIn K (.ref a20) = true)
    (mk0 : PySem.W.makesIn K A0 = true)
    (kc0 : PySem.W.keepIn K (.ref A0) = true)
    (c1_0 : PySem.W.plainGet K A0 Str.empty = true)
    (c2_0 : PySem.W.hasDictIn K A0 = true)
    (c3_0 : PySem.W.plainOver K A0 = true)
    (c4_0 : PySem.W.findIn K (.ref A0) "__setattr__" = some (some (.builtin "object.__setattr__")))
    (c5_0 : PySem.W.findIn K (.ref A0) "__class__" = some (some (.builtin "object.__class__")))
    (c6_0 : PySem.W.specialIn K (.builtin "object.__class__") "__get__" = some (some (.builtin "getset_descriptor.__get__")))
    (c7_0 : PySem.W.takesIn K (.builtin "object.__class__") = some true)
    (c8_0 : PySem.W.mroIn K A0 (.type "object") = some true)
    (i1_0 : PySem.W.isClsIn K A0 = true)
    (i2_0 : PySem.W.typeIn K (.ref A0) = some (.type "type"))
    (sf_0 : PySem.W.selfFirst K A0 = true)
    (p0_0 : PySem.W.subIn K (.type "NoneType") (.ref A0) = some false)
    (p1_0 : PySem.W.subIn K (.type "bool") (.ref A0) = some false)
    (p2_0 : PySem.W.subIn K (.type "int") (.ref A0) = some false)
    (p3_0 : PySem.W.subIn K (.type "str") (.ref A0) = some false)
    (p4_0 : PySem.W.subIn K (.type "list") (.ref A0) = some false)
    (p5_0 : PySem.W.subIn K (.type "tuple") (.ref A0) = some false)
    (p6_0 : PySem.W.subIn K (.type "dict") (.ref A0) = some false)
    (q0_0 : PySem.W.subIn K (.ref A0) (.type "NoneType") = some false)
    (q1_0 : PySem.W.subIn K (.ref A0) (.type "bool") = some false)
    (q2_0 : PySem.W.subIn K (.ref A0) (.type "int") = some false)
    (q3_0 : PySem.W.subIn K (.ref A0) (.type "str") = some false)
    (q4_0 : PySem.W.subIn K (.ref A0) (.type "list") = some false)
    (q5_0 : PySem.W.subIn K (.ref A0) (.type "tuple") = some false)
    (q6_0 : PySem.W.subIn K (.ref A0) (.type "dict") = some false)
    (nf0 : PySem.W.findIn K (.ref A0) "top" = some none)
    (nf1 : PySem.W.findIn K (.ref A0) "bottom" = some none)
    (no_len : PySem.W.nsIn K mainGlobals "len" = some none)
    (no_abs : PySem.W.nsIn K mainGlobals "abs" = some none)
    (no_all : PySem.W.nsIn K mainGlobals "all" = some none)
    (no_any : PySem.W.nsIn K mainGlobals "any" = some none)
    (no_isinstance : PySem.W.nsIn K mainGlobals "isinstance" = some none)
    (no_sorted : PySem.W.nsIn K mainGlobals "sorted" = some none)
    (no_list : PySem.W.nsIn K mainGlobals "list" = some none)
    (no_tuple : PySem.W.nsIn K mainGlobals "tuple" = some none)
    (no_int : PySem.W.nsIn K mainGlobals "int" = some none)
    (no_str : PySem.W.nsIn K mainGlobals "str" = some none)
    (no_range : PySem.W.nsIn K mainGlobals "range" = some none)
    (no_zip : PySem.W.nsIn K mainGlobals "zip" = some none)
    (no_enumerate : PySem.W.nsIn K mainGlobals "enumerate" = some none)
    (no_bool : PySem.W.nsIn K mainGlobals "bool" = some none)
    (no_dict : PySem.W.nsIn K mainGlobals "dict" = some none)
    : ∃ fd : FuncData, (∀ (s : Shared) (v : Value), BindsTo s fd ⟨[v], []⟩ [("_law_script", v)]) ∧ ∀ base : Heap, K.In base → base.Ns mainGlobals mg → FnOk l.prog w K mg base CX0 40 fa fd ["_law_script"] (spLaw K) := by
  have e := hfa.symm.trans (PySem.W.mg_of X G na20)
  cases e
  have F0 := fdef_mk (st := s0) nl0 nc0 nk0
  have F1 := fdef_mk (st := s1) nl1 nc1 nk1
  have F2 := fdef_mk (st := s2) nl2 nc2 nk2
  have F3 := fdef_mk (st := s3) nl3 nc3 nk3
  have F4 := fdef_mk (st := s4) nl4 nc4 nk4
  have F5 := fdef_mk (st := s5) nl5 nc5 nk5
  have F6 := fdef_mk (st := s6) nl6 nc6 nk6
  have F7 := fdef_mk (st := s7) nl7 nc7 nk7
  have F8 := fdef_mk (st := s8) nl8 nc8 nk8
  have F9 := fdef_mk (st := s9) nl9 nc9 nk9
  have F10 := fdef_mk (st := s10) nl10 nc10 nk10
  have F11 := fdef_mk (st := s11) nl11 nc11 nk11
  have F12 := fdef_mk (st := s12) nl12 nc12 nk12
  have F13 := fdef_mk (st := s13) nl13 nc13 nk13
  have F14 := fdef_mk (st := s14) nl14 nc14 nk14
  have F15 := fdef_mk (st := s15) nl15 nc15 nk15
  have F16 := fdef_mk (st := s16) nl16 nc16 nk16
  have F17 := fdef_mk (st := s17) nl17 nc17 nk17
  have F18 := fdef_mk (st := cs0) nl18 nc18 nk18
  have F19 := fun_mk (st := sBag) nl19 nc19 nk19
  have F20 := fun_mk (st := sLaw) nl20 nc20 nk20
  let cl : Str → Option Addr := clsOf [("Share", A0)]
  have hcl0 : cl "Share" = some A0 := by rfl
  have hok : ∀ n C, cl n = some C → ClsOk K C := clsOf_all (P := fun n C => ClsOk K C) fun p hp => by
    simp only [List.mem_cons, List.mem_nil_iff, or_false] at hp
    rcases hp with rfl
    · exact clsOk_mk c1_0 c2_0 c3_0 c4_0 c5_0 c6_0 c7_0 c8_0 i1_0 i2_0 sf_0 p0_0 p1_0 p2_0 p3_0 p4_0 p5_0 p6_0 q0_0 q1_0 q2_0 q3_0 q4_0 q5_0 q6_0
  have hoo : ∀ m n C D, cl m = some C → cl n = some D → PySem.W.kitOne K (.ref C) (.ref D) = some (decide (m = n)) := fun m n C D h1 h2 => by
    refine clsOf_all (P := fun m C => PySem.W.kitOne K (.ref C) (.ref D) = some (decide (m = n))) (fun p hp => ?_) m C h1
    refine clsOf_all (P := fun n D => PySem.W.kitOne K (.ref p.2) (.ref D) = some (decide (p.1 = n))) (fun r hr => ?_) n D h2
    simp only [List.mem_cons, List.mem_nil_iff, or_false] at hp hr
    rcases hp with rfl <;> rcases hr with rfl
    · simp [PySem.W.kitOne]
  have D0 : DefAt τ K mg cl 0 d0 := by
    refine ⟨_, _, s0, _, F0, f0, c0, fun _ => PySem.W.mg_of X G na0, (fun c z => by cases z), .all fun us hl => match us, hl with | [_], _ => rfl, fun ks hk s ws hK hl => ?_, fun ks hk s w0 ws hK hl => ?_⟩
    · simp [τ] at hk
    · simp [τ] at hk
  have D1 : DefAt τ K mg cl 1 d1 := by
    refine ⟨_, _, s1, _, F1, f1, c1, fun _ => PySem.W.mg_of X G na1, (fun c z => by cases z), .all fun us hl => match us, hl with | [_, _], _ => rfl, fun ks hk s ws hK hl => ?_, fun ks hk s w0 ws hK hl => ?_⟩
    · simp [τ] at hk
    · simp [τ] at hk
  have D2 : DefAt τ K mg cl 2 d2 := by
    refine ⟨_, _, s2, _, F2, f2, c2, (fun z => by cases z), (fun c z => by cases z; exact ⟨A0, hcl0, na2, ni2, nk2⟩), .all fun us hl => match us, hl with | [_, _], _ => rfl, fun ks hk s ws hK hl => ?_, fun ks hk s w0 ws hK hl => ?_⟩
    · simp [τ] at hk
    · simp [τ] at hk
  have D3 : DefAt τ K mg cl 3 d3 := by
    refine ⟨_, _, s3, _, F3, f3, c3, (fun z => by cases z), (fun c z => by cases z; exact ⟨A0, hcl0, na3, ni3, nk3⟩), .all fun us hl => match us, hl with | [_, _], _ => rfl, fun ks hk s ws hK hl => ?_, fun ks hk s w0 ws hK hl => ?_⟩
    · simp [τ] at hk
    · simp [τ] at hk
  have D4 : DefAt τ K mg cl 4 d4 := by
    refine ⟨_, _, s4, _, F4, f4, c4, (fun z => by cases z), (fun c z => by cases z; exact ⟨A0, hcl0, na4, ni4, nk4⟩), .all fun us hl => match us, hl with | [_, _], _ => rfl, fun ks hk s ws hK hl => ?_, fun ks hk s w0 ws hK hl => ?_⟩
    · simp [τ] at hk
    · simp [τ] at hk
  have D5 : DefAt τ K mg cl 5 d5 := by
    refine ⟨_, _, s5, _, F5, f5, c5, (fun z => by cases z), (fun c z => by cases z; exact ⟨A0, hcl0, na5, ni5, nk5⟩), .all fun us hl => match us, hl with | [_, _], _ => rfl, fun ks hk s ws hK hl => ?_, fun ks hk s w0 ws hK hl => ?_⟩
    · simp [τ] at hk
    · simp [τ] at hk
  have D6 : DefAt τ K mg cl 6 d6 := by
    refine ⟨_, _, s6, _, F6, f6, c6, (fun z => by cases z), (fun c z => by cases z; exact ⟨A0, hcl0, na6, ni6, nk6⟩), .all fun us hl => match us, hl with | [_, _], _ => rfl, fun ks hk s ws hK hl => ?_, fun ks hk s w0 ws hK hl => ?_⟩
    · simp [τ] at hk
    · simp [τ] at hk
  have D7 : DefAt τ K mg cl 7 d7 := by
    refine ⟨_, _, s7, _, F7, f7, c7, (fun z => by cases z), (fun c z => by cases z; exact ⟨A0, hcl0, na7, ni7, nk7⟩), .all fun us hl => match us, hl with | [_, _], _ => rfl, fun ks hk s ws hK hl => ?_, fun ks hk s w0 ws hK hl => ?_⟩
    · simp [τ] at hk
    · simp [τ] at hk
  have D8 : DefAt τ K mg cl 8 d8 := by
    refine ⟨_, _, s8, _, F8, f8, c8, (fun z => by cases z), (fun c z => by cases z; exact ⟨A0, hcl0, na8, ni8, nk8⟩), .all fun us hl => match us, hl with | [_], _ => rfl, fun ks hk s ws hK hl => ?_, fun ks hk s w0 ws hK hl => ?_⟩
    · simp [τ] at hk
    · simp [τ] at hk
  have D9 : DefAt τ K mg cl 9 d9 := by
    refine ⟨_, _, s9, _, F9, f9, c9, fun _ => PySem.W.mg_of X G na9, (fun c z => by cases z), .all fun us hl => match us, hl with | [_, _], _ => rfl, fun ks hk s ws hK hl => ?_, fun ks hk s w0 ws hK hl => ?_⟩
    · simp [τ] at hk
    · simp [τ] at hk
  have D10 : DefAt τ K mg cl 10 d10 := by
    refine ⟨_, _, s10, _, F10, f10, c10, fun _ => PySem.W.mg_of X G na10, (fun c z => by cases z), .all fun us hl => match us, hl with | [_, _], _ => rfl, fun ks hk s ws hK hl => ?_, fun ks hk s w0 ws hK hl => ?_⟩
    · simp [τ] at hk
    · simp [τ] at hk
  have D11 : DefAt τ K mg cl 11 d11 := by
    refine ⟨_, _, s11, _, F11, f11, c11, fun _ => PySem.W.mg_of X G na11, (fun c z => by cases z), .all fun us hl => match us, hl with | [_, _], _ => rfl, fun ks hk s ws hK hl => ?_, fun ks hk s w0 ws hK hl => ?_⟩
    · simp [τ] at hk
    · simp [τ] at hk
  have D12 : DefAt τ K mg cl 12 d12 := by
    refine ⟨_, _, s12, _, F12, f12, c12, fun _ => PySem.W.mg_of X G na12, (fun c z => by cases z), .all fun us hl => match us, hl with | [_, _], _ => rfl, fun ks hk s ws hK hl => ?_, fun ks hk s w0 ws hK hl => ?_⟩
    · simp [τ] at hk
    · simp [τ] at hk
  have D13 : DefAt τ K mg cl 13 d13 := by
    refine ⟨_, _, s13, _, F13, f13, c13, fun _ => PySem.W.mg_of X G na13, (fun c z => by cases z), .all fun us hl => match us, hl with | [_, _], _ => rfl, fun ks hk s ws hK hl => ?_, fun ks hk s w0 ws hK hl => ?_⟩
    · simp [τ] at hk
    · simp [τ] at hk
  have D14 : DefAt τ K mg cl 14 d14 := by
    refine ⟨_, _, s14, _, F14, f14, c14, fun _ => PySem.W.mg_of X G na14, (fun c z => by cases z), .all fun us hl => match us, hl with | [_], _ => rfl, fun ks hk s ws hK hl => ?_, fun ks hk s w0 ws hK hl => ?_⟩
    · simp [τ] at hk
    · simp [τ] at hk
  have D15 : DefAt τ K mg cl 15 d15 := by
    refine ⟨_, _, s15, _, F15, f15, c15, fun _ => PySem.W.mg_of X G na15, (fun c z => by cases z), .all fun us hl => match us, hl with | [_], _ => rfl, fun ks hk s ws hK hl => ?_, fun ks hk s w0 ws hK hl => ?_⟩
    · simp [τ] at hk
    · simp [τ] at hk
  have D16 : DefAt τ K mg cl 16 d16 := by
    refine ⟨_, _, s16, _, F16, f16, c16, fun _ => PySem.W.mg_of X G na16, (fun c z => by cases z), .all fun us hl => match us, hl with | [_], _ => rfl, fun ks hk s ws hK hl => ?_, fun ks hk s w0 ws hK hl => ?_⟩
    · simp [τ] at hk
    · simp [τ] at hk
  have D17 : DefAt τ K mg cl 17 d17 := by
    refine ⟨_, _, s17, _, F17, f17, c17, fun _ => PySem.W.mg_of X G na17, (fun c z => by cases z), .all fun us hl => match us, hl with | [_, _, _], _ => rfl, fun ks hk s ws hK hl => ?_, fun ks hk s w0 ws hK hl => ?_⟩
    · simp [τ] at hk
    · simp [τ] at hk
  have K0 : ClsAt τ K mg cl 0 cd0 := by
    refine ⟨A0, _, _, cs0, _, hcl0, ⟨mk0, na18, ni18, kc0⟩, PySem.W.mg_of X G nA0, F18, cf0, cc0, binds_d (ps := ["self", "top", "bottom"]) nT18_ nD18_ fun us hl => match us, hl with | [_, _, _], _ => ⟨_, rfl, rfl⟩, fun ks hk s w0 ws hK hl => ?_⟩
    · simp [τ] at hk
  have fokF : ∀ p ∈ τ.fok, ∀ C, cl p.1 = some C → NoAttr K C p.2 := fun p hp C hC => by
    simp only [τ, List.mem_cons, List.mem_nil_iff, or_false] at hp
    rcases hp with rfl | rfl
    · cases (hcl0.symm.trans hC); exact nf0
    · cases (hcl0.symm.trans hC); exact nf1
  have M : ModAt τ K mg cl := by
    refine ⟨allC_get (P := AtG mg cl) ⟨atg_ty (PySem.W.mg_none_of X G no_int) (by decide +kernel) (by decide +kernel), atg_ty (PySem.W.mg_none_of X G no_str) (by decide +kernel) (by decide +kernel), atg_ty (PySem.W.mg_none_of X G no_bool) (by decide +kernel) (by decide +kernel), atg_ty (PySem.W.mg_none_of X G no_list) (by decide +kernel) (by decide +kernel), atg_ty (PySem.W.mg_none_of X G no_tuple) (by decide +kernel) (by decide +kernel), atg_ty (PySem.W.mg_none_of X G no_dict) (by decide +kernel) (by decide +kernel), atg_cls (PySem.W.mg_of X G nA0) hcl0, trivial⟩, fun x => ?_, ⟨PySem.W.mg_none_of X G no_range, PySem.W.mg_none_of X G no_zip, PySem.W.mg_none_of X G no_enumerate⟩, defs_all (P := DefAt τ K mg cl) ⟨D0, D1, D2, D3, D4, D5, D6, D7, D8, D9, D10, D11, D12, D13, D14, D15, D16, D17, trivial⟩, clss_all (P := ClsAt τ K mg cl) ⟨K0, trivial⟩, fun c f C h hC => ?_, fun f hf c mm C hm hC => ?_⟩
    · cases x with
      | len => exact PySem.W.mg_none_of X G no_len
      | abs => exact PySem.W.mg_none_of X G no_abs
      | all => exact PySem.W.mg_none_of X G no_all
      | any => exact PySem.W.mg_none_of X G no_any
      | isi => exact PySem.W.mg_none_of X G no_isinstance
      | sorted => exact PySem.W.mg_none_of X G no_sorted
      | list => exact PySem.W.mg_none_of X G no_list
      | tuple => exact PySem.W.mg_none_of X G no_tuple
      | int => exact PySem.W.mg_none_of X G no_int
      | str => exact PySem.W.mg_none_of X G no_str
    · exact fokF (c, f) (by unfold fokT at h; simpa using h) C hC
    · simp [τ, F_is_whole, F_common_divisor, F_Share_add, F_Share_sub, F_Share_mul, F_Share_rmul, F_Share_eq, F_Share_less, F_Share_str, F_l_draw, F_l_pick, F_l_same, F_l_common, F_l_low, F_l_share_text, F_l_fraction, F_l_pair, F_l_plus] at hf
      rcases hf with rfl | rfl
      · cases hm; cases (hcl0.symm.trans hC); exact ⟨a4, a5, na4, ni4, na5, ni5⟩
      · cases hm; cases (hcl0.symm.trans hC); exact ⟨a4, a5, na4, ni4, na5, ni5⟩
  have bB := F19.binds (ps := ["_law_script"]) fun _ _ _ _ _ _ us hl => match us, hl with | [_], _ => rfl
  refine ⟨PySem.W.fnOf "law" "law" (defArgs sLaw) (defBody sLaw) (defScope sLaw) .none kV20 dc20 pm20 an20 cv20 ct20, fun s v => .of_eq rfl, fun base _ _ => ?_⟩
  have GB : FnOk l.prog w K mg base CX0 1 a19 _ ["_law_script"] (spBag K bag0) := gb_mk F19 (PySem.W.mg_none_of X G no_list) (PySem.W.mg_none_of X G no_len)
  exact ok_law (k := 36) (N := lawN) (body := lawB) M hok hoo F20 fL ⟨rfl, rfl⟩ rfl cL ⟨rfl, by decide +kernel⟩ (by decide +kernel) (by decide +kernel) GB (PySem.W.mg_of X G na19) nk19 bB fun ns h => law_ok ns h
end K03
open PySem PySem.W PyProof.Rows
set_option maxRecDepth 100000 in
set_option maxHeartbeats 0 in
theorem PySem.Challenge.cw_deedranks_k03_whole_shares_added_and_mul_holds : PySem.Challenge.rw_deedranks_k03_whole_shares_added_and_mul.Holds := by
  w_on; o_law; k_head; (case hw => w_witness2)
  k_fill
  refine DI.walk (l := PySem.Challenge.rw_deedranks_k03_whole_shares_added_and_mul) rfl rfl (fun w h Y => PySem.W.kIn_of Y) ?F
  case F =>
    intro w mg fa h KX G hmg
    refine' K03.all_mk KX G hmg ?nA0 ?na0 ?nl0 ?nc0 ?nk0 ?na1 ?nl1 ?nc1 ?nk1 ?na2 ?ni2 ?nl2 ?nc2 ?nk2 ?na3 ?ni3 ?nl3 ?nc3 ?nk3 ?na4 ?ni4 ?nl4 ?nc4 ?nk4 ?na5 ?ni5 ?nl5 ?nc5 ?nk5 ?na6 ?ni6 ?nl6 ?nc6 ?nk6 ?na7 ?ni7 ?nl7 ?nc7 ?nk7 ?na8 ?ni8 ?nl8 ?nc8 ?nk8 ?na9 ?nl9 ?nc9 ?nk9 ?na10 ?nl10 ?nc10 ?nk10 ?na11 ?nl11 ?nc11 ?nk11 ?na12 ?nl12 ?nc12 ?nk12 ?na13 ?nl13 ?nc13 ?nk13 ?na14 ?nl14 ?nc14 ?nk14 ?na15 ?nl15 ?nc15 ?nk15 ?na16 ?nl16 ?nc16 ?nk16 ?na17 ?nl17 ?nc17 ?nk17 ?na18 ?ni18 ?nl18 ?nT18_ ?nD18_ ?nc18 ?nk18 ?na19 ?nl19 ?nc19 ?nk19 ?na20 ?nl20 ?nc20 ?nk20 ?mk0 ?kc0 ?c1_0 ?c2_0 ?c3_0 ?c4_0 ?c5_0 ?c6_0 ?c7_0 ?c8_0 ?i1_0 ?i2_0 ?sf_0 ?p0_0 ?p1_0 ?p2_0 ?p3_0 ?p4_0 ?p5_0 ?p6_0 ?q0_0 ?q1_0 ?q2_0 ?q3_0 ?q4_0 ?q5_0 ?q6_0 ?nf0 ?nf1 ?no_len ?no_abs ?no_all ?no_any ?no_isinstance ?no_sorted ?no_list ?no_tuple ?no_int ?no_str ?no_range ?no_zip ?no_enumerate ?no_bool ?no_dict
    (case nA0 => k_is); (case na0 => k_is); (case nl0 => k_is); (case nc0 => k_is); (case nk0 => k_is); (case na1 => k_is)
    (case nl1 => k_is); (case nc1 => k_is); (case nk1 => k_is); (case na2 => k_is); (case ni2 => k_is); (case nl2 => k_is)
    (case nc2 => k_is); (case nk2 => k_is); (case na3 => k_is); (case ni3 => k_is); (case nl3 => k_is); (case nc3 => k_is)
    (case nk3 => k_is); (case na4 => k_is); (case ni4 => k_is); (case nl4 => k_is); (case nc4 => k_is); (case nk4 => k_is)
    (case na5 => k_is); (case ni5 => k_is); (case nl5 => k_is); (case nc5 => k_is); (case nk5 => k_is); (case na6 => k_is)
    (case ni6 => k_is); (case nl6 => k_is); (case nc6 => k_is); (case nk6 => k_is); (case na7 => k_is); (case ni7 => k_is)
    (case nl7 => k_is); (case nc7 => k_is); (case nk7 => k_is); (case na8 => k_is); (case ni8 => k_is); (case nl8 => k_is)
    (case nc8 => k_is); (case nk8 => k_is); (case na9 => k_is); (case nl9 => k_is); (case nc9 => k_is); (case nk9 => k_is)
    (case na10 => k_is); (case nl10 => k_is); (case nc10 => k_is); (case nk10 => k_is); (case na11 => k_is); (case nl11 => k_is)
    (case nc11 => k_is); (case nk11 => k_is); (case na12 => k_is); (case nl12 => k_is); (case nc12 => k_is); (case nk12 => k_is)
    (case na13 => k_is); (case nl13 => k_is); (case nc13 => k_is); (case nk13 => k_is); (case na14 => k_is); (case nl14 => k_is)
    (case nc14 => k_is); (case nk14 => k_is); (case na15 => k_is); (case nl15 => k_is); (case nc15 => k_is); (case nk15 => k_is)
    (case na16 => k_is); (case nl16 => k_is); (case nc16 => k_is); (case nk16 => k_is); (case na17 => k_is); (case nl17 => k_is)
    (case nc17 => k_is); (case nk17 => k_is); (case na18 => k_is); (case ni18 => k_is); (case nl18 => k_is); (case nT18_ => k_is)
    (case nD18_ => rfl); (case nc18 => k_is); (case nk18 => k_is); (case na19 => k_is); (case nl19 => k_is); (case nc19 => k_is)
    (case nk19 => k_is); (case na20 => k_is); (case nl20 => k_is); (case nc20 => k_is); (case nk20 => k_is); (case mk0 => k_is)
    (case kc0 => k_is); (case c1_0 => k_is); (case c2_0 => k_is); (case c3_0 => k_is); (case c4_0 => k_is); (case c5_0 => k_is)
    (case c6_0 => k_is); (case c7_0 => k_is); (case c8_0 => k_is); (case i1_0 => k_is); (case i2_0 => k_is); (case sf_0 => k_is)
    (case p0_0 => k_is); (case p1_0 => k_is); (case p2_0 => k_is); (case p3_0 => k_is); (case p4_0 => k_is); (case p5_0 => k_is)
    (case p6_0 => k_is); (case q0_0 => k_is); (case q1_0 => k_is); (case q2_0 => k_is); (case q3_0 => k_is); (case q4_0 => k_is)
    (case q5_0 => k_is); (case q6_0 => k_is); (case nf0 => k_is); (case nf1 => k_is); (case no_len => k_is); (case no_abs => k_is)
    (case no_all => k_is); (case no_any => k_is); (case no_isinstance => k_is); (case no_sorted => k_is); (case no_list => k_is); (case no_tuple => k_is)
    (case no_int => k_is); (case no_str => k_is); (case no_range => k_is); (case no_zip => k_is); (case no_enumerate => k_is); (case no_bool => k_is)
    (case no_dict => k_is)
