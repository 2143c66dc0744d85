import PyProof.Rows.All
import Wide.All
import OpenK.AllK
import Wide.FinOn
import HandS.ForMost
import HandS.Exc
import HandS.TryMany
import HandS.Iter
import HandS.Zip
import HandS.Flow
import HandS.Wide
import HandS.Deep
import HandS.TupAny
import HandS.TupMul
import HandS.HeadHook2
import HandS.HeadEnd
import HandS.Head2
import KE.GoesNew
import KE.GoesMore
import KE.GoesEnum
import HandS.WordsExc
import HandS.Defaults
import HandS.Style
import KE.KTupSum
import HandS.IsInst
import HandS.Conv
import KE.SortData
import KE.DataMinMax
import HandS.ExcOwn
import PyProof.ExcBaseAll.ValueError
import HandS.ExcIs
import HandS.CallLocal
import HandS.Small
import HandS.TupSets
import PySem.Challenge.RW_onesidewhole_k47_whole_what_is_refused_f
set_option Elab.async false
set_option linter.all false
set_option maxRecDepth 100000
set_option maxHeartbeats 0
/-! DnA: pure values, how they lie in the abstract heap, steps, readings by pure denotations. -/
namespace Dn
open PySem PySem.Spec PyProof.Rows L2

/-- a pure value -/
inductive PV where
  | non | bl (b : Bool) | int (i : Int) | str (x : Str) | tup (xs : List PV) | lst (xs : List PV) | dct (kvs : List (Key × PV)) | fn (i : Nat) | scr (xs : List PV)
instance : Inhabited PV := ⟨.non⟩

mutual
def PV.toD : PV → PyData
  | .non => .none
  | .bl b => .bool b
  | .int i => .int i
  | .str x => .str x
  | .tup xs => .tuple (PV.toDs xs)
  | .lst xs => .list (PV.toDs xs)
  | .dct _ => .none
  | .fn _ => .none
  | .scr _ => .none
def PV.toDs : List PV → List PyData
  | [] => []
  | x :: xs => PV.toD x :: PV.toDs xs
end
/-- plain data, nested at most n deep -/
def PV.dat : Nat → PV → Bool
  | _, .non => true
  | _, .bl _ => true
  | _, .int _ => true
  | _, .str x => PyData.strOk x
  | 0, .tup _ => false
  | n + 1, .tup xs => xs.all (PV.dat n)
  | 0, .lst _ => false
  | n + 1, .lst xs => xs.all (PV.dat n)
  | _, .dct _ => false
  | _, .fn _ => false
  | _, .scr _ => false

theorem toDs_map : ∀ xs : List PV, PV.toDs xs = xs.map PV.toD
  | [] => by simp [PV.toDs]
  | x :: xs => by simp [PV.toDs, toDs_map xs]

/-- a slot's content: a value (frozen), a list of one's own, a list of own lists, a dict of one's own -/
inductive SV where
  | z (p : PV) | o (xs : List PV) | oo (xss : List (List PV)) | od (kvs : List (Key × PV))
instance : Inhabited SV := ⟨.z .non⟩
def SV.fz : SV → PV
  | .z p => p
  | .o xs => .lst xs
  | .oo xss => .lst (xss.map .lst)
  | .od kvs => .dct kvs
abbrev Env := List (Option SV)
inductive Res (α : Type) where
  | ok (a : α) | exc (c : Nat) | bad
def Res.bind {α β : Type} : Res α → (α → Res β) → Res β
  | .ok a, f => f a
  | .exc c, _ => .exc c
  | .bad, _ => .bad
instance : Monad Res where
  pure := .ok
  bind := Res.bind
@[simp] theorem Res.ok_bind {α β : Type} (a : α) (f : α → Res β) : (Res.ok a >>= f) = f a := rfl
@[simp] theorem Res.exc_bind {α β : Type} (c : Nat) (f : α → Res β) : (Res.exc c >>= f) = Res.exc c := rfl
@[simp] theorem Res.bad_bind {α β : Type} (f : α → Res β) : ((Res.bad : Res α) >>= f) = Res.bad := rfl
@[simp] theorem Res.pure_eq {α : Type} (a : α) : (pure a : Res α) = Res.ok a := rfl
def Res.of {α : Type} : Option α → Res α
  | some a => .ok a
  | none => .bad

inductive Flw where
  | nx | brk | ct | ret (r : SV)
abbrev DE := Env → Res (PV × Env)
abbrev DO := Env → Res (SV × Env)
abbrev DT := Env → Res (Bool × Env)
abbrev DEs := Env → Res (List PV × Env)
abbrev DS := Env → Res (Flw × Env)
abbrev DG := PV → Env → Option Env
/-- what the defs do: by number, arguments; the result and what became of the parameters -/
abbrev Calls := Nat → List SV → Res (SV × List (Option SV))

/-! ### how values lie -/
/-- the program's table: where its defs stand -/
structure Tb where
  K : PySem.W.Frag
  fa : Nat → Addr
  cls : Nat → Value

mutual
inductive Rz (T : Tb) (F : Hp) : V → PV → Prop
  | non : Rz T F .non .non
  | bl (b : Bool) : Rz T F (.bl b) (.bl b)
  | int (i : Int) : Rz T F (.int i) (.int i)
  | str (x : Str) : Rz T F (.str x) (.str x)
  | tup {a : Addr} {vs : List V} {ps : List PV} : SqT T.K F a vs → RzL T F vs ps → Rz T F (.ref a) (.tup ps)
  | lst {a : Addr} {vs : List V} {ps : List PV} : F a = some (.lst vs) → RzL T F vs ps → Rz T F (.ref a) (.lst ps)
  | scr {a : Addr} {vs : List V} {ps : List PV} : SqL T.K F a vs → RzL T F vs ps → Rz T F (.ref a) (.scr ps)
  | dct {a : Addr} {vs : List (Key × V)} {ps : List (Key × PV)} : F a = some (.dK vs) → vs.map (·.1) = ps.map (·.1) → RzL T F (vs.map (·.2)) (ps.map (·.2)) → Rz T F (.ref a) (.dct ps)
  | fn (i : Nat) : Rz T F (.ref (T.fa i)) (.fn i)
inductive RzL (T : Tb) (F : Hp) : List V → List PV → Prop
  | nil : RzL T F [] []
  | cons {v : V} {vs : List V} {p : PV} {ps : List PV} : Rz T F v p → RzL T F vs ps → RzL T F (v :: vs) (p :: ps)
end

def Le (F F' : Hp) : Prop := ∀ b o, F b = some o → F' b = some o
theorem Le.refl (F : Hp) : Le F F := fun _ _ h => h
theorem Le.trans {F G H : Hp} (a : Le F G) (b : Le G H) : Le F H := fun x o h => b x o (a x o h)
theorem Rd.le {F F' : Hp} (l : Le F F') {a : Addr} {o : HO} (h : Rd F a o) : Rd F' a o := by
  rcases h with h | ⟨u, h⟩
  · exact .inl (l _ _ h)
  · exact .inr ⟨u, l _ _ h⟩
theorem SqT.le {K : PySem.W.Frag} {F F' : Hp} (l : Le F F') {a : Addr} {xs : List V} (h : SqT K F a xs) : SqT K F' a xs := by
  rcases h with h | h
  · exact .inl (Rd.le l h)
  · exact .inr h
theorem SqL.le {K : PySem.W.Frag} {F F' : Hp} (l : Le F F') {a : Addr} {xs : List V} (h : SqL K F a xs) : SqL K F' a xs := by
  rcases h with h | h
  · exact .inl (Rd.le l h)
  · exact .inr h
mutual
theorem Rz.le {T : Tb} {F F' : Hp} (l : Le F F') : ∀ {v : V} {p : PV}, Rz T F v p → Rz T F' v p
  | _, _, .non => .non
  | _, _, .bl b => .bl b
  | _, _, .int i => .int i
  | _, _, .str x => .str x
  | _, _, .tup h r => .tup (SqT.le l h) (RzL.le l r)
  | _, _, .lst h r => .lst (l _ _ h) (RzL.le l r)
  | _, _, .scr h r => .scr (SqL.le l h) (RzL.le l r)
  | _, _, .dct h k r => .dct (l _ _ h) k (RzL.le l r)
  | _, _, .fn i => .fn i
theorem RzL.le {T : Tb} {F F' : Hp} (l : Le F F') : ∀ {vs : List V} {ps : List PV}, RzL T F vs ps → RzL T F' vs ps
  | _, _, .nil => .nil
  | _, _, .cons h r => .cons (Rz.le l h) (RzL.le l r)
end
section
variable {T : Tb} {F : Hp}
theorem RzL.length : ∀ {vs : List V} {ps : List PV}, RzL T F vs ps → vs.length = ps.length
  | _, _, .nil => rfl
  | _, _, .cons _ r => congrArg (· + 1) (RzL.length r)
theorem RzL.get : ∀ {vs : List V} {ps : List PV} {i : Nat} {p : PV}, RzL T F vs ps → ps[i]? = some p → ∃ v, vs[i]? = some v ∧ Rz T F v p
  | _, _, _, _, .nil, e => by simp at e
  | _, _, 0, _, .cons r _, e => by simp at e; subst e; exact ⟨_, rfl, r⟩
  | _, _, i + 1, p, .cons _ t, e => by
    obtain ⟨v, h1, h2⟩ := RzL.get (i := i) (p := p) t (by simpa using e)
    exact ⟨v, by simpa using h1, h2⟩
theorem RzL.app : ∀ {vs ws : List V} {ps qs : List PV}, RzL T F vs ps → RzL T F ws qs → RzL T F (vs ++ ws) (ps ++ qs)
  | _, _, _, _, .nil, s => s
  | _, _, _, _, .cons r t, s => .cons r (RzL.app t s)
theorem RzL.take : ∀ {vs : List V} {ps : List PV} (n : Nat), RzL T F vs ps → RzL T F (vs.take n) (ps.take n)
  | _, _, 0, _ => .nil
  | _, _, _ + 1, .nil => .nil
  | _, _, n + 1, .cons r t => .cons r (RzL.take n t)
theorem RzL.drop : ∀ {vs : List V} {ps : List PV} (n : Nat), RzL T F vs ps → RzL T F (vs.drop n) (ps.drop n)
  | _, _, 0, r => r
  | _, _, _ + 1, .nil => .nil
  | _, _, n + 1, .cons _ t => RzL.drop n t
theorem RzL.set {v : V} {p : PV} (r : Rz T F v p) : ∀ {vs : List V} {ps : List PV} (i : Nat), RzL T F vs ps → RzL T F (vs.set i v) (ps.set i p)
  | _, _, _, .nil => .nil
  | _, _, 0, .cons _ t => .cons r t
  | _, _, i + 1, .cons q t => .cons q (RzL.set r i t)
theorem RzL.rev {vs : List V} {ps : List PV} (h : RzL T F vs ps) : RzL T F vs.reverse ps.reverse := by
  induction vs generalizing ps with
  | nil => cases h; exact .nil
  | cons v vs ih =>
    cases h with
    | cons r t =>
      rw [List.reverse_cons, List.reverse_cons]
      exact (ih t).app (.cons r .nil)
theorem RzL.rep {vs : List V} {ps : List PV} (h : RzL T F vs ps) : ∀ k : Nat, RzL T F (List.replicate k vs).flatten (List.replicate k ps).flatten
  | 0 => .nil
  | k + 1 => by
    rw [List.replicate_succ, List.replicate_succ, List.flatten_cons, List.flatten_cons]
    exact h.app (RzL.rep h k)
theorem RzL.isEmpty {vs : List V} {ps : List PV} (h : RzL T F vs ps) : vs.isEmpty = ps.isEmpty := by
  cases h <;> rfl
theorem RzL.one {v : V} {p : PV} (r : Rz T F v p) : RzL T F [v] [p] := .cons r .nil
end
theorem SqT.lift {K : PySem.W.Frag} {F H : Hp} (l : Le F H) {a : Addr} {xs : List V} (h : SqT K F a xs) : SqT K H a xs := SqT.le l h
mutual
theorem Rz.dp {T : Tb} {F H : Hp} (l : Le F H) : ∀ (n : Nat) {v : V} {p : PV}, Rz T F v p → p.dat n = true → Dp T.K H v p.toD
  | _, _, _, .non, _ => by simp only [PV.toD]; exact .non
  | _, _, _, .bl b, _ => by simp only [PV.toD]; exact .bl b
  | _, _, _, .int i, _ => by simp only [PV.toD]; exact .int i
  | _, _, _, .str x, _ => by simp only [PV.toD]; exact .str x
  | 0, _, _, .tup _ _, e => by simp [PV.dat] at e
  | n + 1, _, _, .tup h r, e => by simp only [PV.toD]; exact .tup (SqT.le l h) (RzL.dp l n r (by simpa [PV.dat] using e))
  | 0, _, _, .lst _ _, e => by simp [PV.dat] at e
  | n + 1, _, _, .lst h r, e => by simp only [PV.toD]; exact .lst (.inl (.inl (l _ _ h))) (RzL.dp l n r (by simpa [PV.dat] using e))
  | _, _, _, .dct _ _ _, e => by simp [PV.dat] at e
  | _, _, _, .fn _, e => by simp [PV.dat] at e
  | _, _, _, .scr _ _, e => by simp [PV.dat] at e
theorem RzL.dp {T : Tb} {F H : Hp} (l : Le F H) : ∀ (n : Nat) {vs : List V} {ps : List PV}, RzL T F vs ps → (∀ p ∈ ps, p.dat n = true) → DpAll T.K H vs (PV.toDs ps)
  | _, _, _, .nil, _ => by simp only [PV.toDs]; exact .nil
  | n, _, _, .cons r t, e => by
    simp only [PV.toDs]
    exact .cons (Rz.dp l n r (e _ List.mem_cons_self)) (RzL.dp l n t fun p hp => e p (List.mem_cons_of_mem _ hp))
end

theorem depthAll_le {n : Nat} : ∀ {ds : List PyData}, (∀ d ∈ ds, d.depth ≤ n) → PyData.depthAll ds ≤ n
  | [], _ => by simp [PyData.depthAll]
  | d :: ds, h => by
    have h1 := h d List.mem_cons_self
    have h2 := depthAll_le (ds := ds) fun x hx => h x (List.mem_cons_of_mem _ hx)
    simp only [PyData.depthAll]
    omega
theorem canLayAll_of : ∀ {ds : List PyData}, (∀ d ∈ ds, d.canLay0 = true) → PyData.canLayAll0 ds = true
  | [], _ => by simp [PyData.canLayAll0]
  | d :: ds, h => by
    have h1 := h d List.mem_cons_self
    have h2 := canLayAll_of (ds := ds) fun x hx => h x (List.mem_cons_of_mem _ hx)
    simp only [PyData.canLayAll0, h1, h2, Bool.and_true]
theorem dat_lay : ∀ (n : Nat) (p : PV), p.dat n = true → p.toD.canLay0 = true ∧ p.toD.depth ≤ n
  | _, .non, _ => by simp [PV.toD, PyData.canLay0, PyData.depth]
  | _, .bl _, _ => by simp [PV.toD, PyData.canLay0, PyData.depth]
  | _, .int _, _ => by simp [PV.toD, PyData.canLay0, PyData.depth]
  | _, .str x, e => by simpa [PV.toD, PyData.canLay0, PyData.depth, PV.dat] using e
  | 0, .tup _, e => by simp [PV.dat] at e
  | 0, .lst _, e => by simp [PV.dat] at e
  | n + 1, .tup xs, e => by
    have e' : ∀ p ∈ xs, p.dat n = true := by simpa [PV.dat] using e
    have a : ∀ d ∈ PV.toDs xs, d.canLay0 = true ∧ d.depth ≤ n := fun d hd => by
      rw [toDs_map] at hd
      obtain ⟨p, hp, rfl⟩ := List.mem_map.mp hd
      exact dat_lay n p (e' p hp)
    refine ⟨?_, ?_⟩
    · simp only [PV.toD, PyData.canLay0]; exact canLayAll_of fun d hd => (a d hd).1
    · simp only [PV.toD, PyData.depth]; have := depthAll_le fun d hd => (a d hd).2; omega
  | n + 1, .lst xs, e => by
    have e' : ∀ p ∈ xs, p.dat n = true := by simpa [PV.dat] using e
    have a : ∀ d ∈ PV.toDs xs, d.canLay0 = true ∧ d.depth ≤ n := fun d hd => by
      rw [toDs_map] at hd
      obtain ⟨p, hp, rfl⟩ := List.mem_map.mp hd
      exact dat_lay n p (e' p hp)
    refine ⟨?_, ?_⟩
    · simp only [PV.toD, PyData.canLay0]; exact canLayAll_of fun d hd => (a d hd).1
    · simp only [PV.toD, PyData.depth]; have := depthAll_le fun d hd => (a d hd).2; omega
  | _, .dct _, e => by simp [PV.dat] at e
  | _, .fn _, e => by simp [PV.dat] at e
  | _, .scr _, e => by simp [PV.dat] at e
theorem dat_shaped {p : PV} (h : p.dat 60 = true) : SeqAt.shaped p.toD = true := by
  obtain ⟨h1, h2⟩ := dat_lay 60 p h
  unfold SeqAt.shaped
  rw [h1, decide_eq_true (by omega)]
  rfl
end Dn

/-! DnR1: the head: what is looked at. -/
namespace Dn
open PySem PySem.Spec PyProof.Rows L2

mutual
/-- the value u is the data p, by the written part -/
def datB (K : PySem.W.Frag) : PV → Value → Bool
  | .non, .none => true
  | .bl b, .bool c => b == c
  | .int i, .int j _ => decide (i = j)
  | .str x, .str y _ => decide (x = y)
  | .tup ps, .ref a => (match K.lookup a with
    | some ⟨.type c, _, .seq its _, _⟩ => decide (c = "tuple") && (decide (its.size ≤ sizeLine) && datBs K ps its.toList)
    | _ => false)
  | _, _ => false
def datBs (K : PySem.W.Frag) : List PV → List Value → Bool
  | [], [] => true
  | p :: ps, u :: us => datB K p u && datBs K ps us
  | _, _ => false
end
section
variable {T : Tb}
mutual
theorem datB_ok : ∀ {p : PV} {u : Value}, datB T.K p u = true → ∃ v, RelV v u ∧ ∀ F, Rz T F v p
  | .non, u, h => by
    cases u <;> first | (simp [datB] at h; done) | exact ⟨.non, rfl, fun _ => .non⟩
  | .bl b, u, h => by
    cases u <;> first | (simp [datB] at h; done) | skip
    rename_i c
    have e : b = c := by
      have h1 : (b == c) = true := by simpa [datB] using h
      exact eq_of_beq h1
    subst e
    exact ⟨.bl b, rfl, fun _ => .bl b⟩
  | .int i, u, h => by
    cases u <;> first | (simp [datB] at h; done) | skip
    rename_i j t
    have e : i = j := by simpa [datB] using h
    subst e
    exact ⟨.int i, ⟨t, rfl⟩, fun _ => .int i⟩
  | .str x, u, h => by
    cases u <;> first | (simp [datB] at h; done) | skip
    rename_i y t
    have e : x = y := by simpa [datB] using h
    subst e
    exact ⟨.str x, ⟨t, rfl⟩, fun _ => .str x⟩
  | .tup ps, u, h => by
    cases u <;> first | (simp [datB] at h; done) | skip
    rename_i a
    simp only [datB] at h
    split at h
    · rename_i c od its n sl q
      simp only [Bool.and_eq_true, decide_eq_true_eq] at h
      obtain ⟨h1, h2, h3⟩ := h
      obtain ⟨vs, r1, r2⟩ := datBs_ok h3
      exact ⟨.ref a, rfl, fun F => .tup (.inr ⟨_, its, n, q, congrArg Value.type h1, rfl, h2, r1⟩) (r2 F)⟩
    · cases h
  | .lst _, u, h => by cases u <;> simp [datB] at h
  | .dct _, u, h => by cases u <;> simp [datB] at h
  | .fn _, u, h => by cases u <;> simp [datB] at h
  | .scr _, u, h => by cases u <;> simp [datB] at h
theorem datBs_ok : ∀ {ps : List PV} {us : List Value}, datBs T.K ps us = true → ∃ vs, Vals vs us ∧ ∀ F, RzL T F vs ps
  | [], [], _ => ⟨[], .nil, fun _ => .nil⟩
  | p :: ps, u :: us, h => by
    simp only [datBs, Bool.and_eq_true] at h
    obtain ⟨v, a, b⟩ := datB_ok h.1
    obtain ⟨vs, a2, b2⟩ := datBs_ok h.2
    exact ⟨v :: vs, .cons a a2, fun F => .cons (b F) (b2 F)⟩
  | [], _ :: _, h => by simp [datBs] at h
  | _ :: _, [], h => by simp [datBs] at h
end
end
/-! ### the hook -/
structure HdX where
  fr : List Str
  ex : List Str
  nr : Nat
  cs : List (Str × PV)
  fn : List He.DefD
def conB (K : PySem.W.Frag) (q : Str × PV) : Bool := match PySem.W.nsIn K mainGlobals q.1 with
  | some (some u) => datB K q.2 u
  | _ => false
/-- an own class without own methods, that derives from ValueError -/
def exB (K : PySem.W.Frag) (x : Str) : Bool := (He.Fa.exc x).ok K && (decide (PySem.W.findIn K (.ref (He.ga K x)) "__getattribute__" = some (some (.builtin "BaseException.__getattribute__"))) && (decide (PySem.W.findIn K (.ref (He.ga K x)) "__getattr__" = some none) &&
  (PySem.W.hasDictIn K (He.ga K x) && (decide (PySem.W.findIn K (.ref (He.ga K x)) "__class__" = some (some (.builtin "object.__class__"))) && (decide (PySem.W.specialIn K (.builtin "object.__class__") "__get__" = some (some (.builtin "getset_descriptor.__get__"))) &&
  (decide (PySem.W.takesIn K (.builtin "object.__class__") = some true) && (decide (PySem.W.mroIn K (He.ga K x) (.type "object") = some true) && decide (PySem.W.kitOne K (.ref (He.ga K x)) (.type "ValueError") = some true))))))))
def nth {α : Type} (l : List α) (i : Nat) : Option α := l[i]?
/-- which class is which -/
def exmB (K : PySem.W.Frag) (nr : Nat) (ex : List Str) : Bool := (List.range nr).all fun i => (List.range ex.length).all fun j => match nth ex i, nth ex j with
  | some x, some y => decide (PySem.W.exmOne K (.ref (He.ga K x)) (.ref (He.ga K y)) = some (Nat.beq i j))
  | _, _ => true
def okX (h : HdX) (K : PySem.W.Frag) : Bool := (h.fr.all fun x => (He.Fa.free x).ok K) && (((h.ex.all fun x => (He.Fa.glo x).ok K) && (((h.ex.take h.nr).all fun x => exB K x) && exmB K h.nr h.ex)) && ((h.cs.all fun q => conB K q) && (h.fn.all fun d => (He.Fa.glo d.name).ok K && d.ok K)))
def obsX (h : HdX) (K : PySem.W.Frag) : He.AlD := (okX h K, h.fn.map fun d => He.fnW K d.at_)
def valX (h : HdX) : He.AlD := (true, h.fn.map He.DefD.val)
/-- what is looked at: the globals' objects, defs' codes, classes' names, tuples' items -/
def refsX (o : Obj) : List Addr := match o.data with
  | .func fd => He.refV fd.code
  | .cls cd => cd.ns :: cd.mro.flatMap He.refV
  | .seq its _ => its.toList.flatMap He.refV
  | _ => []
def refsM (g : Addr → Option Obj) : List Addr := match g mainGlobals with
  | some o => (match o.data with
    | .dict es _ => es.toList.flatMap fun e => He.refV e.val
    | _ => [])
  | none => []
def lvX (g : Addr → Option Obj) : Nat → List Addr
  | 0 => refsM g
  | n + 1 => (lvX g n).flatMap fun a => match g a with
    | some o => refsX o
    | none => []
def asX (g : Addr → Option Obj) : Nat → List Addr
  | 0 => mainGlobals :: lvX g 0
  | n + 1 => asX g n ++ lvX g (n + 1)
def obsXG (n : Nat) (h : HdX) (g : Addr → Option Obj) : He.AlD := obsX h (He.frG g (asX g n))
def hookX (n : Nat) (h : HdX) : PySem.W.Hook where
  α := He.AlD
  obs := fun s => obsXG n h s.heap.get?
  val := fun _ => valX h
  says := fun _ hp => ∃ K : PySem.W.Frag, K.In hp ∧ obsX h K = valX h
  of := fun _ _ e => ⟨_, He.frG_in, e⟩
  keeps := fun _ _ _ ⟨K, hK, c⟩ k => ⟨K, PySem.W.Frag.In.keeps hK k, c⟩
theorem obsXG_eq {n : Nat} {h : HdX} {g : Addr → Option Obj} {s : Shared} (e : ∀ a, g a = s.heap.get? a) : obsXG n h g = (hookX n h).obs s := by
  have e : g = s.heap.get? := funext e
  rw [e] <;> rfl

/-! ### facts in parts -/
def joinX (a b : HdX) : HdX := { a with fn := a.fn ++ b.fn }
theorem obs_join {a : HdX} {f : List He.DefD} {K : PySem.W.Frag} (h1 : obsX a K = valX a) (h2 : obsX ⟨[], [], 0, [], f⟩ K = valX ⟨[], [], 0, [], f⟩) : obsX (joinX a ⟨[], [], 0, [], f⟩) K = valX (joinX a ⟨[], [], 0, [], f⟩) := by
  have a1 : okX a K = true := congrArg (fun z : He.AlD => z.1) h1
  have a2 : a.fn.map (fun d => He.fnW K d.at_) = a.fn.map He.DefD.val := congrArg (fun z : He.AlD => z.2) h1
  have b1 : okX ⟨[], [], 0, [], f⟩ K = true := congrArg (fun z : He.AlD => z.1) h2
  have b2 : f.map (fun d => He.fnW K d.at_) = f.map He.DefD.val := congrArg (fun z : He.AlD => z.2) h2
  have c1 : okX (joinX a ⟨[], [], 0, [], f⟩) K = true := by
    simp only [okX, joinX, Bool.and_eq_true, List.all_append] at a1 b1 ⊢
    exact ⟨a1.1, a1.2.1, a1.2.2.1, a1.2.2.2, b1.2.2.2⟩
  have c2 : (joinX a ⟨[], [], 0, [], f⟩).fn.map (fun d => He.fnW K d.at_) = (joinX a ⟨[], [], 0, [], f⟩).fn.map He.DefD.val := by
    show (a.fn ++ f).map _ = (a.fn ++ f).map _
    rw [List.map_append, List.map_append, a2, b2]
  show (okX (joinX a ⟨[], [], 0, [], f⟩) K, (joinX a ⟨[], [], 0, [], f⟩).fn.map (fun d => He.fnW K d.at_)) = (true, (joinX a ⟨[], [], 0, [], f⟩).fn.map He.DefD.val)
  rw [c1, c2]
end Dn

namespace KL
open PySem PySem.Spec PyProof.Rows L2 Dn

def tp (i : Nat) : Stmt := PySem.Challenge.pw_onesidewhole_k47_whole_what_is_refused_f.main.body.getD i (.Pass ⟨0, 0, 0, 0⟩)
def dd (i : Nat) (x : Str) : He.DefD := ⟨(x, none), x, x, defArgs (tp i), defBody (tp i), defScope (tp i), [], []⟩
def hd : HdX := ⟨["len", "abs", "int", "min", "max", "sum", "all", "any", "tuple", "str", "list", "sorted", "isinstance", "bool", "range", "enumerate", "zip", "set", "ValueError"],
  ["CanNot", "TooMany", "Unfit", "BadText"], 3,
  [("NOUGHT", .tup [.int 0, .int 1]), ("ONE", .tup [.int 1, .int 1]), ("MOST_PART", .int 1000000000000), ("MOST_RECTANGLES", .int 60), ("MOST_NODES", .int 30), ("MOST_WIRES", .int 60), ("MOST_TREES", .int 2000), ("MOST_DEEP", .int 60), ("MOST_FLOOR", .int 40), ("LEAST_SIDE", .int 5), ("FIVE_SIX", .tup [.tup [.int 0, .int 0, .int 2, .int 1], .tup [.int 0, .int 1, .int 1, .int 3], .tup [.int 0, .int 3, .int 2, .int 4], .tup [.int 0, .int 4, .int 1, .int 6], .tup [.int 1, .int 1, .int 2, .int 3], .tup [.int 1, .int 4, .int 3, .int 5], .tup [.int 1, .int 5, .int 3, .int 6], .tup [.int 2, .int 0, .int 4, .int 1], .tup [.int 2, .int 1, .int 4, .int 2], .tup [.int 2, .int 2, .int 3, .int 4], .tup [.int 3, .int 2, .int 5, .int 3], .tup [.int 3, .int 3, .int 4, .int 5], .tup [.int 3, .int 5, .int 5, .int 6], .tup [.int 4, .int 0, .int 5, .int 2], .tup [.int 4, .int 3, .int 5, .int 5]]), ("SIX_EIGHT", .tup [.tup [.int 0, .int 0, .int 2, .int 1], .tup [.int 0, .int 1, .int 2, .int 2], .tup [.int 0, .int 2, .int 1, .int 4], .tup [.int 0, .int 4, .int 1, .int 6], .tup [.int 0, .int 6, .int 1, .int 8], .tup [.int 1, .int 2, .int 2, .int 4], .tup [.int 1, .int 4, .int 2, .int 6], .tup [.int 1, .int 6, .int 3, .int 7], .tup [.int 1, .int 7, .int 3, .int 8], .tup [.int 2, .int 0, .int 4, .int 1], .tup [.int 2, .int 1, .int 3, .int 3], .tup [.int 2, .int 3, .int 3, .int 5], .tup [.int 2, .int 5, .int 4, .int 6], .tup [.int 3, .int 1, .int 4, .int 3], .tup [.int 3, .int 3, .int 5, .int 4], .tup [.int 3, .int 4, .int 5, .int 5], .tup [.int 3, .int 6, .int 4, .int 8], .tup [.int 4, .int 0, .int 5, .int 2], .tup [.int 4, .int 2, .int 6, .int 3], .tup [.int 4, .int 5, .int 5, .int 7], .tup [.int 4, .int 7, .int 6, .int 8], .tup [.int 5, .int 0, .int 6, .int 2], .tup [.int 5, .int 3, .int 6, .int 5], .tup [.int 5, .int 5, .int 6, .int 7]]), ("MOST_ROOT", .int 1000000), ("MOST_ROOTED", .int 30), ("TWO", .tup [.int 2, .int 1]), ("MOST_SQUARES", .int 60), ("MOST_WIDE", .int 1000000), ("MOST_TRIED", .int 7), ("KNOWN", .tup [.tup [.int 33, .tup [.tup [.int 18, .int 15], .tup [.int 7, .int 8], .tup [.int 14, .int 4], .tup [.int 10, .int 1], .tup [.int 9]]], .tup [.int 69, .tup [.tup [.int 36, .int 33], .tup [.int 5, .int 28], .tup [.int 25, .int 9, .int 2], .tup [.int 7], .tup [.int 16]]], .tup [.int 112, .tup [.tup [.int 50, .int 35, .int 27], .tup [.int 8, .int 19], .tup [.int 15, .int 17, .int 11], .tup [.int 6, .int 24], .tup [.int 29, .int 25, .int 9, .int 2], .tup [.int 7, .int 18], .tup [.int 16], .tup [.int 42], .tup [.int 4, .int 37], .tup [.int 33]]]])],
  [dd 6 "is_number", dd 7 "is_within", dd 8 "sure_within", dd 9 "is_long", dd 10 "are_numbers", dd 11 "tupled", dd 12 "common", dd 17 "lowest", dd 18 "plus", dd 19 "less", dd 20 "times", dd 21 "over", dd 22 "is_under", dd 23 "lesser_of", dd 24 "greater_of", dd 25 "is_whole_in", dd 26 "in_line", dd 27 "is_fraction_in", dd 28 "is_near_fraction", dd 31 "is_rectangle_in", dd 32 "is_near_rectangle", dd 33 "sure_rectangle", dd 34 "are_near_parts", dd 35 "sure_parts", dd 36 "sides_of", dd 37 "area_in", dd 38 "around_in", dd 39 "shared_in", dd 40 "lies_in", dd 41 "has_point", dd 43 "total_in", dd 44 "middle", dd 45 "gap_in", dd 46 "flaw_in", dd 47 "is_laying_in", dd 48 "sure_laying", dd 49 "crossed", dd 50 "cut_at", dd 55 "is_before", dd 56 "in_order_of", dd 57 "ways_in", dd 58 "way_of", dd 59 "net_in", dd 60 "ratios_in", dd 61 "is_net_in", dd 62 "reached_in", dd 63 "sure_net", dd 64 "sure_ratios", dd 65 "table_of", dd 66 "cleared", dd 67 "lowered", dd 68 "determinant", dd 69 "solved", dd 70 "without_nodes", dd 71 "drops_in", dd 72 "flows_in", dd 73 "trees_in", dd 74 "sure_flowing", dd 75 "level_ways", dd 76 "net_of", dd 77 "ratios_of", dd 78 "widths_at", dd 79 "drops", dd 80 "flows", dd 81 "whole_ratio", dd 82 "sides_told", dd 83 "tree_sum", dd 84 "pair_sum", dd 85 "net_trees", dd 88 "both_sides", dd 89 "tree_or_core", dd 90 "numbers_in", dd 91 "is_tree_in", dd 92 "laid_by", dd 93 "is_core_in", dd 94 "cut_tree", dd 95 "core_of", dd 96 "is_core", dd 97 "sure_tree", dd 98 "parts_of_tree", dd 99 "tree_height", dd 100 "tree_numbers", dd 102 "is_tile", dd 103 "tile_cells", dd 104 "is_brickwork_in", dd 110 "inner_lines", dd 111 "crossed_by", dd 112 "bare_lines", dd 113 "is_domino", dd 114 "lying", dd 115 "grown_up", dd 116 "has_faultless_in", dd 117 "faultless_in", dd 118 "grown_to", dd 119 "sure_brickwork", dd 120 "line_crossings", dd 121 "faults", dd 122 "has_faultless", dd 123 "faultless", dd 124 "is_faultless", dd 125 "stretched_up", dd 130 "is_root_in", dd 131 "is_near_root", dd 132 "sign_of", dd 133 "root_plus", dd 134 "root_less", dd 135 "root_times", dd 136 "root_under", dd 137 "is_rooted_in", dd 138 "is_near_rooted", dd 139 "sure_rooted", dd 140 "are_near_rooted", dd 141 "sure_many_rooted", dd 142 "root_sides_in", dd 143 "lies_within", dd 144 "do_share", dd 145 "area_of", dd 146 "is_root_laid", dd 147 "sure_root_laying", dd 148 "twist_in", dd 149 "twists_in", dd 150 "root_sign", dd 151 "rooted_sides", dd 152 "rooted_area", dd 153 "is_rooted_laying", dd 154 "twist", dd 155 "twists", dd 156 "ratio_of", dd 157 "first_twisted", dd 158 "as_rooted", dd 164 "is_square_in", dd 165 "is_code_in", dd 166 "sure_code", dd 167 "levels_joined", dd 168 "lowest_level", dd 169 "row_laid", dd 170 "squares_by", dd 171 "as_rectangle", dd 172 "code_rows", dd 173 "greatest_first", dd 174 "first_fit", dd 175 "can_lie", dd 176 "marked", dd 177 "filled_by", dd 178 "are_squares", dd 179 "none_alike", dd 180 "squares_of_code", dd 181 "code_of_squares", dd 182 "known_code", dd 183 "squares_by_greatest", dd 184 "quotients", dd 185 "greatest_row", dd 186 "fewest_squares", dd 187 "fewest_laying", dd 189 "_law_box", dd 190 "_law_take", dd 191 "_law_cells", dd 192 "_law_pick", dd 193 "_law_call", dd 194 "_law_slip", dd 195 "_law_as_rect", dd 196 "_law_are_all_unfit", dd 197 "law"]⟩
end KL

namespace KL
open PySem PySem.Spec PyProof.Rows L2 Dn

def nm0 : List PySem.Str := ["BadText", "CanNot", "TooMany", "Unfit", "is_number", "is_within", "sure_within", "is_long", "are_numbers", "tupled", "common", "NOUGHT", "ONE", "MOST_PART", "lowest", "plus", "less", "times", "over", "is_under", "lesser_of", "greater_of", "is_whole_in", "in_line", "is_fraction_in", "is_near_fraction", "MOST_RECTANGLES", "is_rectangle_in", "is_near_rectangle", "sure_rectangle"]
def nm1 : List PySem.Str := ["are_near_parts", "sure_parts", "sides_of", "area_in", "around_in", "shared_in", "lies_in", "has_point", "total_in", "middle", "gap_in", "flaw_in", "is_laying_in", "sure_laying", "crossed", "cut_at", "MOST_NODES", "MOST_WIRES", "MOST_TREES", "is_before", "in_order_of", "ways_in", "way_of", "net_in", "ratios_in", "is_net_in", "reached_in", "sure_net", "sure_ratios", "table_of"]
def nm2 : List PySem.Str := ["cleared", "lowered", "determinant", "solved", "without_nodes", "drops_in", "flows_in", "trees_in", "sure_flowing", "level_ways", "net_of", "ratios_of", "widths_at", "drops", "flows", "whole_ratio", "sides_told", "tree_sum", "pair_sum", "net_trees", "MOST_DEEP", "both_sides", "tree_or_core", "numbers_in", "is_tree_in", "laid_by", "is_core_in", "cut_tree", "core_of", "is_core"]
def nm3 : List PySem.Str := ["sure_tree", "parts_of_tree", "tree_height", "tree_numbers", "is_tile", "tile_cells", "is_brickwork_in", "MOST_FLOOR", "LEAST_SIDE", "FIVE_SIX", "SIX_EIGHT", "inner_lines", "crossed_by", "bare_lines", "is_domino", "lying", "grown_up", "has_faultless_in", "faultless_in", "grown_to", "sure_brickwork", "line_crossings", "faults", "has_faultless", "faultless", "is_faultless", "stretched_up", "MOST_ROOT", "MOST_ROOTED", "TWO"]
def nm4 : List PySem.Str := ["is_root_in", "is_near_root", "sign_of", "root_plus", "root_less", "root_times", "root_under", "is_rooted_in", "is_near_rooted", "sure_rooted", "are_near_rooted", "sure_many_rooted", "root_sides_in", "lies_within", "do_share", "area_of", "is_root_laid", "sure_root_laying", "twist_in", "twists_in", "root_sign", "rooted_sides", "rooted_area", "is_rooted_laying", "twist", "twists", "ratio_of", "first_twisted", "as_rooted", "MOST_SQUARES"]
def nm5 : List PySem.Str := ["MOST_WIDE", "MOST_TRIED", "KNOWN", "is_square_in", "is_code_in", "sure_code", "levels_joined", "lowest_level", "row_laid", "squares_by", "as_rectangle", "code_rows", "greatest_first", "first_fit", "can_lie", "marked", "filled_by", "are_squares", "none_alike", "squares_of_code", "code_of_squares", "known_code", "squares_by_greatest", "quotients", "greatest_row", "fewest_squares", "fewest_laying", "_law_box", "_law_take", "_law_cells"]
def nm6 : List PySem.Str := ["_law_pick", "_law_call", "_law_slip", "_law_as_rect", "_law_are_all_unfit"]
def nms : List PySem.Str := nm0 ++ nm1 ++ nm2 ++ nm3 ++ nm4 ++ nm5 ++ nm6
abbrev R : PySem.W.OpenRow := PySem.W.OpenLaw.row PySem.Challenge.rw_onesidewhole_k47_whole_what_is_refused_f
abbrev vw : Program := PySem.W.view R.prog [197]
noncomputable def endS (w : World) (os : OsState) : Option PySem.W.SharedT := HandSHeadRun.endF (HandSHeadRun.stepQ (HandSHeadRun.denQ HandSHeadRun.tabQ) R.prog w) 7000 R.prog w os
def obP (h : HdX) (s : PySem.W.SharedT) : He.AlD := obsXG 4 h (HandSHeadRun.getT s)
def fp0 : List He.DefD := (hd.fn.drop 0).take 55
def hp0 : HdX := ⟨hd.fr, hd.ex, hd.nr, hd.cs, fp0⟩
def fp1 : List He.DefD := (hd.fn.drop 55).take 55
def hp1 : HdX := ⟨[], [], 0, [], fp1⟩
def fp2 : List He.DefD := (hd.fn.drop 110).take 55
def hp2 : HdX := ⟨[], [], 0, [], fp2⟩
theorem run1 (w : World) (os : OsState) : (endS w os).map (fun s => HandSHeadRun.looksF R.prog (PySem.W.boot_heap w.params) s.abs) = some true := by
  kernel_rfl
theorem run2 (w : World) (os : OsState) : (endS w os).map (fun s => HandSHeadRun.seenQ vw nms (importedModules R.prog.main.body) (fun s => PySem.W.xlAt vw [] s && PySem.W.recOk R.toRowW.records s) s.abs) = some (PySem.W.openGood vw nms) := by
  kernel_rfl
theorem run3_0 (w : World) (os : OsState) : (endS w os).map (fun s => obP hp0 s) = some (valX hp0) := by
  kernel_rfl
theorem run3_1 (w : World) (os : OsState) : (endS w os).map (fun s => obP hp1 s) = some (valX hp1) := by
  kernel_rfl
theorem run3_2 (w : World) (os : OsState) : (endS w os).map (fun s => obP hp2 s) = some (valX hp2) := by
  kernel_rfl
theorem hd_eq : hd = (joinX (joinX hp0 hp1) hp2) := by kernel_rfl
abbrev hk : PySem.W.Hook := hookX 4 hd
def ob (s : PySem.W.SharedT) : He.AlD := obsXG 4 hd (HandSHeadRun.getT s)
theorem ob_eq (s : PySem.W.SharedT) : ob s = hk.obs s.abs := obsXG_eq (HandSHeadRun.getT_eq s)
theorem run (w : World) : HandSHeadRun.RunEq R vw hk ob 7000 nms w := by
  intro os
  show (endS w os).map _ = _
  have h1 := run1 w os
  have h2 := run2 w os
  have k0 := run3_0 w os
  have k1 := run3_1 w os
  have k2 := run3_2 w os
  cases e : endS w os with
  | none => rw [e] at h1; cases h1
  | some s =>
    rw [e] at h1 h2 k0 k1 k2
    have h1 := Option.some.inj h1
    have h2 := Option.some.inj h2
    have k0 : obsX hp0 (He.frG (HandSHeadRun.getT s) (asX (HandSHeadRun.getT s) 4)) = valX hp0 := Option.some.inj k0
    have k1 : obsX hp1 (He.frG (HandSHeadRun.getT s) (asX (HandSHeadRun.getT s) 4)) = valX hp1 := Option.some.inj k1
    have k2 : obsX hp2 (He.frG (HandSHeadRun.getT s) (asX (HandSHeadRun.getT s) 4)) = valX hp2 := Option.some.inj k2
    have k : obsX hd (He.frG (HandSHeadRun.getT s) (asX (HandSHeadRun.getT s) 4)) = valX hd := by
      rw [hd_eq]
      exact (obs_join (obs_join k0 k1) k2)
    have h3 : ob s = valX hd := k
    show some (_, _, ob s) = some (true, _, valX hd)
    rw [h3]
    exact congrArg some (Prod.ext h1 (Prod.ext h2 rfl))
end KL

/-! DnB: steps of the abstract heap, slots, readings. -/
namespace Dn
open PySem PySem.Spec PyProof.Rows L2

/-- a step: F the frozen part, H the heap, O what is one's own -/
structure Stp (O : Addr → Prop) (F H : Hp) (O' : Addr → Prop) (F' H' : Hp) : Prop where
  ff : Le F F'
  fh : Le F' H'
  fr : ∀ b o, H b = some o → ¬ O b → H' b = some o
  fg : ∀ b, F' b ≠ none → F b = none → O b ∨ H b = none
  nw : ∀ b, O' b → O b ∨ H b = none
  nf : ∀ b, O' b → F' b = none

theorem Stp.back {O O' : Addr → Prop} {F H F' H' : Hp} (s : Stp O F H O' F' H') {b : Addr} (h : H' b = none) : O b ∨ H b = none := by
  cases e : H b with
  | none => exact .inr rfl
  | some o =>
    by_cases q : O b
    · exact .inl q
    · have := s.fr b o e q
      rw [h] at this; cases this
theorem Stp.trans {O O1 O2 : Addr → Prop} {F H F1 H1 F2 H2 : Hp} (a : Stp O F H O1 F1 H1) (b : Stp O1 F1 H1 O2 F2 H2) : Stp O F H O2 F2 H2 where
  ff := a.ff.trans b.ff
  fh := b.fh
  fr := fun c o h n => by
    have h1 := a.fr c o h n
    refine b.fr c o h1 fun q => ?_
    rcases a.nw c q with z | z
    · exact n z
    · rw [h] at z; cases z
  fg := fun c h n => by
    cases e : F1 c with
    | none =>
      rcases b.fg c h e with z | z
      · exact a.nw c z
      · exact a.back z
    | some o => exact a.fg c (by rw [e]; simp) n
  nw := fun c h => by
    rcases b.nw c h with z | z
    · exact a.nw c z
    · exact a.back z
  nf := b.nf
theorem Stp.weak {O P O' : Addr → Prop} {F H F' H' : Hp} (s : Stp O F H O' F' H') (h : ∀ b, O b → P b) : Stp P F H O' F' H' :=
  ⟨s.ff, s.fh, fun b o e n => s.fr b o e fun q => n (h b q), fun b e n => (s.fg b e n).imp (h b) id, fun b q => (s.nw b q).imp (h b) id, s.nf⟩
theorem Stp.less {O P O' : Addr → Prop} {F H F' H' : Hp} (s : Stp O F H O' F' H') (h : ∀ b, P b → O' b) : Stp O F H P F' H' :=
  ⟨s.ff, s.fh, s.fr, s.fg, fun b q => s.nw b (h b q), fun b q => s.nf b (h b q)⟩
abbrev Nil : Addr → Prop := fun _ => False
theorem Stp.refl {F H : Hp} {O : Addr → Prop} (l : Le F H) (n : ∀ b, O b → F b = none) : Stp O F H O F H :=
  ⟨Le.refl F, l, fun _ _ h _ => h, fun b h n => absurd n h, fun b q => .inl q, n⟩
/-- what is another's stays another's through a step -/
theorem Stp.frame {O O' T : Addr → Prop} {F H F' H' : Hp} (s : Stp O F H O' F' H') (h1 : ∀ b, T b → H b ≠ none) (h2 : ∀ b, T b → ¬ O b) (h3 : ∀ b, T b → F b = none) :
    Stp (fun b => O b ∨ T b) F H (fun b => O' b ∨ T b) F' H' :=
  ⟨s.ff, s.fh, fun b o e n => s.fr b o e fun q => n (.inl q), fun b e n => (s.fg b e n).imp .inl id, fun b q => q.elim (fun q => (s.nw b q).imp .inl id) fun q => .inl (.inr q),
    fun b q => q.elim (s.nf b) fun q => by
      cases e : F' b with
      | none => rfl
      | some o =>
        rcases s.fg b (by rw [e]; simp) (h3 b q) with z | z
        · exact absurd z (h2 b q)
        · exact absurd z (h1 b q)⟩
/-- a new object, frozen at once -/
theorem stp_new {F H : Hp} {p : Addr} {o : HO} (l : Le F H) (h : H p = none) : Stp Nil F H Nil (upd F p o) (upd H p o) where
  ff := fun b u e => by
    have : b ≠ p := fun z => by subst z; rw [l _ _ e] at h; cases h
    rw [upd_ne this]; exact e
  fh := fun b u e => by
    by_cases z : b = p
    · subst z; rw [upd_same] at e ⊢; exact e
    · rw [upd_ne z] at e ⊢; exact l _ _ e
  fr := fun b u e _ => by
    have : b ≠ p := fun z => by subst z; rw [e] at h; cases h
    rw [upd_ne this]; exact e
  fg := fun b e n => by
    by_cases z : b = p
    · subst z; exact .inr h
    · rw [upd_ne z] at e; exact absurd n e
  nw := fun _ q => q.elim
  nf := fun _ q => q.elim
/-- a new object, one's own -/
theorem stp_own {F H : Hp} {p : Addr} {o : HO} (l : Le F H) (h : H p = none) : Stp Nil F H (fun b => b = p) F (upd H p o) where
  ff := Le.refl F
  fh := fun b u e => by
    have : b ≠ p := fun z => by subst z; rw [l _ _ e] at h; cases h
    rw [upd_ne this]; exact l _ _ e
  fr := fun b u e _ => by
    have : b ≠ p := fun z => by subst z; rw [e] at h; cases h
    rw [upd_ne this]; exact e
  fg := fun b e n => absurd n e
  nw := fun b q => by subst q; exact .inr h
  nf := fun b q => by
    subst q
    cases e : F b with
    | none => rfl
    | some u => rw [l _ _ e] at h; cases h

/-! ### slots -/
inductive Rows (T : Tb) (F H : Hp) : List Addr → List (List PV) → Prop
  | nil : Rows T F H [] []
  | cons {b : Addr} {bs : List Addr} {vs : List V} {xs : List PV} {xss : List (List PV)} : H b = some (.lst vs) → RzL T F vs xs → Rows T F H bs xss → Rows T F H (b :: bs) (xs :: xss)
def RS (T : Tb) (F H : Hp) (v : V) (p : SV) (as : List Addr) : Prop := match p with
  | .z p => as = [] ∧ Rz T F v p
  | .o xs => ∃ a vs, v = .ref a ∧ as = [a] ∧ H a = some (.lst vs) ∧ RzL T F vs xs
  | .oo xss => ∃ a bs, v = .ref a ∧ as = a :: bs ∧ H a = some (.lst (bs.map V.ref)) ∧ Rows T F H bs xss ∧ (a :: bs).Nodup
  | .od kvs => ∃ a vs, v = .ref a ∧ as = [a] ∧ H a = some (.dK vs) ∧ vs.map (·.1) = kvs.map (·.1) ∧ RzL T F (vs.map (·.2)) (kvs.map (·.2))
theorem Rows.mono {T : Tb} {F H F' H' : Hp} (l : Le F F') : ∀ {bs : List Addr} {xss : List (List PV)}, (∀ b ∈ bs, ∀ o, H b = some o → H' b = some o) → Rows T F H bs xss → Rows T F' H' bs xss
  | _, _, _, .nil => .nil
  | _, _, k, .cons h r t => .cons (k _ List.mem_cons_self _ h) (r.le l) (Rows.mono l (fun b hb => k b (List.mem_cons_of_mem _ hb)) t)
theorem RS.mono {T : Tb} {F H F' H' : Hp} {v : V} {p : SV} {as : List Addr} (l : Le F F') (k : ∀ b ∈ as, ∀ o, H b = some o → H' b = some o) (h : RS T F H v p as) : RS T F' H' v p as := by
  cases p with
  | z p => exact ⟨h.1, h.2.le l⟩
  | o xs => obtain ⟨a, vs, rfl, rfl, e, r⟩ := h; exact ⟨a, vs, rfl, rfl, k a (by simp) _ e, r.le l⟩
  | oo xss => obtain ⟨a, bs, rfl, rfl, e, r, n⟩ := h; exact ⟨a, bs, rfl, rfl, k a (by simp) _ e, r.mono l fun b hb => k b (List.mem_cons_of_mem _ hb), n⟩
  | od kvs => obtain ⟨a, vs, rfl, rfl, e, q, r⟩ := h; exact ⟨a, vs, rfl, rfl, k a (by simp) _ e, q, r.le l⟩
theorem Rows.live {T : Tb} {F H : Hp} : ∀ {bs : List Addr} {xss : List (List PV)}, Rows T F H bs xss → ∀ b ∈ bs, H b ≠ none
  | _, _, .nil, b, hb => by simp at hb
  | _, _, .cons h _ t, b, hb => by
    rcases List.mem_cons.mp hb with rfl | hb
    · rw [h]; simp
    · exact Rows.live t b hb
theorem RS.live {T : Tb} {F H : Hp} {v : V} {p : SV} {as : List Addr} (h : RS T F H v p as) : ∀ b ∈ as, H b ≠ none := by
  cases p with
  | z p => obtain ⟨rfl, _⟩ := h; intro b hb; simp at hb
  | o xs => obtain ⟨a, vs, rfl, rfl, e, r⟩ := h; intro b hb; rw [List.mem_singleton] at hb; subst hb; rw [e]; simp
  | oo xss =>
    obtain ⟨a, bs, rfl, rfl, e, r, n⟩ := h
    intro b hb
    rcases List.mem_cons.mp hb with rfl | hb
    · rw [e]; simp
    · exact r.live b hb
  | od kvs => obtain ⟨a, vs, rfl, rfl, e, r⟩ := h; intro b hb; rw [List.mem_singleton] at hb; subst hb; rw [e]; simp

abbrev Ow := Nat → List Addr
def Own (A : Ow) (b : Addr) : Prop := ∃ i, b ∈ A i
structure SOk (T : Tb) (F H : Hp) (σ : L2.St) (ρ : Env) (A : Ow) : Prop where
  len : ρ.length = σ.length
  slot : ∀ i p, ρ[i]? = some (some p) → ∃ v, σ[i]? = some (some v) ∧ RS T F H v p (A i)
  dj : ∀ i j b, b ∈ A i → b ∈ A j → i = j
  fh : Le F H
  nf : ∀ i b, b ∈ A i → F b = none
  lv : ∀ i b, b ∈ A i → H b ≠ none
section
variable {T : Tb} {F H F' H' : Hp} {σ : L2.St} {ρ : Env} {A : Ow}
/-- a step that leaves what is one's own -/
theorem SOk.step {O O' : Addr → Prop} (s : SOk T F H σ ρ A) (t : Stp O F H O' F' H') (n : ∀ b, O b → ¬ Own A b) : SOk T F' H' σ ρ A where
  len := s.len
  slot := fun i p e => by
    obtain ⟨v, h1, h2⟩ := s.slot i p e
    exact ⟨v, h1, h2.mono t.ff fun b hb o e => t.fr b o e fun q => n b q ⟨i, hb⟩⟩
  dj := s.dj
  fh := t.fh
  nf := fun i b hb => by
    cases e : F' b with
    | none => rfl
    | some o =>
      rcases t.fg b (by rw [e]; simp) (s.nf i b hb) with z | z
      · exact absurd ⟨i, hb⟩ (n b z)
      · exact absurd z (s.lv i b hb)
  lv := fun i b hb e => by
    rcases t.back e with z | z
    · exact absurd ⟨i, hb⟩ (n b z)
    · exact s.lv i b hb z
theorem SOk.refl (s : SOk T F H σ ρ A) : Stp (Own A) F H (Own A) F H := .refl s.fh fun b ⟨i, h⟩ => s.nf i b h
/-- .. as a step of the whole -/
theorem SOk.pure (s : SOk T F H σ ρ A) (t : Stp Nil F H Nil F' H') : Stp (Own A) F H (Own A) F' H' := by
  have f := t.frame (T := Own A) (fun b ⟨i, h⟩ => s.lv i b h) (fun _ _ q => q) (fun b ⟨i, h⟩ => s.nf i b h)
  exact (f.weak fun b q => q.elim False.elim id).less fun b q => .inr q
theorem SOk.purely (s : SOk T F H σ ρ A) (t : Stp Nil F H Nil F' H') : SOk T F' H' σ ρ A := s.step t fun _ q => q.elim

/-- A with slot i's own given away -/
def Ow.put (A : Ow) (i : Nat) (as : List Addr) : Ow := fun j => if j = i then as else A j
theorem Ow.put_same (A : Ow) (i : Nat) (as : List Addr) : A.put i as i = as := if_pos rfl
theorem Ow.put_ne (A : Ow) {i j : Nat} (as : List Addr) (h : j ≠ i) : A.put i as j = A j := if_neg h
theorem own_put_nil {A : Ow} {i : Nat} {b : Addr} (h : Own (A.put i []) b) : Own A b ∧ b ∉ A i ∨ Own A b := by
  obtain ⟨j, h⟩ := h
  by_cases e : j = i
  · subst e; rw [Ow.put_same] at h; simp at h
  · rw [Ow.put_ne _ _ e] at h; exact .inr ⟨j, h⟩
theorem own_of_nil {A : Ow} {i : Nat} {b : Addr} (h : Own (A.put i []) b) : Own A b := (own_put_nil h).elim (·.1) id

def frz (R : List Addr) (F H : Hp) : Hp := fun b => if b ∈ R then H b else F b
theorem frz_in {R : List Addr} {F H : Hp} {b : Addr} (h : b ∈ R) : frz R F H b = H b := if_pos h
theorem frz_out {R : List Addr} {F H : Hp} {b : Addr} (h : b ∉ R) : frz R F H b = F b := if_neg h
theorem frz_core {v : V} {r : SV} {R : List Addr} (l : Le F H) (rs : RS T F H v r R) : Le F (frz R F H) ∧ Le (frz R F H) H ∧ Rz T (frz R F H) v r.fz := by
  have ff : Le F (frz R F H) := fun b o q => by
    by_cases z : b ∈ R
    · rw [frz_in z]; exact l _ _ q
    · rw [frz_out z]; exact q
  refine ⟨ff, fun b o q => ?_, ?_⟩
  · by_cases z : b ∈ R
    · rw [frz_in z] at q; exact q
    · rw [frz_out z] at q; exact l _ _ q
  · cases r with
    | z p => exact rs.2.le ff
    | o xs =>
      obtain ⟨a, vs, rfl, ea, eh, r⟩ := rs
      exact .lst (by rw [frz_in (by rw [ea]; simp)]; exact eh) (r.le ff)
    | oo xss =>
      obtain ⟨a, bs, rfl, ea, eh, r, n⟩ := rs
      refine .lst (vs := bs.map V.ref) (by rw [frz_in (by rw [ea]; simp)]; exact eh) ?_
      have go : ∀ {cs : List Addr} {yss : List (List PV)}, (∀ c ∈ cs, c ∈ R) → Rows T F H cs yss → RzL T (frz R F H) (cs.map V.ref) (yss.map PV.lst) := by
        intro cs
        induction cs with
        | nil => intro yss _ r; cases r; exact .nil
        | cons c cs ih =>
          intro yss k r
          cases r with
          | cons h r t =>
            exact .cons (.lst (by rw [frz_in (k c List.mem_cons_self)]; exact h) (r.le ff)) (ih (fun d hd => k d (List.mem_cons_of_mem _ hd)) t)
      exact go (fun c hc => by rw [ea]; exact List.mem_cons_of_mem _ hc) r
    | od kvs =>
      obtain ⟨a, vs, rfl, ea, eh, q, r⟩ := rs
      exact .dct (vs := vs) (by rw [frz_in (by rw [ea]; simp)]; exact eh) q (r.le ff)
theorem lt_of_get {α : Type} {l : List α} {i : Nat} {a : α} (e : l[i]? = some a) : i < l.length := (List.getElem?_eq_some_iff.mp e).1
/-- what stands in slot i, frozen -/
theorem freeze (s : SOk T F H σ ρ A) {i : Nat} {p : SV} (e : ρ[i]? = some (some p)) :
    ∃ F', Stp (Own A) F H (Own (A.put i [])) F' H ∧ SOk T F' H σ (ρ.set i (some (.z p.fz))) (A.put i []) ∧ ∃ v, σ[i]? = some (some v) ∧ Rz T F' v p.fz := by
  have hi := lt_of_get e
  obtain ⟨v, h1, h2⟩ := s.slot i p e
  obtain ⟨ff, fh, rz⟩ := frz_core s.fh h2
  have other : ∀ {j b}, j ≠ i → b ∈ A j → frz (A i) F H b = none := fun {j b} z q => by
    rw [frz_out fun q2 => z (s.dj _ _ _ q q2)]
    exact s.nf _ _ q
  refine ⟨frz (A i) F H, ⟨ff, fh, fun b o q _ => q, fun b q n => ?_, fun b q => .inl (own_of_nil q), fun b ⟨j, q⟩ => ?_⟩, ⟨by rw [List.length_set]; exact s.len, fun j q ej => ?_, fun j k b hj hk => ?_, fh, fun j b hb => ?_, fun j b hb => ?_⟩, v, h1, rz⟩
  · by_cases z : b ∈ A i
    · exact .inl ⟨i, z⟩
    · rw [frz_out z] at q; exact absurd n q
  · by_cases z : j = i
    · subst z; rw [Ow.put_same] at q; simp at q
    · rw [Ow.put_ne _ _ z] at q; exact other z q
  · by_cases z : j = i
    · subst z
      rw [List.getElem?_set_self hi] at ej
      cases ej
      rw [Ow.put_same]
      exact ⟨v, h1, rfl, rz⟩
    · rw [List.getElem?_set_ne (Ne.symm z)] at ej
      rw [Ow.put_ne _ _ z]
      obtain ⟨w, g1, g2⟩ := s.slot j q ej
      exact ⟨w, g1, g2.mono ff fun _ _ _ e => e⟩
  · by_cases zj : j = i
    · subst zj; rw [Ow.put_same] at hj; simp at hj
    · by_cases zk : k = i
      · subst zk; rw [Ow.put_same] at hk; simp at hk
      · rw [Ow.put_ne _ _ zj] at hj
        rw [Ow.put_ne _ _ zk] at hk
        exact s.dj _ _ _ hj hk
  · by_cases z : j = i
    · subst z; rw [Ow.put_same] at hb; simp at hb
    · rw [Ow.put_ne _ _ z] at hb; exact other z hb
  · by_cases z : j = i
    · subst z; rw [Ow.put_same] at hb; simp at hb
    · rw [Ow.put_ne _ _ z] at hb
      exact s.lv _ _ hb
/-- a result of one's own is frozen -/
theorem fz_res {ρ' : Env} {A' : Ow} {R : List Addr} {v : V} {r : SV} (so : SOk T F' H' σ ρ' A') (rs : RS T F' H' v r R) (n : ∀ b ∈ R, ¬ Own A' b) :
    ∃ F2, Stp (fun b => Own A' b ∨ b ∈ R) F' H' (Own A') F2 H' ∧ SOk T F2 H' σ ρ' A' ∧ Rz T F2 v r.fz := by
  obtain ⟨ff, fh, rz⟩ := frz_core so.fh rs
  have other : ∀ {j b}, b ∈ A' j → frz R F' H' b = none := fun {j b} q => by
    rw [frz_out fun q2 => n b q2 ⟨j, q⟩]
    exact so.nf _ _ q
  refine ⟨frz R F' H', ⟨ff, fh, fun b o q _ => q, fun b q n => ?_, fun b q => .inl (.inl q), fun b ⟨j, q⟩ => other q⟩, ⟨so.len, fun j q ej => ?_, so.dj, fh, fun j b hb => other hb, so.lv⟩, rz⟩
  · by_cases z : b ∈ R
    · exact .inl (.inr z)
    · rw [frz_out z] at q; exact absurd n q
  · obtain ⟨w, g1, g2⟩ := so.slot j q ej
    exact ⟨w, g1, g2.mono ff fun _ _ _ e => e⟩
end

/-! ### readings -/
section
variable (T : Tb) (E : XK)
abbrev KK (α : Type) := α → Env → Hp → Hp → Ow → Prop
def Post {α : Type} (F H : Hp) (σ : L2.St) (A : Ow) (k : KK α) : Res (α × Env) → Prop
  | .ok (a, ρ') => ∀ F' H' A', Stp (Own A) F H (Own A') F' H' → SOk T F' H' σ ρ' A' → k a ρ' F' H' A'
  | .exc c => ∀ F' H', Stp (Own A) F H Nil F' H' → E (T.cls c) none H'
  | .bad => False
/-- an expression's reading by what it denotes; a test's; a list's -/
def tE (d : DE) : TE := fun σ H Q => ∃ F ρ A, SOk T F H σ ρ A ∧ Post T E F H σ A (fun p _ F' H' _ => ∀ v, Rz T F' v p → Q v H') (d ρ)
def tT (d : DT) : TT := fun σ H Q => ∃ F ρ A, SOk T F H σ ρ A ∧ Post T E F H σ A (fun b _ _ H' _ => Q b H') (d ρ)
def tL (d : DEs) : TA := fun σ H Q => ∃ F ρ A, SOk T F H σ ρ A ∧ Post T E F H σ A (fun ps _ F' H' _ => ∀ vs, RzL T F' vs ps → Q vs H') (d ρ)
end
section
variable {T : Tb} {E : XK} {α β : Type} {F H F' H' : Hp} {σ : L2.St} {ρ : Env} {A A' : Ow}
theorem Post.imp {k k' : KK α} {r : Res (α × Env)} (h : Post T E F H σ A k r) (i : ∀ a ρ' F' H' A', Stp (Own A) F H (Own A') F' H' → SOk T F' H' σ ρ' A' → k a ρ' F' H' A' → k' a ρ' F' H' A') : Post T E F H σ A k' r := by
  match r, h with
  | .ok (a, ρ'), h => exact fun F' H' A' st so => i _ _ _ _ _ st so (h F' H' A' st so)
  | .exc c, h => exact h
theorem Post.after {k : KK α} {r : Res (α × Env)} (st : Stp (Own A) F H (Own A') F' H') (h : Post T E F H σ A k r) : Post T E F' H' σ A' k r := by
  match r, h with
  | .ok (a, ρ'), h => exact fun F2 H2 A2 s2 so => h F2 H2 A2 (st.trans s2) so
  | .exc c, h => exact fun F2 H2 s2 => h F2 H2 (st.trans s2)
theorem Post.bind {k : KK β} {r : Res (α × Env)} {f : α × Env → Res (β × Env)} (h : Post T E F H σ A k (r >>= f)) :
    Post T E F H σ A (fun a ρ1 F1 H1 A1 => Post T E F1 H1 σ A1 k (f (a, ρ1))) r := by
  match r, h with
  | .ok (a, ρ'), h =>
    intro F1 H1 A1 s1 o1
    have h : Post T E F H σ A k (f (a, ρ')) := h
    exact h.after s1
  | .exc c, h => exact h
/-- the end of a computation -/
theorem Post.here {k : KK α} {a : α} (s : SOk T F H σ ρ A) (h : Post T E F H σ A k (.ok (a, ρ))) : k a ρ F H A := h F H A s.refl s
theorem Post.exc_of {k : KK α} {k' : KK β} {c : Nat} (h : Post T E F H σ A k (.exc c)) : Post T E F H σ A k' (.exc c) := h
end
theorem _root_.L2.PE.imp {X : Cx} {e : Expr} {t t' : TE} (h : PE X e t) (i : ∀ σ H Q, t' σ H Q → t σ H Q) : PE X e t' := ⟨fun pins s σ H Q I q => h.run pins s σ H Q I (i _ _ _ q)⟩
theorem _root_.L2.PT.imp {X : Cx} {e : Expr} {t t' : TT} (h : PT X e t) (i : ∀ σ H Q, t' σ H Q → t σ H Q) : PT X e t' := ⟨fun pins s σ H Q I q => h.run pins s σ H Q I (i _ _ _ q)⟩
theorem _root_.L2.PW.imp {X : Cx} {e : Expr} {t t' : TT} (h : PW X e t) (i : ∀ σ H Q, t' σ H Q → t σ H Q) : PW X e t' := ⟨fun wh pins s σ H Q I q => h.run wh pins s σ H Q I (i _ _ _ q)⟩
theorem _root_.L2.PA.imp {X : Cx} {e : List Expr} {t t' : TA} (h : PA X e t) (i : ∀ σ H Q, t' σ H Q → t σ H Q) : PA X e t' := ⟨fun pos pins s σ H Q I q => h.run pos pins s σ H Q I (i _ _ _ q)⟩
theorem _root_.L2.PS.imp {X : Cx} {e : Stmt} {t t' : TS} (h : PS X e t) (i : ∀ D σ H, t' D σ H → t D σ H) : PS X e t' := ⟨fun pins s σ H D I q => h.run pins s σ H D I (i _ _ _ q)⟩
theorem _root_.L2.PSs.imp {X : Cx} {e : List Stmt} {t t' : TS} (h : PSs X e t) (i : ∀ D σ H, t' D σ H → t D σ H) : PSs X e t' := ⟨fun pins s σ H D I q => h.run pins s σ H D I (i _ _ _ q)⟩
theorem _root_.L2.PG.imp {X : Cx} {e : Expr} {t t' : TG} (h : PG X e t) (i : ∀ v σ H Q, t' v σ H Q → t v σ H Q) : PG X e t' := ⟨fun pins s σ H v u Q I r q => h.run pins s σ H v u Q I r (i _ _ _ _ q)⟩
theorem _root_.L2.PGs.imp {X : Cx} {e : List Expr} {t t' : TGs} (h : PGs X e t) (i : ∀ v σ H Q, t' v σ H Q → t v σ H Q) : PGs X e t' := ⟨fun pins s σ H v u Q I r q => h.run pins s σ H v u Q I r (i _ _ _ _ q)⟩
theorem _root_.L2.PI.imp {X : Cx} {tg e : Expr} {t t' : TI} (h : PI X tg e t) (i : ∀ σ H R, t' σ H R → t σ H R) : PI X tg e t' := ⟨fun pins s σ H Q I q => h.run pins s σ H Q I (i _ _ _ q)⟩

/-! ### expressions -/
section
variable {T : Tb} {E : XK} {X : Cx} {σ : L2.St} {H : Hp} {pos : Pos}
def dC (p : PV) : DE := fun ρ => .ok (p, ρ)
def dV (i : Nat) : DE := fun ρ => match ρ[i]? with
  | some (some (.z p)) => .ok (p, ρ)
  | some (some q) => .ok (q.fz, ρ.set i (some (.z q.fz)))
  | _ => .bad
theorem pe_c {e : Expr} {v : V} {p : PV} (h : PE X e (tC v)) (r : ∀ F, Rz T F v p) : PE X e (tE T E (dC p)) := h.imp fun σ H Q ⟨F, ρ, A, s, q⟩ => Post.here s q v (r F)
theorem pe_v {i : Nat} {x : Str} (hN : X.N[i]? = some x) (hv : Vis X.env.scope x) (hd : (x == ("__debug__" : Str)) = false) (hcd : (x == ("__classdict__" : Str)) = false) : PE X (.Name x pos) (tE T E (dV i)) := (pe_var hN hv hd hcd).imp fun σ H Q ⟨F, ρ, A, s, q⟩ => by
  unfold dV at q
  split at q
  · rename_i p e
    obtain ⟨v, h1, h2⟩ := s.slot i _ e
    exact ⟨v, h1, Post.here s q v h2.2⟩
  · rename_i p e n
    obtain ⟨F', st, so, v, h1, h2⟩ := freeze s n
    exact ⟨v, h1, q F' H _ st so v h2⟩
  · exact q.elim

def dBin (g : PV → PV → Option PV) (da db : DE) : DE := fun ρ => da ρ >>= fun a => db a.2 >>= fun b => match g a.1 b.1 with
  | some r => .ok (r, b.2)
  | none => .bad
/-- an operator's meaning: by values, in a pure step -/
def OpS (T : Tb) (R : R2) (g : PV → PV → Option PV) : Prop := ∀ x y p q r F H Q, Le F H → Rz T F x p → Rz T F y q → g p q = some r →
  (∀ v F' H', Stp Nil F H Nil F' H' → Rz T F' v r → Q v H') → R x y H Q
theorem bin_imp {R : R2} {g : PV → PV → Option PV} {da db : DE} (hg : OpS T R g) {σ : L2.St} {H : Hp} {Q : VK} (h : tE T E (dBin g da db) σ H Q) : tOp R (tE T E da) (tE T E db) σ H Q := by
  obtain ⟨F, ρ, A, s, q⟩ := h
  refine ⟨F, ρ, A, s, (Post.bind q).imp fun p ρ1 F1 H1 A1 st1 so1 q1 v rv => ?_⟩
  refine ⟨F1, ρ1, A1, so1, (Post.bind q1).imp fun p2 ρ2 F2 H2 A2 st2 so2 q2 v2 rv2 => ?_⟩
  have rv' := rv.le st2.ff
  cases e : g p p2 with
  | none => simp only [e] at q2; exact q2.elim
  | some r =>
    simp only [e] at q2
    exact hg _ _ _ _ _ F2 H2 Q so2.fh rv' rv2 e fun w F3 H3 st3 r3 => q2 F3 H3 A2 (so2.pure st3) (so2.purely st3) w r3
theorem pe_b {op : Operator} {R : R2} {g : PV → PV → Option PV} {a b : Expr} {da db : DE} (ho : OpR X (binaryOp op) R) (hg : OpS T R g) (ha : PE X a (tE T E da)) (hb : PE X b (tE T E db)) : PE X (.BinOp a op b pos) (tE T E (dBin g da db)) :=
  (pe_op ho ha hb).imp fun σ H Q h => bin_imp hg h
def dUn (g : PV → Option PV) (da : DE) : DE := fun ρ => da ρ >>= fun a => match g a.1 with
  | some r => .ok (r, a.2)
  | none => .bad
def UnS (T : Tb) (R : V → Hp → VK → Prop) (g : PV → Option PV) : Prop := ∀ x p r F H Q, Le F H → Rz T F x p → g p = some r →
  (∀ v F' H', Stp Nil F H Nil F' H' → Rz T F' v r → Q v H') → R x H Q
theorem un_imp {R : V → Hp → VK → Prop} {g : PV → Option PV} {da : DE} (hg : UnS T R g) {σ : L2.St} {H : Hp} {Q : VK} (h : tE T E (dUn g da) σ H Q) : tUn R (tE T E da) σ H Q := by
  obtain ⟨F, ρ, A, s, q⟩ := h
  refine ⟨F, ρ, A, s, (Post.bind q).imp fun p ρ1 F1 H1 A1 st1 so1 q1 v rv => ?_⟩
  cases e : g p with
  | none => simp only [e] at q1; exact q1.elim
  | some r =>
    simp only [e] at q1
    exact hg _ _ _ F1 H1 Q so1.fh rv e fun w F3 H3 st3 r3 => q1 F3 H3 A1 (so1.pure st3) (so1.purely st3) w r3
theorem pe_u {op : UnaryOp} {R : V → Hp → VK → Prop} {g : PV → Option PV} {a : Expr} {da : DE} (ho : UnR X (unaryOp op) R) (hg : UnS T R g) (ha : PE X a (tE T E da)) : PE X (.UnaryOp op a pos) (tE T E (dUn g da)) :=
  (pe_un ho ha).imp fun σ H Q h => un_imp hg h

/-! argument lists, displays -/
def dNil : DEs := fun ρ => .ok ([], ρ)
def dCons (da : DE) (ds : DEs) : DEs := fun ρ => da ρ >>= fun a => ds a.2 >>= fun b => .ok (a.1 :: b.1, b.2)
def notStar : Expr → Bool
  | .Starred _ _ => false
  | _ => true
theorem star_of {e : Expr} (h : notStar e = true) (es : List Expr) (env : PySem.Env) : starEach (e :: es) env = (false, eval e env) :: starEach es env := by
  cases e <;> first | rfl | simp [notStar] at h
theorem pa_n : PA X [] (tL T E dNil) := pa_nil.imp fun σ H Q ⟨F, ρ, A, s, q⟩ => Post.here s q [] .nil
theorem pa_c {e : Expr} {es : List Expr} {da : DE} {ds : DEs} (ns : notStar e = true) (ha : PE X e (tE T E da)) (hs : PA X es (tL T E ds)) : PA X (e :: es) (tL T E (dCons da ds)) :=
  (pa_cons ha hs (star_of ns _ _)).imp fun σ H Q ⟨F, ρ, A, s, q⟩ =>
    ⟨F, ρ, A, s, (Post.bind q).imp fun p ρ1 F1 H1 A1 st1 so1 q1 v rv =>
      ⟨F1, ρ1, A1, so1, (Post.bind q1).imp fun p2 ρ2 F2 H2 A2 st2 so2 q2 vs rvs => Post.here so2 q2 (v :: vs) (.cons (rv.le st2.ff) rvs)⟩⟩
/-- by a list of values, in a pure step -/
def dFn (g : List PV → Option PV) (ds : DEs) : DE := fun ρ => ds ρ >>= fun a => match g a.1 with
  | some r => .ok (r, a.2)
  | none => .bad
def FnS (T : Tb) (R : List V → Hp → VK → Prop) (g : List PV → Option PV) : Prop := ∀ xs ps r F H Q, Le F H → RzL T F xs ps → g ps = some r →
  (∀ v F' H', Stp Nil F H Nil F' H' → Rz T F' v r → Q v H') → R xs H Q
theorem fn_imp {R : List V → Hp → VK → Prop} {g : List PV → Option PV} {ds : DEs} (hg : FnS T R g) {σ : L2.St} {H : Hp} {Q : VK} (h : tE T E (dFn g ds) σ H Q) : tCB R (tL T E ds) σ H Q := by
  obtain ⟨F, ρ, A, s, q⟩ := h
  refine ⟨F, ρ, A, s, (Post.bind q).imp fun p ρ1 F1 H1 A1 st1 so1 q1 v rv => ?_⟩
  cases e : g p with
  | none => simp only [e] at q1; exact q1.elim
  | some r =>
    simp only [e] at q1
    exact hg _ _ _ F1 H1 Q so1.fh rv e fun w F3 H3 st3 r3 => q1 F3 H3 A1 (so1.pure st3) (so1.purely st3) w r3
def gTuple (ps : List PV) : Option PV := if ps.length ≤ sizeLine then some (.tup ps) else none
def gList (ps : List PV) : Option PV := if ps.length ≤ sizeLine then some (.lst ps) else none
theorem new_tup {xs : List V} {ps : List PV} {F H : Hp} {p : Addr} (l : Le F H) (r : RzL T F xs ps) (h : H p = none) : Stp Nil F H Nil (upd F p (.tup xs)) (upd H p (.tup xs)) ∧ Rz T (upd F p (.tup xs)) (.ref p) (.tup ps) :=
  have s := stp_new (o := .tup xs) l h
  ⟨s, .tup (.inl (.inl upd_same)) (r.le s.ff)⟩
theorem new_lst {xs : List V} {ps : List PV} {F H : Hp} {p : Addr} (l : Le F H) (r : RzL T F xs ps) (h : H p = none) : Stp Nil F H Nil (upd F p (.lst xs)) (upd H p (.lst xs)) ∧ Rz T (upd F p (.lst xs)) (.ref p) (.lst ps) :=
  have s := stp_new (o := .lst xs) l h
  ⟨s, .lst upd_same (r.le s.ff)⟩
theorem pe_tu {es : List Expr} {k : Nat} {ds : DEs} (h : PA X es (tL T E ds)) : PE X (.Tuple es k pos) (tE T E (dFn gTuple ds)) :=
  (pe_tup h).imp fun σ H Q q => fn_imp (T := T) (E := E) (R := fun xs H1 Q => xs.length ≤ sizeLine ∧ ∀ p, H1 p = none → Q (.ref p) (upd H1 p (.tup xs))) (g := gTuple)
    (fun xs ps r F H Q l rz e k => by
      unfold gTuple at e
      split at e
      · rename_i z
        cases e
        refine ⟨by rw [rz.length]; exact z, fun p hp => ?_⟩
        obtain ⟨a, b⟩ := new_tup l rz hp
        exact k _ _ _ a b
      · cases e) q
theorem pe_li {es : List Expr} {ds : DEs} (h : PA X es (tL T E ds)) : PE X (.List es pos) (tE T E (dFn gList ds)) :=
  (pe_lst h).imp fun σ H Q q => fn_imp (T := T) (E := E) (R := fun xs H1 Q => xs.length ≤ sizeLine ∧ ∀ p, H1 p = none → Q (.ref p) (upd H1 p (.lst xs))) (g := gList)
    (fun xs ps r F H Q l rz e k => by
      unfold gList at e
      split at e
      · rename_i z
        cases e
        refine ⟨by rw [rz.length]; exact z, fun p hp => ?_⟩
        obtain ⟨a, b⟩ := new_lst l rz hp
        exact k _ _ _ a b
      · cases e) q
end
end Dn

/-! DnC: operators, comparisons, truth. -/
namespace Dn
open PySem PySem.Spec PyProof.Rows L2

/-! ### the operators on values -/
def mulOk (i j : Int) : Bool := decide (j.natAbs < 18446744073709551616) || (decide (i.natAbs < 18446744073709551616) || decide (i.natAbs.log2 + j.natAbs.log2 < 1000000))
def divOk (j : Int) : Bool := decide (j ≠ 0) && decide (j.natAbs.log2 < 9000)
def gAdd : PV → PV → Option PV
  | .int i, .int j => some (.int (i + j))
  | .str x, .str y => if x.length + y.length ≤ sizeLine then some (.str (x ++ y)) else none
  | .lst xs, .lst ys => if xs.length + ys.length ≤ sizeLine then some (.lst (xs ++ ys)) else none
  | .tup xs, .tup ys => if xs.length + ys.length ≤ sizeLine then some (.tup (xs ++ ys)) else none
  | _, _ => none
def gSubI : PV → PV → Option PV
  | .int i, .int j => some (.int (i - j))
  | _, _ => none
def gMul : PV → PV → Option PV
  | .int i, .int j => if mulOk i j then some (.int (i * j)) else none
  | .lst xs, .int k => if decide (-(2 ^ 63) ≤ k) && decide (k < 2 ^ 63) && decide (xs.length * k.toNat ≤ sizeLine) then some (.lst (List.replicate k.toNat xs).flatten) else none
  | .tup xs, .int k => if !xs.isEmpty && decide (1 ≤ k) && decide (k ≤ 1000) && decide (xs.length ≤ 1000) then some (.tup (List.replicate k.toNat xs).flatten) else none
  | _, _ => none
def gFdiv : PV → PV → Option PV
  | .int i, .int j => if divOk j then some (.int (i.fdiv j)) else none
  | _, _ => none
def gMod : PV → PV → Option PV
  | .int i, .int j => if j = 0 then none else some (.int (i.fmod j))
  | _, _ => none
def gPow : PV → PV → Option PV
  | .int i, .int j => if decide (0 ≤ j) && decide (j ≤ 1000000) && decide (i.natAbs < 2 ^ 64) then some (.int (i ^ j.toNat)) else none
  | _, _ => none
def gNeg : PV → Option PV
  | .int i => some (.int (-i))
  | _ => none

section
variable {X : Cx} {T : Tb}
def rStrAdd : R2 := fun x y H Q => ∃ i j, x = .str i ∧ y = .str j ∧ i.length + j.length ≤ sizeLine ∧ Q (.str (i ++ j)) H
def rAddA (K : PySem.W.Frag) : R2 := fun x y H Q => (rI0 fun i j => .int (i + j)) x y H Q ∨ (rStrAdd x y H Q ∨ (rCat x y H Q ∨ rCatA K x y H Q))
theorem op_addA : OpR X (binaryOp .Add) (rAddA X.K) := op_add.or (op_add_str.or (op_cat.or op_catA))
theorem s_add : OpS T (rAddA T.K) gAdd := by
  intro x y p q r F H Q l rx ry e k
  unfold gAdd at e
  split at e
  · cases e; cases rx; cases ry
    exact .inl ⟨_, _, rfl, rfl, k _ F H (Stp.refl l fun _ q => q.elim) (.int _)⟩
  · split at e
    · rename_i z
      cases e; cases rx; cases ry
      exact .inr (.inl ⟨_, _, rfl, rfl, z, k _ F H (Stp.refl l fun _ q => q.elim) (.str _)⟩)
    · cases e
  · split at e
    · rename_i z
      cases e
      cases rx with
      | lst h1 r1 =>
        cases ry with
        | lst h2 r2 =>
          refine .inr (.inr (.inl ⟨_, _, _, _, rfl, rfl, l _ _ h1, l _ _ h2, by rw [r1.length, r2.length]; exact z, fun p hp => ?_⟩))
          obtain ⟨a, b⟩ := new_lst l (r1.app r2) hp
          exact k _ _ _ a b
    · cases e
  · split at e
    · rename_i z
      cases e
      cases rx with
      | tup h1 r1 =>
        cases ry with
        | tup h2 r2 =>
          unfold rAddA rCatA
          refine .inr (.inr (.inr ⟨_, _, _, _, rfl, rfl, SqT.le l h1, SqT.le l h2, by rw [r1.length, r2.length]; exact z, ?_⟩))
          refine ⟨fun z => ?_, fun z1 z2 => ?_, fun z1 z2 p hp => ?_⟩
          · subst z
            cases r1
            exact k _ F H (Stp.refl l fun _ q => q.elim) (.tup h2 r2)
          · subst z2
            cases r2
            rw [List.append_nil] at k
            exact k _ F H (Stp.refl l fun _ q => q.elim) (.tup h1 r1)
          · obtain ⟨a, b⟩ := new_tup l (r1.app r2) hp
            exact k _ _ _ a b
    · cases e
  · cases e
theorem s_sub : OpS T (rI0 fun i j => .int (i - j)) gSubI := by
  intro x y p q r F H Q l rx ry e k
  unfold gSubI at e
  split at e
  · cases e; cases rx; cases ry
    exact ⟨_, _, rfl, rfl, k _ F H (Stp.refl l fun _ q => q.elim) (.int _)⟩
  · cases e
theorem mulOk_ok {i j : Int} (h : mulOk i j = true) : IntMulOk i j := by
  simp only [mulOk, Bool.or_eq_true, decide_eq_true_eq] at h
  rcases h with h | h | h
  · exact IntMulOk.of_right (PyProof.Rows.intBits_le (by simpa using h))
  · exact IntMulOk.of_left (PyProof.Rows.intBits_le (by simpa using h))
  · exact CMulW.ok h
theorem op_mulI : OpR X (binaryOp .Mult) (rI IntMulOk fun i j => .int (i * j)) := opI fun _ _ _ _ _ _ _ hc q => mul_int q hc
/-- a tuple times 1 is itself -/
theorem tuple_mul1 (l : Addr) (items : Array Value) (n : Nat) (dd : Option Addr) (sl : Array (Option Value)) (u : Tok) :
    Meets (Builtin.«tuple.__mul__» ⟨[.ref l, .int 1 u], []⟩) (fun _ R s => s.heap.get? l = some { cls := .type "tuple", dict := dd, data := .seq items n, slots := sl } ∧ R (.ok (.ret (.ref l))) s) :=
  .of_wp fun prog w A R s h => by
    obtain ⟨hp, g, d, tk, os⟩ := s
    obtain ⟨hl, h⟩ := h
    have f1 := AutoSeq1.idx_int
    have c1 : (items.isEmpty || (1 : Int) == 1) = true := by simp
    wp_walk using wpAny_loadPart' hl
    repeat (first
      | (refine wpAny_ite_true (decide_eq_true (by exact c1)) ?_; wp_walk using wpAny_loadPart' hl)
      | (refine wpAny_ite_false (decide_eq_false (by decide)) ?_; wp_walk using wpAny_loadPart' hl))
    exact ⟨_, rfl, h⟩
def rRep1 (K : PySem.W.Frag) : R2 := fun x y H Q => ∃ l xs, x = .ref l ∧ y = .int 1 ∧ SqT K H l xs ∧ Q (.ref l) H
theorem op_rep1 : OpR X (binaryOp .Mult) (rRep1 X.K) := by
  intro pins s σ H x y v u Q I rx ry h
  obtain ⟨l, xs, rfl, rfl, hT, q⟩ := h
  cases rx
  obtain ⟨t, rfl⟩ := ry
  obtain ⟨its, r, ⟨⟨cls, dd, data, sl⟩, ho, hc, n, hd⟩, hs⟩ := I.tuple hT
  simp only at hc hd
  subst hc hd
  refine wpAny_binaryOp_repeat_ref (T := "tuple") (U := "int") (by decide) ⟨_, ho, rfl⟩ (fun s' => typeIs_int s' 1 t) noFill_tuple_mul F.fills_int_mul F.slot_int_rmul repeat_tuple F.slot_int_index.lookup
    (call_meets F.slot_int_rmul (typeIs_int s 1 t) F.entry_int_rmul (F.args_int_rmul_2 _ _) (int_rmul_tuple 1 t l its.toArray n dd sl)
      ⟨ho, rfl, ⟨_, ho, rfl⟩, call_meets F.slot_tuple_mul ⟨_, ho, rfl⟩ F.entry_tuple_mul (F.args_tuple_mul_2 _ _) (tuple_mul1 l its.toArray n dd sl t) ⟨ho, ⟨.ref l, H, I, rfl, q⟩⟩⟩)
def rMulA (K : PySem.W.Frag) : R2 := fun x y H Q => (rI IntMulOk fun i j => .int (i * j)) x y H Q ∨ (rRep x y H Q ∨ (rRep1 K x y H Q ∨ rRepT K x y H Q))
theorem op_mulA : OpR X (binaryOp .Mult) (rMulA X.K) := op_mulI.or (op_rep.or (op_rep1.or op_repT))
theorem s_mul : OpS T (rMulA T.K) gMul := by
  intro x y p q r F H Q l rx ry e k
  unfold gMul at e
  split at e
  · split at e
    · rename_i z
      cases e; cases rx; cases ry
      exact .inl ⟨_, _, rfl, rfl, mulOk_ok z, k _ F H (Stp.refl l fun _ q => q.elim) (.int _)⟩
    · cases e
  · split at e
    · rename_i z
      simp only [Bool.and_eq_true, decide_eq_true_eq] at z
      cases e
      cases rx with
      | lst h1 r1 =>
        cases ry
        refine .inr (.inl ⟨_, _, _, rfl, rfl, l _ _ h1, z.1.1, z.1.2, by rw [r1.length]; exact z.2, fun p hp => ?_⟩)
        obtain ⟨a, b⟩ := new_lst l (r1.rep _) hp
        exact k _ _ _ a b
    · cases e
  · split at e
    · rename_i ps kk z
      simp only [Bool.and_eq_true, decide_eq_true_eq, Bool.not_eq_true'] at z
      obtain ⟨⟨⟨z1, z2⟩, z3⟩, z4⟩ := z
      cases e
      cases rx with
      | tup h1 r1 =>
        cases ry
        by_cases e1 : kk = 1
        · subst e1
          refine .inr (.inr (.inl ⟨_, _, rfl, rfl, SqT.le l h1, k _ F H (Stp.refl l fun _ q => q.elim) ?_⟩))
          have : (List.replicate (Int.toNat 1) ps).flatten = ps := by simp
          rw [this]
          exact .tup h1 r1
        · refine .inr (.inr (.inr ⟨_, _, _, rfl, rfl, SqT.le l h1, ?_, by omega, z3, by rw [r1.length]; exact z4, fun p hp => ?_⟩))
          · intro z
            have := r1.isEmpty
            rw [z] at this
            rw [← this] at z1
            cases z1
          · obtain ⟨a, b⟩ := new_tup l (r1.rep _) hp
            exact k _ _ _ a b
    · cases e
  · cases e
def rFd : R2 := rI (fun _ j => divOk j = true) fun i j => .int (i.fdiv j)
theorem op_fd : OpR X (binaryOp .FloorDiv) rFd := opI fun i j _ _ _ _ _ hc q => by
  unfold divOk at hc
  simp only [Bool.and_eq_true, decide_eq_true_eq] at hc
  exact floordiv_int hc.1 q (.inl (PyProof.noPylong_of_log2 hc.2))
theorem s_fdiv : OpS T rFd gFdiv := by
  intro x y p q r F H Q l rx ry e k
  unfold gFdiv at e
  split at e
  · split at e
    · rename_i z
      cases e; cases rx; cases ry
      exact ⟨_, _, rfl, rfl, z, k _ F H (Stp.refl l fun _ q => q.elim) (.int _)⟩
    · cases e
  · cases e
theorem s_mod : OpS T (rI (fun _ j => j ≠ 0) fun i j => .int (i.fmod j)) gMod := by
  intro x y p q r F H Q l rx ry e k
  unfold gMod at e
  split at e
  · split at e
    · cases e
    · rename_i z
      cases e; cases rx; cases ry
      exact ⟨_, _, rfl, rfl, z, k _ F H (Stp.refl l fun _ q => q.elim) (.int _)⟩
  · cases e
theorem s_pow : OpS T (rI CPow fun i j => .int (i ^ j.toNat)) gPow := by
  intro x y p q r F H Q l rx ry e k
  unfold gPow at e
  split at e
  · split at e
    · rename_i z
      simp only [Bool.and_eq_true, decide_eq_true_eq] at z
      cases e; cases rx; cases ry
      exact ⟨_, _, rfl, rfl, ⟨z.1.1, z.1.2, z.2⟩, k _ F H (Stp.refl l fun _ q => q.elim) (.int _)⟩
    · cases e
  · cases e
theorem s_neg : UnS T (rU fun i => .int (-i)) gNeg := by
  intro x p r F H Q l rx e k
  unfold gNeg at e
  split at e
  · cases e; cases rx
    exact ⟨_, rfl, k _ F H (Stp.refl l fun _ q => q.elim) (.int _)⟩
  · cases e

/-! ### comparisons -/
def gEq (neg : Bool) (p q : PV) : Option PV := if p.dat 60 && q.dat 60 then some (.bl (PyData.eqv p.toD q.toD != neg)) else none
def gCmpI (f : Int → Int → Bool) : PV → PV → Option PV
  | .int i, .int j => some (.bl (f i j))
  | _, _ => none
def asInts : List PV → Option (List Int)
  | [] => some []
  | .int i :: r => (asInts r).map (i :: ·)
  | _ => none
def gLt : PV → PV → Option PV
  | .int i, .int j => some (.bl (decide (i < j)))
  | .tup xs, .tup ys => match asInts xs, asInts ys with
    | some ns, some ms => some (.bl (HT.lexLt ns ms))
    | _, _ => none
  | _, _ => none
def gIn (neg : Bool) (p : PV) : PV → Option PV
  | .lst xs => if p.dat 60 && (PV.lst xs).dat 60 then some (.bl (((PV.toDs xs).any fun z => PyData.eqv z p.toD) != neg)) else none
  | .tup xs => if p.dat 60 && (PV.tup xs).dat 60 then some (.bl (((PV.toDs xs).any fun z => PyData.eqv z p.toD) != neg)) else none
  | _ => none
def isNon : PV → Bool
  | .non => true
  | _ => false
def gIsN (neg : Bool) (p : PV) : PV → Option PV
  | .non => some (.bl (isNon p != neg))
  | _ => none
theorem rz_ints {F : Hp} : ∀ {vs : List V} {ps : List PV} {ns : List Int}, RzL T F vs ps → asInts ps = some ns → vs = ns.map V.int
  | _, [], _, .nil, e => by cases e; rfl
  | _, p :: ps, ns, .cons r t, e => by
    unfold asInts at e
    split at e
    · cases e; rename_i h; cases h
    · rename_i h
      cases h
      cases q : asInts ps with
      | none => simp [q] at e
      | some ms =>
        simp [q] at e
        subst e
        cases r
        rw [rz_ints t q]
        rfl
    · cases e
theorem s_eq : OpS T (rEqD T.K) (gEq false) := by
  intro x y p q r F H Q l rx ry e k
  unfold gEq at e
  split at e
  · rename_i z
    rw [Bool.and_eq_true] at z
    cases e
    refine ⟨_, _, rx.dp l 60 z.1, ry.dp l 60 z.2, dat_shaped z.1, dat_shaped z.2, ?_⟩
    have := k (.bl (PyData.eqv p.toD q.toD)) F H (Stp.refl l fun _ q => q.elim)
    exact this (by simpa using Rz.bl (T := T) (F := F) _)
  · cases e
theorem s_ne : OpS T (rNeD T.K) (gEq true) := by
  intro x y p q r F H Q l rx ry e k
  unfold gEq at e
  split at e
  · rename_i z
    rw [Bool.and_eq_true] at z
    cases e
    refine ⟨_, _, rx.dp l 60 z.1, ry.dp l 60 z.2, dat_shaped z.1, dat_shaped z.2, ?_⟩
    have := k (.bl (!PyData.eqv p.toD q.toD)) F H (Stp.refl l fun _ q => q.elim)
    exact this (by simpa using Rz.bl (T := T) (F := F) _)
  · cases e
def rLtA (K : PySem.W.Frag) : R2 := fun x y H Q => (rI0 fun i j => .bl (decide (i < j))) x y H Q ∨ rLtT K x y H Q
theorem op_ltA (hu : X.A.units < cLine) : OpR X (compareOp .Lt) (rLtA X.K) := op_lt.or (op_ltT hu)
theorem s_lt : OpS T (rLtA T.K) gLt := by
  intro x y p q r F H Q l rx ry e k
  unfold gLt at e
  split at e
  · cases e; cases rx; cases ry
    exact .inl ⟨_, _, rfl, rfl, k _ F H (Stp.refl l fun _ q => q.elim) (.bl _)⟩
  · split at e
    · rename_i e1 e2
      cases e
      cases rx with
      | tup h1 r1 =>
        cases ry with
        | tup h2 r2 =>
          refine .inr ⟨_, _, _, _, rfl, rfl, by rw [← rz_ints r1 e1]; exact SqT.le l h1, by rw [← rz_ints r2 e2]; exact SqT.le l h2, k _ F H (Stp.refl l fun _ q => q.elim) (.bl _)⟩
    · cases e
  · cases e
theorem s_cmp {f : Int → Int → Bool} : OpS T (rI0 fun i j => .bl (f i j)) (gCmpI f) := by
  intro x y p q r F H Q l rx ry e k
  unfold gCmpI at e
  split at e
  · cases e; cases rx; cases ry
    exact ⟨_, _, rfl, rfl, k _ F H (Stp.refl l fun _ q => q.elim) (.bl _)⟩
  · cases e
theorem s_is (neg : Bool) : OpS T (fun x y H Q => y = .non ∧ Q (.bl (decide (x = .non) != neg)) H) (gIsN neg) := by
  intro x y p q r F H Q l rx ry e k
  unfold gIsN at e
  split at e
  · cases e
    cases ry
    refine ⟨rfl, ?_⟩
    have h : decide (x = V.non) = isNon p := by
      cases rx <;> simp [isNon]
    rw [h]
    exact k _ F H (Stp.refl l fun _ q => q.elim) (.bl _)
  · cases e
theorem op_isA : OpR X (compareOp .Is) (fun x y H Q => y = .non ∧ Q (.bl (decide (x = .non) != false)) H) := by
  intro pins s σ H x y v u Q I rx ry h
  exact op_isN pins s σ H x y v u Q I rx ry ⟨h.1, by simpa using h.2⟩
theorem op_isNotA : OpR X (compareOp .IsNot) (fun x y H Q => y = .non ∧ Q (.bl (decide (x = .non) != true)) H) := by
  intro pins s σ H x y v u Q I rx ry h
  exact op_notN pins s σ H x y v u Q I rx ry ⟨h.1, by simpa using h.2⟩
/-- in, not in: a list or a tuple of data -/
def rInA (K : PySem.W.Frag) (neg : Bool) : R2 := fun x y H Q => ∃ d ds, Dp K H x d ∧ (Dp K H y (.list ds) ∨ Dp K H y (.tuple ds)) ∧ SeqAt.shaped d = true ∧ SeqAt.shaped (.list ds) = true ∧ Q (.bl ((ds.any fun z => PyData.eqv z d) != neg)) H
theorem op_inA (hu : X.A.units + 65 < cLine) : OpR X (compareOp .In) (rInA X.K false) := by
  intro pins s σ H x y v u Q I rx ry h
  obtain ⟨d, ds, hd, he, sd, se, q⟩ := h
  obtain ⟨as, r1⟩ := Dp.reads I d x v hd rx
  rw [Bool.bne_false] at q
  rcases he with he | he
  · obtain ⟨bs, r2⟩ := Dp.reads I (.list ds) y u he ry
    exact SeqAt.in_list_reads r2 r1 (SeqAt.canLay_of_shaped se) (SeqAt.canLay_of_shaped sd) (room_in_shaped sd hu) ⟨.bl _, H, I, rfl, q⟩
  · obtain ⟨bs, r2⟩ := Dp.reads I (.tuple ds) y u he ry
    exact SeqAt.in_tuple_reads r2 r1 (SeqAt.canLay_of_shaped se) (SeqAt.canLay_of_shaped sd) (room_in_shaped sd hu) ⟨.bl _, H, I, rfl, q⟩
theorem op_notInA (hu : X.A.units + 65 < cLine) : OpR X (compareOp .NotIn) (rInA X.K true) := by
  intro pins s σ H x y v u Q I rx ry h
  obtain ⟨d, ds, hd, he, sd, se, q⟩ := h
  obtain ⟨as, r1⟩ := Dp.reads I d x v hd rx
  rw [Bool.bne_true] at q
  rcases he with he | he
  · obtain ⟨bs, r2⟩ := Dp.reads I (.list ds) y u he ry
    exact SeqAt.notIn_list_reads r2 r1 (SeqAt.canLay_of_shaped se) (SeqAt.canLay_of_shaped sd) (room_in_shaped sd hu) ⟨.bl _, H, I, rfl, q⟩
  · obtain ⟨bs, r2⟩ := Dp.reads I (.tuple ds) y u he ry
    exact SeqAt.notIn_tuple_reads r2 r1 (SeqAt.canLay_of_shaped se) (SeqAt.canLay_of_shaped sd) (room_in_shaped sd hu) ⟨.bl _, H, I, rfl, q⟩
theorem shaped_lt (ds : List PyData) : SeqAt.shaped (.list ds) = SeqAt.shaped (.tuple ds) := by
  simp only [SeqAt.shaped, PyData.canLay0, PyData.depth]
  rfl
theorem s_in (neg : Bool) : OpS T (rInA T.K neg) (gIn neg) := by
  intro x y p q r F H Q l rx ry e k
  unfold gIn at e
  split at e
  · split at e
    · rename_i z
      rw [Bool.and_eq_true] at z
      cases e
      have h2 := ry.dp l 60 z.2
      have s2 := dat_shaped z.2
      simp only [PV.toD] at h2 s2
      exact ⟨_, _, rx.dp l 60 z.1, .inl h2, dat_shaped z.1, s2, k _ F H (Stp.refl l fun _ q => q.elim) (.bl _)⟩
    · cases e
  · split at e
    · rename_i z
      rw [Bool.and_eq_true] at z
      cases e
      have h2 := ry.dp l 60 z.2
      have s2 := dat_shaped z.2
      simp only [PV.toD] at h2 s2
      rw [← shaped_lt] at s2
      exact ⟨_, _, rx.dp l 60 z.1, .inr h2, dat_shaped z.1, s2, k _ F H (Stp.refl l fun _ q => q.elim) (.bl _)⟩
    · cases e
  · cases e
end
end Dn

/-! DnD: truth, tests, own results, statements. -/
namespace Dn
open PySem PySem.Spec PyProof.Rows L2

/-! ### truth -/
def tru : PV → Option Bool
  | .non => some false
  | .bl b => some b
  | .int i => some (i != 0)
  | .str x => if x.length ≤ sizeLine then some ((x.length : Int) != 0) else none
  | .tup xs => some (!xs.isEmpty)
  | .lst xs => some (!xs.isEmpty)
  | .scr xs => some (!xs.isEmpty)
  | .dct kvs => some (!kvs.isEmpty)
  | .fn _ => none
theorem tru_v {T : Tb} {F H : Hp} {v : V} {p : PV} {b : Bool} (l : Le F H) (r : Rz T F v p) (e : tru p = some b) : TruV T.K v H b := by
  cases r with
  | non => cases e; exact rfl
  | bl _ => cases e; exact rfl
  | int _ => cases e; exact rfl
  | str x =>
    simp only [tru] at e
    split at e
    · rename_i z; cases e; exact ⟨z, rfl⟩
    · cases e
  | tup h r => cases e; exact .inr (.inl ⟨_, SqT.le l h, by rw [r.isEmpty]⟩)
  | lst h r => cases e; exact .inl ⟨_, .inl (.inl (l _ _ h)), by rw [r.isEmpty]⟩
  | scr h r => cases e; exact .inl ⟨_, SqL.le l h, by rw [r.isEmpty]⟩
  | dct h k r =>
    cases e
    refine .inr (.inr ⟨_, l _ _ h, ?_⟩)
    have := r.isEmpty
    rw [List.isEmpty_map, List.isEmpty_map] at this
    rw [this]
  | fn _ => cases e
def plainTest : Expr → Bool
  | .Name _ _ => true
  | .Call _ _ _ _ => true
  | .Subscript _ _ _ => true
  | .Constant _ _ _ => true
  | .Attribute _ _ _ => true
  | .BinOp _ _ _ _ => true
  | .ListComp _ _ _ _ => true
  | .Tuple _ _ _ => true
  | .List _ _ => true
  | _ => false
theorem plain_test {e : Expr} (h : plainTest e = true) (env : PySem.Env) (whole : Sem Value) : isTrue e env whole = (do let v ← whole; standAt e.pos; holding [v] (truthy v)) := by
  cases e <;> first | (simp [plainTest] at h; done) | rfl
section
variable {T : Tb} {E : XK} {X : Cx} {σ : L2.St} {H : Hp} {pos : Pos}
def dTru (d : DE) : DT := fun ρ => d ρ >>= fun a => match tru a.1 with
  | some b => .ok (b, a.2)
  | none => .bad
theorem pt_v {e : Expr} {d : DE} (hK : X.K = T.K) (pt : plainTest e = true) (h : PE X e (tE T E d)) : PT X e (tT T E (dTru d)) := by
  refine (pt_truth h (plain_test pt X.env)).imp fun σ H Q ⟨F, ρ, A, s, q⟩ => ?_
  refine ⟨F, ρ, A, s, (Post.bind q).imp fun p ρ1 F1 H1 A1 st1 so1 q1 v rv => ?_⟩
  cases e : tru p with
  | none => simp only [e] at q1; exact q1.elim
  | some b =>
    simp only [e] at q1
    exact ⟨b, by rw [hK]; exact tru_v so1.fh rv e, Post.here so1 q1⟩
/-- a denotation that gives a bool, as a test -/
def dB (d : DE) : DT := fun ρ => d ρ >>= fun a => match a.1 with
  | .bl b => .ok (b, a.2)
  | _ => .bad
theorem dB_imp {d : DE} {Q : Bool → Hp → Prop} (h : tT T E (dB d) σ H Q) : tE T E d σ H fun x H' => ∃ k, x = .bl k ∧ Q k H' := by
  obtain ⟨F, ρ, A, s, q⟩ := h
  refine ⟨F, ρ, A, s, (Post.bind q).imp fun p ρ1 F1 H1 A1 st1 so1 q1 v rv => ?_⟩
  cases p with
  | bl b => cases rv; exact ⟨b, rfl, Post.here so1 q1⟩
  | _ => exact q1.elim
/-- a bool denotation as a value -/
def dOfT (d : DT) : DE := fun ρ => d ρ >>= fun a => .ok (.bl a.1, a.2)
def dAndT (da db : DT) : DT := fun ρ => da ρ >>= fun a => if a.1 then db a.2 else .ok (false, a.2)
def dOrT (da db : DT) : DT := fun ρ => da ρ >>= fun a => if a.1 then .ok (true, a.2) else db a.2
def dNotT (da : DT) : DT := fun ρ => da ρ >>= fun a => .ok (!a.1, a.2)
theorem pw_1a {a : Expr} {da : DT} (ha : PT X a (tT T E da)) : PW X (.BoolOp .And [a] pos) (tT T E da) := pw_and1 ha
theorem pw_1o {a : Expr} {da : DT} (ha : PT X a (tT T E da)) : PW X (.BoolOp .Or [a] pos) (tT T E da) := pw_or1 ha
theorem pw_a {a b : Expr} {rest : List Expr} {da db : DT} (ha : PT X a (tT T E da)) (hb : PW X (.BoolOp .And (b :: rest) pos) (tT T E db)) : PW X (.BoolOp .And (a :: b :: rest) pos) (tT T E (dAndT da db)) :=
  (pw_and ha hb).imp fun σ H Q ⟨F, ρ, A, s, q⟩ => ⟨F, ρ, A, s, (Post.bind q).imp fun b ρ1 F1 H1 A1 st1 so1 q1 => by
    cases b with
    | true => exact ⟨F1, ρ1, A1, so1, q1⟩
    | false => exact Post.here so1 q1⟩
theorem pw_o {a b : Expr} {rest : List Expr} {da db : DT} (ha : PT X a (tT T E da)) (hb : PW X (.BoolOp .Or (b :: rest) pos) (tT T E db)) : PW X (.BoolOp .Or (a :: b :: rest) pos) (tT T E (dOrT da db)) :=
  (pw_or ha hb).imp fun σ H Q ⟨F, ρ, A, s, q⟩ => ⟨F, ρ, A, s, (Post.bind q).imp fun b ρ1 F1 H1 A1 st1 so1 q1 => by
    cases b with
    | true => exact Post.here so1 q1
    | false => exact ⟨F1, ρ1, A1, so1, q1⟩⟩
theorem pt_n {a : Expr} {da : DT} (ha : PT X a (tT T E da)) : PT X (.UnaryOp .Not a pos) (tT T E (dNotT da)) :=
  (pt_not ha).imp fun σ H Q ⟨F, ρ, A, s, q⟩ => ⟨F, ρ, A, s, (Post.bind q).imp fun b ρ1 F1 H1 A1 st1 so1 q1 => Post.here so1 q1⟩

def dAndV (da db : DE) : DE := fun ρ => da ρ >>= fun a => match tru a.1 with
  | some true => db a.2
  | some false => .ok a
  | none => .bad
def dOrV (da db : DE) : DE := fun ρ => da ρ >>= fun a => match tru a.1 with
  | some true => .ok a
  | some false => db a.2
  | none => .bad
def dNotV (da : DE) : DE := fun ρ => da ρ >>= fun a => match tru a.1 with
  | some b => .ok (.bl (!b), a.2)
  | none => .bad
theorem pe_av {a b : Expr} {rest : List Expr} {da db : DE} (hK : X.K = T.K) (ha : PE X a (tE T E da)) (hb : PE X (.BoolOp .And (b :: rest) pos) (tE T E db)) : PE X (.BoolOp .And (a :: b :: rest) pos) (tE T E (dAndV da db)) :=
  (pe_andT ha hb).imp fun σ H Q ⟨F, ρ, A, s, q⟩ => ⟨F, ρ, A, s, (Post.bind q).imp fun p ρ1 F1 H1 A1 st1 so1 q1 v rv => by
    cases e : tru p with
    | none => simp only [e] at q1; exact q1.elim
    | some b =>
      refine ⟨b, by rw [hK]; exact tru_v so1.fh rv e, ?_⟩
      cases b with
      | true => simp only [e] at q1; rw [if_pos rfl]; exact ⟨F1, ρ1, A1, so1, q1⟩
      | false => simp only [e] at q1; rw [if_neg (by decide)]; exact Post.here so1 q1 v rv⟩
theorem pe_ov {a b : Expr} {rest : List Expr} {da db : DE} (hK : X.K = T.K) (ha : PE X a (tE T E da)) (hb : PE X (.BoolOp .Or (b :: rest) pos) (tE T E db)) : PE X (.BoolOp .Or (a :: b :: rest) pos) (tE T E (dOrV da db)) :=
  (pe_orT ha hb).imp fun σ H Q ⟨F, ρ, A, s, q⟩ => ⟨F, ρ, A, s, (Post.bind q).imp fun p ρ1 F1 H1 A1 st1 so1 q1 v rv => by
    cases e : tru p with
    | none => simp only [e] at q1; exact q1.elim
    | some b =>
      refine ⟨b, by rw [hK]; exact tru_v so1.fh rv e, ?_⟩
      cases b with
      | true => simp only [e] at q1; rw [if_pos rfl]; exact Post.here so1 q1 v rv
      | false => simp only [e] at q1; rw [if_neg (by decide)]; exact ⟨F1, ρ1, A1, so1, q1⟩⟩
theorem pe_nv {a : Expr} {da : DE} (hK : X.K = T.K) (ha : PE X a (tE T E da)) : PE X (.UnaryOp .Not a pos) (tE T E (dNotV da)) :=
  (pe_notT ha).imp fun σ H Q ⟨F, ρ, A, s, q⟩ => ⟨F, ρ, A, s, (Post.bind q).imp fun p ρ1 F1 H1 A1 st1 so1 q1 v rv => by
    cases e : tru p with
    | none => simp only [e] at q1; exact q1.elim
    | some b =>
      simp only [e] at q1
      exact ⟨b, by rw [hK]; exact tru_v so1.fh rv e, Post.here so1 q1 _ (.bl _)⟩⟩
def dIf (dc : DT) (da db : DE) : DE := fun ρ => dc ρ >>= fun c => if c.1 then da c.2 else db c.2
theorem pe_if {c a b : Expr} {dc : DT} {da db : DE} (hc : PT X c (tT T E dc)) (ha : PE X a (tE T E da)) (hb : PE X b (tE T E db)) : PE X (.IfExp c a b pos) (tE T E (dIf dc da db)) :=
  (pe_ifExp hc ha hb).imp fun σ H Q ⟨F, ρ, A, s, q⟩ => ⟨F, ρ, A, s, (Post.bind q).imp fun b ρ1 F1 H1 A1 st1 so1 q1 => by
    cases b with
    | true => exact ⟨F1, ρ1, A1, so1, q1⟩
    | false => exact ⟨F1, ρ1, A1, so1, q1⟩⟩

/-! ### comparisons -/
def CmpS (T : Tb) (X : Cx) (op : CmpOp) (g : PV → PV → Option PV) : Prop := ∃ R, OpR X (compareOp op) R ∧ OpS T R g
theorem pe_cm {op : CmpOp} {g : PV → PV → Option PV} {a b : Expr} {da db : DE} (hg : CmpS T X op g) (ha : PE X a (tE T E da)) (hb : PE X b (tE T E db)) (hm : behindInMarks op b = false) : PE X (.Compare a [op] [b] pos) (tE T E (dBin g da db)) :=
  let ⟨_, ho, hs⟩ := hg
  (pe_cmpR ho ha hb hm).imp fun σ H Q h => bin_imp hs h
theorem pt_cm {op : CmpOp} {g : PV → PV → Option PV} {a b : Expr} {da db : DE} (hg : CmpS T X op g) (ha : PE X a (tE T E da)) (hb : PE X b (tE T E db)) (hm : behindInMarks op b = false) : PT X (.Compare a [op] [b] pos) (tT T E (dB (dBin g da db))) :=
  let ⟨_, ho, hs⟩ := hg
  (pt_cmpR ho ha hb hm).imp fun σ H Q h => bin_imp hs (dB_imp h)
def dChain (g g' : PV → PV → Option PV) (da db dc : DE) : DE := fun ρ => da ρ >>= fun a => db a.2 >>= fun b => match g a.1 b.1 with
  | some (.bl true) => dc b.2 >>= fun c => match g' b.1 c.1 with
    | some r => .ok (r, c.2)
    | none => .bad
  | some (.bl false) => .ok (.bl false, b.2)
  | _ => .bad
theorem chain_imp {R R' : R2} {g g' : PV → PV → Option PV} {da db dc : DE} (hs : OpS T R g) (hs' : OpS T R' g') {Q : VK} (h : tE T E (dChain g g' da db dc) σ H Q) : tChain R R' (tE T E da) (tE T E db) (tE T E dc) σ H Q := by
  obtain ⟨F, ρ, A, s, q⟩ := h
  refine ⟨F, ρ, A, s, (Post.bind q).imp fun p ρ1 F1 H1 A1 st1 so1 q1 v rv => ?_⟩
  refine ⟨F1, ρ1, A1, so1, (Post.bind q1).imp fun p2 ρ2 F2 H2 A2 st2 so2 q2 v2 rv2 => ?_⟩
  have rv' := rv.le st2.ff
  cases e : g p p2 with
  | none => simp only [e] at q2; exact q2.elim
  | some r =>
    simp only [e] at q2
    refine hs _ _ _ _ _ F2 H2 _ so2.fh rv' rv2 e fun w F3 H3 st3 r3 => ?_
    cases r with
    | bl k =>
      cases r3
      refine ⟨k, rfl, ?_⟩
      cases k with
      | false => rw [if_neg (by decide)]; exact q2 F3 H3 A2 (so2.pure st3) (so2.purely st3) _ (.bl _)
      | true =>
        rw [if_pos rfl]
        refine ⟨F3, ρ2, A2, so2.purely st3, (Post.bind (Post.after (so2.pure st3) q2)).imp fun p3 ρ3 F4 H4 A4 st4 so4 q4 v4 rv4 => ?_⟩
        cases e' : g' p2 p3 with
        | none => simp only [e'] at q4; exact q4.elim
        | some r' =>
          simp only [e'] at q4
          exact hs' _ _ _ _ _ F4 H4 Q so4.fh ((rv2.le st3.ff).le st4.ff) rv4 e' fun w5 F5 H5 st5 r5 => q4 F5 H5 A4 (so4.pure st5) (so4.purely st5) w5 r5
    | _ => exact q2.elim
theorem pe_ch {op op' : CmpOp} {g g' : PV → PV → Option PV} {a b c : Expr} {da db dc : DE} (hg : CmpS T X op g) (hg' : CmpS T X op' g') (ha : PE X a (tE T E da)) (hb : PE X b (tE T E db)) (hc : PE X c (tE T E dc)) (hm : lastMarks [op, op'] [b, c] = false) :
    PE X (.Compare a [op, op'] [b, c] pos) (tE T E (dChain g g' da db dc)) :=
  let ⟨_, ho, hs⟩ := hg
  let ⟨_, ho', hs'⟩ := hg'
  (pe_chain ho ho' ha hb hc hm).imp fun σ H Q h => chain_imp hs hs' h
theorem pt_ch {op op' : CmpOp} {g g' : PV → PV → Option PV} {a b c : Expr} {da db dc : DE} (hg : CmpS T X op g) (hg' : CmpS T X op' g') (ha : PE X a (tE T E da)) (hb : PE X b (tE T E db)) (hc : PE X c (tE T E dc)) (hm : lastMarks [op, op'] [b, c] = false) :
    PT X (.Compare a [op, op'] [b, c] pos) (tT T E (dB (dChain g g' da db dc))) :=
  let ⟨_, ho, hs⟩ := hg
  let ⟨_, ho', hs'⟩ := hg'
  (pt_chain ho ho' ha hb hc hm).imp fun σ H Q h => chain_imp hs hs' (dB_imp h)
end

/-! ### results of one's own -/
section
variable (T : Tb) (E : XK)
def PostO (F H : Hp) (σ : L2.St) (A : Ow) (Q : VK) : Res (SV × Env) → Prop
  | .ok (r, ρ') => ∀ F' H' A' R v, Stp (Own A) F H (fun b => Own A' b ∨ b ∈ R) F' H' → SOk T F' H' σ ρ' A' → RS T F' H' v r R → (∀ b ∈ R, ¬ Own A' b) → Q v H'
  | .exc c => ∀ F' H', Stp (Own A) F H Nil F' H' → E (T.cls c) none H'
  | .bad => False
def tO (d : DO) : TE := fun σ H Q => ∃ F ρ A, SOk T F H σ ρ A ∧ PostO T E F H σ A Q (d ρ)
end
section
variable {T : Tb} {E : XK} {X : Cx} {σ : L2.St} {F H : Hp} {ρ : Env} {A : Ow} {pos : Pos}
def dZ (d : DE) : DO := fun ρ => d ρ >>= fun a => .ok (.z a.1, a.2)
def dFz (d : DO) : DE := fun ρ => d ρ >>= fun a => .ok (a.1.fz, a.2)
theorem z_imp {d : DE} {Q : VK} (h : tO T E (dZ d) σ H Q) : tE T E d σ H Q := by
  obtain ⟨F, ρ, A, s, q⟩ := h
  refine ⟨F, ρ, A, s, ?_⟩
  unfold dZ at q
  match e : d ρ with
  | .ok (p, ρ') =>
    rw [e] at q
    exact fun F' H' A' st so v rv => q F' H' A' [] v (st.less fun b z => z.elim id fun z => absurd z (by simp)) so ⟨rfl, rv⟩ fun b z => absurd z (by simp)
  | .exc c => rw [e] at q; exact q
  | .bad => rw [e] at q; exact q
theorem fz_imp {d : DO} {Q : VK} (h : tE T E (dFz d) σ H Q) : tO T E d σ H Q := by
  obtain ⟨F, ρ, A, s, q⟩ := h
  refine ⟨F, ρ, A, s, ?_⟩
  unfold dFz at q
  match e : d ρ with
  | .ok (r, ρ') =>
    rw [e] at q
    intro F' H' A' R v st so rs n
    obtain ⟨F2, st2, so2, rz⟩ := fz_res so rs n
    exact q F2 H' A' (st.trans st2) so2 v rz
  | .exc c => rw [e] at q; exact q
  | .bad => rw [e] at q; exact q
theorem pe_fz {e : Expr} {d : DO} (h : PE X e (tO T E d)) : PE X e (tE T E (dFz d)) := h.imp fun σ H Q => fz_imp
theorem pe_z {e : Expr} {d : DE} (h : PE X e (tE T E d)) : PE X e (tO T E (dZ d)) := h.imp fun σ H Q => z_imp
theorem PostO.after {F' H' : Hp} {A' : Ow} {Q : VK} {r : Res (SV × Env)} (st : Stp (Own A) F H (Own A') F' H') (h : PostO T E F H σ A Q r) : PostO T E F' H' σ A' Q r := by
  match r, h with
  | .ok (a, ρ'), h => exact fun F2 H2 A2 R v s2 so => h F2 H2 A2 R v (st.trans s2) so
  | .exc c, h => exact fun F2 H2 s2 => h F2 H2 (st.trans s2)
theorem PostO.bind {α : Type} {Q : VK} {r : Res (α × Env)} {f : α × Env → Res (SV × Env)} (h : PostO T E F H σ A Q (r >>= f)) :
    Post T E F H σ A (fun a ρ1 F1 H1 A1 => PostO T E F1 H1 σ A1 Q (f (a, ρ1))) r := by
  match r, h with
  | .ok (a, ρ'), h =>
    intro F1 H1 A1 s1 o1
    have h : PostO T E F H σ A Q (f (a, ρ')) := h
    exact h.after s1
  | .exc c, h => exact h
/-- a new list of one's own -/
def dFnO (g : List PV → Option (List PV)) (ds : DEs) : DO := fun ρ => ds ρ >>= fun a => match g a.1 with
  | some r => .ok (.o r, a.2)
  | none => .bad
def FnSO (T : Tb) (R : List V → Hp → VK → Prop) (g : List PV → Option (List PV)) : Prop := ∀ xs ps r F H Q, Le F H → RzL T F xs ps → g ps = some r →
  (∀ p, H p = none → ∀ vs, RzL T F vs r → Q (.ref p) (upd H p (.lst vs))) → R xs H Q
theorem own_new {F' H' : Hp} {A' : Ow} {ρ' : Env} {vs : List V} {ps : List PV} {p : Addr} (so : SOk T F' H' σ ρ' A') (hp : H' p = none) (r : RzL T F' vs ps) :
    Stp (Own A') F' H' (fun b => Own A' b ∨ b ∈ [p]) F' (upd H' p (.lst vs)) ∧ SOk T F' (upd H' p (.lst vs)) σ ρ' A' ∧ RS T F' (upd H' p (.lst vs)) (.ref p) (.o ps) [p] ∧ ∀ b ∈ [p], ¬ Own A' b := by
  have s0 := stp_own (o := .lst vs) so.fh hp
  have f := s0.frame (T := Own A') (fun b ⟨i, h⟩ => so.lv i b h) (fun _ _ q => q) (fun b ⟨i, h⟩ => so.nf i b h)
  refine ⟨(f.weak fun b q => q.elim False.elim id).less fun b q => q.elim .inr fun z => .inl (by simpa using z), so.step s0 fun _ q => q.elim, ⟨p, vs, rfl, rfl, upd_same, r⟩, fun b hb ⟨i, h⟩ => ?_⟩
  rw [List.mem_singleton] at hb
  subst hb
  exact so.lv i b h hp
theorem fno_imp {R : List V → Hp → VK → Prop} {g : List PV → Option (List PV)} {ds : DEs} (hg : FnSO T R g) {Q : VK} (h : tO T E (dFnO g ds) σ H Q) : tCB R (tL T E ds) σ H Q := by
  obtain ⟨F, ρ, A, s, q⟩ := h
  refine ⟨F, ρ, A, s, (PostO.bind q).imp fun p ρ1 F1 H1 A1 st1 so1 q1 v rv => ?_⟩
  cases e : g p with
  | none => simp only [e] at q1; exact q1.elim
  | some r =>
    simp only [e] at q1
    refine hg _ _ _ F1 H1 Q so1.fh rv e fun p hp vs rvs => ?_
    obtain ⟨a, b, c, d⟩ := own_new so1 hp rvs
    exact q1 _ _ _ _ _ a b c d
def gListO (ps : List PV) : Option (List PV) := if ps.length ≤ sizeLine then some ps else none
theorem pe_liO {es : List Expr} {ds : DEs} (h : PA X es (tL T E ds)) : PE X (.List es pos) (tO T E (dFnO gListO ds)) :=
  (pe_lst h).imp fun σ H Q q => fno_imp (T := T) (E := E) (R := fun xs H1 Q => xs.length ≤ sizeLine ∧ ∀ p, H1 p = none → Q (.ref p) (upd H1 p (.lst xs))) (g := gListO)
    (fun xs ps r F H Q l rz e k => by
      unfold gListO at e
      split at e
      · rename_i z
        cases e
        exact ⟨by rw [rz.length]; exact z, fun p hp => k p hp xs rz⟩
      · cases e) q
def dOrO (da db : DO) : DO := fun ρ => da ρ >>= fun a => match tru a.1.fz with
  | some true => .ok a
  | some false => db a.2
  | none => .bad
end

/-! ### statements -/
/-- what stays in the slots -/
structure FxOk (fx : Nat → Prop) (σ σ' : L2.St) : Prop where
  len : σ'.length = σ.length
  eq : ∀ j, fx j → σ'[j]? = σ[j]?
theorem FxOk.refl' (fx : Nat → Prop) (σ : L2.St) : FxOk fx σ σ := ⟨rfl, fun _ _ => Eq.refl _⟩
theorem FxOk.trans {fx : Nat → Prop} {σ σ1 σ2 : L2.St} (a : FxOk fx σ σ1) (b : FxOk fx σ1 σ2) : FxOk fx σ σ2 := ⟨b.len.trans a.len, fun j h => (b.eq j h).trans (a.eq j h)⟩
section
variable (T : Tb) (E : XK) (fx : Nat → Prop)
def PostS (F H : Hp) (σ : L2.St) (A : Ow) (D : Ends) : Res (Flw × Env) → Prop
  | .ok (.nx, ρ') => ∀ σ' F' H' A', Stp (Own A) F H (Own A') F' H' → SOk T F' H' σ' ρ' A' → FxOk fx σ σ' → D.nx σ' H'
  | .ok (.brk, ρ') => ∀ σ' F' H' A', Stp (Own A) F H (Own A') F' H' → SOk T F' H' σ' ρ' A' → FxOk fx σ σ' → D.bk σ' H'
  | .ok (.ct, ρ') => ∀ σ' F' H' A', Stp (Own A) F H (Own A') F' H' → SOk T F' H' σ' ρ' A' → FxOk fx σ σ' → D.ct σ' H'
  | .ok (.ret r, ρ') => ∀ σ' F' H' A' R v, Stp (Own A) F H (fun b => Own A' b ∨ b ∈ R) F' H' → SOk T F' H' σ' ρ' A' → FxOk fx σ σ' → RS T F' H' v r R → (∀ b ∈ R, ¬ Own A' b) → D.rt v H'
  | .exc c => ∀ F' H', Stp (Own A) F H Nil F' H' → E (T.cls c) none H'
  | .bad => False
def tS (d : DS) : TS := fun D σ H => ∃ F ρ A, SOk T F H σ ρ A ∧ PostS T E fx F H σ A D (d ρ)
/-- a target's reading -/
def tG (g : DG) : TG := fun v σ H Q => ∃ F ρ A p, SOk T F H σ ρ A ∧ Rz T F v p ∧ match g p ρ with
  | some ρ' => ∀ σ' F' H' A', Stp (Own A) F H (Own A') F' H' → SOk T F' H' σ' ρ' A' → FxOk fx σ σ' → Q σ' H'
  | none => False
end
section
variable {T : Tb} {E : XK} {fx : Nat → Prop} {X : Cx} {σ : L2.St} {F H : Hp} {ρ : Env} {A : Ow} {pos : Pos}
theorem PostS.after {F' H' : Hp} {A' : Ow} {σ' : L2.St} {D : Ends} {r : Res (Flw × Env)} (st : Stp (Own A) F H (Own A') F' H') (hf : FxOk fx σ σ') (h : PostS T E fx F H σ A D r) : PostS T E fx F' H' σ' A' D r := by
  match r, h with
  | .ok (.nx, ρ'), h => exact fun σ2 F2 H2 A2 s2 so f2 => h σ2 F2 H2 A2 (st.trans s2) so (hf.trans f2)
  | .ok (.brk, ρ'), h => exact fun σ2 F2 H2 A2 s2 so f2 => h σ2 F2 H2 A2 (st.trans s2) so (hf.trans f2)
  | .ok (.ct, ρ'), h => exact fun σ2 F2 H2 A2 s2 so f2 => h σ2 F2 H2 A2 (st.trans s2) so (hf.trans f2)
  | .ok (.ret r, ρ'), h => exact fun σ2 F2 H2 A2 R v s2 so f2 => h σ2 F2 H2 A2 R v (st.trans s2) so (hf.trans f2)
  | .exc c, h => exact fun F2 H2 s2 => h F2 H2 (st.trans s2)
theorem PostS.bind {α : Type} {D : Ends} {r : Res (α × Env)} {f : α × Env → Res (Flw × Env)} (h : PostS T E fx F H σ A D (r >>= f)) :
    Post T E F H σ A (fun a ρ1 F1 H1 A1 => PostS T E fx F1 H1 σ A1 D (f (a, ρ1))) r := by
  match r, h with
  | .ok (a, ρ'), h =>
    intro F1 H1 A1 s1 o1
    have h : PostS T E fx F H σ A D (f (a, ρ')) := h
    exact h.after s1 (FxOk.refl' _ _)
  | .exc c, h => exact h
def dSkip : DS := fun ρ => .ok (.nx, ρ)
def dSeq (da db : DS) : DS := fun ρ => da ρ >>= fun a => match a.1 with
  | .nx => db a.2
  | _ => .ok a
theorem seq_imp {da db : DS} {D : Ends} (h : tS T E fx (dSeq da db) D σ H) : tS T E fx da { D with nx := tS T E fx db D } σ H := by
  obtain ⟨F, ρ, A, s, q⟩ := h
  refine ⟨F, ρ, A, s, ?_⟩
  unfold dSeq at q
  match e : da ρ with
  | .ok (.nx, ρ') =>
    rw [e] at q
    exact fun σ' F' H' A' st so hf => ⟨F', ρ', A', so, PostS.after st hf q⟩
  | .ok (.brk, ρ') => rw [e] at q; exact q
  | .ok (.ct, ρ') => rw [e] at q; exact q
  | .ok (.ret r, ρ') => rw [e] at q; exact q
  | .exc c => rw [e] at q; exact q
  | .bad => rw [e] at q; exact q
theorem pss_n : PSs X [] (tS T E fx dSkip) := pss_nil.imp fun D σ H ⟨F, ρ, A, s, q⟩ => q σ F H A s.refl s (FxOk.refl' _ _)
theorem pss_c {st : Stmt} {rest : List Stmt} {da db : DS} (h1 : PS X st (tS T E fx da)) (h2 : PSs X rest (tS T E fx db)) : PSs X (st :: rest) (tS T E fx (dSeq da db)) := (pss_cons h1 h2).imp fun D σ H h => seq_imp h
theorem ps_pa : PS X (.Pass pos) (tS T E fx dSkip) := ps_pass.imp fun D σ H ⟨F, ρ, A, s, q⟩ => q σ F H A s.refl s (FxOk.refl' _ _)
def dBrk : DS := fun ρ => .ok (.brk, ρ)
def dCt : DS := fun ρ => .ok (.ct, ρ)
theorem ps_br : PS X (.Break pos) (tS T E fx dBrk) := ps_break.imp fun D σ H ⟨F, ρ, A, s, q⟩ => q σ F H A s.refl s (FxOk.refl' _ _)
theorem ps_co : PS X (.Continue pos) (tS T E fx dCt) := ps_continue.imp fun D σ H ⟨F, ρ, A, s, q⟩ => q σ F H A s.refl s (FxOk.refl' _ _)
def dRet (d : DO) : DS := fun ρ => d ρ >>= fun a => .ok (.ret a.1, a.2)
theorem ps_re {e : Expr} {d : DO} (h : PE X e (tO T E d)) : PS X (.Return (some e) pos) (tS T E fx (dRet d)) := (ps_ret h).imp fun D σ H ⟨F, ρ, A, s, q⟩ => by
  refine ⟨F, ρ, A, s, ?_⟩
  unfold dRet at q
  match e : d ρ with
  | .ok (r, ρ') =>
    rw [e] at q
    exact fun F' H' A' R v st so rs n => q σ F' H' A' R v st so ((FxOk.refl' _ _)) rs n
  | .exc c => rw [e] at q; exact q
  | .bad => rw [e] at q; exact q
def dRetN : DS := fun ρ => .ok (.ret (.z .non), ρ)
theorem ps_rn : PS X (.Return none pos) (tS T E fx dRetN) := ps_retN.imp fun D σ H ⟨F, ρ, A, s, q⟩ => q σ F H A [] .non (s.refl.less fun b z => z.elim id fun z => absurd z (by simp)) s ((FxOk.refl' _ _)) ⟨rfl, .non⟩ fun b z => absurd z (by simp)
def dIfS (dc : DT) (da db : DS) : DS := fun ρ => dc ρ >>= fun c => if c.1 then da c.2 else db c.2
theorem ps_i {c : Expr} {a b : List Stmt} {dc : DT} {da db : DS} (hc : PT X c (tT T E dc)) (ha : PSs X a (tS T E fx da)) (hb : PSs X b (tS T E fx db)) : PS X (.If c a b pos) (tS T E fx (dIfS dc da db)) :=
  (ps_if hc ha hb).imp fun D σ H ⟨F, ρ, A, s, q⟩ => ⟨F, ρ, A, s, (PostS.bind q).imp fun b ρ1 F1 H1 A1 st1 so1 q1 => by
    cases b with
    | true => exact ⟨F1, ρ1, A1, so1, q1⟩
    | false => exact ⟨F1, ρ1, A1, so1, q1⟩⟩
/-- an expression whose value is dropped -/
def dEx (d : DE) : DS := fun ρ => d ρ >>= fun a => .ok (.nx, a.2)
def noComp : Expr → Bool
  | .ListComp _ _ _ _ => false
  | .SetComp _ _ _ _ => false
  | .DictComp _ _ _ _ _ => false
  | _ => true
theorem no_swap {e : Expr} (h : noComp e = true) (t : Option Expr) (l : Nat) (env : PySem.Env) : swapsWith e t l env = pure false := by
  cases e <;> first | (simp [noComp] at h; done) | rfl
theorem ps_ex {e : Expr} {d : DE} (nc : noComp e = true) (h : PE X e (tE T E d)) : PS X (.Expr e pos) (tS T E fx (dEx d)) :=
  (ps_expr h (no_swap nc _ _ _)).imp fun D σ H ⟨F, ρ, A, s, q⟩ => ⟨F, ρ, A, s, (PostS.bind q).imp fun p ρ1 F1 H1 A1 st1 so1 q1 v rv => q1 σ F1 H1 A1 so1.refl so1 (FxOk.refl' _ _)⟩
/-- slot i gets a new content -/
theorem put_ok {F' H' : Hp} {A' : Ow} {ρ' : Env} {R : List Addr} {v : V} {r : SV} (so : SOk T F' H' σ ρ' A') (rs : RS T F' H' v r R) (n : ∀ b ∈ R, ¬ Own A' b) (nf : ∀ b ∈ R, F' b = none) (i : Nat) :
    Stp (fun b => Own A' b ∨ b ∈ R) F' H' (Own (A'.put i R)) F' H' ∧ SOk T F' H' (σ.set i (some v)) (ρ'.set i (some r)) (A'.put i R) := by
  have own1 : ∀ b, Own (A'.put i R) b → Own A' b ∨ b ∈ R := fun b ⟨j, hb⟩ => by
    by_cases z : j = i
    · rw [z, Ow.put_same] at hb; exact .inr hb
    · rw [Ow.put_ne _ _ z] at hb; exact .inl ⟨j, hb⟩
  have nfo : ∀ b, Own A' b ∨ b ∈ R → F' b = none := fun b z => z.elim (fun ⟨j, h⟩ => so.nf j b h) (nf b)
  refine ⟨(Stp.refl so.fh nfo).less own1, by rw [List.length_set, List.length_set]; exact so.len, fun j q ej => ?_, fun j k b hj hk => ?_, so.fh, fun j b hb => nfo b (own1 b ⟨j, hb⟩), fun j b hb => ?_⟩
  · by_cases z : j = i
    · subst z
      have hj : j < ρ'.length := by have := lt_of_get ej; rw [List.length_set] at this; exact this
      rw [List.getElem?_set_self hj] at ej
      cases ej
      rw [Ow.put_same]
      exact ⟨v, by rw [List.getElem?_set_self (by rw [← so.len]; exact hj)], rs⟩
    · rw [List.getElem?_set_ne (Ne.symm z)] at ej
      rw [Ow.put_ne _ _ z, List.getElem?_set_ne (Ne.symm z)]
      exact so.slot j q ej
  · by_cases zj : j = i
    · by_cases zk : k = i
      · rw [zj, zk]
      · rw [zj, Ow.put_same] at hj
        rw [Ow.put_ne _ _ zk] at hk
        exact absurd ⟨k, hk⟩ (n b hj)
    · rw [Ow.put_ne _ _ zj] at hj
      by_cases zk : k = i
      · rw [zk, Ow.put_same] at hk
        exact absurd ⟨j, hj⟩ (n b hk)
      · rw [Ow.put_ne _ _ zk] at hk
        exact so.dj _ _ _ hj hk
  · by_cases z : j = i
    · rw [z, Ow.put_same] at hb; exact rs.live b hb
    · rw [Ow.put_ne _ _ z] at hb; exact so.lv _ _ hb
theorem set_fx {i : Nat} {v : Option V} (hi : ¬ fx i) : FxOk fx σ (σ.set i v) := ⟨List.length_set, fun j hj => List.getElem?_set_ne fun z => hi (by rw [z]; exact hj)⟩
def dSet (i : Nat) (d : DO) : DS := fun ρ => d ρ >>= fun a => .ok (.nx, a.2.set i (some a.1))
theorem set_imp {i : Nat} {d : DO} {D : Ends} (hi : ¬ fx i) (h : tS T E fx (dSet i d) D σ H) : tAsg (tO T E d) (gName i) D σ H := by
  obtain ⟨F, ρ, A, s, q⟩ := h
  refine ⟨F, ρ, A, s, ?_⟩
  unfold dSet at q
  match e : d ρ with
  | .ok (r, ρ') =>
    rw [e] at q
    intro F' H' A' R v st so rs n
    obtain ⟨st2, so2⟩ := put_ok so rs n (fun b hb => st.nf b (.inr hb)) i
    exact q _ F' H' _ (st.trans st2) so2 (set_fx hi)
  | .exc c => rw [e] at q; exact q
  | .bad => rw [e] at q; exact q
theorem ps_a {i : Nat} {x : Str} {e : Expr} {d : DO} {pos' : Pos} (hi : ¬ fx i) (hN : X.N.Nodup) (hx : X.N[i]? = some x) (hl : Loc X.env.scope x) (hf : X.fn x = true ∨ X.env.scope.names.lookup x = some .local) (hs : swapsWith e (some (.Name x pos')) pos.line X.env = pure false)
    (h : PE X e (tO T E d)) : PS X (.Assign [.Name x pos'] e pos) (tS T E fx (dSet i d)) := (ps_set hN hx hl h hs hf).imp fun D σ H q => set_imp hi q
/-! targets -/
def gNm (i : Nat) : DG := fun p ρ => some (ρ.set i (some (.z p)))
theorem gnm_imp {i : Nat} (hi : ¬ fx i) {v : V} {Q : L2.St → Hp → Prop} (h : tG T fx (gNm i) v σ H Q) : gName i v σ H Q := by
  obtain ⟨F, ρ, A, p, s, rz, q⟩ := h
  obtain ⟨st2, so2⟩ := put_ok (R := []) (r := .z p) s ⟨rfl, rz⟩ (fun b z => absurd z (by simp)) (fun b z => absurd z (by simp)) i
  exact q _ F H _ (st2.weak fun b z => z.elim id fun z => absurd z (by simp)) so2 (set_fx hi)
theorem pg_n {i : Nat} {x : Str} (hi : ¬ fx i) (hN : X.N.Nodup) (hx : X.N[i]? = some x) (hl : Loc X.env.scope x) (hf : X.fn x = true ∨ X.env.scope.names.lookup x = some .local) : PG X (.Name x pos) (tG T fx (gNm i)) :=
  (pg_name hN hx hl hf).imp fun v σ H Q q => gnm_imp hi q
abbrev DGs := List PV → Env → Option Env
def gsNil : DGs := fun ps ρ => match ps with
  | [] => some ρ
  | _ => none
def gsCons (g : DG) (gs : DGs) : DGs := fun ps ρ => match ps with
  | p :: ps => (g p ρ).bind fun ρ1 => gs ps ρ1
  | _ => none
def tGs (T : Tb) (fx : Nat → Prop) (g : DGs) : TGs := fun vs σ H Q => ∃ F ρ A ps, SOk T F H σ ρ A ∧ RzL T F vs ps ∧ match g ps ρ with
  | some ρ' => ∀ σ' F' H' A', Stp (Own A) F H (Own A') F' H' → SOk T F' H' σ' ρ' A' → FxOk fx σ σ' → Q σ' H'
  | none => False
theorem pgs_n : PGs X [] (tGs T fx gsNil) := pgs_nil.imp fun vs σ H Q ⟨F, ρ, A, ps, s, rz, q⟩ => by
  cases rz with
  | nil => exact ⟨rfl, q σ F H A s.refl s (FxOk.refl' _ _)⟩
  | cons _ _ => exact q.elim
theorem pgs_c {e : Expr} {es : List Expr} {g : DG} {gs : DGs} (h1 : PG X e (tG T fx g)) (h2 : PGs X es (tGs T fx gs)) (hs : (assignEach (e :: es) X.env).map (·.2) = assign e X.env :: (assignEach es X.env).map (·.2)) : PGs X (e :: es) (tGs T fx (gsCons g gs)) :=
  (pgs_cons h1 h2 hs).imp fun vs σ H Q ⟨F, ρ, A, ps, s, rz, q⟩ => by
    cases rz with
    | nil => exact q.elim
    | @cons v vs p ps r rr =>
      refine ⟨v, vs, rfl, F, ρ, A, p, s, r, ?_⟩
      simp only [gsCons] at q
      match e : g p ρ with
      | some ρ1 =>
        rw [e] at q
        simp only [Option.bind] at q
        intro σ1 F1 H1 A1 st1 so1 f1
        refine ⟨F1, ρ1, A1, ps, so1, rr.le st1.ff, ?_⟩
        match e2 : gs ps ρ1 with
        | some ρ2 => rw [e2] at q; exact fun σ2 F2 H2 A2 st2 so2 f2 => q σ2 F2 H2 A2 (st1.trans st2) so2 (f1.trans f2)
        | none => rw [e2] at q; exact q
      | none => rw [e] at q; exact q
def gTp (n : Nat) (gs : DGs) : DG := fun p ρ => match p with
  | .tup ps => if ps.length = n then gs ps ρ else none
  | _ => none
theorem pg_t {es : List Expr} {k n : Nat} {gs : DGs} (hK : X.K = T.K) (hc : X.calm = true) (h : PGs X es (tGs T fx gs)) (hn : (assignEach es X.env).length = n) (hst : (assignEach es X.env).findIdx? (·.1) = none) : PG X (.Tuple es k pos) (tG T fx (gTp n gs)) :=
  (pg_tup hc h hn hst).imp fun v σ H Q ⟨F, ρ, A, p, s, rz, q⟩ => by
    cases rz with
    | @tup a vs ps h r =>
      simp only [gTp] at q
      by_cases z : ps.length = n
      · simp only [z, if_true] at q
        exact ⟨a, vs, rfl, by rw [hK]; exact SqT.le s.fh h, by rw [r.length]; exact z, F, ρ, A, ps, s, r, q⟩
      · simp only [z, if_false] at q
    | _ => exact q.elim
def dAsg (d : DE) (g : DG) : DS := fun ρ => d ρ >>= fun a => match g a.1 a.2 with
  | some ρ' => .ok (.nx, ρ')
  | none => .bad
theorem ps_as {tg e : Expr} {d : DE} {g : DG} (h : PE X e (tE T E d)) (hg : PG X tg (tG T fx g)) (hs : swapsWithSole [tg] e pos.line X.env = pure false) (hw : swappedStores [tg] e X.env = pure none) (h1 : (assignEach [tg] X.env).map (·.2) = [assign tg X.env]) :
    PS X (.Assign [tg] e pos) (tS T E fx (dAsg d g)) := (ps_asg h hg hs hw h1).imp fun D σ H ⟨F, ρ, A, s, q⟩ => by
  refine ⟨F, ρ, A, s, (PostS.bind q).imp fun p ρ1 F1 H1 A1 st1 so1 q1 v rv => ⟨F1, ρ1, A1, p, so1, rv, ?_⟩⟩
  match e : g p ρ1 with
  | some ρ' => simp only [e] at q1; exact fun σ' F' H' A' st so f => q1 σ' F' H' A' st so f
  | none => simp only [e] at q1; exact q1
end
end Dn

/-! DnE: what is walked: sequences, ranges, zip, enumerate. -/
namespace Dn
open PySem PySem.Spec PyProof.Rows L2

def SqX (K : PySem.W.Frag) (H : Hp) (a : Addr) (t : Bool) (xs : List V) : Prop := if t then SqT K H a xs else SqL K H a xs
def SIt (t : Bool) (h : Heap) (it a : Addr) (i : Nat) : Prop := if t then h.IsTupleIter it a i else h.IsListIter it a i
def SAt (t : Bool) (h : Heap) (a : Addr) (items : Array Value) : Prop := if t then h.IsTuple a items else h.IsList a items
theorem SIt.at {t : Bool} {h h' : Heap} {it a : Addr} {i : Nat} (x : SIt t h it a i) (k : ∀ o, h.get? it = some o → h'.get? it = some o) : SIt t h' it a i := by
  cases t
  · exact Heap.IsListIter.at x k
  · exact Heap.IsTupleIter.at x k
theorem SIt.rec {t : Bool} {h : Heap} {it a : Addr} {i : Nat} (x : SIt t h it a i) : ∃ o, h.get? it = some o ∧ ∀ v, o.data ≠ .cell v := by
  cases t
  · obtain ⟨o, e, _, d⟩ := (show h.IsListIter it a i from x)
    exact ⟨o, e, fun v z => by rw [d] at z; cases z⟩
  · obtain ⟨o, e, _, d⟩ := (show h.IsTupleIter it a i from x)
    exact ⟨o, e, fun v z => by rw [d] at z; cases z⟩
section
variable {X : Cx} {pins : List (Addr × Obj)} {σ : L2.St} {H : Hp} {s : Shared} {a : Addr} {t : Bool} {xs ys : List V}
theorem sq_at (I : Inv X pins σ H s) (h : SqX X.K H a t xs) : ∃ its : List Value, Vals xs its ∧ SAt t s.heap a its.toArray ∧ a < s.heap.objs.size ∧ xs.length ≤ sizeLine := by
  cases t
  · obtain ⟨its, r, p, z⟩ := I.list h
    exact ⟨its, r, p.isList, p.lt, z⟩
  · obtain ⟨its, r, p, z⟩ := I.tuple h
    exact ⟨its, r, p, p.lt, z⟩
theorem sq_inj (I : Inv X pins σ H s) (h : SqX X.K H a t xs) (h' : SqX X.K H a t ys) : xs = ys := by
  cases t
  · exact I.list_inj h h'
  · exact I.tuple_inj h h'
end
theorem draws_seq {prog : Program} {w : World} {A : Around} (hh : A.handled = none) (t : Bool) (it l : Addr) (hne : l ≠ it) (items : Array Value) :
    Draws prog w A it [it, l] items.size (fun i v => items[i]? = some v) (fun i h => SIt t h it l i ∧ SAt t h l items) := by
  cases t
  · exact Draws.list hh it l hne items
  · exact Draws.tuple hh it l hne items
theorem begins_seq (t : Bool) (l : Addr) (items : Array Value) : ∃ o, Begins (.ref l) o (fun h => SAt t h l items) ∧ ∀ h it, h.get? it = some o → SIt t h it l 0 := by
  cases t
  · exact ⟨_, begins_list l items, fun h it e => ⟨_, e, rfl, rfl⟩⟩
  · exact ⟨_, begins_tuple l items, fun h it e => ⟨_, e, rfl, rfl⟩⟩

/-! ### zip -/
def Iz (K : PySem.W.Frag) (a b : Addr) (ta tb : Bool) : It :=
  ⟨fun i H => ∃ (xs ys : List V) (x y : V), SqX K H a ta xs ∧ SqX K H b tb ys ∧ xs[i]? = some x ∧ ys[i]? = some y,
    fun i H v H' => ∃ T x y, v = .ref T ∧ H T = none ∧ H' = upd H T (.tup [x, y]) ∧ (∀ xs, SqX K H a ta xs → xs[i]? = some x) ∧ ∀ ys, SqX K H b tb ys → ys[i]? = some y,
    fun i H => ∃ xs ys : List V, SqX K H a ta xs ∧ SqX K H b tb ys ∧ i = min xs.length ys.length⟩
theorem get_toArray {its : List Value} {i : Nat} {u u' : Value} (h : its[i]? = some u) (h' : its.toArray[i]? = some u') : u' = u := by
  rw [List.getElem?_toArray, h] at h'
  exact (Option.some.inj h').symm
theorem turn_z {P : Program} {w : World} {K : PySem.W.Frag} {elts : List Expr} {kk : Nat} {tpos : Pos} {a b z TI TO i1 i2 : Addr} {ta tb : Bool} (S : ZipSep2 z TI TO i1 i2 [i1, a] [i2, b]) (n1 : a ≠ i1) (n2 : b ≠ i2) :
    Turn P w K (.Tuple elts kk tpos) (Iz K a b ta tb) [z, TI, TO, i1, i2] z (fun i h => IsZip h z TI TO .none ∧ IsTupOf2 h TI (.ref i1) (.ref i2) ∧ (∃ x y, IsTupOf2 h TO x y) ∧ SIt ta h i1 a i ∧ SIt tb h i2 b i) where
  mem := by simp
  obj := fun i h st c hc => by
    obtain ⟨hz, hTI, ⟨x, y, hTO⟩, h1, h2⟩ := st
    have e' : c = z ∨ c = TI ∨ c = TO ∨ c = i1 ∨ c = i2 := by simpa using hc
    rcases e' with q | q | q | q | q
    · rw [q]; exact ⟨_, hz, fun v q => nomatch q⟩
    · rw [q]; exact ⟨_, hTI, fun v q => nomatch q⟩
    · rw [q]; exact ⟨_, hTO, fun v q => nomatch q⟩
    · rw [q]; exact h1.rec
    · rw [q]; exact h2.rec
  keep := fun i h h' st k => by
    obtain ⟨hz, hTI, ⟨x, y, hTO⟩, h1, h2⟩ := st
    exact ⟨k z (by simp) _ hz, k TI (by simp) _ hTI, ⟨x, y, k TO (by simp) _ hTO⟩, h1.at fun o q => k i1 (by simp) o q, h2.at fun o q => k i2 (by simp) o q⟩
  item := by
    intro X hP hw hK hc i pins s σ H E I hf st hg
    subst hP hw hK
    obtain ⟨hz, hTI, hTO, h1, h2⟩ := st
    obtain ⟨xs, ys, x, y, hqx, hqy, hx, hy⟩ := hg
    obtain ⟨its, rv, p, _, _⟩ := sq_at I hqx
    obtain ⟨its2, rv2, p2, _, _⟩ := sq_at I hqy
    obtain ⟨u, hu, ru⟩ := rv.get hx
    obtain ⟨u2, hu2, ru2⟩ := rv2.get hy
    have hh : X.A.in1.handled = none := I.ok.hd hc
    have W := GoesN.zip2 (prog := X.prog) (w := X.w) (A := X.A) (elts := elts) (x1 := kk) (pos := tpos) S (draws_seq hh ta i1 a n1 its.toArray) (draws_seq hh tb i2 b n2 its2.toArray)
    have l1 : i < its.toArray.size := by rw [List.size_toArray]; exact (List.getElem?_eq_some_iff.mp hu).1
    have l2 : i < its2.toArray.size := by rw [List.size_toArray]; exact (List.getElem?_eq_some_iff.mp hu2).1
    refine W.goes i s _ E (Nat.lt_min.mpr ⟨l1, l2⟩) ⟨hz, hTI, hTO, ⟨h1, p⟩, ⟨h2, p2⟩⟩ fun v h' tk hY st' hk htk => ?_
    obtain ⟨T, v1, v2, rfl, hT, q1, q2, isT⟩ := hY
    obtain ⟨hz', hTI', hTO', ⟨h1', _⟩, ⟨h2', _⟩⟩ := st'
    obtain rfl := get_toArray hu q1
    obtain rfl := get_toArray hu2 q2
    have new : ObjOk X.prog X.w (upd H T (.tup [x, y])) h' T (.tup [x, y]) := ⟨by show 2 ≤ sizeLine; decide, [v1, v2], .cons ru (.cons ru2 .nil), isT⟩
    have I1 : Inv X pins σ (upd H T (.tup [x, y])) { s with heap := h', toks := tk } :=
      I.turnedNew (t' := tk) (ch := [z, TI, TO, i1, i2]) (fun c o hb q => hk c o (fun q' => hb (by revert q'; simp; intro q'; rcases q' with q' | q' | q' | q' <;> simp [q'])) q) hf hT new
    refine ⟨.ref T, _, I1, rfl, ⟨T, x, y, rfl, I.hok.fresh hT, rfl, fun l hl => by rw [sq_inj I hl hqx]; exact hx, fun l hl => by rw [sq_inj I hl hqy]; exact hy⟩, ⟨hz', hTI', hTO', h1', h2'⟩, fun c hcm => ?_⟩
    have hlt : c < s.heap.objs.size := by
      have e' : c = z ∨ c = TI ∨ c = TO ∨ c = i1 ∨ c = i2 := by simpa using hcm
      rcases e' with q | q | q | q | q
      · rw [q]; exact Heap.lt_size hz
      · rw [q]; exact Heap.lt_size hTI
      · rw [q]; obtain ⟨_, _, e⟩ := hTO; exact Heap.lt_size e
      · rw [q]; obtain ⟨_, e1, _⟩ := h1.rec; exact Heap.lt_size e1
      · rw [q]; obtain ⟨_, e1, _⟩ := h2.rec; exact Heap.lt_size e1
    rw [upd_ne (Nat.ne_of_lt (Nat.lt_of_lt_of_le hlt hT))]
    exact (hf c hcm).1
  done := by
    intro X hP hw hK hc i pins s σ H E I hf st hg
    subst hP hw hK
    obtain ⟨hz, hTI, hTO, h1, h2⟩ := st
    obtain ⟨xs, ys, hqx, hqy, hend⟩ := hg
    obtain ⟨its, rv, p, _, _⟩ := sq_at I hqx
    obtain ⟨its2, rv2, p2, _, _⟩ := sq_at I hqy
    have hh : X.A.in1.handled = none := I.ok.hd hc
    have W := GoesN.zip2 (prog := X.prog) (w := X.w) (A := X.A) (elts := elts) (x1 := kk) (pos := tpos) S (draws_seq hh ta i1 a n1 its.toArray) (draws_seq hh tb i2 b n2 its2.toArray)
    have e : min its.toArray.size its2.toArray.size = i := by rw [List.size_toArray, List.size_toArray, ← rv.length, ← rv2.length]; exact hend.symm
    have W2 := W.stops s (fun s1 => Inv X pins σ H s1) E
    rw [e] at W2
    refine W2 ⟨hz, hTI, hTO, ⟨h1, p⟩, ⟨h2, p2⟩⟩ fun h' tk hk htk => ?_
    exact I.turnedL (t' := tk) (ch := [z, TI, TO, i1, i2]) (fun c o hb q => hk c o (fun q' => hb (by revert q'; simp; intro q'; rcases q' with q' | q' | q' | q' <;> simp [q'])) q) hf
  self := fun A i s Q E st h => wpAny_pyIter_zip st.1 h

/-! ### enumerate -/
def Ie (K : PySem.W.Frag) (a : Addr) (t : Bool) : It :=
  ⟨fun i H => ∃ (xs : List V) (x : V), SqX K H a t xs ∧ xs[i]? = some x,
    fun i H v H' => ∃ T x, v = .ref T ∧ H T = none ∧ H' = upd H T (.tup [.int (i : Nat), x]) ∧ ∀ xs, SqX K H a t xs → xs[i]? = some x,
    fun i H => ∃ xs : List V, SqX K H a t xs ∧ i = xs.length⟩
theorem turn_e {P : Program} {w : World} {K : PySem.W.Frag} {elts : List Expr} {kk : Nat} {tpos : Pos} {a e it : Addr} {t : Bool} (n1 : a ≠ it) (n2 : e ≠ it) (n3 : e ≠ a) :
    Turn P w K (.Tuple elts kk tpos) (Ie K a t) [e, it] e (fun i h => (∃ old, IsEnum h e it (0 + (i : Int)) old) ∧ SIt t h it a i) where
  mem := by simp
  obj := fun i h st b hb => by
    obtain ⟨⟨old, he⟩, h1⟩ := st
    have e' : b = e ∨ b = it := by simpa using hb
    rcases e' with z | z
    · rw [z]; exact ⟨_, he, fun v q => nomatch q⟩
    · rw [z]; exact h1.rec
  keep := fun i h h' st k => let ⟨⟨old, he⟩, hi⟩ := st; ⟨⟨old, k e (by simp) _ he⟩, hi.at fun o q => k it (by simp) o q⟩
  item := by
    intro X hP hw hK hc i pins s σ H E I hf st hg
    subst hP hw hK
    obtain ⟨he, h1⟩ := st
    obtain ⟨xs, x, hqx, hx⟩ := hg
    obtain ⟨its, rv, p, _, _⟩ := sq_at I hqx
    obtain ⟨u, hu, ru⟩ := rv.get hx
    have hh : X.A.in1.handled = none := I.ok.hd hc
    have W := GoesN.enumFrom (prog := X.prog) (w := X.w) (A := X.A) (elts := elts) (x1 := kk) (pos := tpos) 0 (draws_seq hh t it a n1 its.toArray) e n2 (by simp [n2, n3]) (by simp)
    have l1 : i < its.toArray.size := by rw [List.size_toArray]; exact (List.getElem?_eq_some_iff.mp hu).1
    refine W.goes i s _ E l1 ⟨he, ⟨h1, p⟩⟩ fun v h' tk hY st' hk htk => ?_
    obtain ⟨T, tt, v1, rfl, hT, q1, isT⟩ := hY
    obtain ⟨he', ⟨h1', _⟩⟩ := st'
    obtain rfl := get_toArray hu q1
    rw [Int.zero_add] at isT
    have new : ObjOk X.prog X.w (upd H T (.tup [.int (i : Nat), x])) h' T (.tup [.int (i : Nat), x]) := ⟨by show 2 ≤ sizeLine; decide, [.int i tt, v1], .cons ⟨_, rfl⟩ (.cons ru .nil), isT⟩
    have I1 : Inv X pins σ (upd H T (.tup [.int (i : Nat), x])) { s with heap := h', toks := tk } :=
      I.turnedNew (t' := tk) (ch := [e, it]) (fun c o hb q => hk c o hb q) hf hT new
    refine ⟨.ref T, _, I1, rfl, ⟨T, x, rfl, I.hok.fresh hT, rfl, fun l hl => by rw [sq_inj I hl hqx]; exact hx⟩, ⟨he', h1'⟩, fun c hcm => ?_⟩
    have hlt : c < s.heap.objs.size := by
      have e' : c = e ∨ c = it := by simpa using hcm
      rcases e' with q | q
      · rw [q]; obtain ⟨_, e⟩ := he; exact Heap.lt_size e
      · rw [q]; obtain ⟨_, e1, _⟩ := h1.rec; exact Heap.lt_size e1
    rw [upd_ne (Nat.ne_of_lt (Nat.lt_of_lt_of_le hlt hT))]
    exact (hf c hcm).1
  done := by
    intro X hP hw hK hc i pins s σ H E I hf st hg
    subst hP hw hK
    obtain ⟨he, h1⟩ := st
    obtain ⟨xs, hqx, hend⟩ := hg
    obtain ⟨its, rv, p, _, _⟩ := sq_at I hqx
    have hh : X.A.in1.handled = none := I.ok.hd hc
    have W := GoesN.enumFrom (prog := X.prog) (w := X.w) (A := X.A) (elts := elts) (x1 := kk) (pos := tpos) 0 (draws_seq hh t it a n1 its.toArray) e n2 (by simp [n2, n3]) (by simp)
    have e0 : its.toArray.size = i := by rw [List.size_toArray, ← rv.length]; exact hend.symm
    have W2 := W.stops s (fun s1 => Inv X pins σ H s1) E
    rw [e0] at W2
    refine W2 ⟨he, ⟨h1, p⟩⟩ fun h' tk hk htk => ?_
    exact I.turnedL (t' := tk) (ch := [e, it]) (fun c o hb q => hk c o hb q) hf
  self := fun A i s Q E st h => let ⟨⟨_, he⟩, _⟩ := st; wpAny_pyIter_enum he h

set_option maxHeartbeats 1000000 in
/-- enumerate(v), v by what iter(v) makes -/
theorem enum_made {v : Value} {o : Obj} {Hh : Heap → Prop} (B : Begins v o Hh) :
    Meets (Builtin.«enumerate.__new__» ⟨[.type "enumerate", v], []⟩) (fun _ R s => Hh s.heap ∧
      R (.ok (.ret (.ref (s.heap.push o).objs.size))) { s with heap := (s.heap.push o).push { cls := .type "enumerate", data := .fields #[.none, .bool false, .ref s.heap.objs.size, rawInt 0, .none, .none] } }) :=
  .of_wp fun prog w A R s h => by
    obtain ⟨hp, g, d, tk, os⟩ := s
    obtain ⟨h1, h⟩ := h
    have hsub := sub_enumerate
    have q1 : ∀ {A' : Around} {E : Value → Shared → Prop} {Q : Value → Shared → Prop}, Q (.ref hp.objs.size) ⟨hp.push o, g, d, tk, os⟩ → wpAny (model prog w) A' (pyIter v) Q E ⟨hp, g, d, tk, os⟩ :=
      fun q => B.iter prog w _ _ ⟨hp, g, d, tk, os⟩ _ h1 q
    wp_walk using q1
    refine wpAny_stack_any fun st => wpAny_pure ?_
    split
    · rename_i c _ _ _ _ _
      cases (c == Value.type "enumerate")
      · wp_walk using q1
        exact ⟨_, rfl, h⟩
      · wp_walk using q1
        exact ⟨_, rfl, h⟩
    · wp_walk using q1
      exact ⟨_, rfl, h⟩
theorem call_enum1 {prog : Program} {w : World} {A : Around} {E : Value → Shared → Prop} {s : Shared} {v : Value} {o : Obj} {Hh : Heap → Prop} {Q : Value → Shared → Prop} (B : Begins v o Hh) (h1 : Hh s.heap)
    (h : ∀ h', IsEnum h' (s.heap.objs.size + 1) s.heap.objs.size 0 .none → h'.get? s.heap.objs.size = some o → (∀ b o, s.heap.get? b = some o → h'.get? b = some o) → Q (.ref (s.heap.objs.size + 1)) { s with heap := h' }) :
    wpAny (model prog w) A (call (.type "enumerate") [v]) Q E s := by
  refine callType_new F.called_enumerate (by decide) (F.typeCall_enumerate_1 _) (F.newCall_enumerate_1 _) (fun obj => F.args_object_init_2 obj _) F.entry_enumerate_new (enum_made B) ⟨h1, ?_⟩
  have hz : (s.heap.push o).objs.size = s.heap.objs.size + 1 := Heap.size_push ..
  show _ ∧ _
  rw [hz]
  have he : IsEnum ((s.heap.push o).push { cls := .type "enumerate", data := .fields #[.none, .bool false, .ref s.heap.objs.size, rawInt 0, .none, .none] }) (s.heap.objs.size + 1) s.heap.objs.size 0 .none := by
    have q := Heap.get?_push_size (s.heap.push o) (o := { cls := .type "enumerate", data := .fields #[.none, .bool false, .ref s.heap.objs.size, rawInt 0, .none, .none] }) rfl
    rw [hz] at q
    exact q
  exact ⟨⟨_, he, rfl⟩, h _ he (Heap.get?_push_of_some _ (Heap.get?_push_size _ B.free)) fun b o x => Heap.get?_push_of_some _ (Heap.get?_push_of_some _ x)⟩

/-! ### the rules -/
section
variable {X : Cx}
/-- any sequence -/
def iSeq (K : PySem.W.Frag) (tl : TE) : TI := fun σ H R => tl σ H fun x H1 => ∃ a, x = .ref a ∧ ((∃ xs, SqL K H1 a xs ∧ R (Itl K a) H1) ∨ (∃ xs, SqT K H1 a xs ∧ R (Itt K a) H1))
theorem pi_seq {tg l : Expr} {tl : TE} (hl : PE X l tl) : PI X tg l (iSeq X.K tl) := by
  refine ⟨fun pins s σ H R I h => thn (hl.run pins s σ H _ I h) fun v s1 ⟨x, H1, I1, r1, a, e, q1⟩ => ?_⟩
  subst e
  cases r1
  rcases q1 with ⟨xs, hq, q⟩ | ⟨xs, hq, q⟩
  · obtain ⟨its, rv, p, hz⟩ := I1.list hq
    exact wpAny_pyIter_list p.isList (pi_one (tk := s1.toks) I1 _ (turn_list a _) ⟨_, Heap.get?_push_size _ rfl, rfl, rfl⟩ q)
  · obtain ⟨its, rv, p, hz⟩ := I1.tuple hq
    exact wpAny_pyIter_tuple (show s1.heap.IsTuple a its.toArray from p) (pi_one (tk := s1.toks) I1 _ (turn_tuple a _) ⟨_, Heap.get?_push_size _ rfl, rfl, rfl⟩ q)
def iZ (K : PySem.W.Frag) (ta : TA) : TI := fun σ H R => ta σ H fun vs H1 => ∃ a b xs ys t1 t2, vs = [.ref a, .ref b] ∧ SqX K H1 a t1 xs ∧ SqX K H1 b t2 ys ∧ R (Iz K a b t1 t2) H1
theorem pi_z {e e2 : Expr} {ta : TA} {p pos tpos : Pos} {elts : List Expr} {kk : Nat} (hg : Gl X "zip") (hm : X.mg "zip" = none) (ha : PA X [e, e2] ta)
    (hs : starEach [e, e2] X.env = (false, eval e X.env) :: starEach [e2] X.env) (hpl : (backTo pos (starEach [e2] X.env)).any (·.1) = false) :
    PI X (.Tuple elts kk tpos) (.Call (.Name "zip" p) [e, e2] [] pos) (iZ X.K ta) := by
  refine ⟨fun pins s σ H R I h => Call_ (ld_blt I hg hm PyProof.Rows.boot_zip (PyProof.Rows.callWith_type1 (thn (ha.run pos pins s σ H _ I h) fun us s1 ⟨vs, H1, I1, r1, a, b, xs, ys, t1, t2, ex, hqx, hqy, q⟩ => ?_) hs hpl))⟩
  subst ex
  obtain ⟨u1, u2, rfl, ra, rb⟩ := vals2 r1
  cases ra
  cases rb
  obtain ⟨its, rv, p1, la, _⟩ := sq_at I1 hqx
  obtain ⟨its2, rv2, p2, lb, _⟩ := sq_at I1 hqy
  obtain ⟨o1, B1, k1⟩ := begins_seq t1 a its.toArray
  obtain ⟨o2, B2, k2⟩ := begins_seq t2 b its2.toArray
  have S := zip_sep2 (N := s1.heap.objs.size) (fp1 := [a]) (fp2 := [b]) (by simpa using la) (by simpa using lb)
  refine zip_begins2 B1 B2 p1 p2 fun h' hz hTI hTO e1 e2 hsz hk => wpAny_pyIter_zip hz ?_
  have I2 : Inv X pins σ H1 { s1 with heap := h' } := I1.kept (t' := s1.toks) hk
  refine ⟨s1.heap.objs.size + 4, [s1.heap.objs.size + 4, s1.heap.objs.size + 2, s1.heap.objs.size + 3, s1.heap.objs.size, s1.heap.objs.size + 1], _, _, H1, rfl, I2, turn_z S (Nat.ne_of_lt la) (Nat.ne_of_lt (Nat.lt_succ_of_lt lb)), ⟨hz, hTI, ⟨_, _, hTO⟩, k1 _ _ e1, k2 _ _ e2⟩, fun c hcm => ?_, q⟩
  have hle : s1.heap.objs.size ≤ c := by
    have e' : c = s1.heap.objs.size + 4 ∨ c = s1.heap.objs.size + 2 ∨ c = s1.heap.objs.size + 3 ∨ c = s1.heap.objs.size ∨ c = s1.heap.objs.size + 1 := by simpa using hcm
    rcases e' with z | z | z | z | z
    · rw [z]; exact Nat.le_add_right _ _
    · rw [z]; exact Nat.le_add_right _ _
    · rw [z]; exact Nat.le_add_right _ _
    · rw [z]; exact Nat.le_refl _
    · rw [z]; exact Nat.le_add_right _ _
  exact I1.fpOk hle (I1.hok.fresh hle)
def iE (K : PySem.W.Frag) (ta : TA) : TI := fun σ H R => ta σ H fun vs H1 => ∃ a xs t, vs = [.ref a] ∧ SqX K H1 a t xs ∧ R (Ie K a t) H1
theorem pi_e {e : Expr} {ta : TA} {p pos tpos : Pos} {elts : List Expr} {kk : Nat} (hg : Gl X "enumerate") (hm : X.mg "enumerate" = none) (ha : PA X [e] ta) (hs : starEach [e] X.env = [(false, eval e X.env)]) :
    PI X (.Tuple elts kk tpos) (.Call (.Name "enumerate" p) [e] [] pos) (iE X.K ta) := by
  refine ⟨fun pins s σ H R I h => Call_ (ld_blt I hg hm PyProof.Rows.boot_enumerate (PyProof.Rows.callWith_type1 (thn (ha.run pos pins s σ H _ I h) fun us s1 ⟨vs, H1, I1, r1, a, xs, t, ex, hq, q⟩ => ?_) hs rfl))⟩
  subst ex
  obtain ⟨u1, rfl, ra⟩ := vals1 r1
  cases ra
  obtain ⟨its, rv, p1, la, _⟩ := sq_at I1 hq
  obtain ⟨o1, B1, k1⟩ := begins_seq t a its.toArray
  refine call_enum1 B1 p1 fun h' he e1 hk => wpAny_pyIter_enum he ?_
  have I2 : Inv X pins σ H1 { s1 with heap := h' } := I1.kept (t' := s1.toks) hk
  refine ⟨s1.heap.objs.size + 1, [s1.heap.objs.size + 1, s1.heap.objs.size], _, _, H1, rfl, I2, turn_e (Nat.ne_of_lt la) (Nat.succ_ne_self _) (Nat.ne_of_gt (Nat.lt_succ_of_lt la)), ⟨⟨_, he⟩, k1 _ _ e1⟩, fun c hcm => ?_, q⟩
  have hle : s1.heap.objs.size ≤ c := by
    have e' : c = s1.heap.objs.size + 1 ∨ c = s1.heap.objs.size := by simpa using hcm
    rcases e' with z | z
    · rw [z]; exact Nat.le_add_right _ _
    · rw [z]; exact Nat.le_refl _
  exact I1.fpOk hle (I1.hok.fresh hle)
end
end Dn

/-! DnF: loops. -/
namespace Dn
open PySem PySem.Spec PyProof.Rows L2

structure ItOk (T : Tb) (J : It) (F : Hp) (ps : List PV) : Prop where
  go : ∀ i F2 H2, i < ps.length → Le F F2 → Le F2 H2 → J.go i H2
  yl : ∀ i F2 H2 x H3 p, ps[i]? = some p → Le F F2 → Le F2 H2 → J.yld i H2 x H3 → ∃ F3, Stp Nil F2 H2 Nil F3 H3 ∧ Rz T F3 x p
  st : ∀ F2 H2, Le F F2 → Le F2 H2 → J.stop ps.length H2
def tI (T : Tb) (E : XK) (d : DEs) : TI := fun σ H R => ∃ F ρ A, SOk T F H σ ρ A ∧ Post T E F H σ A (fun ps _ F' H' _ => ∀ J, ItOk T J F' ps → R J H') (d ρ)
theorem stp_same {F H : Hp} (l : Le F H) : Stp Nil F H Nil F H := Stp.refl l fun _ q => q.elim
section
variable {T : Tb} {E : XK} {X : Cx} {σ : L2.St} {H : Hp} {pos : Pos}

/-! ### what is walked -/
def seqItems : PV → Option (List PV)
  | .lst xs => some xs
  | .tup xs => some xs
  | .scr xs => some xs
  | _ => none
theorem itok_list {a : Addr} {vs : List V} {ps : List PV} {F : Hp} (h : SqL T.K F a vs) (r : RzL T F vs ps) : ItOk T (Itl T.K a) F ps where
  go := fun i F2 H2 hi l1 l2 => by
    obtain ⟨v, e, _⟩ := r.get (List.getElem?_eq_getElem hi)
    exact ⟨vs, v, SqL.le (l1.trans l2) h, e⟩
  yl := fun i F2 H2 x H3 p e l1 l2 y => by
    obtain ⟨rfl, k⟩ := y
    obtain ⟨v, e1, rv⟩ := r.get e
    have e2 := k vs (SqL.le (l1.trans l2) h)
    rw [e1] at e2
    cases e2
    exact ⟨F2, stp_same l2, rv.le l1⟩
  st := fun F2 H2 l1 l2 => ⟨vs, SqL.le (l1.trans l2) h, Nat.le_of_eq r.length⟩
theorem itok_tup {a : Addr} {vs : List V} {ps : List PV} {F : Hp} (h : SqT T.K F a vs) (r : RzL T F vs ps) : ItOk T (Itt T.K a) F ps where
  go := fun i F2 H2 hi l1 l2 => by
    obtain ⟨v, e, _⟩ := r.get (List.getElem?_eq_getElem hi)
    exact ⟨vs, v, SqT.le (l1.trans l2) h, e⟩
  yl := fun i F2 H2 x H3 p e l1 l2 y => by
    obtain ⟨rfl, k⟩ := y
    obtain ⟨v, e1, rv⟩ := r.get e
    have e2 := k vs (SqT.le (l1.trans l2) h)
    rw [e1] at e2
    cases e2
    exact ⟨F2, stp_same l2, rv.le l1⟩
  st := fun F2 H2 l1 l2 => ⟨vs, SqT.le (l1.trans l2) h, Nat.le_of_eq r.length⟩
def dSeqI (d : DE) : DEs := fun ρ => d ρ >>= fun a => match seqItems a.1 with
  | some ps => .ok (ps, a.2)
  | none => .bad
theorem pi_s {tg l : Expr} {d : DE} (hK : X.K = T.K) (h : PE X l (tE T E d)) : PI X tg l (tI T E (dSeqI d)) := (pi_seq h).imp fun σ H R ⟨F, ρ, A, s, q⟩ => by
  refine ⟨F, ρ, A, s, (Post.bind q).imp fun p ρ1 F1 H1 A1 st1 so1 q1 v rv => ?_⟩
  rw [hK]
  cases rv with
  | lst h r => exact ⟨_, rfl, .inl ⟨_, .inl (.inl (so1.fh _ _ h)), Post.here so1 q1 _ (itok_list (.inl (.inl h)) r)⟩⟩
  | tup h r => exact ⟨_, rfl, .inr ⟨_, SqT.le so1.fh h, Post.here so1 q1 _ (itok_tup h r)⟩⟩
  | scr h r => exact ⟨_, rfl, .inl ⟨_, SqL.le so1.fh h, Post.here so1 q1 _ (itok_list h r)⟩⟩
  | _ => exact q1.elim
/-- n ints from i on -/
def rangeF (i : Int) : Nat → List PV
  | 0 => []
  | n + 1 => .int i :: rangeF (i + 1) n
theorem rangeF_length : ∀ (n : Nat) (i : Int), (rangeF i n).length = n
  | 0, _ => rfl
  | n + 1, i => congrArg (· + 1) (rangeF_length n (i + 1))
theorem rangeF_get : ∀ (n : Nat) (i : Int) (k : Nat), k < n → (rangeF i n)[k]? = some (.int (i + k))
  | 0, _, _, h => absurd h (Nat.not_lt_zero _)
  | n + 1, i, 0, _ => by simp [rangeF]
  | n + 1, i, k + 1, h => by
    have := rangeF_get n (i + 1) k (Nat.lt_of_succ_lt_succ h)
    simp only [rangeF, List.getElem?_cons_succ, this]
    congr 2
    omega
theorem itok_range (lo : Int) (n : Nat) (F : Hp) : ItOk T (Itr lo n) F (rangeF lo n) where
  go := fun i F2 H2 hi _ _ => by rw [rangeF_length] at hi; exact hi
  yl := fun i F2 H2 x H3 p e l1 l2 y => by
    obtain ⟨rfl, rfl⟩ := y
    have hi := lt_of_get e
    rw [rangeF_length] at hi
    rw [rangeF_get n lo i hi] at e
    cases e
    exact ⟨F2, stp_same l2, .int _⟩
  st := fun F2 H2 _ _ => by show n ≤ _; rw [rangeF_length]; exact Nat.le_refl _
def smallI (i : Int) : Bool := decide (-(2 ^ 62) ≤ i) && decide (i < 2 ^ 62)
def gRange1 : List PV → Option (List PV)
  | [.int j] => if smallI j then some (rangeF 0 j.toNat) else none
  | _ => none
def gRange2 : List PV → Option (List PV)
  | [.int i, .int j] => if smallI i && smallI j then some (rangeF i (j - i).toNat) else none
  | _ => none
theorem gRange1_inv {ps r : List PV} (h : gRange1 ps = some r) : ∃ j, ps = [.int j] ∧ smallI j = true ∧ r = rangeF 0 j.toNat := by
  unfold gRange1 at h
  split at h
  · split at h
    · rename_i z; cases h; exact ⟨_, rfl, z, rfl⟩
    · cases h
  · cases h
theorem gRange2_inv {ps r : List PV} (h : gRange2 ps = some r) : ∃ i j, ps = [.int i, .int j] ∧ (smallI i && smallI j) = true ∧ r = rangeF i (j - i).toNat := by
  unfold gRange2 at h
  split at h
  · split at h
    · rename_i z; cases h; exact ⟨_, _, rfl, z, rfl⟩
    · cases h
  · cases h
def dIt (g : List PV → Option (List PV)) (ds : DEs) : DEs := fun ρ => ds ρ >>= fun a => match g a.1 with
  | some ps => .ok (ps, a.2)
  | none => .bad
/-- a source by its arguments -/
def ItS (T : Tb) (wi : List V → Hp → (It → Hp → Prop) → Prop) (g : List PV → Option (List PV)) : Prop := ∀ vs ps r F H R, Le F H → RzL T F vs ps → g ps = some r → (∀ J, ItOk T J F r → R J H) → wi vs H R
theorem it_imp {wi : List V → Hp → (It → Hp → Prop) → Prop} {g : List PV → Option (List PV)} {ds : DEs} {R : It → Hp → Prop} (hg : ItS T wi g) (h : tI T E (dIt g ds) σ H R) : tL T E ds σ H fun vs H1 => wi vs H1 R := by
  obtain ⟨F, ρ, A, s, q⟩ := h
  refine ⟨F, ρ, A, s, (Post.bind q).imp fun ps ρ1 F1 H1 A1 st1 so1 q1 vs rv => ?_⟩
  cases e : g ps with
  | none => simp only [e] at q1; exact q1.elim
  | some r =>
    simp only [e] at q1
    exact hg _ _ _ F1 H1 R so1.fh rv e fun J ok => Post.here so1 q1 J ok
theorem rz1 {F : Hp} {v : List V} {p : PV} (h : RzL T F v [p]) : ∃ x, v = [x] ∧ Rz T F x p := by
  cases h with
  | cons r t => cases t; exact ⟨_, rfl, r⟩
theorem rz2 {F : Hp} {v : List V} {p p2 : PV} (h : RzL T F v [p, p2]) : ∃ x y, v = [x, y] ∧ Rz T F x p ∧ Rz T F y p2 := by
  cases h with
  | cons r t =>
    obtain ⟨y, rfl, r2⟩ := rz1 t
    exact ⟨_, _, rfl, r, r2⟩
theorem pi_r1 {tg a : Expr} {ds : DEs} {p : Pos} (hg : Gl X "range") (hm : X.mg "range" = none) (ha : PA X [a] (tL T E ds)) (na : notStar a = true) : PI X tg (.Call (.Name "range" p) [a] [] pos) (tI T E (dIt gRange1 ds)) :=
  (pi_range1 hg hm ha (star_of na _ _)).imp fun σ H R q => it_imp (T := T) (E := E) (wi := fun vs H1 R => ∃ j : Int, vs = [.int j] ∧ -(2 ^ 62) ≤ j ∧ j < 2 ^ 62 ∧ R (Itr 0 j.toNat) H1) (fun vs ps r F H R l rz e k => by
    obtain ⟨j, rfl, z, rfl⟩ := gRange1_inv e
    obtain ⟨x, rfl, rx⟩ := rz1 rz
    cases rx
    simp only [smallI, Bool.and_eq_true, decide_eq_true_eq] at z
    exact ⟨_, rfl, z.1, z.2, k _ (itok_range _ _ _)⟩) q
theorem pi_r2 {tg a b : Expr} {ds : DEs} {p : Pos} (hg : Gl X "range") (hm : X.mg "range" = none) (ha : PA X [a, b] (tL T E ds)) (na : notStar a = true) (nb : notStar b = true) : PI X tg (.Call (.Name "range" p) [a, b] [] pos) (tI T E (dIt gRange2 ds)) :=
  (pi_range2 hg hm ha (by rw [star_of na, star_of nb]; rfl) (star_of nb _ _)).imp fun σ H R q => it_imp (T := T) (E := E) (wi := fun vs H1 R => ∃ i j : Int, vs = [.int i, .int j] ∧ (-(2 ^ 62) ≤ i ∧ i < 2 ^ 62 ∧ -(2 ^ 62) ≤ j ∧ j < 2 ^ 62) ∧ R (Itr i (j - i).toNat) H1) (fun vs ps r F H R l rz e k => by
    obtain ⟨i, j, rfl, z, rfl⟩ := gRange2_inv e
    obtain ⟨x, y, rfl, rx, ry⟩ := rz2 rz
    cases rx
    cases ry
    simp only [smallI, Bool.and_eq_true, decide_eq_true_eq] at z
    exact ⟨_, _, rfl, ⟨z.1.1, z.1.2, z.2.1, z.2.2⟩, k _ (itok_range _ _ _)⟩) q
/-! zip, enumerate -/
def zipF : List PV → List PV → List PV
  | x :: xs, y :: ys => .tup [x, y] :: zipF xs ys
  | _, _ => []
theorem zipF_length : ∀ xs ys : List PV, (zipF xs ys).length = min xs.length ys.length
  | [], _ => by simp [zipF]
  | _ :: _, [] => by simp [zipF]
  | x :: xs, y :: ys => by simp only [zipF, List.length_cons, zipF_length xs ys]; omega
theorem zipF_get : ∀ (xs ys : List PV) (i : Nat) (p : PV), (zipF xs ys)[i]? = some p → ∃ x y, xs[i]? = some x ∧ ys[i]? = some y ∧ p = .tup [x, y]
  | [], _, i, p, e => by simp [zipF] at e
  | _ :: _, [], i, p, e => by simp [zipF] at e
  | x :: xs, y :: ys, 0, p, e => by simp [zipF] at e; exact ⟨x, y, rfl, rfl, e.symm⟩
  | x :: xs, y :: ys, i + 1, p, e => by
    simp only [zipF, List.getElem?_cons_succ] at e
    obtain ⟨x', y', h1, h2, h3⟩ := zipF_get xs ys i p e
    exact ⟨x', y', by simpa using h1, by simpa using h2, h3⟩
def enumF : Int → List PV → List PV
  | _, [] => []
  | i, x :: xs => .tup [.int i, x] :: enumF (i + 1) xs
theorem enumF_length : ∀ (i : Int) (xs : List PV), (enumF i xs).length = xs.length
  | _, [] => rfl
  | i, _ :: xs => congrArg (· + 1) (enumF_length (i + 1) xs)
theorem enumF_get : ∀ (xs : List PV) (i : Int) (k : Nat) (p : PV), (enumF i xs)[k]? = some p → ∃ x, xs[k]? = some x ∧ p = .tup [.int (i + k), x]
  | [], i, k, p, e => by simp [enumF] at e
  | x :: xs, i, 0, p, e => by simp [enumF] at e; exact ⟨x, rfl, by rw [← e]; simp⟩
  | x :: xs, i, k + 1, p, e => by
    simp only [enumF, List.getElem?_cons_succ] at e
    obtain ⟨x', h1, h3⟩ := enumF_get xs (i + 1) k p e
    refine ⟨x', by simpa using h1, ?_⟩
    rw [h3]
    congr 3
    omega
theorem seq_sq {F : Hp} {v : V} {p : PV} {xs : List PV} (r : Rz T F v p) (e : seqItems p = some xs) : ∃ a t vs, v = .ref a ∧ SqX T.K F a t vs ∧ RzL T F vs xs := by
  cases r with
  | lst h r => cases e; exact ⟨_, false, _, rfl, .inl (.inl h), r⟩
  | tup h r => cases e; exact ⟨_, true, _, rfl, h, r⟩
  | scr h r => cases e; exact ⟨_, false, _, rfl, h, r⟩
  | _ => cases e
theorem SqX.le {K : PySem.W.Frag} {F F' : Hp} {a : Addr} {t : Bool} {xs : List V} (l : Le F F') (h : SqX K F a t xs) : SqX K F' a t xs := by
  cases t
  · exact SqL.le l h
  · exact SqT.le l h
theorem itok_zip {a b : Addr} {ta tb : Bool} {vs ws : List V} {ps qs : List PV} {F : Hp} (h1 : SqX T.K F a ta vs) (h2 : SqX T.K F b tb ws) (r1 : RzL T F vs ps) (r2 : RzL T F ws qs) : ItOk T (Iz T.K a b ta tb) F (zipF ps qs) where
  go := fun i F2 H2 hi l1 l2 => by
    rw [zipF_length] at hi
    obtain ⟨v, e, _⟩ := r1.get (List.getElem?_eq_getElem (show i < ps.length by omega))
    obtain ⟨w, e', _⟩ := r2.get (List.getElem?_eq_getElem (show i < qs.length by omega))
    exact ⟨vs, ws, v, w, h1.le (l1.trans l2), h2.le (l1.trans l2), e, e'⟩
  yl := fun i F2 H2 x H3 p e l1 l2 y => by
    obtain ⟨U, x1, x2, rfl, hU, rfl, k1, k2⟩ := y
    obtain ⟨p1, p2, e1, e2, rfl⟩ := zipF_get _ _ _ _ e
    obtain ⟨v, g1, rv⟩ := r1.get e1
    obtain ⟨w, g2, rw'⟩ := r2.get e2
    have z1 := k1 vs (h1.le (l1.trans l2))
    have z2 := k2 ws (h2.le (l1.trans l2))
    rw [g1] at z1
    rw [g2] at z2
    cases z1
    cases z2
    obtain ⟨st, r⟩ := new_tup (T := T) (xs := [x1, x2]) (ps := [p1, p2]) l2 (.cons (rv.le l1) (.cons (rw'.le l1) .nil)) hU
    exact ⟨_, st, r⟩
  st := fun F2 H2 l1 l2 => ⟨vs, ws, h1.le (l1.trans l2), h2.le (l1.trans l2), by rw [zipF_length, r1.length, r2.length]⟩
theorem itok_enum {a : Addr} {t : Bool} {vs : List V} {ps : List PV} {F : Hp} (h : SqX T.K F a t vs) (r : RzL T F vs ps) : ItOk T (Ie T.K a t) F (enumF 0 ps) where
  go := fun i F2 H2 hi l1 l2 => by
    rw [enumF_length] at hi
    obtain ⟨v, e, _⟩ := r.get (List.getElem?_eq_getElem hi)
    exact ⟨vs, v, h.le (l1.trans l2), e⟩
  yl := fun i F2 H2 x H3 p e l1 l2 y => by
    obtain ⟨U, x1, rfl, hU, rfl, k1⟩ := y
    obtain ⟨p1, e1, rfl⟩ := enumF_get _ _ _ _ e
    obtain ⟨v, g1, rv⟩ := r.get e1
    have z1 := k1 vs (h.le (l1.trans l2))
    rw [g1] at z1
    cases z1
    rw [Int.zero_add]
    obtain ⟨st, r⟩ := new_tup (T := T) (xs := [.int i, x1]) (ps := [.int i, p1]) l2 (.cons (.int _) (.cons (rv.le l1) .nil)) hU
    exact ⟨_, st, r⟩
  st := fun F2 H2 l1 l2 => ⟨vs, h.le (l1.trans l2), by rw [enumF_length, r.length]⟩
def gZip : List PV → Option (List PV)
  | [p, q] => match seqItems p, seqItems q with
    | some xs, some ys => some (zipF xs ys)
    | _, _ => none
  | _ => none
def gEnum : List PV → Option (List PV)
  | [p] => match seqItems p with
    | some xs => some (enumF 0 xs)
    | none => none
  | _ => none
theorem gZip_inv {ps r : List PV} (h : gZip ps = some r) : ∃ p q xs ys, ps = [p, q] ∧ seqItems p = some xs ∧ seqItems q = some ys ∧ r = zipF xs ys := by
  unfold gZip at h
  split at h
  · split at h
    · rename_i e1 e2; cases h; exact ⟨_, _, _, _, rfl, e1, e2, rfl⟩
    · cases h
  · cases h
theorem gEnum_inv {ps r : List PV} (h : gEnum ps = some r) : ∃ p xs, ps = [p] ∧ seqItems p = some xs ∧ r = enumF 0 xs := by
  unfold gEnum at h
  split at h
  · split at h
    · rename_i e1; cases h; exact ⟨_, _, rfl, e1, rfl⟩
    · cases h
  · cases h
theorem notStar_pl {e : Expr} (h : notStar e = true) (pos : Pos) (env : PySem.Env) : (backTo pos (starEach [e] env)).any (·.1) = false := by
  rw [star_of h]
  rfl
theorem pi_zi {a b : Expr} {ds : DEs} {p tpos : Pos} {elts : List Expr} {kk : Nat} (hK : X.K = T.K) (hg : Gl X "zip") (hm : X.mg "zip" = none) (ha : PA X [a, b] (tL T E ds)) (na : notStar a = true) (nb : notStar b = true) :
    PI X (.Tuple elts kk tpos) (.Call (.Name "zip" p) [a, b] [] pos) (tI T E (dIt gZip ds)) :=
  (pi_z hg hm ha (star_of na _ _) (notStar_pl nb _ _)).imp fun σ H R q => it_imp (T := T) (E := E) (wi := fun vs H1 R => ∃ a b xs ys t1 t2, vs = [.ref a, .ref b] ∧ SqX X.K H1 a t1 xs ∧ SqX X.K H1 b t2 ys ∧ R (Iz X.K a b t1 t2) H1) (fun vs ps r F H R l rz e k => by
    obtain ⟨p1, p2, xs, ys, rfl, e1, e2, rfl⟩ := gZip_inv e
    obtain ⟨x, y, rfl, rx, ry⟩ := rz2 rz
    obtain ⟨a, t, vs, rfl, h1, r1⟩ := seq_sq rx e1
    obtain ⟨b, t2, ws, rfl, h2, r2⟩ := seq_sq ry e2
    rw [hK]
    exact ⟨a, b, vs, ws, t, t2, rfl, h1.le l, h2.le l, k _ (itok_zip h1 h2 r1 r2)⟩) q
theorem pi_en {a : Expr} {ds : DEs} {p tpos : Pos} {elts : List Expr} {kk : Nat} (hK : X.K = T.K) (hg : Gl X "enumerate") (hm : X.mg "enumerate" = none) (ha : PA X [a] (tL T E ds)) (na : notStar a = true) :
    PI X (.Tuple elts kk tpos) (.Call (.Name "enumerate" p) [a] [] pos) (tI T E (dIt gEnum ds)) :=
  (pi_e hg hm ha (star_of na _ _)).imp fun σ H R q => it_imp (T := T) (E := E) (wi := fun vs H1 R => ∃ a xs t, vs = [.ref a] ∧ SqX X.K H1 a t xs ∧ R (Ie X.K a t) H1) (fun vs ps r F H R l rz e k => by
    obtain ⟨p1, xs, rfl, e1, rfl⟩ := gEnum_inv e
    obtain ⟨x, rfl, rx⟩ := rz1 rz
    obtain ⟨a, t, vs, rfl, h1, r1⟩ := seq_sq rx e1
    rw [hK]
    exact ⟨a, vs, t, rfl, h1.le l, k _ (itok_enum h1 r1)⟩) q
end

/-! ### for, while -/
section
variable {T : Tb} {E : XK} {fx : Nat → Prop} {X : Cx} {σ : L2.St} {F H : Hp} {ρ : Env} {A : Ow} {pos : Pos}
def forD (g : DG) (b : DS) : List PV → DS
  | [], ρ => .ok (.nx, ρ)
  | p :: ps, ρ => match g p ρ with
    | none => .bad
    | some ρ1 => b ρ1 >>= fun a => match a.1 with
      | .nx => forD g b ps a.2
      | .ct => forD g b ps a.2
      | .brk => .ok (.nx, a.2)
      | .ret r => .ok (.ret r, a.2)
def dFor (di : DEs) (g : DG) (b : DS) : DS := fun ρ => di ρ >>= fun a => forD g b a.1 a.2
/-- a turn's body, then more -/
theorem turn_post {D : Ends} {k : DS} {N : L2.St → Hp → Prop} {r : Res (Flw × Env)} (h : PostS T E fx F H σ A D (r >>= fun a => match a.1 with
      | .nx => k a.2
      | .ct => k a.2
      | .brk => .ok (.nx, a.2)
      | .ret r => .ok (.ret r, a.2)))
    (hN : ∀ σ' F' H' A' ρ', Stp (Own A) F H (Own A') F' H' → SOk T F' H' σ' ρ' A' → FxOk fx σ σ' → PostS T E fx F' H' σ' A' D (k ρ') → N σ' H') :
    PostS T E fx F H σ A { D with nx := N, ct := N, bk := D.nx } r := by
  match r, h with
  | .ok (.nx, ρ'), h => exact fun σ' F' H' A' st so hf => hN σ' F' H' A' ρ' st so hf (PostS.after st hf h)
  | .ok (.ct, ρ'), h => exact fun σ' F' H' A' st so hf => hN σ' F' H' A' ρ' st so hf (PostS.after st hf h)
  | .ok (.brk, ρ'), h => exact h
  | .ok (.ret r, ρ'), h => exact h
  | .exc c, h => exact h
theorem for_imp {di : DEs} {g : DG} {b : DS} {D : Ends} (h : tS T E fx (dFor di g b) D σ H) : tFor (tI T E di) (tG T fx g) (tS T E fx b) D σ H := by
  obtain ⟨F, ρ, A, s, q⟩ := h
  refine ⟨F, ρ, A, s, (PostS.bind q).imp fun ps ρ1 F1 H1 A1 st1 so1 q1 J ok => ?_⟩
  refine ⟨fun i m σ' H' => m = ps.length - i ∧ i ≤ ps.length ∧ ∃ F' ρ' A', Le F1 F' ∧ SOk T F' H' σ' ρ' A' ∧ PostS T E fx F' H' σ' A' D (forD g b (ps.drop i) ρ'),
    ⟨ps.length, by simp, Nat.zero_le _, F1, ρ1, A1, Le.refl _, so1, q1⟩, ?_⟩
  rintro i m σ2 H2 ⟨rfl, hi, F2, ρ2, A2, l2, so2, q2⟩
  by_cases hlt : i < ps.length
  · rw [List.drop_eq_getElem_cons hlt] at q2
    refine .inr ⟨ok.go i F2 H2 hlt l2 so2.fh, fun σ' H' => ∃ F' ρ' A', Le F1 F' ∧ SOk T F' H' σ' ρ' A' ∧ PostS T E fx F' H' σ' A' D (forD g b (ps.drop (i + 1)) ρ'), ?_, ?_⟩
    · rintro σ' H' ⟨F', ρ', A', l', so', q'⟩
      exact ⟨ps.length - (i + 1), by omega, rfl, hlt, F', ρ', A', l', so', q'⟩
    · intro x H3 y
      obtain ⟨F3, st3, rx⟩ := ok.yl i F2 H2 x H3 _ (List.getElem?_eq_getElem hlt) l2 so2.fh y
      have so3 := so2.purely st3
      have q3 := PostS.after (so2.pure st3) ((FxOk.refl' _ _)) q2
      refine ⟨F3, ρ2, A2, ps[i], so3, rx, ?_⟩
      simp only [forD] at q3
      cases e : g ps[i] ρ2 with
      | none => simp only [e] at q3; exact q3.elim
      | some ρ3 =>
        simp only [e] at q3
        intro σ4 F4 H4 A4 st4 so4 f4
        refine ⟨F4, ρ3, A4, so4, turn_post (PostS.after st4 f4 q3) fun σ5 F5 H5 A5 ρ5 st5 so5 f5 q5 => ?_⟩
        exact ⟨F5, ρ5, A5, l2.trans (st3.ff.trans (st4.ff.trans st5.ff)), so5, q5⟩
  · have e : i = ps.length := by omega
    subst e
    rw [List.drop_length] at q2
    exact .inl ⟨ok.st F2 H2 l2 so2.fh, q2 σ2 F2 H2 A2 so2.refl so2 (FxOk.refl' _ _)⟩
def notSet : Expr → Bool
  | .Set _ _ _ => false
  | _ => true
theorem no_fold {e : Expr} (h : notSet e = true) (env : PySem.Env) (x : Value) : foldedSetIterable e env x = pure x := by
  cases e <;> first | (simp [notSet] at h; done) | rfl
theorem ps_fo {tg iter : Expr} {body : List Stmt} {di : DEs} {g : DG} {b : DS} (hp : PassesOwn (model X.prog X.w) X.A X.env X.xe) (hc : X.calm = true) (ns : notSet iter = true) (hi : PI X tg iter (tI T E di)) (hg : PG X tg (tG T fx g)) (hb : PSs X body (tS T E fx b)) :
    PS X (.For tg iter body [] pos) (tS T E fx (dFor di g b)) := (ps_for hp hc hi hg hb (no_fold ns _)).imp fun D σ H h => for_imp h
def whileD (c : DT) (b : DS) : Nat → DS
  | 0, _ => .bad
  | n + 1, ρ => c ρ >>= fun t => if t.1 then (b t.2 >>= fun a => match a.1 with
      | .nx => whileD c b n a.2
      | .ct => whileD c b n a.2
      | .brk => .ok (.nx, a.2)
      | .ret r => .ok (.ret r, a.2)) else .ok (.nx, t.2)
theorem while_imp {c : DT} {b : DS} {D : Ends} {n : Nat} (h : tS T E fx (whileD c b n) D σ H) : tWhile (tT T E c) (tS T E fx b) D σ H := by
  refine ⟨fun m σ' H' => tS T E fx (whileD c b m) D σ' H', ⟨n, h⟩, fun m σ' H' hw => ?_⟩
  obtain ⟨F, ρ, A, s, q⟩ := hw
  cases m with
  | zero => exact q.elim
  | succ m =>
    refine ⟨F, ρ, A, s, (PostS.bind q).imp fun t ρ1 F1 H1 A1 st1 so1 q1 => ?_⟩
    cases t with
    | false => exact q1 σ' F1 H1 A1 so1.refl so1 (FxOk.refl' _ _)
    | true =>
      rw [if_pos rfl]
      refine ⟨fun σ2 H2 => tS T E fx (whileD c b m) D σ2 H2, fun σ2 H2 h2 => ⟨m, Nat.lt_succ_self m, h2⟩, F1, ρ1, A1, so1, ?_⟩
      exact turn_post q1 fun σ5 F5 H5 A5 ρ5 st5 so5 f5 q5 => ⟨F5, ρ5, A5, so5, q5⟩
theorem ps_wh {c : Expr} {body : List Stmt} {dc : DT} {b : DS} (n : Nat) (hp : PassesOwn (model X.prog X.w) X.A X.env X.xe) (hc : PT X c (tT T E dc)) (hb : PSs X body (tS T E fx b)) : PS X (.While c body [] pos) (tS T E fx (whileD dc b n)) :=
  (ps_while hp hc hb).imp fun D σ H h => while_imp h
end
end Dn

/-! DnG: list comprehensions. -/
namespace Dn
open PySem PySem.Spec PyProof.Rows L2

def wipeE (ρ : Env) : List Nat → Env
  | [] => ρ
  | v :: vs => (wipeE ρ vs).set v none
def kz : Option (Option SV) → Option SV
  | some (some (.z p)) => some (.z p)
  | _ => none
def unwipe (ρ0 ρ : Env) : List Nat → Env
  | [] => ρ
  | v :: vs => (unwipe ρ0 ρ vs).set v (kz ρ0[v]?)
theorem wipeE_length (ρ : Env) : ∀ vs : List Nat, (wipeE ρ vs).length = ρ.length
  | [] => rfl
  | v :: vs => by unfold wipeE; rw [List.length_set, wipeE_length ρ vs]
theorem unwipe_length (ρ0 ρ : Env) : ∀ vs : List Nat, (unwipe ρ0 ρ vs).length = ρ.length
  | [] => rfl
  | v :: vs => by unfold unwipe; rw [List.length_set, unwipe_length ρ0 ρ vs]
theorem wipeE_some {ρ : Env} {i : Nat} {p : SV} : ∀ {vs : List Nat}, (wipeE ρ vs)[i]? = some (some p) → ρ[i]? = some (some p) ∧ i ∉ vs
  | [], h => ⟨h, by simp⟩
  | v :: vs, h => by
    unfold wipeE at h
    by_cases hi : v = i
    · subst hi
      by_cases hv : v < (wipeE ρ vs).length
      · rw [List.getElem?_set_self hv] at h; cases h
      · rw [List.getElem?_eq_none (by simpa using hv)] at h; cases h
    · rw [List.getElem?_set_ne hi] at h
      obtain ⟨h1, h2⟩ := wipeE_some h
      exact ⟨h1, by simp only [List.mem_cons, not_or]; exact ⟨fun e => hi e.symm, h2⟩⟩
theorem unwipe_some {ρ0 ρ : Env} {i : Nat} {p : SV} : ∀ {vs : List Nat}, (unwipe ρ0 ρ vs)[i]? = some (some p) → (i ∈ vs ∧ ∃ q, p = .z q ∧ ρ0[i]? = some (some (.z q))) ∨ (i ∉ vs ∧ ρ[i]? = some (some p))
  | [], h => .inr ⟨by simp, h⟩
  | v :: vs, h => by
    unfold unwipe at h
    by_cases hi : v = i
    · subst hi
      by_cases hv : v < (unwipe ρ0 ρ vs).length
      · rw [List.getElem?_set_self hv] at h
        refine .inl ⟨List.mem_cons_self, ?_⟩
        have h := Option.some.inj h
        unfold kz at h
        split at h
        · rename_i q e; cases h; exact ⟨q, rfl, e⟩
        · cases h
      · rw [List.getElem?_eq_none (by simpa using hv)] at h; cases h
    · rw [List.getElem?_set_ne hi] at h
      rcases unwipe_some h with ⟨h1, h2⟩ | ⟨h1, h2⟩
      · exact .inl ⟨List.mem_cons_of_mem _ h1, h2⟩
      · exact .inr ⟨by simp only [List.mem_cons, not_or]; exact ⟨fun e => hi e.symm, h1⟩, h2⟩
def Ow.clr (A : Ow) (vs : List Nat) : Ow := fun i => if i ∈ vs then [] else A i
theorem clr_in {A : Ow} {vs : List Nat} {i : Nat} (h : i ∈ vs) : A.clr vs i = [] := if_pos h
theorem clr_out {A : Ow} {vs : List Nat} {i : Nat} (h : i ∉ vs) : A.clr vs i = A i := if_neg h
theorem mem_clr {A : Ow} {vs : List Nat} {i : Nat} {b : Addr} (h : b ∈ A.clr vs i) : b ∈ A i := by
  by_cases z : i ∈ vs
  · rw [clr_in z] at h; simp at h
  · rw [clr_out z] at h; exact h
theorem own_clr {A : Ow} {vs : List Nat} {b : Addr} (h : Own (A.clr vs) b) : Own A b := let ⟨i, h⟩ := h; ⟨i, mem_clr h⟩
section
variable {T : Tb} {F H F' H' : Hp} {σ : L2.St} {ρ : Env} {A : Ow}
theorem sok_wipe (s : SOk T F H σ ρ A) (vs : List Nat) : SOk T F H (wipe σ vs) (wipeE ρ vs) (A.clr vs) where
  len := by rw [wipeE_length, wipe_length]; exact s.len
  slot := fun i p e => by
    obtain ⟨e1, n⟩ := wipeE_some e
    obtain ⟨v, h1, h2⟩ := s.slot i p e1
    exact ⟨v, by rw [wipe_out n]; exact h1, by rw [clr_out n]; exact h2⟩
  dj := fun i j b hi hj => s.dj i j b (mem_clr hi) (mem_clr hj)
  fh := s.fh
  nf := fun i b hb => s.nf i b (mem_clr hb)
  lv := fun i b hb => s.lv i b (mem_clr hb)
theorem sok_unwipe {F0 H0 : Hp} {ρ0 : Env} {A0 : Ow} {vs : List Nat} (s0 : SOk T F0 H0 σ ρ0 A0) (l : Le F0 F) (s : SOk T F H (wipe σ vs) ρ A) : SOk T F H σ (unwipe ρ0 ρ vs) (A.clr vs) where
  len := by rw [unwipe_length, s.len, wipe_length]
  slot := fun i p e => by
    rcases unwipe_some e with ⟨hi, q, rfl, e0⟩ | ⟨hi, e1⟩
    · obtain ⟨v, h1, h2⟩ := s0.slot i _ e0
      exact ⟨v, h1, by rw [clr_in hi], h2.2.le l⟩
    · obtain ⟨v, h1, h2⟩ := s.slot i p e1
      rw [wipe_out hi] at h1
      exact ⟨v, h1, by rw [clr_out hi]; exact h2⟩
  dj := fun i j b hi hj => s.dj i j b (mem_clr hi) (mem_clr hj)
  fh := s.fh
  nf := fun i b hb => s.nf i b (mem_clr hb)
  lv := fun i b hb => s.lv i b (mem_clr hb)
theorem wipe_eq {σ1 σ2 : L2.St} {vs : List Nat} (hl : σ2.length = σ1.length) (h : ∀ j, j ∉ vs → σ2[j]? = σ1[j]?) : wipe σ2 vs = wipe σ1 vs := by
  apply List.ext_getElem?
  intro j
  by_cases z : j ∈ vs
  · have go : ∀ (σ : L2.St) (vs : List Nat), j ∈ vs → (wipe σ vs)[j]? = if j < σ.length then some none else none := by
      intro σ vs
      induction vs with
      | nil => intro h; simp at h
      | cons v vs ih =>
        intro h
        unfold wipe
        by_cases e : v = j
        · subst e
          by_cases q : v < (wipe σ vs).length
          · rw [List.getElem?_set_self q, if_pos (by rw [wipe_length] at q; exact q)]
          · rw [List.getElem?_eq_none (by simpa using q), if_neg (by rw [wipe_length] at q; exact q)]
        · rw [List.getElem?_set_ne e]
          exact ih (by rcases List.mem_cons.mp h with h | h; exact absurd h.symm e; exact h)
    rw [go σ2 vs z, go σ1 vs z, hl]
  · rw [wipe_out z, wipe_out z, h j z]
theorem wipe_wipe (σ : L2.St) {us vs : List Nat} (h : ∀ i ∈ us, i ∈ vs) : wipe (wipe σ us) vs = wipe σ vs :=
  wipe_eq (wipe_length _ _) fun j hj => wipe_out fun z => hj (h j z)
theorem stp_write {D : Addr} {o : HO} (l : Le F H) (n : F D = none) : Stp (fun b => b = D) F H (fun b => b = D) F (upd H D o) where
  ff := Le.refl F
  fh := fun b u e => by
    have : b ≠ D := fun z => by subst z; rw [n] at e; cases e
    rw [upd_ne this]; exact l _ _ e
  fr := fun b u e z => by rw [upd_ne z]; exact e
  fg := fun b e n => absurd n e
  nw := fun b q => .inl q
  nf := fun b q => by subst q; exact n
/-- the list being made, beside what is one's own -/
abbrev And1 (O : Addr → Prop) (D : Addr) : Addr → Prop := fun b => O b ∨ b = D
theorem stp_and1 {O O' : Addr → Prop} {D : Addr} {u : HO} (s : Stp O F H O' F' H') (h1 : H D = some u) (h2 : ¬ O D) (h3 : F D = none) : Stp (And1 O D) F H (And1 O' D) F' H' :=
  s.frame (T := fun b => b = D) (fun b e => by subst e; rw [h1]; simp) (fun b e => by subst e; exact h2) (fun b e => by subst e; exact h3)
theorem stp_put1 {D : Addr} {o : HO} (s : SOk T F H σ ρ A) (n : F D = none) (h2 : ¬ Own A D) : Stp (And1 (Own A) D) F H (And1 (Own A) D) F (upd H D o) ∧ SOk T F (upd H D o) σ ρ A := by
  have w := stp_write (o := o) s.fh n
  have f := w.frame (T := Own A) (fun b ⟨i, h⟩ => s.lv i b h) (fun b q z => h2 (by rw [← z]; exact q)) (fun b ⟨i, h⟩ => s.nf i b h)
  exact ⟨(f.weak fun b q => q.symm).less fun b q => q.symm, s.step w fun b z q => h2 (by rw [← z]; exact q)⟩
end
/-- what a computation over the rest adds to qs -/
def pre (qs : List PV) : Res (List PV × Env) → Res (List PV × Env)
  | .ok (rs, ρ) => .ok (qs ++ rs, ρ)
  | _ => .bad
def lcD (vs : List Nat) (g : DG) (t : DT) (e : DE) : List PV → Env → Res (List PV × Env)
  | [], ρ => .ok ([], ρ)
  | p :: ps, ρ => match g p ρ with
    | none => .bad
    | some ρ1 => match t ρ1 with
      | .ok (true, ρ2) => match e ρ2 with
        | .ok (q, ρ3) => pre [q] (lcD vs g t e ps (wipeE ρ3 vs))
        | _ => .bad
      | .ok (false, ρ2) => lcD vs g t e ps (wipeE ρ2 vs)
      | _ => .bad
def dLc (vs : List Nat) (di : DEs) (g : DG) (t : DT) (e : DE) : DO := fun ρ => di ρ >>= fun a => match lcD vs g t e a.1 (wipeE a.2 vs) with
  | .ok (qs, ρ2) => if qs.length ≤ sizeLine then .ok (.o qs, unwipe a.2 ρ2 vs) else .bad
  | _ => .bad
theorem pre_pre (a b : List PV) (r : Res (List PV × Env)) : pre a (pre b r) = pre (a ++ b) r := by
  match r with
  | .ok (rs, ρ) => simp [pre, List.append_assoc]
  | .exc c => rfl
  | .bad => rfl
theorem pre_ok {a : List PV} {r : Res (List PV × Env)} {all : List PV} {ρe : Env} (h : pre a r = .ok (all, ρe)) : ∃ rs, r = .ok (rs, ρe) ∧ all = a ++ rs := by
  match r, h with
  | .ok (rs, ρ), h => simp only [pre] at h; cases h; exact ⟨rs, rfl, rfl⟩
  | .exc c, h => cases h
  | .bad, h => cases h
def dYes : DT := fun ρ => .ok (true, ρ)
theorem yes_imp {T : Tb} {E : XK} {σ : L2.St} {H : Hp} {Q : Bool → Hp → Prop} (h : tT T E dYes σ H Q) : tYes σ H Q := by
  obtain ⟨F, ρ, A, s, q⟩ := h
  exact Post.here s q
theorem _root_.L2.PTs.imp {X : Cx} {e : List Expr} {t t' : TT} (h : PTs X e t) (i : ∀ σ H Q, t' σ H Q → t σ H Q) : PTs X e t' := ⟨fun pins s σ H Q I q => h.run pins s σ H Q I (i _ _ _ q)⟩
section
variable {T : Tb} {E : XK} {X : Cx} {σ : L2.St} {H : Hp} {pos : Pos}
/-- the loop that makes a list at D -/
theorem lc_loop {vs : List Nat} {g : DG} {t : DT} {e : DE} {J : It} {ps qs0 all : List PV} {ρe ρs : Env} {F0 H0 F1 Hs : Hp} {A0 As : Ow} {D : Addr} {accs : List V} {Fin : Hp → Prop} (hO : ∀ b, Own A0 b ∨ H0 b = none → b ≠ D → True)
    (ok : ItOk T J F1 ps) {Fs : Hp} (l1 : Le F1 Fs) (sts : Stp (Own A0) F0 H0 (And1 (Own As) D) Fs Hs) (sos : SOk T Fs Hs (wipe σ vs) ρs As) (nDs : ¬ Own As D) (hDs : Hs D = some (.lst accs)) (rzs : RzL T Fs accs qs0)
    (eR : lcD vs g t e ps ρs = .ok (all, ρe)) (hz : qs0.length + all.length ≤ sizeLine)
    (fin0 : ∀ F' H' A' acc', Le Fs F' → Stp (Own A0) F0 H0 (And1 (Own A') D) F' H' → SOk T F' H' (wipe σ vs) ρe A' → ¬ Own A' D → H' D = some (.lst acc') → RzL T F' acc' (qs0 ++ all) → Fin H') :
    ∃ W : Nat → Nat → Hp → Prop, (∃ m, W 0 m Hs) ∧ ∀ i m H, W i m H → (J.stop i H ∧ Fin H) ∨ (J.go i H ∧ ∃ Nx : Hp → Prop, (∀ H', Nx H' → ∃ m', m' < m ∧ W (i + 1) m' H') ∧ ∀ x H', J.yld i H x H' →
      tG T (fun j => j ∉ vs) g x (wipe σ vs) H' fun σ2 H2 => wipe σ2 vs = wipe σ vs ∧ tT T E0 t σ2 H2 fun b H3 => if b = true then tE T E0 e σ2 H3 fun y H4 => ∃ acc, H4 D = some (.lst acc) ∧ acc.length < sizeLine ∧ Nx (upd H4 D (.lst (acc ++ [y]))) else Nx H3) := by
  have hz2 : (qs0 ++ all).length ≤ sizeLine := by rw [List.length_append]; exact hz
  generalize eall : qs0 ++ all = tot at fin0 hz2
  refine ⟨fun i m H' => m = ps.length - i ∧ i ≤ ps.length ∧ ∃ F' ρ' A' acc qs, Le Fs F' ∧ Stp (Own A0) F0 H0 (And1 (Own A') D) F' H' ∧ SOk T F' H' (wipe σ vs) ρ' A' ∧ ¬ Own A' D ∧ H' D = some (.lst acc) ∧ RzL T F' acc qs ∧ pre qs (lcD vs g t e (ps.drop i) ρ') = .ok (tot, ρe),
    ⟨ps.length, by simp, Nat.zero_le _, Fs, ρs, As, accs, qs0, Le.refl _, sts, sos, nDs, hDs, rzs, by rw [List.drop_zero, eR, ← eall]; rfl⟩, ?_⟩
  rintro i m H2 ⟨rfl, hi, F2, ρ2, A2, acc, qs, ls2, st2, so2, nD2, hD2, rz2, e2⟩
  have l12 : Le F1 F2 := l1.trans ls2
  by_cases hlt : i < ps.length
  case neg =>
    have ei : i = ps.length := by omega
    subst ei
    rw [List.drop_length] at e2
    simp only [lcD, pre, List.append_nil] at e2
    cases e2
    exact .inl ⟨ok.st F2 H2 l12 so2.fh, fin0 F2 H2 A2 acc ls2 st2 so2 nD2 hD2 rz2⟩
  rw [List.drop_eq_getElem_cons hlt] at e2
  simp only [lcD] at e2
  refine .inr ⟨ok.go i F2 H2 hlt l12 so2.fh, fun H' => ∃ F' ρ' A' acc qs, Le Fs F' ∧ Stp (Own A0) F0 H0 (And1 (Own A') D) F' H' ∧ SOk T F' H' (wipe σ vs) ρ' A' ∧ ¬ Own A' D ∧ H' D = some (.lst acc) ∧ RzL T F' acc qs ∧ pre qs (lcD vs g t e (ps.drop (i + 1)) ρ') = .ok (tot, ρe), ?_, ?_⟩
  · rintro H' ⟨F', ρ', A', acc', qs', h0, h1, h2, h3, h4, h5, h6⟩
    exact ⟨ps.length - (i + 1), by omega, rfl, hlt, F', ρ', A', acc', qs', h0, h1, h2, h3, h4, h5, h6⟩
  intro x H3 y
  obtain ⟨F3, st3, rx⟩ := ok.yl i F2 H2 x H3 _ (List.getElem?_eq_getElem hlt) l12 so2.fh y
  have so3 := so2.purely st3
  have fD2 : F2 D = none := st2.nf D (.inr rfl)
  refine ⟨F3, ρ2, A2, ps[i], so3, rx, ?_⟩
  cases eg : g ps[i] ρ2 with
  | none => rw [eg] at e2; cases e2
  | some ρ3 =>
  simp only [eg] at e2
  intro σ4 F4 H4 A4 st4 so4 f4
  have ew : wipe σ4 vs = wipe σ vs := by
    rw [wipe_eq (σ1 := wipe σ vs) (by rw [f4.len]) fun j hj => f4.eq j hj]
    exact wipe_wipe σ fun _ z => z
  refine ⟨ew, F4, ρ3, A4, so4, ?_⟩
  have st24 : Stp (Own A2) F2 H2 (Own A4) F4 H4 := (so2.pure st3).trans st4
  have fin : ∀ {F5 H5 A5 ρ5} {acc5 qs5}, Le Fs F5 → Stp (Own A0) F0 H0 (And1 (Own A5) D) F5 H5 → SOk T F5 H5 σ4 ρ5 A5 → ¬ Own A5 D → H5 D = some (.lst acc5) → RzL T F5 acc5 qs5 → pre qs5 (lcD vs g t e (ps.drop (i + 1)) (wipeE ρ5 vs)) = .ok (tot, ρe) →
      ∃ F' ρ' A' acc qs, Le Fs F' ∧ Stp (Own A0) F0 H0 (And1 (Own A') D) F' H5 ∧ SOk T F' H5 (wipe σ vs) ρ' A' ∧ ¬ Own A' D ∧ H5 D = some (.lst acc) ∧ RzL T F' acc qs ∧ pre qs (lcD vs g t e (ps.drop (i + 1)) ρ') = .ok (tot, ρe) := by
    intro F5 H5 A5 ρ5 acc5 qs5 h0 h1 h2 h3 h4 h5 h6
    refine ⟨F5, wipeE ρ5 vs, A5.clr vs, acc5, qs5, h0, h1.less fun b z => z.imp own_clr id, ?_, fun z => h3 (own_clr z), h4, h5, h6⟩
    have := sok_wipe h2 vs
    rw [ew] at this
    exact this
  have keep : ∀ {F5 H5 A5}, Stp (Own A2) F2 H2 (Own A5) F5 H5 → Stp (Own A0) F0 H0 (And1 (Own A5) D) F5 H5 ∧ ¬ Own A5 D ∧ H5 D = some (.lst acc) ∧ RzL T F5 acc qs ∧ F5 D = none := fun {F5 H5 A5} st => by
    have s1 := stp_and1 st hD2 nD2 fD2
    refine ⟨st2.trans s1, fun z => ?_, st.fr D _ hD2 nD2, rz2.le st.ff, s1.nf D (.inr rfl)⟩
    rcases st.nw D z with z | z
    · exact nD2 z
    · rw [hD2] at z; cases z
  match et : t ρ3 with
  | .exc c => simp only [et] at e2; cases e2
  | .bad => simp only [et] at e2; cases e2
  | .ok (false, ρ5) =>
    simp only [et] at e2
    intro F5 H5 A5 st5 so5
    obtain ⟨k1, k2, k3, k4, k5⟩ := keep (st24.trans st5)
    exact fin (ls2.trans (st24.trans st5).ff) k1 so5 k2 k3 k4 e2
  | .ok (true, ρ5) =>
    simp only [et] at e2
    intro F5 H5 A5 st5 so5
    refine (if_pos rfl).mpr ?_
    refine ⟨F5, ρ5, A5, so5, ?_⟩
    match ee : e ρ5 with
    | .exc c => simp only [ee] at e2; cases e2
    | .bad => simp only [ee] at e2; cases e2
    | .ok (qv, ρ6) =>
      simp only [ee] at e2
      intro F6 H6 A6 st6 so6 yv ry
      obtain ⟨k1, k2, k3, k4, k5⟩ := keep ((st24.trans st5).trans st6)
      rw [pre_pre] at e2
      refine ⟨acc, k3, ?_, ?_⟩
      · obtain ⟨rs, _, ea⟩ := pre_ok e2
        rw [ea] at hz2
        simp only [List.length_append, List.length_cons, List.length_nil] at hz2
        rw [k4.length]
        omega
      · obtain ⟨w1, w2⟩ := stp_put1 (o := .lst (acc ++ [yv])) so6 k5 k2
        exact fin (ls2.trans ((st24.trans st5).trans st6).ff) (k1.trans w1) w2 k2 upd_same (k4.app (RzL.one ry)) e2
/-- where the list is new -/
theorem lc_start {F1 H1 : Hp} {ρ1 : Env} {A1 : Ow} {D : Addr} (vs : List Nat) (so1 : SOk T F1 H1 σ ρ1 A1) (hD : H1 D = none) :
    Stp (Own A1) F1 H1 (And1 (Own (A1.clr vs)) D) F1 (upd H1 D (.lst [])) ∧ SOk T F1 (upd H1 D (.lst [])) (wipe σ vs) (wipeE ρ1 vs) (A1.clr vs) ∧ ¬ Own (A1.clr vs) D := by
  have sD := stp_own (o := .lst []) so1.fh hD
  have fD := sD.frame (T := Own A1) (fun b ⟨i, h⟩ => so1.lv i b h) (fun _ _ q => q) (fun b ⟨i, h⟩ => so1.nf i b h)
  exact ⟨(fD.weak fun b q => q.elim False.elim id).less fun b q => q.elim (fun z => .inr (own_clr z)) .inl, sok_wipe (so1.step sD fun _ q => q.elim) vs, fun z => let ⟨i, hi⟩ := own_clr z; so1.lv i D hi hD⟩
/-- where it is done -/
theorem lc_end {F0 H0 F1 H1 F2 H2 : Hp} {ρ0 ρ2 : Env} {A0 A2 : Ow} {D : Addr} {acc : List V} {all : List PV} {vs : List Nat} {Q : VK} (so0 : SOk T F1 H1 σ ρ0 A0) (l : Le F1 F2)
    (q1 : PostO T E F1 H1 σ A0 Q (.ok (.o all, unwipe ρ0 ρ2 vs))) (st : Stp (Own A0) F1 H1 (And1 (Own A2) D) F2 H2) (so2 : SOk T F2 H2 (wipe σ vs) ρ2 A2) (nD2 : ¬ Own A2 D) (hD2 : H2 D = some (.lst acc)) (rz2 : RzL T F2 acc all) : Q (.ref D) H2 := by
  have so3 := sok_unwipe so0 l so2
  refine q1 F2 H2 (A2.clr vs) [D] (.ref D) (st.less fun b z => z.elim (fun z => .inl (own_clr z)) fun z => .inr (by simpa using z)) so3 ⟨D, acc, rfl, rfl, hD2, rz2⟩ fun b hb z => ?_
  rw [List.mem_singleton] at hb
  subst hb
  exact nD2 (own_clr z)
theorem lc_imp {vs : List Nat} {di : DEs} {g : DG} {t : DT} {e : DE} {Q : VK} (h : tO T E (dLc vs di g t e) σ H Q) :
    tLc (tI T E di) (tG T (fun j => j ∉ vs) g) (tT T E0 t) (tE T E0 e) vs σ H Q := by
  obtain ⟨F, ρ, A, s, q⟩ := h
  refine ⟨F, ρ, A, s, (PostO.bind q).imp fun ps ρ1 F1 H1 A1 st1 so1 q1 J ok D hD => ?_⟩
  match eR : lcD vs g t e ps (wipeE ρ1 vs) with
  | .exc c => simp only [eR] at q1; exact q1.elim
  | .bad => simp only [eR] at q1; exact q1.elim
  | .ok (all, ρe) =>
  simp only [eR] at q1
  by_cases hz : all.length ≤ sizeLine
  case neg => rw [if_neg hz] at q1; exact q1.elim
  rw [if_pos hz] at q1
  obtain ⟨a1, a2, a3⟩ := lc_start vs so1 hD
  exact lc_loop (F0 := F1) (H0 := H1) (A0 := A1) (fun _ _ _ => trivial) ok (Le.refl _) a1 a2 a3 upd_same .nil eR (by simpa using hz) fun F' H' A' acc' lf b1 b2 b3 b4 b5 => lc_end (F0 := F1) (H0 := H1) so1 lf q1 b1 b2 b3 b4 b5

/-! two clauses -/
def lcD2 (vs vs1 : List Nat) (g : DG) (t : DT) (di1 : DEs) (g1 : DG) (t1 : DT) (e : DE) : List PV → Env → Res (List PV × Env)
  | [], ρ => .ok ([], ρ)
  | p :: ps, ρ => match g p ρ with
    | none => .bad
    | some ρ1 => match t ρ1 with
      | .ok (true, ρ2) => match di1 ρ2 with
        | .ok (xs, ρ3) => match lcD vs1 g1 t1 e xs (wipeE ρ3 vs1) with
          | .ok (qs, ρ4) => pre qs (lcD2 vs vs1 g t di1 g1 t1 e ps (wipeE ρ4 vs))
          | _ => .bad
        | _ => .bad
      | .ok (false, ρ2) => lcD2 vs vs1 g t di1 g1 t1 e ps (wipeE ρ2 vs)
      | _ => .bad
def dLc2 (vs vs1 : List Nat) (di : DEs) (g : DG) (t : DT) (di1 : DEs) (g1 : DG) (t1 : DT) (e : DE) : DO := fun ρ => di ρ >>= fun a => match lcD2 vs vs1 g t di1 g1 t1 e a.1 (wipeE a.2 vs) with
  | .ok (qs, ρ2) => if qs.length ≤ sizeLine then .ok (.o qs, unwipe a.2 ρ2 vs) else .bad
  | _ => .bad
theorem lc2_imp {vs vs1 : List Nat} {di di1 : DEs} {g g1 : DG} {t t1 : DT} {e : DE} {Q : VK} (hv : ∀ i ∈ vs1, i ∈ vs) (h : tO T E (dLc2 vs vs1 di g t di1 g1 t1 e) σ H Q) :
    tLc2 (tI T E di) (tG T (fun j => j ∉ vs) g) (tT T E0 t) (tI T E0 di1) (tG T (fun j => j ∉ vs1) g1) (tT T E0 t1) (tE T E0 e) vs vs1 σ H Q := by
  obtain ⟨F, ρ, A, s, q⟩ := h
  refine ⟨F, ρ, A, s, (PostO.bind q).imp fun ps ρ1 F1 H1 A1 st1 so1 q1 J ok D hD => ?_⟩
  match eR : lcD2 vs vs1 g t di1 g1 t1 e ps (wipeE ρ1 vs) with
  | .exc c => simp only [eR] at q1; exact q1.elim
  | .bad => simp only [eR] at q1; exact q1.elim
  | .ok (all, ρe) =>
  simp only [eR] at q1
  by_cases hz : all.length ≤ sizeLine
  case neg => rw [if_neg hz] at q1; exact q1.elim
  rw [if_pos hz] at q1
  obtain ⟨a1, a2, a3⟩ := lc_start vs so1 hD
  refine ⟨fun i m H' => m = ps.length - i ∧ i ≤ ps.length ∧ ∃ F' ρ' A' acc qs, Le F1 F' ∧ Stp (Own A1) F1 H1 (And1 (Own A') D) F' H' ∧ SOk T F' H' (wipe σ vs) ρ' A' ∧ ¬ Own A' D ∧ H' D = some (.lst acc) ∧ RzL T F' acc qs ∧ pre qs (lcD2 vs vs1 g t di1 g1 t1 e (ps.drop i) ρ') = .ok (all, ρe),
    ⟨ps.length, by simp, Nat.zero_le _, F1, wipeE ρ1 vs, A1.clr vs, [], [], Le.refl _, a1, a2, a3, upd_same, .nil, by rw [List.drop_zero, eR]; rfl⟩, ?_⟩
  rintro i m H2 ⟨rfl, hi, F2, ρ2, A2, acc, qs, l12, st2, so2, nD2, hD2, rz2, e2⟩
  by_cases hlt : i < ps.length
  case neg =>
    have ei : i = ps.length := by omega
    subst ei
    rw [List.drop_length] at e2
    simp only [lcD2, pre, List.append_nil] at e2
    cases e2
    exact .inl ⟨ok.st F2 H2 l12 so2.fh, lc_end (F0 := F1) (H0 := H1) so1 l12 q1 st2 so2 nD2 hD2 rz2⟩
  rw [List.drop_eq_getElem_cons hlt] at e2
  simp only [lcD2] at e2
  refine .inr ⟨ok.go i F2 H2 hlt l12 so2.fh, fun H' => ∃ F' ρ' A' acc qs, Le F1 F' ∧ Stp (Own A1) F1 H1 (And1 (Own A') D) F' H' ∧ SOk T F' H' (wipe σ vs) ρ' A' ∧ ¬ Own A' D ∧ H' D = some (.lst acc) ∧ RzL T F' acc qs ∧ pre qs (lcD2 vs vs1 g t di1 g1 t1 e (ps.drop (i + 1)) ρ') = .ok (all, ρe), ?_, ?_⟩
  · rintro H' ⟨F', ρ', A', acc', qs', h0, h1, h2, h3, h4, h5, h6⟩
    exact ⟨ps.length - (i + 1), by omega, rfl, hlt, F', ρ', A', acc', qs', h0, h1, h2, h3, h4, h5, h6⟩
  intro x H3 y
  obtain ⟨F3, st3, rx⟩ := ok.yl i F2 H2 x H3 _ (List.getElem?_eq_getElem hlt) l12 so2.fh y
  have so3 := so2.purely st3
  have fD2 : F2 D = none := st2.nf D (.inr rfl)
  refine ⟨F3, ρ2, A2, ps[i], so3, rx, ?_⟩
  cases eg : g ps[i] ρ2 with
  | none => rw [eg] at e2; cases e2
  | some ρ3 =>
  simp only [eg] at e2
  intro σ4 F4 H4 A4 st4 so4 f4
  have ew : wipe σ4 vs = wipe σ vs := by
    rw [wipe_eq (σ1 := wipe σ vs) (by rw [f4.len]) fun j hj => f4.eq j hj]
    exact wipe_wipe σ fun _ z => z
  refine ⟨ew, F4, ρ3, A4, so4, ?_⟩
  have st24 : Stp (Own A2) F2 H2 (Own A4) F4 H4 := (so2.pure st3).trans st4
  have fin : ∀ {F5 H5 A5 ρ5} {acc5 qs5} {σ5 : L2.St}, wipe σ5 vs = wipe σ vs → Le F1 F5 → Stp (Own A1) F1 H1 (And1 (Own A5) D) F5 H5 → SOk T F5 H5 σ5 ρ5 A5 → ¬ Own A5 D → H5 D = some (.lst acc5) → RzL T F5 acc5 qs5 → pre qs5 (lcD2 vs vs1 g t di1 g1 t1 e (ps.drop (i + 1)) (wipeE ρ5 vs)) = .ok (all, ρe) →
      ∃ F' ρ' A' acc qs, Le F1 F' ∧ Stp (Own A1) F1 H1 (And1 (Own A') D) F' H5 ∧ SOk T F' H5 (wipe σ vs) ρ' A' ∧ ¬ Own A' D ∧ H5 D = some (.lst acc) ∧ RzL T F' acc qs ∧ pre qs (lcD2 vs vs1 g t di1 g1 t1 e (ps.drop (i + 1)) ρ') = .ok (all, ρe) := by
    intro F5 H5 A5 ρ5 acc5 qs5 σ5 ew h0 h1 h2 h3 h4 h5 h6
    refine ⟨F5, wipeE ρ5 vs, A5.clr vs, acc5, qs5, h0, h1.less fun b z => z.imp own_clr id, ?_, fun z => h3 (own_clr z), h4, h5, h6⟩
    have := sok_wipe h2 vs
    rw [ew] at this
    exact this
  have keep : ∀ {F5 H5 A5}, Stp (Own A2) F2 H2 (Own A5) F5 H5 → Stp (Own A1) F1 H1 (And1 (Own A5) D) F5 H5 ∧ ¬ Own A5 D ∧ H5 D = some (.lst acc) ∧ RzL T F5 acc qs ∧ F5 D = none := fun {F5 H5 A5} st => by
    have s1 := stp_and1 st hD2 nD2 fD2
    refine ⟨st2.trans s1, fun z => ?_, st.fr D _ hD2 nD2, rz2.le st.ff, s1.nf D (.inr rfl)⟩
    rcases st.nw D z with z | z
    · exact nD2 z
    · rw [hD2] at z; cases z
  match et : t ρ3 with
  | .exc c => simp only [et] at e2; cases e2
  | .bad => simp only [et] at e2; cases e2
  | .ok (false, ρ5) =>
    simp only [et] at e2
    intro F5 H5 A5 st5 so5
    obtain ⟨k1, k2, k3, k4, k5⟩ := keep (st24.trans st5)
    exact fin ew (l12.trans (st24.trans st5).ff) k1 so5 k2 k3 k4 e2
  | .ok (true, ρ5) =>
    simp only [et] at e2
    intro F5 H5 A5 st5 so5
    refine (if_pos rfl).mpr ?_
    refine ⟨F5, ρ5, A5, so5, ?_⟩
    match ee : di1 ρ5 with
    | .exc c => simp only [ee] at e2; cases e2
    | .bad => simp only [ee] at e2; cases e2
    | .ok (xs, ρ6) =>
      simp only [ee] at e2
      intro F6 H6 A6 st6 so6 J1 ok1
      match e3 : lcD vs1 g1 t1 e xs (wipeE ρ6 vs1) with
      | .exc c => simp only [e3] at e2; cases e2
      | .bad => simp only [e3] at e2; cases e2
      | .ok (qs1, ρ7) =>
        simp only [e3] at e2
        rw [pre_pre] at e2
        obtain ⟨k1, k2, k3, k4, k5⟩ := keep ((st24.trans st5).trans st6)
        have l16 : Le F1 F6 := l12.trans ((st24.trans st5).trans st6).ff
        have hz3 : qs.length + qs1.length ≤ sizeLine := by
          obtain ⟨rs, _, ea⟩ := pre_ok e2
          rw [ea] at hz
          simp only [List.length_append] at hz
          omega
        refine lc_loop (σ := σ4) (F0 := F1) (H0 := H1) (A0 := A1) (fun _ _ _ => trivial) ok1 (Le.refl _) (k1.less fun b z => z.imp own_clr id) (sok_wipe so6 vs1) (fun z => k2 (own_clr z)) k3 k4 e3 hz3 fun F' H' A' acc' lf b1 b2 b3 b4 b5 => ?_
        exact fin (by rw [wipe_wipe σ4 hv]; exact ew) (l16.trans lf) b1 b2 b3 b4 b5 e2
end
end Dn

/-! DnH: comprehensions as expressions, subscripts, slices, list methods. -/
namespace Dn
open PySem PySem.Spec PyProof.Rows L2

section
variable {T : Tb} {E : XK} {X : Cx} {pos : Pos}
/-- in each block of the comprehension -/
abbrev Blk (X : Cx) (scope : Scope) (P : Cx → Prop) : Prop := ∀ (s : Shared) (H : Hp) (C : Addr) (cl : List (Str × Addr)) (fp : List Addr), P (X.blk s H scope (compEnvC scope cl C X.env) fp)
theorem pe_l1 {elt tg iter : Expr} {ifs : List Expr} {scope : Scope} {own : List (Str × Nat)} {di : DEs} {g : DG} {t : DT} {e : DE} (hc : X.calm = true) (hN : X.N.Nodup) (hi : PI X tg iter (tI T E di)) (ok : BlkOk X.N X.env.scope scope own)
    (hg : Blk X scope fun X => PG X tg (tG T (fun j => j ∉ own.map (·.2)) g)) (ht : Blk X scope fun X => PTs X ifs (tT T E0 t)) (he : Blk X scope fun X => PE X elt (tE T E0 e)) (ns : notSet iter = true) :
    PE X (.ListComp elt [⟨tg, iter, ifs, 0⟩] scope pos) (tO T E (dLc (own.map (·.2)) di g t e)) := (pe_lc hc hN hi ok hg ht he (no_fold ns _)).imp fun σ H Q h => lc_imp h
theorem ps_l1 {fx : Nat → Prop} {i : Nat} {y : Str} {py spos : Pos} {elt tg iter : Expr} {ifs : List Expr} {scope : Scope} {own : List (Str × Nat)} {di : DEs} {g : DG} {t : DT} {e : DE} (hfx : ¬ fx i) (hc : X.calm = true) (hN : X.N.Nodup) (hy : X.N[i]? = some y) (hyl : X.env.scope.names.lookup y = some .local)
    (hsw : swapsWith (.ListComp elt [⟨tg, iter, ifs, 0⟩] scope pos) (some (.Name y py)) spos.line X.env = pure true) (hi : PI X tg iter (tI T E di)) (ok : BlkOk X.N X.env.scope scope own)
    (hg : Blk X scope fun X => PG X tg (tG T (fun j => j ∉ own.map (·.2)) g)) (ht : Blk X scope fun X => PTs X ifs (tT T E0 t)) (he : Blk X scope fun X => PE X elt (tE T E0 e)) (ns : notSet iter = true) :
    PS X (.Assign [.Name y py] (.ListComp elt [⟨tg, iter, ifs, 0⟩] scope pos) spos) (tS T E fx (dSet i (dLc (own.map (·.2)) di g t e))) :=
  (ps_setLc hc hN hy hyl hsw hi ok hg ht he (no_fold ns _)).imp fun D σ H q => by
    have q2 := set_imp (fx := fx) hfx q
    exact lc_imp q2
theorem pe_l2 {elt tg iter tg1 iter1 : Expr} {ifs ifs1 : List Expr} {scope : Scope} {own : List (Str × Nat)} {vs1 : List Nat} {di di1 : DEs} {g g1 : DG} {t t1 : DT} {e : DE} (hc : X.calm = true) (hN : X.N.Nodup) (hi : PI X tg iter (tI T E di)) (ok : BlkOk X.N X.env.scope scope own) (hv : ∀ i ∈ vs1, i ∈ own.map (·.2))
    (hg : Blk X scope fun X => PG X tg (tG T (fun j => j ∉ own.map (·.2)) g)) (ht : Blk X scope fun X => PTs X ifs (tT T E0 t)) (hi1 : Blk X scope fun X => PI X tg1 iter1 (tI T E0 di1))
    (hg1 : Blk X scope fun X => PG X tg1 (tG T (fun j => j ∉ vs1) g1)) (ht1 : Blk X scope fun X => PTs X ifs1 (tT T E0 t1)) (he : Blk X scope fun X => PE X elt (tE T E0 e)) (ns : notSet iter = true) (ns1 : notSet iter1 = true) :
    PE X (.ListComp elt [⟨tg, iter, ifs, 0⟩, ⟨tg1, iter1, ifs1, 0⟩] scope pos) (tO T E (dLc2 (own.map (·.2)) vs1 di g t di1 g1 t1 e)) :=
  (pe_lc2 hc hN hi ok hv hg ht hi1 hg1 ht1 he (no_fold ns _) fun env x => no_fold ns1 env x).imp fun σ H Q h => lc2_imp hv h
theorem ps_l2 {fx : Nat → Prop} {i : Nat} {y : Str} {py spos : Pos} {elt tg iter tg1 iter1 : Expr} {ifs ifs1 : List Expr} {scope : Scope} {own : List (Str × Nat)} {vs1 : List Nat} {di di1 : DEs} {g g1 : DG} {t t1 : DT} {e : DE} (hfx : ¬ fx i) (hc : X.calm = true) (hN : X.N.Nodup) (hy : X.N[i]? = some y) (hyl : X.env.scope.names.lookup y = some .local)
    (hsw : swapsWith (.ListComp elt [⟨tg, iter, ifs, 0⟩, ⟨tg1, iter1, ifs1, 0⟩] scope pos) (some (.Name y py)) spos.line X.env = pure true) (hi : PI X tg iter (tI T E di)) (ok : BlkOk X.N X.env.scope scope own) (hv : ∀ i ∈ vs1, i ∈ own.map (·.2))
    (hg : Blk X scope fun X => PG X tg (tG T (fun j => j ∉ own.map (·.2)) g)) (ht : Blk X scope fun X => PTs X ifs (tT T E0 t)) (hi1 : Blk X scope fun X => PI X tg1 iter1 (tI T E0 di1))
    (hg1 : Blk X scope fun X => PG X tg1 (tG T (fun j => j ∉ vs1) g1)) (ht1 : Blk X scope fun X => PTs X ifs1 (tT T E0 t1)) (he : Blk X scope fun X => PE X elt (tE T E0 e)) (ns : notSet iter = true) (ns1 : notSet iter1 = true) :
    PS X (.Assign [.Name y py] (.ListComp elt [⟨tg, iter, ifs, 0⟩, ⟨tg1, iter1, ifs1, 0⟩] scope pos) spos) (tS T E fx (dSet i (dLc2 (own.map (·.2)) vs1 di g t di1 g1 t1 e))) :=
  (ps_setLc2 hc hN hy hyl hsw hi ok hv hg ht hi1 hg1 ht1 he (no_fold ns _) fun env x => no_fold ns1 env x).imp fun D σ H q => by
    have q2 := set_imp (fx := fx) hfx q
    exact lc2_imp hv q2
theorem pts_n : PTs X [] (tT T E dYes) := pts_nil.imp fun σ H Q h => yes_imp h
theorem pts_1 {c : Expr} {t : DT} (h : PT X c (tT T E t)) : PTs X [c] (tT T E t) := pts_one h

/-! ### subscripts -/
def gIx : PV → PV → Option PV
  | .tup xs, .int i => atI xs i
  | .lst xs, .int i => atI xs i
  | .scr xs, .int i => atI xs i
  | _, _ => none
theorem at_rz {F : Hp} {vs : List V} {ps : List PV} {i : Int} {p : PV} (r : RzL T F vs ps) (e : atI ps i = some p) : ∃ v, atI vs i = some v ∧ Rz T F v p := by
  unfold atI at e ⊢
  rw [r.length]
  cases q : ixN ps.length i with
  | none => rw [q] at e; cases e
  | some j =>
    rw [q] at e
    exact r.get e
theorem ix_core {x y : V} {p q r : PV} {F H : Hp} {Q : VK} (l : Le F H) (rx : Rz T F x p) (ry : Rz T F y q) (e : gIx p q = some r) (k : ∀ v, Rz T F v r → Q v H) : rIx T.K x y H Q := by
  unfold gIx at e
  split at e
  · cases rx with
    | tup h1 r1 =>
      cases ry
      obtain ⟨v, h2, h3⟩ := at_rz r1 e
      exact .inr (.inl ⟨_, _, _, v, rfl, rfl, SqT.le l h1, h2, k v h3⟩)
  · cases rx with
    | lst h1 r1 =>
      cases ry
      obtain ⟨v, h2, h3⟩ := at_rz r1 e
      exact .inl ⟨_, _, _, v, rfl, rfl, .inl (.inl (l _ _ h1)), h2, k v h3⟩
  · cases rx with
    | scr h1 r1 =>
      cases ry
      obtain ⟨v, h2, h3⟩ := at_rz r1 e
      exact .inl ⟨_, _, _, v, rfl, rfl, SqL.le l h1, h2, k v h3⟩
  · cases e
theorem s_ix : OpS T (rIx T.K) gIx := fun x y p q r F H Q l rx ry e k => ix_core l rx ry e fun v rv => k v F H (stp_same l) rv
def notSlice : Expr → Bool
  | .Slice _ _ _ _ => false
  | _ => true
theorem plain_ix {b : Expr} (h : notSlice b = true) : PlainIx b := by
  intro o i
  cases b <;> first | (simp [notSlice] at h; done) | rfl
theorem pe_x {a b : Expr} {da db : DE} (hK : X.K = T.K) (nb : notSlice b = true) (ha : PE X a (tE T E da)) (hb : PE X b (tE T E db)) : PE X (.Subscript a b pos) (tE T E (dBin gIx da db)) :=
  (pe_ix ix_seq ha hb (plain_ix nb)).imp fun σ H Q h => by rw [hK]; exact bin_imp s_ix h
/-- an item of the list in a slot, which stays one's own -/
def svIx : SV → PV → Option PV
  | .z p, q => gIx p q
  | .o xs, .int i => atI xs i
  | _, _ => none
def dIxV (i : Nat) (db : DE) : DE := fun ρ => match ρ[i]? with
  | some (some _) => db ρ >>= fun b => match b.2[i]? with
    | some (some sv) => match svIx sv b.1 with
      | some r => .ok (r, b.2)
      | none => .bad
    | _ => .bad
  | _ => .bad
theorem svIx_ok {F H : Hp} {v y : V} {sv : SV} {q r : PV} {as : List Addr} {Q : VK} (l : Le F H) (rs : RS T F H v sv as) (ry : Rz T F y q) (e : svIx sv q = some r) (k : ∀ w, Rz T F w r → Q w H) : rIx T.K v y H Q := by
  unfold svIx at e
  split at e
  · exact ix_core l rs.2 ry e k
  · obtain ⟨a, vs, rfl, _, h1, r1⟩ := rs
    cases ry
    obtain ⟨w, h2, h3⟩ := at_rz r1 e
    exact .inl ⟨_, _, _, w, rfl, rfl, .inl (.inl h1), h2, k w h3⟩
  · cases e
theorem SOk.at {F H : Hp} {σ : L2.St} {ρ : Env} {A : Ow} (s : SOk T F H σ ρ A) {i : Nat} {sv : SV} (e : ρ[i]? = some (some sv)) {v : V} (hv : σ[i]? = some (some v)) : RS T F H v sv (A i) := by
  obtain ⟨w, h1, h2⟩ := s.slot i sv e
  rw [hv] at h1
  cases h1
  exact h2
/-- the name's value first, then the rest -/
theorem var_imp {α : Type} {i : Nat} {d : Env → Res (α × Env)} {σ : L2.St} {H : Hp} {k : V → KK α} {F : Hp} {ρ : Env} {A : Ow} (s : SOk T F H σ ρ A) {f : Res (α × Env)} (q : Post T E F H σ A (fun a ρ' F' H' A' => ∀ v, σ[i]? = some (some v) → k v a ρ' F' H' A') f) {v : V} (hv : σ[i]? = some (some v)) :
    Post T E F H σ A (k v) f := q.imp fun a ρ' F' H' A' _ _ h => h v hv
theorem pe_xv {i : Nat} {x : Str} {b : Expr} {db : DE} {px : Pos} (hK : X.K = T.K) (hx : X.N[i]? = some x) (hv : Vis X.env.scope x) (hd : (x == ("__debug__" : Str)) = false) (hcd : (x == ("__classdict__" : Str)) = false) (nb : notSlice b = true) (hb : PE X b (tE T E db)) :
    PE X (.Subscript (.Name x px) b pos) (tE T E (dIxV i db)) :=
  (pe_ix ix_seq (pe_var hx hv hd hcd) hb (plain_ix nb)).imp fun σ H Q ⟨F, ρ, A, s, q⟩ => by
    rw [hK]
    unfold dIxV at q
    split at q
    · rename_i sv0 e0
      obtain ⟨v, h1, _⟩ := s.slot i _ e0
      refine ⟨v, h1, F, ρ, A, s, (Post.bind q).imp fun p ρ1 F1 H1 A1 st1 so1 q1 y ry => ?_⟩
      split at q1
      · rename_i sv e1
        cases e : svIx sv p with
        | none => simp only [e] at q1; exact q1.elim
        | some r =>
          simp only [e] at q1
          exact svIx_ok so1.fh (so1.at e1 h1) ry e fun w rw' => Post.here so1 q1 w rw'
      · exact q1.elim
    · exact q.elim
/-! two steps down, by names and constants -/
inductive SI where
  | c (k : Int) | v (i : Nat)
def SI.val (ρ : Env) : SI → Option Int
  | .c k => some k
  | .v i => match ρ[i]? with
    | some (some (.z (.int k))) => some k
    | _ => none
/-- a name or a constant, read -/
inductive PSi (X : Cx) : Expr → SI → Prop
  | c {k : Int} {j : Nat} {p : Pos} : PSi X (.Constant (.int k) j p) (.c k)
  | v {i : Nat} {x : Str} {p : Pos} (hx : X.N[i]? = some x) (hv : Vis X.env.scope x) (hd : (x == ("__debug__" : Str)) = false) (hcd : (x == ("__classdict__" : Str)) = false) : PSi X (.Name x p) (.v i)
def tSi : SI → TE
  | .c k => tC (.int k)
  | .v i => tVar i
theorem PSi.pe {b : Expr} {si : SI} (h : PSi X b si) : PE X b (tSi si) := by
  cases h with
  | c => exact pe_int
  | v hx hv hd hcd => exact pe_var hx hv hd hcd
theorem PSi.ns {b : Expr} {si : SI} (h : PSi X b si) : notSlice b = true := by
  cases h <;> rfl
theorem si_at {F H : Hp} {σ : L2.St} {ρ : Env} {A : Ow} (s : SOk T F H σ ρ A) {si : SI} {k : Int} (e : si.val ρ = some k) {Q : VK} (h : Q (.int k) H) : tSi si σ H Q := by
  cases si with
  | c j => cases e; exact h
  | v i =>
    simp only [SI.val] at e
    split at e
    · rename_i j e0
      cases e
      obtain ⟨v, h1, h2⟩ := s.slot i _ e0
      obtain ⟨_, r⟩ := h2
      cases r
      exact ⟨_, h1, h⟩
    · cases e
def svIx2 : SV → Int → Int → Option PV
  | .z p, a, b => (gIx p (.int a)).bind fun q => gIx q (.int b)
  | .o xs, a, b => (atI xs a).bind fun q => gIx q (.int b)
  | .oo xss, a, b => (atI xss a).bind fun xs => atI xs b
  | _, _, _ => none
def dIx2 (i : Nat) (a b : SI) : DE := fun ρ => match ρ[i]?, a.val ρ, b.val ρ with
  | some (some sv), some j, some k => match svIx2 sv j k with
    | some r => .ok (r, ρ)
    | none => .bad
  | _, _, _ => .bad
theorem rows_at {F H : Hp} : ∀ {bs : List Addr} {xss : List (List PV)} {j : Nat} {xs : List PV}, Rows T F H bs xss → xss[j]? = some xs → ∃ b vs, bs[j]? = some b ∧ H b = some (.lst vs) ∧ RzL T F vs xs
  | _, _, _, _, .nil, e => by simp at e
  | _, _, 0, _, .cons h r _, e => by simp at e; subst e; exact ⟨_, _, rfl, h, r⟩
  | _, _, j + 1, xs, .cons _ _ t, e => by
    obtain ⟨b, vs, h1, h2⟩ := rows_at (j := j) t (by simpa using e)
    exact ⟨b, vs, by simpa using h1, h2⟩
theorem Rows.length {F H : Hp} : ∀ {bs : List Addr} {xss : List (List PV)}, Rows T F H bs xss → bs.length = xss.length
  | _, _, .nil => rfl
  | _, _, .cons _ _ t => congrArg (· + 1) (Rows.length t)
theorem atI_some {α : Type} {xs : List α} {i : Int} {x : α} (e : atI xs i = some x) : ∃ j, ixN xs.length i = some j ∧ xs[j]? = some x := by
  unfold atI at e
  cases q : ixN xs.length i with
  | none => rw [q] at e; cases e
  | some j => rw [q] at e; exact ⟨j, rfl, e⟩
theorem atI_mk {α : Type} {xs : List α} {i : Int} {x : α} {j : Nat} (h : ixN xs.length i = some j) (e : xs[j]? = some x) : atI xs i = some x := by
  unfold atI
  rw [h]
  exact e
theorem rIx_mono {K : PySem.W.Frag} {x y : V} {H : Hp} {Q Q' : VK} (h : rIx K x y H Q) (i : ∀ v, Q v H → Q' v H) : rIx K x y H Q' := by
  rcases h with ⟨a, b, c, d, h1, h2, h3, h4, h5⟩ | ⟨a, b, c, d, h1, h2, h3, h4, h5⟩ | ⟨a, b, c, h1, h2, h3, h4, h5⟩
  · exact .inl ⟨a, b, c, d, h1, h2, h3, h4, i _ h5⟩
  · exact .inr (.inl ⟨a, b, c, d, h1, h2, h3, h4, i _ h5⟩)
  · exact .inr (.inr ⟨a, b, c, h1, h2, h3, h4, i _ h5⟩)
theorem pe_x2 {i : Nat} {x : Str} {a b : Expr} {sa sb : SI} {px p1 : Pos} (hK : X.K = T.K) (hx : X.N[i]? = some x) (hv : Vis X.env.scope x) (hd : (x == ("__debug__" : Str)) = false) (hcd : (x == ("__classdict__" : Str)) = false) (ha : PSi X a sa) (hb : PSi X b sb) :
    PE X (.Subscript (.Subscript (.Name x px) a p1) b pos) (tE T E (dIx2 i sa sb)) :=
  (pe_ix ix_seq (pe_ix ix_seq (pe_var hx hv hd hcd) ha.pe (plain_ix ha.ns)) hb.pe (plain_ix hb.ns)).imp fun σ H Q ⟨F, ρ, A, s, q⟩ => by
    rw [hK]
    unfold dIx2 at q
    split at q
    · rename_i sv j k e0 e1 e2
      cases e : svIx2 sv j k with
      | none => simp only [e] at q; exact q.elim
      | some r =>
        simp only [e] at q
        have fin : ∀ w, Rz T F w r → Q w H := fun w rw' => Post.here s q w rw'
        obtain ⟨v, h1, h2⟩ := s.slot i _ e0
        refine ⟨v, h1, si_at s e1 ?_⟩
        cases sv with
        | z p =>
          simp only [svIx2] at e
          cases e3 : gIx p (.int j) with
          | none => rw [e3] at e; cases e
          | some p2 =>
            rw [e3] at e
            exact ix_core s.fh h2.2 (.int _) e3 fun w rw' => si_at s e2 (ix_core s.fh rw' (.int _) e fin)
        | o xs =>
          simp only [svIx2] at e
          cases e3 : atI xs j with
          | none => rw [e3] at e; cases e
          | some p2 =>
            rw [e3] at e
            exact svIx_ok (sv := .o xs) s.fh h2 (.int _) e3 fun w rw' => si_at s e2 (ix_core s.fh rw' (.int _) e fin)
        | oo xss =>
          simp only [svIx2] at e
          cases e3 : atI xss j with
          | none => rw [e3] at e; cases e
          | some xs =>
            rw [e3] at e
            obtain ⟨c, bs, rfl, _, hc, rows, _⟩ := h2
            obtain ⟨m, g1, g2⟩ := atI_some e3
            obtain ⟨b, vs, f1, f2, f3⟩ := rows_at rows g2
            obtain ⟨w, f4, f5⟩ := at_rz f3 e
            refine .inl ⟨_, bs.map V.ref, _, .ref b, rfl, rfl, .inl (.inl hc), atI_mk (j := m) (by rw [List.length_map, rows.length]; exact g1) (by rw [List.getElem?_map, f1]; rfl), si_at s e2 ?_⟩
            exact .inl ⟨_, vs, _, w, rfl, rfl, .inl (.inl f2), f4, fin w f5⟩
        | od _ => cases e
    · exact q.elim

/-! ### slices -/
def cutP (xs : List PV) (lo hi : Option Int) : List PV := (xs.drop (HT.sIx xs.length 0 lo)).take (HT.sIx xs.length xs.length hi - HT.sIx xs.length 0 lo)
theorem cut_rz {F : Hp} {vs : List V} {ps : List PV} (r : RzL T F vs ps) (lo hi : Option Int) : RzL T F (cutV vs lo hi) (cutP ps lo hi) := by
  unfold cutV cutP
  rw [r.length]
  exact (r.drop _).take _
theorem cut_whole (xs : List PV) {lo hi : Option Int} (h : HT.sIx xs.length 0 lo = 0 ∧ HT.sIx xs.length xs.length hi = xs.length) : cutP xs lo hi = xs := by
  unfold cutP
  rw [h.1, h.2, List.drop_zero, Nat.sub_zero, List.take_length]
def gSlice : PV → Option Int → Option Int → Option PV
  | .tup xs, lo, hi => some (.tup (cutP xs lo hi))
  | .lst xs, lo, hi => some (.lst (cutP xs lo hi))
  | .scr xs, lo, hi => some (.lst (cutP xs lo hi))
  | _, _, _ => none
abbrev DPo := Env → Res (Option Int × Env)
def dNoP : DPo := fun ρ => .ok (none, ρ)
def dP (d : DE) : DPo := fun ρ => d ρ >>= fun a => match a.1 with
  | .int i => .ok (some i, a.2)
  | _ => .bad
def tPo (T : Tb) (E : XK) (d : DPo) : TO := fun σ H Q => ∃ F ρ A, SOk T F H σ ρ A ∧ Post T E F H σ A (fun o _ _ H' _ => Q o H') (d ρ)
theorem _root_.L2.PO.imp {X : Cx} {e : Option Expr} {t t' : TO} (h : PO X e t) (i : ∀ σ H Q, t' σ H Q → t σ H Q) : PO X e t' := by
  obtain ⟨run⟩ := h
  exact ⟨fun pins s σ H Q I q => run pins s σ H Q I (i _ _ _ q)⟩
theorem po_n : PO X none (tPo T E dNoP) := po_none.imp fun σ H Q ⟨F, ρ, A, s, q⟩ => Post.here s q
theorem po_s {e : Expr} {d : DE} (h : PE X e (tE T E d)) : PO X (some e) (tPo T E (dP d)) := (po_some h).imp fun σ H Q ⟨F, ρ, A, s, q⟩ => ⟨F, ρ, A, s, (Post.bind q).imp fun p ρ1 F1 H1 A1 st1 so1 q1 v rv => by
  cases p with
  | int i => cases rv; exact ⟨i, rfl, Post.here so1 q1⟩
  | _ => exact q1.elim⟩
def dSl (d : DE) (dl dh : DPo) : DE := fun ρ => d ρ >>= fun a => dl a.2 >>= fun l => dh l.2 >>= fun h => match gSlice a.1 l.1 h.1 with
  | some r => .ok (r, h.2)
  | none => .bad
def rSlS (K : PySem.W.Frag) : V → Option Int → Option Int → Hp → VK → Prop := fun x lo hi H Q => rSlL K x lo hi H Q ∨ rSlA K x lo hi H Q
theorem pe_sl {e : Expr} {lo hi : Option Expr} {d : DE} {dl dh : DPo} {p2 : Pos} (hK : X.K = T.K) (he : PE X e (tE T E d)) (hl : PO X lo (tPo T E dl)) (hh : PO X hi (tPo T E dh)) : PE X (.Subscript e (.Slice lo hi none p2) pos) (tE T E (dSl d dl dh)) :=
  (pe_slice (r := rSlS X.K) (sl_list.or sl_tupA) he hl hh).imp fun σ H Q ⟨F, ρ, A, s, q⟩ => ⟨F, ρ, A, s, (Post.bind q).imp fun p ρ1 F1 H1 A1 st1 so1 q1 v rv =>
    ⟨F1, ρ1, A1, so1, (Post.bind q1).imp fun l ρ2 F2 H2 A2 st2 so2 q2 => ⟨F2, ρ2, A2, so2, (Post.bind q2).imp fun h ρ3 F3 H3 A3 st3 so3 q3 => by
      have rv3 := (rv.le st2.ff).le st3.ff
      rw [hK]
      cases rv3 with
      | lst h1 r1 =>
        refine .inl ⟨_, _, rfl, .inl (.inl (so3.fh _ _ h1)), fun p hp => ?_⟩
        obtain ⟨a, b⟩ := new_lst so3.fh (cut_rz r1 l h) hp
        exact q3 _ _ A3 (so3.pure a) (so3.purely a) _ b
      | scr h1 r1 =>
        refine .inl ⟨_, _, rfl, SqL.le so3.fh h1, fun p hp => ?_⟩
        obtain ⟨a, b⟩ := new_lst so3.fh (cut_rz r1 l h) hp
        exact q3 _ _ A3 (so3.pure a) (so3.purely a) _ b
      | @tup a vs ps h1 r1 =>
        refine .inr ⟨_, _, rfl, SqT.le so3.fh h1, fun w => ?_, fun w p hp => ?_⟩
        · rw [r1.length] at w
          have := Post.here so3 q3 (.ref a)
          rw [cut_whole _ w] at this
          exact this (.tup h1 r1)
        · obtain ⟨a, b⟩ := new_tup so3.fh (cut_rz r1 l h) hp
          exact q3 _ _ A3 (so3.pure a) (so3.purely a) _ b
      | _ => exact q3.elim⟩⟩⟩

/-! ### what a list of one's own undergoes -/
theorem own_write {F H : Hp} {σ : L2.St} {ρ : Env} {A : Ow} {i : Nat} {xs xs' : List PV} {v : V} {vs' : List V} (s : SOk T F H σ ρ A) (e : ρ[i]? = some (some (.o xs))) (hv : σ[i]? = some (some v)) (r : RzL T F vs' xs') :
    ∃ a vs, v = .ref a ∧ H a = some (.lst vs) ∧ RzL T F vs xs ∧ Stp (Own A) F H (Own A) F (upd H a (.lst vs')) ∧ SOk T F (upd H a (.lst vs')) σ (ρ.set i (some (.o xs'))) A := by
  obtain ⟨a, vs, rfl, ea, h1, h2⟩ := s.at e hv
  have hi := lt_of_get e
  have ia : a ∈ A i := by rw [ea]; simp
  have st : Stp (Own A) F H (Own A) F (upd H a (.lst vs')) := ⟨Le.refl F, fun b u q => by
      have : b ≠ a := fun z => by rw [z, s.nf i a ia] at q; cases q
      rw [upd_ne this]; exact s.fh _ _ q, fun b o q n => by
      have : b ≠ a := fun z => n (by rw [z]; exact ⟨i, ia⟩)
      rw [upd_ne this]; exact q, fun b q n => absurd n q, fun b q => .inl q, fun b ⟨j, q⟩ => s.nf j b q⟩
  refine ⟨a, vs, rfl, h1, h2, st, by rw [List.length_set]; exact s.len, fun j p ej => ?_, s.dj, st.fh, s.nf, fun j b hb z => ?_⟩
  · by_cases z : j = i
    · subst z
      rw [List.getElem?_set_self hi] at ej
      cases ej
      exact ⟨_, hv, a, vs', rfl, ea, upd_same, r⟩
    · rw [List.getElem?_set_ne (Ne.symm z)] at ej
      obtain ⟨w, g1, g2⟩ := s.slot j p ej
      refine ⟨w, g1, g2.mono (Le.refl F) fun b hb o q => ?_⟩
      have : b ≠ a := fun q2 => z (s.dj j i b hb (by rw [q2]; exact ia))
      rw [upd_ne this]; exact q
  · by_cases q : b = a
    · rw [q, upd_same] at z; cases z
    · rw [upd_ne q] at z; exact s.lv j b hb z
def isO (ρ : Env) (i : Nat) : Bool := match ρ[i]? with
  | some (some (.o _)) => true
  | _ => false
theorem isO_at {F H : Hp} {σ : L2.St} {ρ : Env} {A : Ow} (s : SOk T F H σ ρ A) {i : Nat} (h : isO ρ i = true) : ∃ a vs, σ[i]? = some (some (.ref a)) ∧ H a = some (.lst vs) := by
  unfold isO at h
  split at h
  · rename_i xs e
    obtain ⟨v, h1, a, vs, rfl, _, h2, _⟩ := s.slot i _ e
    exact ⟨a, vs, h1, h2⟩
  · cases h
/-- a method of the list in slot i, by its arguments: what it gives, what the list is then -/
def dMt (i : Nat) (g : List PV → List PV → Option (PV × List PV)) (ds : DEs) : DE := fun ρ => if isO ρ i then ds ρ >>= fun a => match a.2[i]? with
  | some (some (.o xs)) => match g xs a.1 with
    | some (r, ys) => .ok (r, a.2.set i (some (.o ys)))
    | none => .bad
  | _ => .bad else .bad
def MtS (T : Tb) (R : V → List V → Hp → VK → Prop) (g : List PV → List PV → Option (PV × List PV)) : Prop := ∀ a vs xs ws ps r ys F H (Q : VK), Le F H → H a = some (.lst vs) → RzL T F vs xs → RzL T F ws ps → g xs ps = some (r, ys) →
  (∀ v vs', Rz T F v r → RzL T F vs' ys → Q v (upd H a (.lst vs'))) → R (.ref a) ws H Q
theorem mt_imp {i : Nat} {R : V → List V → Hp → VK → Prop} {g : List PV → List PV → Option (PV × List PV)} {ds : DEs} {σ : L2.St} {H : Hp} {Q : VK} (hg : MtS T R g) (h : tE T E (dMt i g ds) σ H Q) :
    tVar i σ H fun x H1 => tyV T.K "list" x H1 ∧ tL T E ds σ H1 fun ws H2 => R x ws H2 Q := by
  obtain ⟨F, ρ, A, s, q⟩ := h
  unfold dMt at q
  by_cases e0 : isO ρ i = true
  case neg => rw [if_neg e0] at q; exact q.elim
  rw [if_pos e0] at q
  obtain ⟨a, vs, h1, h2⟩ := isO_at s e0
  refine ⟨.ref a, h1, .inl ⟨rfl, vs, .inl (.inl h2)⟩, F, ρ, A, s, (Post.bind q).imp fun ps ρ1 F1 H1 A1 st1 so1 q1 ws rw' => ?_⟩
  split at q1
  · rename_i xs e1
    cases e : g xs ps with
    | none => simp only [e] at q1; exact q1.elim
    | some ry =>
      obtain ⟨r, ys⟩ := ry
      simp only [e] at q1
      obtain ⟨a', vs1, ea, f1, f2⟩ := so1.at e1 h1
      cases ea
      refine hg a vs1 xs ws ps r ys F1 H1 Q so1.fh f2.1 f2.2 rw' e fun v vs' rv rvs => ?_
      obtain ⟨a2, vs2, ea2, g1, g2, st2, so2⟩ := own_write so1 e1 h1 rvs
      cases ea2
      exact q1 F1 _ A1 st2 so2 v rv
  · exact q1.elim
end
end Dn

/-! DnI: calls and defs. -/
namespace Dn
open PySem PySem.Spec PyProof.Rows L2

/-- what a def does: by the arguments; its result, and what became of the first one where it was lent -/
abbrev Cals := Nat → List SV → Res (SV × Option SV)
def Nul : Ow := fun _ => []
def Ow1 (as : List Addr) : Ow := fun j => if j = 0 then as else []
def PostC (T : Tb) (E : XK) (F H : Hp) (O : Addr → Prop) (vs : List V) (Q : VK) : Res (SV × Option SV) → Prop
  | .ok (r, bk) => ∀ F' H' R0 R v, Stp O F H (fun b => b ∈ R0 ∨ b ∈ R) F' H' → (match bk with
      | none => R0 = []
      | some b => ∃ v0, vs[0]? = some v0 ∧ RS T F' H' v0 b R0) → RS T F' H' v r R → (∀ b ∈ R, b ∉ R0) → Q v H'
  | .exc c => ∀ F' H', Stp O F H Nil F' H' → E (T.cls c) none H'
  | .bad => False
/-- the promise of def f -/
def spG (T : Tb) (C : Cals) (f np : Nat) : Sp := fun vs H Q E => vs.length = np ∧ ∃ F svs A, SOk T F H (vs.map some) (svs.map some) A ∧ PostC T E F H (Own A) vs Q (C f svs)
def runFn (np n : Nat) (mu : Bool) (body : DS) (svs : List SV) : Res (SV × Option SV) :=
  if svs.length = np then body (svs.map some ++ List.replicate (n - np) none) >>= fun a => match a.1 with
    | .ret r => if mu then match a.2[0]? with
        | some (some b) => .ok (r, some b)
        | _ => .bad
      else .ok (r, none)
    | .nx => if mu then match a.2[0]? with
        | some (some b) => .ok (.z .non, some b)
        | _ => .bad
      else .ok (.z .non, none)
    | _ => .bad
  else .bad

section
variable {T : Tb} {E : XK} {F H : Hp} {vs : List V} {svs : List SV} {A : Ow} {Q : VK}
theorem sok_start {N : List Str} (s : SOk T F H (vs.map some) (svs.map some) A) (m : Nat) : SOk T F H (vs.map some ++ List.replicate m none) (svs.map some ++ List.replicate m none) A where
  len := by
    have := s.len
    simp only [List.length_append, List.length_replicate, this]
  slot := fun i p e => by
    have hl : svs.length = vs.length := by simpa using s.len
    by_cases z : i < svs.length
    · rw [List.getElem?_append_left (by simpa using z)] at e
      rw [List.getElem?_append_left (by rw [List.length_map, ← hl]; exact z)]
      exact s.slot i p e
    · rw [List.getElem?_append_right (by simpa using z), List.getElem?_replicate] at e
      split at e <;> cases e
  dj := s.dj
  fh := s.fh
  nf := s.nf
  lv := s.lv
theorem own_new_none {m : Nat} {σ' : L2.St} {ρ' : Env} {A' : Ow} {F' H' : Hp} {r : SV} {v : V} {R : List Addr} {mu : Bool} (st : Stp (Own A) F H (fun b => Own A' b ∨ b ∈ R) F' H') (so : SOk T F' H' σ' ρ' A')
    (hf : FxOk (fun j => mu = true ∧ j = 0) (vs.map some ++ List.replicate m none) σ') (rs : RS T F' H' v r R) (n : ∀ b ∈ R, ¬ Own A' b)
    (hq : PostC T E F H (Own A) vs Q (if mu then match ρ'[0]? with
        | some (some b) => .ok (r, some b)
        | _ => .bad
      else .ok (r, none))) : Q v H' := by
  cases mu with
  | false =>
    rw [if_neg (by decide)] at hq
    exact hq F' H' [] R v (st.less fun b z => .inr (z.elim (fun z => absurd z (by simp)) id)) rfl rs fun _ _ z => absurd z (by simp)
  | true =>
    rw [if_pos rfl] at hq
    split at hq
    · rename_i b e
      obtain ⟨w, h1, h2⟩ := so.slot 0 b e
      rw [hf.eq 0 ⟨rfl, rfl⟩] at h1
      have h3 : vs[0]? = some w := by
        cases vs with
        | nil =>
          simp at h1
          cases m with
          | zero => simp at h1
          | succ m => simp [List.replicate_succ] at h1
        | cons x xs => simp at h1; rw [h1]; rfl
      exact hq F' H' (A' 0) R v (st.less fun b z => z.imp (fun z => ⟨0, z⟩) id) ⟨w, h3, h2⟩ rs fun b hb z => n b hb ⟨0, z⟩
    · exact hq.elim
/-- a def's body, by its denotation -/
theorem body_ok {np m : Nat} {N : List Str} {mu : Bool} {d : DS} (hN : N.length = np + m) (hl : vs.length = np) (s : SOk T F H (vs.map some) (svs.map some) A) (hq : PostC T E F H (Own A) vs Q (runFn np N.length mu d svs)) :
    tS T E (fun j => mu = true ∧ j = 0) d { nx := fun _ H' => Q .non H', rt := Q } (L2.start N vs) H := by
  have hl2 : svs.length = np := by have := s.len; simp at this; omega
  have hm : N.length - vs.length = m := by omega
  have hm2 : N.length - np = m := by omega
  unfold L2.start
  rw [hm]
  refine ⟨F, svs.map some ++ List.replicate m none, A, sok_start (N := N) s m, ?_⟩
  unfold runFn at hq
  rw [if_pos hl2, hm2] at hq
  match e : d (svs.map some ++ List.replicate m none) with
  | .bad => rw [e] at hq; exact hq.elim
  | .exc c => rw [e] at hq; exact hq
  | .ok (.brk, ρ') => rw [e] at hq; exact hq.elim
  | .ok (.ct, ρ') => rw [e] at hq; exact hq.elim
  | .ok (.ret r, ρ') =>
    rw [e] at hq
    intro σ' F' H' A' R v st so hf rs n
    exact own_new_none (m := m) st so hf rs n hq
  | .ok (.nx, ρ') =>
    rw [e] at hq
    intro σ' F' H' A' st so hf
    exact own_new_none (m := m) (R := []) (v := .non) (r := .z .non) (st.less fun b z => z.elim id fun z => absurd z (by simp)) so hf ⟨rfl, .non⟩ (fun b z => absurd z (by simp)) hq
end

/-! ### the call -/
section
variable {T : Tb} {E : XK} {X : Cx} {σ : L2.St} {F H : Hp} {ρ : Env} {A : Ow} {pos : Pos} {C : Cals}
def dCall (C : Cals) (f np : Nat) (ds : DEs) : DO := fun ρ => ds ρ >>= fun a => if a.1.length = np then match C f (a.1.map .z) with
    | .ok (r, none) => .ok (r, a.2)
    | .ok (_, some _) => .bad
    | .exc c => .exc c
    | .bad => .bad
  else .bad
theorem sok_args {vs : List V} {ps : List PV} (l : Le F H) (r : RzL T F vs ps) : SOk T F H (vs.map some) ((ps.map SV.z).map some) Nul where
  len := by simp [r.length]
  slot := fun i p e => by
    simp only [List.map_map, List.getElem?_map, Option.map_eq_some_iff] at e
    obtain ⟨q, e1, e2⟩ := e
    cases e2
    obtain ⟨v, h1, h2⟩ := r.get e1
    exact ⟨v, by simp [h1], rfl, h2⟩
  dj := fun i j b h => absurd h (by simp [Nul])
  fh := l
  nf := fun i b h => absurd h (by simp [Nul])
  lv := fun i b h => absurd h (by simp [Nul])
theorem own_nul {b : Addr} : ¬ Own Nul b := fun ⟨_, h⟩ => absurd h (by simp [Nul])
theorem call_post {f np : Nat} {vs : List V} {ps : List PV} {Q : VK} (so : SOk T F H σ ρ A) (r : RzL T F vs ps) (q : PostO T E F H σ A Q (if ps.length = np then match C f (ps.map .z) with
    | .ok (r, none) => .ok (r, ρ)
    | .ok (_, some _) => .bad
    | .exc c => .exc c
    | .bad => .bad
  else .bad)) : spG T C f np vs H Q E := by
  by_cases z : ps.length = np
  case neg => rw [if_neg z] at q; exact q.elim
  rw [if_pos z] at q
  refine ⟨r.length.trans z, F, ps.map .z, Nul, sok_args so.fh r, ?_⟩
  match e : C f (ps.map .z) with
  | .bad => rw [e] at q; exact q.elim
  | .exc c =>
    rw [e] at q
    exact fun F' H' st => q F' H' (st.weak fun b h => absurd h own_nul)
  | .ok (_, some _) => rw [e] at q; exact q.elim
  | .ok (r, none) =>
    rw [e] at q
    intro F' H' R0 R v st e0 rs n
    cases e0
    have st0 : Stp Nil F H (fun b => b ∈ R) F' H' := (st.weak (fun b h => absurd h own_nul)).less fun b z => .inr z
    have fr := st0.frame (T := Own A) (fun b ⟨i, h⟩ => so.lv i b h) (fun _ _ q => q) (fun b ⟨i, h⟩ => so.nf i b h)
    refine q F' H' A R v ((fr.weak fun b q => q.elim False.elim id).less fun b q => q.symm) (so.step st0 fun _ q => q.elim) rs fun b hb hA => ?_
    rcases st0.nw b hb with q | q
    · exact q
    · obtain ⟨i, hi⟩ := hA
      exact so.lv i b hi q
theorem call_imp {f np : Nat} {ds : DEs} {Q : VK} (h : tO T E (dCall C f np ds) σ H Q) : tL T E ds σ H fun vs H1 => spG T C f np vs H1 Q E := by
  obtain ⟨F, ρ, A, s, q⟩ := h
  exact ⟨F, ρ, A, s, (PostO.bind q).imp fun ps ρ1 F1 H1 A1 st1 so1 q1 vs rv => call_post so1 rv q1⟩
/-- .. where the first argument is the list in slot i, lent -/
def dCallL (C : Cals) (f np i : Nat) (ds : DEs) : DO := fun ρ => if isO ρ i then ds ρ >>= fun a => if a.1.length + 1 = np then match a.2[i]? with
    | some (some (.o xs)) => match C f (.o xs :: a.1.map .z) with
      | .ok (r, some b) => .ok (r, a.2.set i (some b))
      | .ok (_, none) => .bad
      | .exc c => .exc c
      | .bad => .bad
    | _ => .bad
  else .bad else .bad
theorem sok_argsL {v : V} {xs : List PV} {vs : List V} {ps : List PV} {as : List Addr} (l : Le F H) (rs : RS T F H v (.o xs) as) (nf : ∀ b ∈ as, F b = none) (r : RzL T F vs ps) : SOk T F H ((v :: vs).map some) ((SV.o xs :: ps.map SV.z).map some) (Ow1 as) where
  len := by simp [r.length]
  slot := fun i p e => by
    cases i with
    | zero =>
      simp at e
      subst e
      exact ⟨v, rfl, rs⟩
    | succ i =>
      simp only [List.map_cons, List.getElem?_cons_succ, List.map_map, List.getElem?_map, Option.map_eq_some_iff] at e
      obtain ⟨q, e1, e2⟩ := e
      cases e2
      obtain ⟨v, h1, h2⟩ := r.get e1
      exact ⟨v, by simp [h1], by simp [Ow1], h2⟩
  dj := fun i j b hi hj => by
    unfold Ow1 at hi hj
    split at hi <;> split at hj <;> first | omega | (simp at hi; done) | (simp at hj; done)
  fh := l
  nf := fun i b h => by
    unfold Ow1 at h
    split at h
    · exact nf b h
    · simp at h
  lv := fun i b h => by
    unfold Ow1 at h
    split at h
    · exact rs.live b h
    · simp at h
theorem own_ow1 {as : List Addr} {b : Addr} (h : Own (Ow1 as) b) : b ∈ as := by
  obtain ⟨i, h⟩ := h
  unfold Ow1 at h
  split at h
  · exact h
  · simp at h
theorem callL_post {f np i : Nat} {v0 : V} {vs : List V} {ps : List PV} {Q : VK} (so : SOk T F H σ ρ A) (hi : σ[i]? = some (some v0)) (r : RzL T F vs ps) (q : PostO T E F H σ A Q (if ps.length + 1 = np then match ρ[i]? with
    | some (some (.o xs)) => match C f (.o xs :: ps.map .z) with
      | .ok (r, some b) => .ok (r, ρ.set i (some b))
      | .ok (_, none) => .bad
      | .exc c => .exc c
      | .bad => .bad
    | _ => .bad
  else .bad)) : spG T C f np (v0 :: vs) H Q E := by
  by_cases z : ps.length + 1 = np
  case neg => rw [if_neg z] at q; exact q.elim
  rw [if_pos z] at q
  split at q
  case h_2 => exact q.elim
  rename_i xs e0
  have rs0 := so.at e0 hi
  have hil := lt_of_get e0
  refine ⟨by rw [List.length_cons, r.length]; exact z, F, _, Ow1 (A i), sok_argsL so.fh rs0 (so.nf i) r, ?_⟩
  match e : C f (.o xs :: ps.map .z) with
  | .bad => rw [e] at q; exact q.elim
  | .exc c =>
    rw [e] at q
    exact fun F' H' st => q F' H' (st.weak fun b h => ⟨i, own_ow1 h⟩)
  | .ok (_, none) => rw [e] at q; exact q.elim
  | .ok (r, some bk) =>
    rw [e] at q
    intro F' H' R0 R v st e1 rs n
    obtain ⟨w, ew, rb⟩ := e1
    cases ew
    have st0 : Stp (fun b => b ∈ A i) F H (fun b => b ∈ R0 ∨ b ∈ R) F' H' := st.weak fun b h => own_ow1 h
    have fr := st0.frame (T := fun b => ∃ j, j ≠ i ∧ b ∈ A j) (fun b ⟨j, _, h⟩ => so.lv j b h) (fun b ⟨j, z, h⟩ q => z (so.dj _ _ _ h q)) (fun b ⟨j, _, h⟩ => so.nf j b h)
    have far : ∀ b, b ∈ R0 ∨ b ∈ R → ∀ j, j ≠ i → b ∉ A j := fun b hb j zj hj => by
      rcases st0.nw b hb with q | q
      · exact zj (so.dj _ _ _ hj q)
      · exact so.lv j b hj q
    have own2 : ∀ b, Own (A.put i R0) b → b ∈ R0 ∨ ∃ j, j ≠ i ∧ b ∈ A j := fun b ⟨j, hb⟩ => by
      by_cases zj : j = i
      · rw [zj, Ow.put_same] at hb; exact .inl hb
      · rw [Ow.put_ne _ _ zj] at hb; exact .inr ⟨j, zj, hb⟩
    refine q F' H' (A.put i R0) R v ((fr.weak fun b q => q.elim (fun q => ⟨i, q⟩) fun ⟨j, _, q⟩ => ⟨j, q⟩).less fun b q => q.elim (fun q => (own2 b q).imp .inl id) fun q => .inl (.inr q)) ?_ rs fun b hb hA => ?_
    · refine ⟨by rw [List.length_set]; exact so.len, fun j p ej => ?_, fun j k b hj hk => ?_, st.fh, fun j b hb => ?_, fun j b hb => ?_⟩
      · by_cases zj : j = i
        · subst zj
          rw [List.getElem?_set_self hil] at ej
          cases ej
          rw [Ow.put_same]
          exact ⟨v0, hi, rb⟩
        · rw [List.getElem?_set_ne (Ne.symm zj)] at ej
          rw [Ow.put_ne _ _ zj]
          obtain ⟨w, g1, g2⟩ := so.slot j p ej
          exact ⟨w, g1, g2.mono st.ff fun b hb o eo => st0.fr b o eo fun q => zj (so.dj _ _ _ hb q)⟩
      · by_cases zj : j = i
        · by_cases zk : k = i
          · rw [zj, zk]
          · rw [zj, Ow.put_same] at hj
            rw [Ow.put_ne _ _ zk] at hk
            exact absurd hk (far b (.inl hj) k zk)
        · rw [Ow.put_ne _ _ zj] at hj
          by_cases zk : k = i
          · rw [zk, Ow.put_same] at hk
            exact absurd hj (far b (.inl hk) j zj)
          · rw [Ow.put_ne _ _ zk] at hk
            exact so.dj _ _ _ hj hk
      · rcases own2 b ⟨j, hb⟩ with q | ⟨k, zk, q⟩
        · exact st.nf b (.inl q)
        · exact fr.nf b (.inr ⟨k, zk, q⟩)
      · rcases own2 b ⟨j, hb⟩ with q | ⟨k, zk, q⟩
        · exact rb.live b q
        · intro hn
          cases eh : H b with
          | none => exact so.lv k b q eh
          | some o =>
            have := st0.fr b o eh fun q2 => zk (so.dj _ _ _ q q2)
            rw [this] at hn; cases hn
    · rcases own2 b hA with q | ⟨j, zj, q⟩
      · exact n b hb q
      · exact far b (.inr hb) j zj q
theorem callL_imp {f np i : Nat} {ds : DEs} {Q : VK} (h : tO T E (dCallL C f np i ds) σ H Q) : tVar i σ H fun x H1 => tL T E ds σ H1 fun vs H2 => spG T C f np (x :: vs) H2 Q E := by
  obtain ⟨F, ρ, A, s, q⟩ := h
  unfold dCallL at q
  by_cases e0 : isO ρ i = true
  case neg => rw [if_neg e0] at q; exact q.elim
  rw [if_pos e0] at q
  obtain ⟨a, vs, h1, h2⟩ := isO_at s e0
  exact ⟨.ref a, h1, F, ρ, A, s, (PostO.bind q).imp fun ps ρ1 F1 H1 A1 st1 so1 q1 vs rv => callL_post so1 h1 rv q1⟩
end
end Dn

/-! DnJ: list methods, several own values at once, stores into lists, looks that freeze nothing. -/
namespace Dn
open PySem PySem.Spec PyProof.Rows L2

/-! ### methods -/
section
variable {T : Tb} {E : XK} {X : Cx} {pos : Pos}
def gAppend : List PV → List PV → Option (PV × List PV) := fun xs ps => match ps with
  | [p] => if xs.length < sizeLine then some (.non, xs ++ [p]) else none
  | _ => none
theorem m_append : MtS T rAppend gAppend := by
  intro a vs xs ws ps r ys F H Q l ha rx rw' e k
  unfold gAppend at e
  split at e
  · split at e
    · rename_i z
      cases e
      obtain ⟨y, rfl, ry⟩ := rz1 rw'
      exact ⟨a, vs, y, rfl, rfl, ha, by rw [rx.length]; exact z, k _ _ .non (rx.app (RzL.one ry))⟩
    · cases e
  · cases e
def gExtend : List PV → List PV → Option (PV × List PV) := fun xs ps => match ps with
  | [.lst zs] => if xs.length + zs.length ≤ sizeLine then some (.non, xs ++ zs) else none
  | _ => none
theorem m_extend : MtS T rExtend gExtend := by
  intro a vs xs ws ps r ys F H Q l ha rx rw' e k
  unfold gExtend at e
  split at e
  · split at e
    · rename_i z
      cases e
      obtain ⟨y, rfl, ry⟩ := rz1 rw'
      cases ry with
      | lst h1 h2 => exact ⟨a, _, vs, _, rfl, rfl, ha, l _ _ h1, by rw [rx.length, h2.length]; exact z, k _ _ .non (rx.app h2)⟩
    · cases e
  · cases e
def gPop : List PV → List PV → Option (PV × List PV) := fun xs ps => match ps with
  | [] => match xs[xs.length - 1]? with
    | some y => some (y, xs.dropLast)
    | none => none
  | _ => none
theorem RzL.dropLast {F : Hp} {vs : List V} {ps : List PV} (r : RzL T F vs ps) : RzL T F vs.dropLast ps.dropLast := by
  rw [List.dropLast_eq_take, List.dropLast_eq_take, r.length]
  exact r.take _
theorem m_pop : MtS T rPop gPop := by
  intro a vs xs ws ps r ys F H Q l ha rx rw' e k
  unfold gPop at e
  split at e
  · split at e
    · rename_i y z
      cases e
      cases rw'
      obtain ⟨w, h1, h2⟩ := rx.get z
      exact ⟨a, vs, w, rfl, rfl, ha, by rw [rx.length]; exact h1, k _ _ h2 rx.dropLast⟩
    · cases e
  · cases e
def gPopAt : List PV → List PV → Option (PV × List PV) := fun xs ps => match ps with
  | [.int i] => if smallI i then match seqIndex? i xs.length with
    | some j => match xs[j]? with
      | some y => some (y, xs.eraseIdx j)
      | none => none
    | none => none
    else none
  | _ => none
theorem RzL.eraseIdx {F : Hp} : ∀ {vs : List V} {ps : List PV} (j : Nat), RzL T F vs ps → RzL T F (vs.eraseIdx j) (ps.eraseIdx j)
  | _, _, _, .nil => .nil
  | _, _, 0, .cons _ t => t
  | _, _, j + 1, .cons r t => .cons r (RzL.eraseIdx j t)
theorem m_popAt : MtS T rPopAt gPopAt := by
  intro a vs xs ws ps r ys F H Q l ha rx rw' e k
  unfold gPopAt at e
  split at e
  · rename_i i
    split at e
    · rename_i hs
      split at e
      · rename_i j hj
        split at e
        · rename_i y hy
          cases e
          obtain ⟨x, rfl, ri⟩ := rz1 rw'
          cases ri
          obtain ⟨w, h1, h2⟩ := rx.get hy
          simp only [smallI, Bool.and_eq_true, decide_eq_true_eq] at hs
          exact ⟨a, vs, i, j, w, rfl, rfl, ha, by omega, by omega, by rw [rx.length]; exact hj, h1, k _ _ h2 (rx.eraseIdx j)⟩
        · cases e
      · cases e
    · cases e
  · cases e
/-- the place of the first equal one -/
def ixOf (d : PV) : List PV → Option Nat
  | [] => none
  | x :: xs => if PyData.eqv x.toD d.toD then some 0 else (ixOf d xs).map (· + 1)
theorem ixOf_some {d : PV} : ∀ {xs : List PV} {j : Nat}, ixOf d xs = some j → ∃ z, xs[j]? = some z ∧ PyData.eqv z.toD d.toD = true ∧ ∀ m z', m < j → xs[m]? = some z' → PyData.eqv z'.toD d.toD = false
  | [], _, e => by cases e
  | x :: xs, j, e => by
    unfold ixOf at e
    split at e
    · rename_i h
      cases e
      exact ⟨x, rfl, h, fun m _ hm => absurd hm (Nat.not_lt_zero _)⟩
    · rename_i h
      cases q : ixOf d xs with
      | none => rw [q] at e; cases e
      | some i =>
        rw [q] at e
        cases e
        obtain ⟨z, h1, h2, h3⟩ := ixOf_some q
        refine ⟨z, by simpa using h1, h2, fun m z' hm hz => ?_⟩
        cases m with
        | zero => simp at hz; subst hz; simpa using h
        | succ m => exact h3 m z' (Nat.lt_of_succ_lt_succ hm) (by simpa using hz)
def gIndex : List PV → List PV → Option (PV × List PV) := fun xs ps => match ps with
  | [d] => if PV.dat 60 d && PV.dat 60 (.lst xs) then match ixOf d xs with
    | some j => some (.int (j : Nat), xs)
    | none => none
    else none
  | _ => none
theorem m_index : MtS T (rIndexD T.K) gIndex := by
  intro a vs xs ws ps r ys F H Q l ha rx rw' e k
  unfold gIndex at e
  split at e
  · split at e
    · rename_i d hd
      simp only [Bool.and_eq_true] at hd
      split at e
      · rename_i j hj
        cases e
        obtain ⟨y, rfl, ry⟩ := rz1 rw'
        obtain ⟨z, h1, h2, h3⟩ := ixOf_some hj
        have e1 : upd H a (.lst vs) = H := by
          funext b
          by_cases q : b = a
          · rw [q, upd_same, ha]
          · rw [upd_ne q]
        have q := k (.int (j : Nat)) vs (.int _) rx
        rw [e1] at q
        have hds : ∀ p ∈ xs, p.dat 59 = true := by simpa [PV.dat] using hd.2
        refine ⟨a, y, d.toD, PV.toDs xs, j, z.toD, rfl, rfl, .lst (.inl (.inl ha)) (rx.dp l 59 hds), ry.dp l 60 hd.1, ?_, dat_shaped hd.1, ?_, h2, fun m z' hm hz => ?_, q⟩
        · have := dat_shaped hd.2
          simpa [PV.toD] using this
        · rw [toDs_map, List.getElem?_map, h1]; rfl
        · rw [toDs_map, List.getElem?_map] at hz
          cases q2 : xs[m]? with
          | none => rw [q2] at hz; cases hz
          | some z2 => rw [q2] at hz; cases hz; exact h3 m z2 hm q2
      · cases e
    · cases e
  · cases e
end

/-! ### several own values -/
section
inductive RSs (T : Tb) (F H : Hp) : List V → List SV → List (List Addr) → Prop
  | nil : RSs T F H [] [] []
  | cons {v : V} {r : SV} {R : List Addr} {vs : List V} {rs : List SV} {Rs : List (List Addr)} : RS T F H v r R → RSs T F H vs rs Rs → (∀ b ∈ R, ∀ R' ∈ Rs, b ∉ R') → RSs T F H (v :: vs) (r :: rs) (R :: Rs)
def InR (Rs : List (List Addr)) (b : Addr) : Prop := ∃ R ∈ Rs, b ∈ R
theorem RSs.length {T : Tb} {F H : Hp} : ∀ {vs : List V} {rs : List SV} {Rs : List (List Addr)}, RSs T F H vs rs Rs → vs.length = rs.length
  | _, _, _, .nil => rfl
  | _, _, _, .cons _ t _ => congrArg (· + 1) t.length
theorem RSs.mono {T : Tb} {F H F' H' : Hp} (l : Le F F') : ∀ {vs : List V} {rs : List SV} {Rs : List (List Addr)}, RSs T F H vs rs Rs → (∀ b, InR Rs b → ∀ o, H b = some o → H' b = some o) → RSs T F' H' vs rs Rs
  | _, _, _, .nil, _ => .nil
  | _, _, _, .cons r t dj, k => .cons (r.mono l fun b hb o eo => k b ⟨_, List.mem_cons_self, hb⟩ o eo) (RSs.mono l t fun b ⟨R, hR, hb⟩ o eo => k b ⟨R, List.mem_cons_of_mem _ hR, hb⟩ o eo) dj
variable (T : Tb) (E : XK)
abbrev DOs := Env → Res (List SV × Env)
def PostOs (F H : Hp) (σ : L2.St) (A : Ow) (Q : List V → Hp → Prop) : Res (List SV × Env) → Prop
  | .ok (rs, ρ') => ∀ F' H' A' Rs vs, Stp (Own A) F H (fun b => Own A' b ∨ InR Rs b) F' H' → SOk T F' H' σ ρ' A' → RSs T F' H' vs rs Rs → (∀ b, InR Rs b → ¬ Own A' b) → Q vs H'
  | .exc c => ∀ F' H', Stp (Own A) F H Nil F' H' → E (T.cls c) none H'
  | .bad => False
def tLO (d : DOs) : TA := fun σ H Q => ∃ F ρ A, SOk T F H σ ρ A ∧ PostOs T E F H σ A Q (d ρ)
end
section
variable {T : Tb} {E : XK} {X : Cx} {σ : L2.St} {F H F' H' : Hp} {ρ : Env} {A A' : Ow} {pos : Pos}
def dNilO : DOs := fun ρ => .ok ([], ρ)
def dConsO (da : DO) (ds : DOs) : DOs := fun ρ => da ρ >>= fun a => ds a.2 >>= fun b => .ok (a.1 :: b.1, b.2)
theorem pa_nO : PA X [] (tLO T E dNilO) := pa_nil.imp fun σ H Q ⟨F, ρ, A, s, q⟩ => q F H A [] [] (s.refl.less fun b z => z.elim id fun ⟨_, h, _⟩ => absurd h (by simp)) s .nil fun b ⟨_, h, _⟩ => absurd h (by simp)
theorem pa_cO {e : Expr} {es : List Expr} {da : DO} {ds : DOs} (ns : notStar e = true) (ha : PE X e (tO T E da)) (hs : PA X es (tLO T E ds)) : PA X (e :: es) (tLO T E (dConsO da ds)) :=
  (pa_cons ha hs (star_of ns _ _)).imp fun σ H Q ⟨F, ρ, A, s, q⟩ => by
    refine ⟨F, ρ, A, s, ?_⟩
    unfold dConsO at q
    match e1 : da ρ with
    | .bad => rw [e1] at q; exact q.elim
    | .exc c => rw [e1] at q; exact q
    | .ok (r1, ρ1) =>
      rw [e1] at q
      intro F1 H1 A1 R1 v1 st1 so1 rs1 n1
      refine ⟨F1, ρ1, A1, so1, ?_⟩
      have fr1 : ∀ {O' : Addr → Prop} {F2 H2 : Hp}, Stp (Own A1) F1 H1 O' F2 H2 → Stp (fun b => Own A1 b ∨ b ∈ R1) F1 H1 (fun b => O' b ∨ b ∈ R1) F2 H2 := fun st =>
        st.frame (T := fun b => b ∈ R1) (fun b hb => rs1.live b hb) (fun b hb => n1 b hb) (fun b hb => st1.nf b (.inr hb))
      replace q : PostOs T E F H σ A Q ((ds ρ1) >>= fun b => .ok (r1 :: b.1, b.2)) := q
      match e2 : ds ρ1 with
      | .bad => rw [e2] at q; exact q.elim
      | .exc c =>
        rw [e2] at q
        intro F2 H2 st2
        exact q F2 H2 (st1.trans ((fr1 st2).less fun b z => z.elim))
      | .ok (rs2, ρ2) =>
        rw [e2] at q
        intro F2 H2 A2 Rs vs st2 so2 rss n2
        have far : ∀ b ∈ R1, ∀ {O' : Addr → Prop}, (∀ c, O' c → Own A1 c ∨ H1 c = none) → ¬ O' b := fun b hb O' h z => by
          rcases h b z with w | w
          · exact n1 b hb w
          · exact rs1.live b hb w
        refine q F2 H2 A2 (R1 :: Rs) (v1 :: vs) ((st1.trans (fr1 st2)).less fun b z => ?_) so2 (.cons (rs1.mono st2.ff fun b hb o eo => st2.fr b o eo (n1 b hb)) rss fun b hb R' hR' hb' => ?_) fun b ⟨R, hR, hb⟩ => ?_
        · rcases z with z | ⟨R, hR, hb⟩
          · exact .inl (.inl z)
          · rcases List.mem_cons.mp hR with rfl | hR
            · exact .inr hb
            · exact .inl (.inr ⟨R, hR, hb⟩)
        · exact far b hb (O' := InR Rs) (fun c hc => st2.nw c (.inr hc)) ⟨R', hR', hb'⟩
        · rcases List.mem_cons.mp hR with rfl | hR
          · exact far b hb (O' := Own A2) fun c hc => st2.nw c (.inl hc)
          · exact n2 b ⟨R, hR, hb⟩
/-- slots get new contents, from the left -/
def puts : List Nat → List SV → Env → Option Env
  | [], [], ρ => some ρ
  | i :: is, r :: rs, ρ => puts is rs (ρ.set i (some r))
  | _, _, _ => none
def putV : List Nat → List V → L2.St → Option L2.St
  | [], [], σ => some σ
  | i :: is, v :: vs, σ => putV is vs (σ.set i (some v))
  | _, _, _ => none
theorem puts_ok {fx : Nat → Prop} : ∀ {is : List Nat} {rs : List SV} {ρ ρ2 : Env} {σ : L2.St} {A : Ow} {vs : List V} {Rs : List (List Addr)}, (∀ i ∈ is, ¬ fx i) → SOk T F H σ ρ A → RSs T F H vs rs Rs → (∀ b, InR Rs b → ¬ Own A b) → (∀ b, InR Rs b → F b = none) → puts is rs ρ = some ρ2 →
    ∃ σ2 A2, putV is vs σ = some σ2 ∧ Stp (fun b => Own A b ∨ InR Rs b) F H (Own A2) F H ∧ SOk T F H σ2 ρ2 A2 ∧ FxOk fx σ σ2
  | [], _, ρ, ρ2, σ, A, _, _, hx, so, .nil, n, nf, e => by
    cases e
    exact ⟨σ, A, rfl, so.refl.weak fun b z => .inl z, so, FxOk.refl' _ _⟩
  | [], _, _, _, _, _, _, _, hx, so, .cons _ _ _, n, nf, e => by cases e
  | i :: is, _, _, _, _, _, _, _, hx, so, .nil, n, nf, e => by cases e
  | i :: is, _, ρ, ρ2, σ, A, _, _, hx, so, .cons (v := v) (r := r) (R := R) (vs := vs) (rs := rs) (Rs := Rs) rs1 t dj, n, nf, e => by
    obtain ⟨st1, so1⟩ := put_ok so rs1 (fun b hb => n b ⟨R, List.mem_cons_self, hb⟩) (fun b hb => nf b ⟨R, List.mem_cons_self, hb⟩) i
    have own1 : ∀ b, Own (A.put i R) b → Own A b ∨ b ∈ R := fun b ⟨j, hb⟩ => by
      by_cases z : j = i
      · rw [z, Ow.put_same] at hb; exact .inr hb
      · rw [Ow.put_ne _ _ z] at hb; exact .inl ⟨j, hb⟩
    have f1 : FxOk fx σ (σ.set i (some v)) := set_fx (hx i List.mem_cons_self)
    obtain ⟨σ2, A2, h1, h2, h3, h4⟩ := puts_ok (fx := fx) (is := is) (fun j hj => hx j (List.mem_cons_of_mem _ hj)) so1 t (fun b ⟨R', hR', hb'⟩ z => by
      rcases own1 b z with z | z
      · exact n b ⟨R', List.mem_cons_of_mem _ hR', hb'⟩ z
      · exact dj b z R' hR' hb') (fun b ⟨R', hR', hb'⟩ => nf b ⟨R', List.mem_cons_of_mem _ hR', hb'⟩) e
    refine ⟨σ2, A2, h1, ?_, h3, f1.trans h4⟩
    exact h2.weak fun b z => z.elim (fun z => (own1 b z).elim .inl fun z => .inr ⟨R, List.mem_cons_self, z⟩) fun ⟨R', hR', hb'⟩ => .inr ⟨R', List.mem_cons_of_mem _ hR', hb'⟩
def dPar (is : List Nat) (ds : DOs) : DS := fun ρ => ds ρ >>= fun a => match puts is a.1 a.2 with
  | some ρ' => .ok (.nx, ρ')
  | none => .bad
theorem par_imp {fx : Nat → Prop} {is : List Nat} {ds : DOs} {D : Ends} (hx : ∀ i ∈ is, ¬ fx i) (h : tS T E fx (dPar is ds) D σ H) : tLO T E ds σ H fun vs H1 => ∃ σ2, putV is vs σ = some σ2 ∧ D.nx σ2 H1 := by
  obtain ⟨F, ρ, A, s, q⟩ := h
  refine ⟨F, ρ, A, s, ?_⟩
  unfold dPar at q
  match e : ds ρ with
  | .bad => rw [e] at q; exact q.elim
  | .exc c => rw [e] at q; exact q
  | .ok (rs, ρ1) =>
    rw [e] at q
    intro F1 H1 A1 Rs vs st so rss n
    replace q : PostS T E fx F H σ A D (match puts is rs ρ1 with
      | some ρ' => .ok (.nx, ρ')
      | none => .bad) := q
    split at q
    · rename_i ρ2 e2
      obtain ⟨σ2, A2, h1, h2, h3, h4⟩ := puts_ok (fx := fx) hx so rss n (fun b hb => st.nf b (.inr hb)) e2
      exact ⟨σ2, h1, q σ2 F1 H1 A2 (st.trans h2) h3 h4⟩
    · exact q.elim
theorem ps_p2 {fx : Nat → Prop} {i j : Nat} {x y : Str} {a b : Expr} {ds : DOs} {px py pt : Pos} {kt k2 : Nat} {pt2 : Pos} (hxi : ¬ fx i) (hxj : ¬ fx j) (hc : X.calm = true) (hN : X.N.Nodup) (hi : X.N[i]? = some x) (hj : X.N[j]? = some y) (hij : i ≠ j)
    (hx : X.env.scope.names.lookup x = some .local) (hy : X.env.scope.names.lookup y = some .local) (ha : PA X [a, b] (tLO T E ds))
    (hw : swappedStores [.Tuple [.Name x px, .Name y py] kt pt] (.Tuple [a, b] k2 pt2) X.env = pure (some [x, y])) :
    PS X (.Assign [.Tuple [.Name x px, .Name y py] kt pt] (.Tuple [a, b] k2 pt2) pos) (tS T E fx (dPar [i, j] ds)) :=
  (ps_par hc hN hi hj hij hx hy ha hw rfl).imp fun D σ H h => by
    obtain ⟨F, ρ, A, s, q⟩ := par_imp (fx := fx) (by intro k hk; simp at hk; rcases hk with rfl | rfl; exact hxi; exact hxj) h
    refine ⟨F, ρ, A, s, ?_⟩
    match e : ds ρ with
    | .bad => rw [e] at q; exact q.elim
    | .exc c => rw [e] at q; exact q
    | .ok (rs, ρ1) =>
      rw [e] at q
      intro F1 H1 A1 Rs vs st so rss n
      obtain ⟨σ2, h1, h2⟩ := q F1 H1 A1 Rs vs st so rss n
      match vs, h1 with
      | [v, w], h1 => cases h1; exact ⟨v, w, rfl, h2⟩
      | [], h1 => cases h1
      | [_], h1 => cases h1
      | _ :: _ :: _ :: _, h1 => cases h1
theorem ps_p3 {fx : Nat → Prop} {i j l : Nat} {x y z : Str} {a b c : Expr} {ds : DOs} {px py pz pt : Pos} {kt k2 : Nat} {pt2 : Pos} (hxi : ¬ fx i) (hxj : ¬ fx j) (hxl : ¬ fx l) (hc : X.calm = true) (hN : X.N.Nodup) (hi : X.N[i]? = some x) (hj : X.N[j]? = some y) (hl : X.N[l]? = some z) (hij : i ≠ j) (hil : i ≠ l) (hjl : j ≠ l)
    (hx : X.env.scope.names.lookup x = some .local) (hy : X.env.scope.names.lookup y = some .local) (hz : X.env.scope.names.lookup z = some .local) (ha : PA X [a, b, c] (tLO T E ds))
    (hw : swappedStores [.Tuple [.Name x px, .Name y py, .Name z pz] kt pt] (.Tuple [a, b, c] k2 pt2) X.env = pure (some [x, y, z])) :
    PS X (.Assign [.Tuple [.Name x px, .Name y py, .Name z pz] kt pt] (.Tuple [a, b, c] k2 pt2) pos) (tS T E fx (dPar [i, j, l] ds)) :=
  (ps_par3 hc hN hi hj hl hij hil hjl hx hy hz ha hw rfl).imp fun D σ H h => by
    obtain ⟨F, ρ, A, s, q⟩ := par_imp (fx := fx) (by intro k hk; simp at hk; rcases hk with rfl | rfl | rfl; exact hxi; exact hxj; exact hxl) h
    refine ⟨F, ρ, A, s, ?_⟩
    match e : ds ρ with
    | .bad => rw [e] at q; exact q.elim
    | .exc c => rw [e] at q; exact q
    | .ok (rs, ρ1) =>
      rw [e] at q
      intro F1 H1 A1 Rs vs st so rss n
      obtain ⟨σ2, h1, h2⟩ := q F1 H1 A1 Rs vs st so rss n
      match vs, h1 with
      | [u, v, w], h1 => cases h1; exact ⟨u, v, w, rfl, h2⟩
      | [], h1 => cases h1
      | [_], h1 => cases h1
      | [_, _], h1 => cases h1
      | _ :: _ :: _ :: _ :: _, h1 => cases h1
/-- names that are stored one behind another -/
inductive Nms (X : Cx) : List Expr → List Nat → Prop
  | nil : Nms X [] []
  | cons {x : Str} {p : Pos} {i : Nat} {es : List Expr} {is : List Nat} (hx : X.N[i]? = some x) (hl : Loc X.env.scope x) (hf : X.fn x = true ∨ X.env.scope.names.lookup x = some .local) : Nms X es is → Nms X (.Name x p :: es) (i :: is)
def tPut : List Nat → TGs
  | [] => gsN
  | i :: is => gsC (gName i) (tPut is)
where
  gsN : TGs := fun vs σ H Q => vs = [] ∧ Q σ H
  gsC (g : TG) (gs : TGs) : TGs := fun vs σ H Q => ∃ v ws, vs = v :: ws ∧ g v σ H fun σ1 H1 => gs ws σ1 H1 Q
theorem each_star {es : List Expr} {is : List Nat} (h : Nms X es is) (env : PySem.Env) : (assignEach es env).length = es.length ∧ (assignEach es env).findIdx? (·.1) = none := by
  induction h with
  | nil => exact ⟨rfl, rfl⟩
  | cons hx hl hf t ih =>
    obtain ⟨a, b⟩ := ih
    refine ⟨congrArg (· + 1) a, ?_⟩
    show List.findIdx? (·.1) ((false, _) :: _) = none
    rw [List.findIdx?_cons]
    simp [b]
theorem nms_pgs (hN : X.N.Nodup) {es : List Expr} {is : List Nat} (h : Nms X es is) : PGs X es (fun vs σ H Q => ∃ σ2, putV is vs σ = some σ2 ∧ Q σ2 H) := by
  induction h with
  | nil =>
    exact pgs_nil.imp fun vs σ H Q ⟨σ2, h1, h2⟩ => match vs, h1 with
      | [], h1 => by
        cases h1
        exact ⟨rfl, h2⟩
  | @cons x p i es is hx hl hf t ih =>
    exact (pgs_cons (pg_name hN hx hl hf) ih rfl).imp fun vs σ H Q ⟨σ2, h1, h2⟩ => match vs, h1 with
      | v :: vs, h1 => ⟨v, vs, rfl, σ2, h1, h2⟩
theorem ps_pn {fx : Nat → Prop} {is : List Nat} {ts es : List Expr} {ds : DOs} {pt : Pos} {kt k2 : Nat} {pt2 : Pos} (hx : ∀ i ∈ is, ¬ fx i) (hc : X.calm = true) (hN : X.N.Nodup) (hn : Nms X ts is) (hl : ts.length ≤ sizeLine) (ha : PA X es (tLO T E ds))
    (hw : swappedStores [.Tuple ts kt pt] (.Tuple es k2 pt2) X.env = pure none) :
    PS X (.Assign [.Tuple ts kt pt] (.Tuple es k2 pt2) pos) (tS T E fx (dPar is ds)) :=
  (ps_asg (pe_tup ha) (pg_tup (n := ts.length) hc (nms_pgs hN hn) (each_star hn _).1 (each_star hn _).2) rfl hw rfl).imp fun D σ H h => by
    obtain ⟨F, ρ, A, s, q⟩ := par_imp (fx := fx) hx h
    refine ⟨F, ρ, A, s, ?_⟩
    match e : ds ρ with
    | .bad => rw [e] at q; exact q.elim
    | .exc c => rw [e] at q; exact q
    | .ok (rs, ρ1) =>
      rw [e] at q
      intro F1 H1 A1 Rs vs st so rss n
      obtain ⟨σ2, h1, h2⟩ := q F1 H1 A1 Rs vs st so rss n
      have len : ∀ {is : List Nat} {vs : List V} {σ σ2 : L2.St}, putV is vs σ = some σ2 → vs.length = is.length := by
        intro is
        induction is with
        | nil => intro vs σ σ2 h; cases vs with
          | nil => rfl
          | cons _ _ => cases h
        | cons i is ih => intro vs σ σ2 h; cases vs with
          | nil => cases h
          | cons v vs => exact congrArg (· + 1) (ih (σ := σ.set i (some v)) h)
      have nl : ∀ {es : List Expr} {is : List Nat}, Nms X es is → es.length = is.length := fun h => by
        induction h with
        | nil => rfl
        | cons _ _ _ _ ih => exact congrArg (· + 1) ih
      have l1 : vs.length = ts.length := (len h1).trans (nl hn).symm
      refine ⟨by omega, fun p hp => ⟨p, vs, rfl, .inl (.inl upd_same), l1, σ2, h1, ?_⟩⟩
      -- the tuple lies beside
      have s0 : Stp Nil F1 H1 Nil F1 (upd H1 p (.tup vs)) := ⟨Le.refl _, fun b u q => by
        have : b ≠ p := fun z => by rw [z] at q; rw [so.fh _ _ q] at hp; cases hp
        rw [upd_ne this]; exact so.fh _ _ q, fun b u q _ => by
        have : b ≠ p := fun z => by rw [z, hp] at q; cases q
        rw [upd_ne this]; exact q, fun b q n => absurd n q, fun _ q => q.elim, fun _ q => q.elim⟩
      have fr := s0.frame (T := fun b => Own A1 b ∨ InR Rs b) (fun b z => z.elim (fun ⟨i, h⟩ => so.lv i b h) fun ⟨R, hR, hb⟩ => by
          have lv : ∀ {vs : List V} {rs : List SV} {Rs : List (List Addr)}, RSs T F1 H1 vs rs Rs → ∀ R ∈ Rs, ∀ b ∈ R, H1 b ≠ none := fun h => by
            induction h with
            | nil => intro R hR; simp at hR
            | cons r t _ ih =>
              intro R hR b hb
              rcases List.mem_cons.mp hR with rfl | hR
              · exact r.live b hb
              · exact ih R hR b hb
          exact lv rss R hR b hb) (fun _ _ q => q) (fun b z => st.nf b z)
      have rss2 : RSs T F1 (upd H1 p (.tup vs)) vs rs Rs := rss.mono (Le.refl _) fun b _ o eo => s0.fr b o eo fun q => q
      obtain ⟨σ3, h3, h4⟩ := q F1 (upd H1 p (.tup vs)) A1 Rs vs (st.trans ((fr.weak fun b z => z.elim False.elim id).less fun b z => .inr z)) (so.step s0 fun _ q => q.elim) rss2 n
      rw [h1] at h3
      cases h3
      exact h4

/-! ### name op= e -/
def dAug (i : Nat) (g : PV → PV → Option PV) (d : DE) : DS := fun ρ => match ρ[i]? with
  | some (some (.z p)) => d ρ >>= fun a => match g p a.1 with
    | some r => .ok (.nx, a.2.set i (some (.z r)))
    | none => .bad
  | _ => .bad
theorem ps_au {fx : Nat → Prop} {i : Nat} {x : Str} {e : Expr} {d : DE} {pos' : Pos} (hi : ¬ fx i) (hN : X.N.Nodup) (hx : X.N[i]? = some x) (hl : Loc X.env.scope x) (hf : X.fn x = true ∨ X.env.scope.names.lookup x = some .local) (he : PE X e (tE T E d)) :
    PS X (.AugAssign (.Name x pos') .Add e pos) (tS T E fx (dAug i (fun p q => match p, q with
      | .int a, .int b => some (.int (a + b))
      | _, _ => none) d)) := (ps_aug hN hx hl he ip_add hf).imp fun D σ H ⟨F, ρ, A, s, q⟩ => by
  unfold dAug at q
  split at q
  · rename_i p e0
    obtain ⟨v, h1, h2⟩ := s.slot i _ e0
    refine ⟨v, h1, F, ρ, A, s, (PostS.bind q).imp fun p2 ρ1 F1 H1 A1 st1 so1 q1 v2 rv2 => ?_⟩
    have rv := h2.2.le st1.ff
    cases p with
    | int a =>
      cases p2 with
      | int b =>
        cases rv
        cases rv2
        refine ⟨a, b, rfl, rfl, ?_⟩
        obtain ⟨st2, so2⟩ := put_ok (R := []) (v := .int (a + b)) (r := .z (.int (a + b))) so1 ⟨rfl, .int _⟩ (fun b z => absurd z (by simp)) (fun b z => absurd z (by simp)) i
        exact q1 _ F1 H1 _ (st2.weak fun b z => z.elim id fun z => absurd z (by simp)) so2 (set_fx hi)
      | _ => exact q1.elim
    | _ => exact q1.elim
  · exact q.elim

/-! ### xs[j] = e -/
def dSt (i : Nat) (dj d : DE) : DS := fun ρ => d ρ >>= fun a => if isO a.2 i then dj a.2 >>= fun b => match b.2[i]?, b.1 with
  | some (some (.o xs)), .int j => match ixN xs.length j with
    | some m => .ok (.nx, b.2.set i (some (.o (xs.set m a.1))))
    | none => .bad
  | _, _ => .bad else .bad
theorem ps_st {fx : Nat → Prop} {i : Nat} {x : Str} {o e : Expr} {dj d : DE} {px sp : Pos} (hx : X.N[i]? = some x) (hv : Vis X.env.scope x) (hd : (x == ("__debug__" : Str)) = false) (hcd : (x == ("__classdict__" : Str)) = false) (nb : notSlice o = true) (ntp : swappedStores [.Subscript (.Name x px) o sp] e X.env = pure none)
    (hj : PE X o (tE T E dj)) (he : PE X e (tE T E d)) : PS X (.Assign [.Subscript (.Name x px) o sp] e pos) (tS T E fx (dSt i dj d)) :=
  (ps_asg he (pg_sub (pe_var hx hv hd hcd) hj set_list (fun v => by cases o <;> first | rfl | (simp [notSlice] at nb))) (by cases e <;> rfl) ntp rfl).imp fun D σ H ⟨F, ρ, A, s, q⟩ => ⟨F, ρ, A, s, (PostS.bind q).imp fun p ρ1 F1 H1 A1 st1 so1 q1 v rv => by
    by_cases e0 : isO ρ1 i = true
    case neg => rw [if_neg e0] at q1; exact q1.elim
    rw [if_pos e0] at q1
    obtain ⟨a, vs, h1, h2⟩ := isO_at so1 e0
    refine ⟨.ref a, h1, F1, ρ1, A1, so1, (PostS.bind q1).imp fun p2 ρ2 F2 H2 A2 st2 so2 q2 w rw' => ?_⟩
    split at q2
    · rename_i xs j e1 e2
      split at q2
      · rename_i m hm
        cases (show p2 = PV.int j from e2)
        cases rw'
        obtain ⟨a', vs1, ea, _, f1, f2⟩ := so2.at e1 h1
        cases ea
        refine ⟨a, vs1, j, m, rfl, rfl, f1, by rw [f2.length]; exact hm, ?_⟩
        obtain ⟨a2, vs2, ea2, g1, g2, st3, so3⟩ := own_write so2 e1 h1 (RzL.set (rv.le st2.ff) m f2)
        cases ea2
        exact q2 σ F2 _ A2 st3 so3 (FxOk.refl' _ _)
      · exact q2.elim
    · exact q2.elim⟩
/-! ### looks that freeze nothing -/
def scal : PV → Bool
  | .non => true
  | .bl _ => true
  | .int _ => true
  | .str _ => true
  | _ => false
theorem scal_rz {F F' : Hp} {v : V} {r : PV} (h : scal r = true) (rz : Rz T F v r) : Rz T F' v r := by
  cases rz <;> first | (simp [scal] at h; done) | constructor
/-- what stands in slot i, as if frozen -/
theorem peek (s : SOk T F H σ ρ A) {i : Nat} {p : SV} (e : ρ[i]? = some (some p)) : ∃ F', Le F F' ∧ Le F' H ∧ ∃ v, σ[i]? = some (some v) ∧ Rz T F' v p.fz := by
  obtain ⟨v, h1, h2⟩ := s.slot i p e
  obtain ⟨ff, fh, rz⟩ := frz_core s.fh h2
  exact ⟨_, ff, fh, v, h1, rz⟩
theorem scal_step {F2 : Hp} (l : Le F F2) (st : Stp Nil F2 H Nil F' H') : Stp Nil F H Nil F H' :=
  ⟨Le.refl F, fun b o q => st.fh b o (st.ff b o (l b o q)), st.fr, fun b q n => absurd n q, fun _ q => q.elim, fun _ q => q.elim⟩
def pk (ρ : Env) (i : Nat) : Option PV := match ρ[i]? with
  | some (some p) => some p.fz
  | _ => none
/-- d op name -/
def dBinR (g : PV → PV → Option PV) (da : DE) (i : Nat) : DE := fun ρ => da ρ >>= fun a => match pk a.2 i with
  | some q => match g a.1 q with
    | some r => if scal r then .ok (r, a.2) else .bad
    | none => .bad
  | none => .bad
theorem binR_imp {R : R2} {g : PV → PV → Option PV} {da : DE} {i : Nat} (hg : OpS T R g) {Q : VK} (h : tE T E (dBinR g da i) σ H Q) : tOp R (tE T E da) (tVar i) σ H Q := by
  obtain ⟨F, ρ, A, s, q⟩ := h
  refine ⟨F, ρ, A, s, (Post.bind q).imp fun p ρ1 F1 H1 A1 st1 so1 q1 v rv => ?_⟩
  unfold pk at q1
  split at q1
  · rename_i p2 e2
    split at e2
    · rename_i p3 e3
      cases e2
      obtain ⟨F2, l1, l2, w, h1, rw'⟩ := peek so1 e3
      refine ⟨w, h1, ?_⟩
      cases e : g p p3.fz with
      | none => simp only [e] at q1; exact q1.elim
      | some r =>
        simp only [e] at q1
        by_cases hs : scal r = true
        · rw [if_pos hs] at q1
          exact hg _ _ _ _ _ F2 H1 Q l2 (rv.le l1) rw' e fun x F3 H3 st3 r3 => q1 F1 H3 A1 (so1.pure (scal_step l1 st3)) (so1.purely (scal_step l1 st3)) x (scal_rz hs r3)
        · rw [if_neg hs] at q1; exact q1.elim
    · cases e2
  · exact q1.elim
/-- name op d -/
def dBinL (g : PV → PV → Option PV) (i : Nat) (db : DE) : DE := fun ρ => match pk ρ i with
  | some _ => db ρ >>= fun b => match pk b.2 i with
    | some p => match g p b.1 with
      | some r => if scal r then .ok (r, b.2) else .bad
      | none => .bad
    | none => .bad
  | none => .bad
theorem pk_at {i : Nat} {p : PV} (s : SOk T F H σ ρ A) (e : pk ρ i = some p) : ∃ F', Le F F' ∧ Le F' H ∧ ∃ v, σ[i]? = some (some v) ∧ Rz T F' v p := by
  unfold pk at e
  split at e
  · rename_i q e3
    cases e
    exact peek s e3
  · cases e
theorem binL_imp {R : R2} {g : PV → PV → Option PV} {db : DE} {i : Nat} (hg : OpS T R g) {Q : VK} (h : tE T E (dBinL g i db) σ H Q) : tOp R (tVar i) (tE T E db) σ H Q := by
  obtain ⟨F, ρ, A, s, q⟩ := h
  unfold dBinL at q
  split at q
  · rename_i p0 e0
    obtain ⟨_, _, _, v, h1, _⟩ := pk_at s e0
    refine ⟨v, h1, F, ρ, A, s, (Post.bind q).imp fun p ρ1 F1 H1 A1 st1 so1 q1 w rw' => ?_⟩
    split at q1
    · rename_i p2 e2
      obtain ⟨F2, l1, l2, v', h1', rv⟩ := pk_at so1 e2
      rw [h1] at h1'
      cases h1'
      cases e : g p2 p with
      | none => simp only [e] at q1; exact q1.elim
      | some r =>
        simp only [e] at q1
        by_cases hs : scal r = true
        · rw [if_pos hs] at q1
          exact hg _ _ _ _ _ F2 H1 Q l2 rv (rw'.le l1) e fun x F3 H3 st3 r3 => q1 F1 H3 A1 (so1.pure (scal_step l1 st3)) (so1.purely (scal_step l1 st3)) x (scal_rz hs r3)
        · rw [if_neg hs] at q1; exact q1.elim
    · exact q1.elim
  · exact q.elim
/-- f(name) -/
def dFn1 (g : List PV → Option PV) (i : Nat) : DE := fun ρ => match pk ρ i with
  | some p => match g [p] with
    | some r => if scal r then .ok (r, ρ) else .bad
    | none => .bad
  | none => .bad
theorem fn1_imp {R : List V → Hp → VK → Prop} {g : List PV → Option PV} {i : Nat} (hg : FnS T R g) {Q : VK} (h : tE T E (dFn1 g i) σ H Q) : tCB R (tCons (tVar i) tNil) σ H Q := by
  obtain ⟨F, ρ, A, s, q⟩ := h
  unfold dFn1 at q
  split at q
  · rename_i p e0
    obtain ⟨F2, l1, l2, v, h1, rv⟩ := pk_at s e0
    refine ⟨v, h1, ?_⟩
    cases e : g [p] with
    | none => simp only [e] at q; exact q.elim
    | some r =>
      simp only [e] at q
      by_cases hs : scal r = true
      · rw [if_pos hs] at q
        exact hg _ _ _ F2 H Q l2 (RzL.one rv) e fun x F3 H3 st3 r3 => q F H3 A (s.pure (scal_step l1 st3)) (s.purely (scal_step l1 st3)) x (scal_rz hs r3)
      · rw [if_neg hs] at q; exact q.elim
  · exact q.elim
end
end Dn

/-! DnK: built-in functions by values. -/
namespace Dn
open PySem PySem.Spec PyProof.Rows L2

section
variable {T : Tb} {E : XK} {X : Cx} {σ : L2.St} {F H : Hp} {ρ : Env} {A : Ow} {pos : Pos}
theorem sq_le {K : PySem.W.Frag} {F H : Hp} (l : Le F H) {a : Addr} {xs : List V} (h : SqL K F a xs) : SqL K H a xs := SqL.le l h
/-- a list or tuple, read -/
theorem seq_any {v : V} {p : PV} {xs : List PV} (l : Le F H) (r : Rz T F v p) (e : seqItems p = some xs) : ∃ a vs, v = .ref a ∧ (SqL T.K H a vs ∨ SqT T.K H a vs) ∧ RzL T F vs xs := by
  cases r with
  | lst h r => cases e; exact ⟨_, _, rfl, .inl (.inl (.inl (l _ _ h))), r⟩
  | tup h r => cases e; exact ⟨_, _, rfl, .inr (SqT.le l h), r⟩
  | scr h r => cases e; exact ⟨_, _, rfl, .inl (SqL.le l h), r⟩
  | _ => cases e
def listItems : PV → Option (List PV)
  | .lst xs => some xs
  | .scr xs => some xs
  | _ => none
theorem seq_list {v : V} {p : PV} {xs : List PV} (l : Le F H) (r : Rz T F v p) (e : listItems p = some xs) : ∃ a vs, v = .ref a ∧ SqL T.K H a vs ∧ RzL T F vs xs := by
  cases r with
  | lst h r => cases e; exact ⟨_, _, rfl, .inl (.inl (l _ _ h)), r⟩
  | scr h r => cases e; exact ⟨_, _, rfl, SqL.le l h, r⟩
  | _ => cases e
/-! len -/
def gLen : List PV → Option PV
  | [.str x] => if x.length ≤ sizeLine then some (.int x.length) else none
  | [.lst xs] => some (.int xs.length)
  | [.tup xs] => some (.int xs.length)
  | [.scr xs] => some (.int xs.length)
  | _ => none
def rLen2 (K : PySem.W.Frag) : List V → Hp → VK → Prop := fun xs H Q => (∃ p ys, xs = [.ref p] ∧ (SqL K H p ys ∨ SqT K H p ys) ∧ Q (.int ys.length) H) ∨ ∃ z, xs = [.str z] ∧ z.length ≤ sizeLine ∧ Q (.int z.length) H
theorem cr_len2 : CallR X (.builtin "len") (rLen2 X.K) := call_len_seq.or call_len_str
theorem f_len : FnS T (rLen2 T.K) gLen := by
  intro xs ps r F H Q l rz e k
  unfold gLen at e
  split at e
  · split at e
    · rename_i z
      cases e
      obtain ⟨x, rfl, rx⟩ := rz1 rz
      cases rx
      exact .inr ⟨_, rfl, z, k _ F H (stp_same l) (.int _)⟩
    · cases e
  · rename_i ys
    cases e
    obtain ⟨x, rfl, rx⟩ := rz1 rz
    obtain ⟨a, vs, rfl, h, r⟩ := seq_any (xs := ys) l rx rfl
    exact .inl ⟨a, vs, rfl, h, by rw [r.length]; exact k _ F H (stp_same l) (.int _)⟩
  · rename_i ys
    cases e
    obtain ⟨x, rfl, rx⟩ := rz1 rz
    obtain ⟨a, vs, rfl, h, r⟩ := seq_any (xs := ys) l rx rfl
    exact .inl ⟨a, vs, rfl, h, by rw [r.length]; exact k _ F H (stp_same l) (.int _)⟩
  · rename_i ys
    cases e
    obtain ⟨x, rfl, rx⟩ := rz1 rz
    obtain ⟨a, vs, rfl, h, r⟩ := seq_any (xs := ys) l rx rfl
    exact .inl ⟨a, vs, rfl, h, by rw [r.length]; exact k _ F H (stp_same l) (.int _)⟩
  · cases e
/-! abs, int, min and max of two -/
def gAbs : List PV → Option PV
  | [.int i] => some (.int (if i < 0 then -i else i))
  | _ => none
abbrev rAbs : List V → Hp → VK → Prop := fun xs H Q => ∃ i, xs = [.int i] ∧ Q (.int (if i < 0 then -i else i)) H
theorem f_abs : FnS T rAbs gAbs := by
  intro xs ps r F H Q l rz e k
  unfold gAbs at e
  split at e
  · cases e
    obtain ⟨x, rfl, rx⟩ := rz1 rz
    cases rx
    exact ⟨_, rfl, k _ F H (stp_same l) (.int _)⟩
  · cases e
def gInt : List PV → Option PV
  | [.int i] => some (.int i)
  | [.bl b] => some (.int (if b then 1 else 0))
  | _ => none
abbrev rInt1 : List V → Hp → VK → Prop := fun xs H Q => (∃ i, xs = [.int i] ∧ Q (.int i) H) ∨ ∃ k, xs = [.bl k] ∧ Q (.int (if k then 1 else 0)) H
theorem f_int : FnS T rInt1 gInt := by
  intro xs ps r F H Q l rz e k
  unfold gInt at e
  split at e
  · cases e
    obtain ⟨x, rfl, rx⟩ := rz1 rz
    cases rx
    exact .inl ⟨_, rfl, k _ F H (stp_same l) (.int _)⟩
  · cases e
    obtain ⟨x, rfl, rx⟩ := rz1 rz
    cases rx
    exact .inr ⟨_, rfl, k _ F H (stp_same l) (.int _)⟩
  · cases e
def allI : List PV → Option (List Int)
  | [] => some []
  | .int i :: xs => (allI xs).map (i :: ·)
  | _ :: _ => none
theorem allI_eq : ∀ {xs : List PV} {ns : List Int}, allI xs = some ns → xs = ns.map .int
  | [], ns, e => by cases e; rfl
  | .int i :: xs, ns, e => by
    simp only [allI] at e
    cases q : allI xs with
    | none => rw [q] at e; cases e
    | some ms => rw [q] at e; cases e; rw [allI_eq q]; rfl
  | .non :: _, _, e => by cases e
  | .bl _ :: _, _, e => by cases e
  | .str _ :: _, _, e => by cases e
  | .tup _ :: _, _, e => by cases e
  | .lst _ :: _, _, e => by cases e
  | .dct _ :: _, _, e => by cases e
  | .fn _ :: _, _, e => by cases e
  | .scr _ :: _, _, e => by cases e
theorem rz_intsL : ∀ {ns : List Int} {vs : List V}, RzL T F vs (ns.map .int) → vs = ns.map V.int
  | [], _, h => by cases h; rfl
  | n :: ns, _, h => by
    cases h with
    | cons r t => cases r; rw [rz_intsL t]; rfl
theorem ints_rz : ∀ ns : List Int, RzL T F (ns.map V.int) (ns.map .int)
  | [] => .nil
  | n :: ns => .cons (.int n) (ints_rz ns)
def minI (n : Int) : List Int → Int
  | [] => n
  | m :: ms => minI (if m < n then m else n) ms
def maxI (n : Int) : List Int → Int
  | [] => n
  | m :: ms => maxI (if n < m then m else n) ms
theorem minI_mem : ∀ (ms : List Int) (n : Int), minI n ms ∈ n :: ms ∧ ∀ y ∈ n :: ms, minI n ms ≤ y
  | [], n => by simp [minI]
  | m :: ms, n => by
    unfold minI
    by_cases hc : m < n
    · obtain ⟨h1, h2⟩ := minI_mem ms m
      rw [if_pos hc]
      refine ⟨List.mem_cons_of_mem _ h1, fun y hy => ?_⟩
      rcases List.mem_cons.mp hy with rfl | hy
      · have := h2 m List.mem_cons_self; omega
      · exact h2 y hy
    · obtain ⟨h1, h2⟩ := minI_mem ms n
      rw [if_neg hc]
      refine ⟨?_, fun y hy => ?_⟩
      · rcases List.mem_cons.mp h1 with h | h
        · rw [h]; exact List.mem_cons_self
        · exact List.mem_cons_of_mem _ (List.mem_cons_of_mem _ h)
      · have h0 := h2 n List.mem_cons_self
        rcases List.mem_cons.mp hy with rfl | hy
        · exact h0
        · rcases List.mem_cons.mp hy with rfl | hy
          · omega
          · exact h2 y (List.mem_cons_of_mem _ hy)
theorem maxI_mem : ∀ (ms : List Int) (n : Int), maxI n ms ∈ n :: ms ∧ ∀ y ∈ n :: ms, y ≤ maxI n ms
  | [], n => by simp [maxI]
  | m :: ms, n => by
    unfold maxI
    by_cases hc : n < m
    · obtain ⟨h1, h2⟩ := maxI_mem ms m
      rw [if_pos hc]
      refine ⟨List.mem_cons_of_mem _ h1, fun y hy => ?_⟩
      rcases List.mem_cons.mp hy with rfl | hy
      · have := h2 m List.mem_cons_self; omega
      · exact h2 y hy
    · obtain ⟨h1, h2⟩ := maxI_mem ms n
      rw [if_neg hc]
      refine ⟨?_, fun y hy => ?_⟩
      · rcases List.mem_cons.mp h1 with h | h
        · rw [h]; exact List.mem_cons_self
        · exact List.mem_cons_of_mem _ (List.mem_cons_of_mem _ h)
      · have h0 := h2 n List.mem_cons_self
        rcases List.mem_cons.mp hy with rfl | hy
        · exact h0
        · rcases List.mem_cons.mp hy with rfl | hy
          · omega
          · exact h2 y (List.mem_cons_of_mem _ hy)
/-- min, max of a tuple of ints -/
def rMinT (K : PySem.W.Frag) : List V → Hp → VK → Prop := fun vs H Q => ∃ (a : Addr) (n : Int) (ns : List Int), vs = [V.ref a] ∧ SqT K H a ((n :: ns).map V.int) ∧ Q (.int (ns.foldl min n)) H
def rMaxT (K : PySem.W.Frag) : List V → Hp → VK → Prop := fun vs H Q => ∃ (a : Addr) (n : Int) (ns : List Int), vs = [V.ref a] ∧ SqT K H a ((n :: ns).map V.int) ∧ Q (.int (ns.foldl max n)) H
theorem dp_ints {K : PySem.W.Frag} {H : Hp} : ∀ ns : List Int, DpAll K H (ns.map V.int) (ns.map PyData.int)
  | [] => .nil
  | n :: ns => .cons (.int n) (dp_ints ns)
theorem alike_intsA (ns : List Int) : PySem.W.AlikeAll (ns.map PyData.int) := by
  constructor
  · intro x hx y hy
    obtain ⟨i, _, rfl⟩ := List.mem_map.mp hx
    obtain ⟨j, _, rfl⟩ := List.mem_map.mp hy
    rfl
  · intro x hx
    obtain ⟨i, _, rfl⟩ := List.mem_map.mp hx
    simp
theorem cr_minT (hc : X.calm = true) (hu : X.A.units + 64 < cLine) : CallR X (.builtin "min") (rMinT X.K) := by
  intro pins s σ H vs us Q I r h
  obtain ⟨a, n, ns, rfl, hs, q⟩ := h
  obtain ⟨its, rv, hl, _⟩ := I.tuple hs
  obtain ⟨as, hr⟩ := Dp.readsAll I _ _ its (dp_ints (n :: ns)) rv
  rw [Vals.ref1 r]
  refine PySem.W.min_tuple_data (x := .int n) (xs := ns.map .int) (I.ok.hd hc) (let ⟨o, a1, a2, n, a3⟩ := hl; ⟨o, a1, a2, n, a3⟩) (as := as) hr (alike_intsA (n :: ns)) (by
    show X.A.units + 1 + PyData.depthAll ((n :: ns).map PyData.int) < cLine
    rw [PySem.W.depth_ints]; omega) fun i v h' tk bs hv hb hk => ?_
  rw [PySem.W.minD_ints] at hb
  obtain ⟨t, rfl⟩ : ∃ t, v = .int (ns.foldl min n) t := by cases hb; exact ⟨_, rfl⟩
  exact ⟨.int _, H, I.kept hk, ⟨_, rfl⟩, q⟩
theorem cr_maxT (hc : X.calm = true) (hu : X.A.units + 64 < cLine) : CallR X (.builtin "max") (rMaxT X.K) := by
  intro pins s σ H vs us Q I r h
  obtain ⟨a, n, ns, rfl, hs, q⟩ := h
  obtain ⟨its, rv, hl, _⟩ := I.tuple hs
  obtain ⟨as, hr⟩ := Dp.readsAll I _ _ its (dp_ints (n :: ns)) rv
  rw [Vals.ref1 r]
  refine PySem.W.max_tuple_data (x := .int n) (xs := ns.map .int) (I.ok.hd hc) (let ⟨o, a1, a2, n, a3⟩ := hl; ⟨o, a1, a2, n, a3⟩) (as := as) hr (alike_intsA (n :: ns)) (by
    show X.A.units + 1 + PyData.depthAll ((n :: ns).map PyData.int) < cLine
    rw [PySem.W.depth_ints]; omega) fun i v h' tk bs hv hb hk => ?_
  rw [PySem.W.maxD_ints] at hb
  obtain ⟨t, rfl⟩ : ∃ t, v = .int (ns.foldl max n) t := by cases hb; exact ⟨_, rfl⟩
  exact ⟨.int _, H, I.kept hk, ⟨_, rfl⟩, q⟩
theorem minI_fold : ∀ (ns : List Int) (n : Int), minI n ns = ns.foldl min n
  | [], _ => rfl
  | m :: ns, n => by
    unfold minI
    rw [minI_fold ns, List.foldl_cons]
    congr 1
    omega
theorem maxI_fold : ∀ (ns : List Int) (n : Int), maxI n ns = ns.foldl max n
  | [], _ => rfl
  | m :: ns, n => by
    unfold maxI
    rw [maxI_fold ns, List.foldl_cons]
    congr 1
    omega
def gMin : List PV → Option PV
  | [.int i, .int j] => some (.int (if j < i then j else i))
  | [p] => match seqItems p with
    | some xs => match allI xs with
      | some (n :: ns) => some (.int (minI n ns))
      | _ => none
    | none => none
  | _ => none
def gMax : List PV → Option PV
  | [.int i, .int j] => some (.int (if j > i then j else i))
  | [p] => match seqItems p with
    | some xs => match allI xs with
      | some (n :: ns) => some (.int (maxI n ns))
      | _ => none
    | none => none
  | _ => none
def rMin3 (K : PySem.W.Frag) : List V → Hp → VK → Prop := fun xs H Q => ((∃ i j, xs = [.int i, .int j] ∧ Q (.int (if j < i then j else i)) H) ∨ rMin K xs H Q) ∨ rMinT K xs H Q
def rMax3 (K : PySem.W.Frag) : List V → Hp → VK → Prop := fun xs H Q => ((∃ i j, xs = [.int i, .int j] ∧ Q (.int (if j > i then j else i)) H) ∨ rMax K xs H Q) ∨ rMaxT K xs H Q
theorem cr_min3 (hc : X.calm = true) (hu : X.A.units + 64 < cLine) : CallR X (.builtin "min") (rMin3 X.K) := ((call_min2 hc).or (cr_min hc)).or (cr_minT hc hu)
theorem cr_max3 (hc : X.calm = true) (hu : X.A.units + 64 < cLine) : CallR X (.builtin "max") (rMax3 X.K) := ((call_max2 hc).or (cr_max hc)).or (cr_maxT hc hu)
theorem f_min : FnS T (rMin3 T.K) gMin := by
  intro xs ps r F H Q l rz e k
  unfold gMin at e
  split at e
  · cases e
    obtain ⟨x, y, rfl, rx, ry⟩ := rz2 rz
    cases rx
    cases ry
    exact .inl (.inl ⟨_, _, rfl, k _ F H (stp_same l) (.int _)⟩)
  · rename_i p
    obtain ⟨x, rfl, rx⟩ := rz1 rz
    cases e1 : seqItems p with
    | none => rw [e1] at e; cases e
    | some ys =>
      simp only [e1] at e
      cases e2 : allI ys with
      | none => rw [e2] at e; cases e
      | some ns =>
        cases ns with
        | nil => rw [e2] at e; cases e
        | cons n ns =>
          simp only [e2] at e
          cases e
          obtain ⟨a, vs, rfl, h, r⟩ := seq_any l rx e1
          rw [allI_eq e2] at r
          cases rz_intsL r
          obtain ⟨m1, m2⟩ := minI_mem ns n
          rcases h with h | h
          · refine .inl (.inr ⟨a, n :: ns, rfl, h, by simp, fun m h1 h2 => ?_⟩)
            have : m = minI n ns := by have := h2 _ m1; have := m2 _ h1; omega
            rw [this]
            exact k _ F H (stp_same l) (.int _)
          · exact .inr ⟨a, n, ns, rfl, h, by rw [← minI_fold]; exact k _ F H (stp_same l) (.int _)⟩
  · cases e
theorem f_max : FnS T (rMax3 T.K) gMax := by
  intro xs ps r F H Q l rz e k
  unfold gMax at e
  split at e
  · cases e
    obtain ⟨x, y, rfl, rx, ry⟩ := rz2 rz
    cases rx
    cases ry
    exact .inl (.inl ⟨_, _, rfl, k _ F H (stp_same l) (.int _)⟩)
  · rename_i p
    obtain ⟨x, rfl, rx⟩ := rz1 rz
    cases e1 : seqItems p with
    | none => rw [e1] at e; cases e
    | some ys =>
      simp only [e1] at e
      cases e2 : allI ys with
      | none => rw [e2] at e; cases e
      | some ns =>
        cases ns with
        | nil => rw [e2] at e; cases e
        | cons n ns =>
          simp only [e2] at e
          cases e
          obtain ⟨a, vs, rfl, h, r⟩ := seq_any l rx e1
          rw [allI_eq e2] at r
          cases rz_intsL r
          obtain ⟨m1, m2⟩ := maxI_mem ns n
          rcases h with h | h
          · refine .inl (.inr ⟨a, n :: ns, rfl, h, by simp, fun m h1 h2 => ?_⟩)
            have : m = maxI n ns := by have := h2 _ m1; have := m2 _ h1; omega
            rw [this]
            exact k _ F H (stp_same l) (.int _)
          · exact .inr ⟨a, n, ns, rfl, h, by rw [← maxI_fold]; exact k _ F H (stp_same l) (.int _)⟩
  · cases e
/-! sum, all, any -/
def sumI : List Int → Int
  | [] => 0
  | n :: ns => n + sumI ns
theorem sumI_eq : ∀ ns : List Int, sumI ns = ns.sum
  | [] => rfl
  | n :: ns => by rw [sumI, sumI_eq ns, List.sum_cons]
def gSum : List PV → Option PV
  | [p] => match seqItems p with
    | some xs => match allI xs with
      | some ns => some (.int (sumI ns))
      | _ => none
    | none => none
  | _ => none
def rSumT (K : PySem.W.Frag) : List V → Hp → VK → Prop := fun vs H Q => ∃ (a : Addr) (ns : List Int), vs = [V.ref a] ∧ SqT K H a (ns.map V.int) ∧ Q (.int ns.sum) H
theorem sumT_raw {prog : Program} {w : World} {A : Around} {E : Value → Shared → Prop} {s : Shared} {l : Addr} {its : List Value} {ns : List Int} {Q : Value → Shared → Prop} (hh : A.handled = none) (hl : s.heap.IsTuple l its.toArray) (hi : IntsAre its ns)
    (h : ∀ h' tk t', (∀ b o, s.heap.get? b = some o → h'.get? b = some o) → Q (.int ns.sum t') { s with heap := h', toks := tk }) : wpAny (model prog w) A (call (.builtin "sum") [.ref l]) Q E s := by
  obtain ⟨xs, e⟩ := hi.allInts.items
  have hn : numsOf (intItems xs).toList = ns := by rw [← e]; exact hi.numsOf
  rw [nums_intItems] at hn
  rw [e] at hl
  refine PySem.W.ktm_sumG hh hl fun h' tk t' hk => ?_
  have := h h' tk t' hk
  rw [preSum_eq, List.take_of_length_le (by simp), hn]; exact this
theorem cr_sumT {X : Cx} (hc : X.calm = true) : CallR X (.builtin "sum") (rSumT X.K) := by
  intro pins s σ H vs us Q I r h
  obtain ⟨a, ns, rfl, hs, q⟩ := h
  obtain ⟨its, rv, hl, _⟩ := I.tuple hs
  rw [Vals.ref1 r]
  exact sumT_raw (I.ok.hd hc) hl rv.ints fun h' tk t' hk => ⟨.int _, H, I.kept hk, ⟨_, rfl⟩, q⟩
def rSum2 (K : PySem.W.Frag) : List V → Hp → VK → Prop := fun xs H Q => rSum K xs H Q ∨ rSumT K xs H Q
theorem cr_sum2 {X : Cx} (hc : X.calm = true) : CallR X (.builtin "sum") (rSum2 X.K) := (cr_sum hc).or (cr_sumT hc)
theorem f_sum : FnS T (rSum2 T.K) gSum := by
  intro xs ps r F H Q l rz e k
  unfold gSum at e
  split at e
  · rename_i p
    obtain ⟨x, rfl, rx⟩ := rz1 rz
    cases e1 : seqItems p with
    | none => rw [e1] at e; cases e
    | some ys =>
      simp only [e1] at e
      cases e2 : allI ys with
      | none => rw [e2] at e; cases e
      | some ns =>
        simp only [e2] at e
        cases e
        obtain ⟨a, vs, rfl, h, r⟩ := seq_any l rx e1
        rw [allI_eq e2] at r
        cases rz_intsL r
        rcases h with h | h
        · exact .inl ⟨a, ns, rfl, h, by rw [← sumI_eq]; exact k _ F H (stp_same l) (.int _)⟩
        · exact .inr ⟨a, ns, rfl, h, by rw [← sumI_eq]; exact k _ F H (stp_same l) (.int _)⟩
  · cases e
def allBl : List PV → Option (List Bool)
  | [] => some []
  | .bl i :: xs => (allBl xs).map (i :: ·)
  | _ :: _ => none
theorem allBl_eq : ∀ {xs : List PV} {ns : List Bool}, allBl xs = some ns → xs = ns.map .bl
  | [], ns, e => by cases e; rfl
  | .bl i :: xs, ns, e => by
    simp only [allBl] at e
    cases q : allBl xs with
    | none => rw [q] at e; cases e
    | some ms => rw [q] at e; cases e; rw [allBl_eq q]; rfl
  | .non :: _, _, e => by cases e
  | .int _ :: _, _, e => by cases e
  | .str _ :: _, _, e => by cases e
  | .tup _ :: _, _, e => by cases e
  | .lst _ :: _, _, e => by cases e
  | .dct _ :: _, _, e => by cases e
  | .fn _ :: _, _, e => by cases e
  | .scr _ :: _, _, e => by cases e
theorem rz_bls : ∀ {ns : List Bool} {vs : List V}, RzL T F vs (ns.map .bl) → vs = ns.map V.bl
  | [], _, h => by cases h; rfl
  | n :: ns, _, h => by
    cases h with
    | cons r t => cases r; rw [rz_bls t]; rfl
def gAll : List PV → Option PV
  | [p] => match listItems p with
    | some xs => match allBl xs with
      | some ns => some (.bl (ns.all id))
      | _ => none
    | none => none
  | _ => none
def gAny : List PV → Option PV
  | [p] => match listItems p with
    | some xs => match allBl xs with
      | some ns => some (.bl (ns.any id))
      | _ => none
    | none => none
  | _ => none
theorem f_all : FnS T (rAll T.K) gAll := by
  intro xs ps r F H Q l rz e k
  unfold gAll at e
  split at e
  · rename_i p
    obtain ⟨x, rfl, rx⟩ := rz1 rz
    cases e1 : listItems p with
    | none => rw [e1] at e; cases e
    | some ys =>
      simp only [e1] at e
      cases e2 : allBl ys with
      | none => rw [e2] at e; cases e
      | some ns =>
        simp only [e2] at e
        cases e
        obtain ⟨a, vs, rfl, h, r⟩ := seq_list l rx e1
        rw [allBl_eq e2] at r
        cases rz_bls r
        exact ⟨a, ns, rfl, h, k _ F H (stp_same l) (.bl _)⟩
  · cases e
theorem f_any : FnS T (rAny T.K) gAny := by
  intro xs ps r F H Q l rz e k
  unfold gAny at e
  split at e
  · rename_i p
    obtain ⟨x, rfl, rx⟩ := rz1 rz
    cases e1 : listItems p with
    | none => rw [e1] at e; cases e
    | some ys =>
      simp only [e1] at e
      cases e2 : allBl ys with
      | none => rw [e2] at e; cases e
      | some ns =>
        simp only [e2] at e
        cases e
        obtain ⟨a, vs, rfl, h, r⟩ := seq_list l rx e1
        rw [allBl_eq e2] at r
        cases rz_bls r
        exact ⟨a, ns, rfl, h, k _ F H (stp_same l) (.bl _)⟩
  · cases e
/-! tuple, list, str -/
def gTupOf : List PV → Option PV
  | [p] => match seqItems p with
    | some xs => some (.tup xs)
    | none => none
  | _ => none
abbrev rTupOf (K : PySem.W.Frag) : List V → Hp → VK → Prop := fun xs H Q => ∃ p ys, xs = [.ref p] ∧ ((SqL K H p ys ∧ ∀ l, H l = none → Q (.ref l) (upd H l (.tup ys))) ∨ (SqT K H p ys ∧ Q (.ref p) H))
theorem f_tupOf : FnS T (rTupOf T.K) gTupOf := by
  intro xs ps r F H Q l rz e k
  unfold gTupOf at e
  split at e
  · rename_i p
    obtain ⟨x, rfl, rx⟩ := rz1 rz
    cases rx with
    | lst h r =>
      cases e
      refine ⟨_, _, rfl, .inl ⟨.inl (.inl (l _ _ h)), fun p hp => ?_⟩⟩
      obtain ⟨a, b⟩ := new_tup l r hp
      exact k _ _ _ a b
    | tup h r => cases e; exact ⟨_, _, rfl, .inr ⟨SqT.le l h, k _ F H (stp_same l) (.tup h r)⟩⟩
    | scr h r =>
      cases e
      refine ⟨_, _, rfl, .inl ⟨SqL.le l h, fun p hp => ?_⟩⟩
      obtain ⟨a, b⟩ := new_tup l r hp
      exact k _ _ _ a b
    | _ => cases e
  · cases e
def gListOf : List PV → Option (List PV)
  | [p] => seqItems p
  | _ => none
abbrev rListOf (K : PySem.W.Frag) : List V → Hp → VK → Prop := fun xs H Q => ∃ p ys, xs = [.ref p] ∧ (SqL K H p ys ∨ SqT K H p ys) ∧ ∀ l, H l = none → Q (.ref l) (upd H l (.lst ys))
theorem f_listOf : FnSO T (rListOf T.K) gListOf := by
  intro xs ps r F H Q l rz e k
  unfold gListOf at e
  split at e
  · obtain ⟨x, rfl, rx⟩ := rz1 rz
    obtain ⟨a, vs, rfl, h, r⟩ := seq_any l rx e
    exact ⟨a, vs, rfl, h, fun p hp => k p hp vs r⟩
  · cases e
def gStr : List PV → Option PV
  | [.int i] => if i.natAbs.log2 < 1920 then some (.str (toString i)) else none
  | _ => none
abbrev rStrI : List V → Hp → VK → Prop := fun xs H Q => ∃ i : Int, xs = [.int i] ∧ i.natAbs.log2 < 1920 ∧ Q (.str (toString i)) H
theorem f_str : FnS T rStrI gStr := by
  intro xs ps r F H Q l rz e k
  unfold gStr at e
  split at e
  · split at e
    · rename_i z
      cases e
      obtain ⟨x, rfl, rx⟩ := rz1 rz
      cases rx
      exact ⟨_, rfl, z, k _ F H (stp_same l) (.str _)⟩
    · cases e
  · cases e
/-! sorted -/
def insL {α : Type} (le : α → α → Bool) (a : α) : List α → List α
  | [] => [a]
  | b :: bs => if le a b then a :: b :: bs else b :: insL le a bs
def isort {α : Type} (le : α → α → Bool) : List α → List α
  | [] => []
  | a :: l => insL le a (isort le l)
theorem insL_at {α : Type} (le : α → α → Bool) (a : α) : ∀ (l1 l2 : List α), (∀ b ∈ l1, le a b = false) → (l1 ++ a :: l2).Pairwise (fun x y => le x y = true) → insL le a (l1 ++ l2) = l1 ++ a :: l2
  | [], [], _, _ => rfl
  | [], b :: l2, _, h => by
    have : le a b = true := by
      rw [List.nil_append, List.pairwise_cons] at h
      exact h.1 b List.mem_cons_self
    show insL le a (b :: l2) = _
    unfold insL
    rw [if_pos this]
    rfl
  | b :: l1, l2, h1, h2 => by
    have e : le a b = false := h1 b List.mem_cons_self
    show insL le a (b :: (l1 ++ l2)) = _
    unfold insL
    rw [if_neg (by rw [e]; decide), insL_at le a l1 l2 (fun c hc => h1 c (List.mem_cons_of_mem _ hc)) (by
      rw [List.cons_append, List.pairwise_cons] at h2
      exact h2.2)]
    rfl
theorem isort_eq {α : Type} (le : α → α → Bool) (trans : ∀ a b c, le a b = true → le b c = true → le a c = true) (total : ∀ a b, (le a b || le b a) = true) : ∀ l : List α, isort le l = l.mergeSort le
  | [] => by simp [isort]
  | a :: l => by
    obtain ⟨l1, l2, h1, h2, h3⟩ := List.mergeSort_cons trans total a l
    have hp := List.pairwise_mergeSort trans total (a :: l)
    unfold isort
    rw [isort_eq le trans total l, h2, h1]
    rw [h1] at hp
    exact insL_at le a l1 l2 (fun b hb => by simpa using h3 b hb) hp
def pleP (p q : PV) : Bool := !PySem.W.dataLt q.toD p.toD
theorem dle_trans (a b c : PyData) (h1 : (!PySem.W.dataLt b a) = true) (h2 : (!PySem.W.dataLt c b) = true) : (!PySem.W.dataLt c a) = true := by
  cases h : PySem.W.dataLt c a with
  | false => rfl
  | true =>
    rcases PyProof.Rows.lex_negTrans (O := itemOrd) _ (PySem.W.keyToks b) _ h with z | z
    · have z : PySem.W.dataLt c b = true := z
      rw [z] at h2; cases h2
    · have z : PySem.W.dataLt b a = true := z
      rw [z] at h1; cases h1
theorem dle_total (a b : PyData) : ((!PySem.W.dataLt b a) || (!PySem.W.dataLt a b)) = true := by
  cases h : PySem.W.dataLt b a with
  | false => rfl
  | true =>
    cases h2 : PySem.W.dataLt a b with
    | false => rfl
    | true =>
      have := PyProof.Rows.lex_trans (O := itemOrd) _ _ _ h h2
      rw [PyProof.Rows.lex_irrefl] at this
      cases this
def isI : PV → Bool
  | .int _ => true
  | _ => false
def isIT : PV → Bool
  | .tup (x :: xs) => (x :: xs).all isI
  | _ => false
def alikeP (ps : List PV) : Bool := ps.all isI || ps.all isIT || (ps.all fun p => ps.all fun q => PySem.W.alike p.toD q.toD)
def sortableP (ps : List PV) : Bool := (ps.all fun p => match p with
  | .tup (_ :: _) => true
  | _ => false) || (ps.all fun p => match p with
  | .tup _ => false
  | .non => false
  | .bl _ => true
  | .int _ => true
  | .str _ => true
  | .lst _ => true
  | _ => false)
def gSorted : List PV → Option (List PV)
  | [p] => match listItems p with
    | some xs => if PV.dat 60 (.lst xs) && alikeP xs && sortableP xs && decide (xs.length ≤ sizeLine) then some (isort pleP xs) else none
    | none => none
  | _ => none
theorem alike_int {p q : PV} (hp : isI p = true) (hq : isI q = true) : PySem.W.alike p.toD q.toD = true := by
  cases p <;> first | (simp [isI] at hp; done) | skip
  cases q <;> first | (simp [isI] at hq; done) | skip
  simp [PV.toD, PySem.W.alike]
theorem alike_allI : ∀ {xs ys : List PV}, (∀ p ∈ xs, isI p = true) → (∀ p ∈ ys, isI p = true) → PySem.W.alikeAll (PV.toDs xs) (PV.toDs ys) = true
  | [], _, _, _ => by simp [PV.toDs, PySem.W.alikeAll]
  | _ :: _, [], _, _ => by simp [PV.toDs, PySem.W.alikeAll]
  | x :: xs, y :: ys, h1, h2 => by
    simp only [PV.toDs, PySem.W.alikeAll, alike_int (h1 _ List.mem_cons_self) (h2 _ List.mem_cons_self), Bool.true_and]
    exact alike_allI (fun p hp => h1 p (List.mem_cons_of_mem _ hp)) fun p hp => h2 p (List.mem_cons_of_mem _ hp)
theorem alike_IT {p q : PV} (hp : isIT p = true) (hq : isIT q = true) : PySem.W.alike p.toD q.toD = true := by
  unfold isIT at hp hq
  split at hp
  · split at hq
    · simp only [PV.toD, PySem.W.alike]
      exact alike_allI (by simpa using hp) (by simpa using hq)
    · cases hq
  · cases hp
theorem alikeP_ok {ps : List PV} (h : alikeP ps = true) : PySem.W.AllAlike (PV.toDs ps) := by
  unfold alikeP at h
  simp only [Bool.or_eq_true, List.all_eq_true] at h
  intro d hd d' hd'
  rw [toDs_map] at hd hd'
  obtain ⟨p, hp, rfl⟩ := List.mem_map.mp hd
  obtain ⟨q, hq, rfl⟩ := List.mem_map.mp hd'
  rcases h with (h | h) | h
  · exact alike_int (h p hp) (h q hq)
  · exact alike_IT (h p hp) (h q hq)
  · exact h p hp q hq
theorem sortableP_ok {ps : List PV} (h : sortableP ps = true) : PySem.W.Sortable (PV.toDs ps) := by
  unfold sortableP at h
  simp only [Bool.or_eq_true, List.all_eq_true] at h
  rw [toDs_map]
  rcases h with h | h
  · refine .inl fun d hd => ?_
    obtain ⟨p, hp, rfl⟩ := List.mem_map.mp hd
    have q := h p hp
    split at q
    · exact ⟨_, _, by simp only [PV.toD, PV.toDs]; rfl⟩
    · cases q
  · refine .inr fun d hd => ?_
    obtain ⟨p, hp, rfl⟩ := List.mem_map.mp hd
    have q := h p hp
    cases p <;> first | (simp at q; done) | simp [PV.toD]
/-- sorted(xs) of data that compare -/
def rSortD (K : PySem.W.Frag) : List V → Hp → VK → Prop := fun vs H Q => ∃ (a : Addr) (xs : List V) (ds : List PyData), vs = [V.ref a] ∧ SqL K H a xs ∧ DpAll K H xs ds ∧ PySem.W.AllAlike ds ∧ PySem.W.Sortable ds ∧ (∀ d ∈ ds, d.depth ≤ 60) ∧ xs.length ≤ sizeLine ∧
  ∀ p, H p = none → Q (.ref p) (upd H p (.lst (((xs.zip ds).mergeSort (fun a b => !PySem.W.dataLt b.2 a.2)).map (·.1))))
theorem each_zip : ∀ {xs : List V} {ds : List PyData} {us : List Value}, Vals xs us → xs.length = ds.length → PySem.W.EachIs (fun u (b : V × PyData) => RelV b.1 u) us (xs.zip ds)
  | _, [], _, .nil, _ => .nil
  | _, _ :: _, _, .cons r t, e => .cons r (each_zip t (by simpa using e))
  | _, [], _, .cons _ _, e => by simp at e
theorem each_vals : ∀ {us : List Value} {bs : List (V × PyData)}, PySem.W.EachIs (fun u (b : V × PyData) => RelV b.1 u) us bs → Vals (bs.map (·.1)) us
  | _, _, .nil => .nil
  | _, _, .cons r t => .cons r (each_vals t)
theorem dpAll_len {K : PySem.W.Frag} {H : Hp} : ∀ {xs : List V} {ds : List PyData}, DpAll K H xs ds → xs.length = ds.length
  | _, _, .nil => rfl
  | _, _, .cons _ t => congrArg (· + 1) (dpAll_len t)
theorem cr_sortD (hu : X.A.units + 64 < cLine) : CallR X (.builtin "sorted") (rSortD X.K) := by
  intro pins s σ H vs us Q I r h
  obtain ⟨a, xs, ds, rfl, hs, hd, hal, hk, hdep, hz, q⟩ := h
  obtain ⟨its, rv, hl, _⟩ := I.list hs
  rw [Vals.ref1 r]
  have len := dpAll_len hd
  obtain ⟨as, hr⟩ := Dp.readsAll I ds xs its hd rv
  have em : (xs.zip ds).map (·.2) = ds := List.map_snd_zip (by omega)
  have er := PySem.W.readsAll_each (enc := fun b : V × PyData => b.2) (vs := its) (bs := xs.zip ds) (as := as) (by rw [em]; exact hr)
  refine PySem.W.sorted_data (enc := fun b : V × PyData => b.2) hl.isList (each_zip rv len) er (by rw [em]; exact hal) (by rw [em]; exact hk) (by rw [List.length_zip, ← len, Nat.min_self]; exact hz) (fun b hb => ?_) fun out ho eo => ?_
  · have : b.2 ∈ ds := by rw [← em]; exact List.mem_map.mpr ⟨b, hb, rfl⟩
    have := hdep _ this
    omega
  · obtain ⟨ep, he'⟩ := PyProof.Rows.sortedAll_at s.heap its out.toArray
    have ev := each_vals eo
    have hlen : (((xs.zip ds).mergeSort (fun a b => !PySem.W.dataLt b.2 a.2)).map (·.1)).length ≤ sizeLine := by
      rw [List.length_map, List.length_mergeSort, List.length_zip, ← len, Nat.min_self]; exact hz
    exact ⟨.ref _, upd H (s.heap.objs.size + 1) (.lst (((xs.zip ds).mergeSort (fun a b => !PySem.W.dataLt b.2 a.2)).map (·.1))), I.laid (t' := s.toks) (fun _ _ => PyProof.Rows.sortedAll_old) (Nat.le_succ _) ⟨hlen, out, ep, ev, he'⟩, rfl, q _ (I.hok.fresh (Nat.le_succ _))⟩
theorem rz_zip : ∀ {vs : List V} {ps : List PV}, RzL T F vs ps → ∀ b ∈ vs.zip ps, Rz T F b.1 b.2
  | _, _, .nil, b, h => by simp at h
  | _, _, .cons r t, b, h => by
    rw [List.zip_cons_cons, List.mem_cons] at h
    rcases h with rfl | h
    · exact r
    · exact rz_zip t b h
theorem rzl_map : ∀ {bs : List (V × PV)}, (∀ b ∈ bs, Rz T F b.1 b.2) → RzL T F (bs.map (·.1)) (bs.map (·.2))
  | [], _ => .nil
  | b :: bs, h => .cons (h b List.mem_cons_self) (rzl_map fun c hc => h c (List.mem_cons_of_mem _ hc))
theorem f_sorted : FnSO T (rSortD T.K) gSorted := by
  intro xs ps r F H Q l rz e k
  unfold gSorted at e
  split at e
  · rename_i p
    obtain ⟨x, rfl, rx⟩ := rz1 rz
    cases e1 : listItems p with
    | none => rw [e1] at e; cases e
    | some ys =>
      simp only [e1] at e
      split at e
      · rename_i hh
        cases e
        simp only [Bool.and_eq_true, decide_eq_true_eq] at hh
        obtain ⟨⟨⟨h1, h2⟩, h3⟩, h4⟩ := hh
        obtain ⟨a, vs, rfl, h, r⟩ := seq_list l rx e1
        have hd : ∀ p ∈ ys, p.dat 59 = true := by simpa [PV.dat] using h1
        refine ⟨a, vs, PV.toDs ys, rfl, h, r.dp l 59 hd, alikeP_ok h2, sortableP_ok h3, fun d hdd => ?_, by rw [r.length]; exact h4, fun p hp => k p hp _ ?_⟩
        · rw [toDs_map] at hdd
          obtain ⟨q, hq, rfl⟩ := List.mem_map.mp hdd
          have := (dat_lay 59 q (hd q hq)).2
          omega
        · have lv := r.length
          have e2 : (vs.zip (PV.toDs ys)) = (vs.zip ys).map (fun b => (b.1, b.2.toD)) := by
            rw [toDs_map, List.zip_map_right]
            congr 1
          have e3 : ((vs.zip ys).map (fun b => (b.1, b.2.toD))).mergeSort (fun a b => !PySem.W.dataLt b.2 a.2) = ((vs.zip ys).mergeSort (fun a b => pleP a.2 b.2)).map (fun b => (b.1, b.2.toD)) := by
            rw [List.map_mergeSort]
            intro a _ b _
            rfl
          have e4 : isort pleP ys = ((vs.zip ys).mergeSort (fun a b => pleP a.2 b.2)).map (·.2) := by
            rw [List.map_mergeSort (s := pleP) (f := fun b : V × PV => b.2) (by intro a _ b _; rfl), List.map_snd_zip (by omega)]
            exact isort_eq pleP (fun a b c => dle_trans _ _ _) (fun a b => dle_total _ _) ys
          rw [e2, e3, e4, List.map_map]
          exact rzl_map fun b hb => rz_zip r b (by
            have := (List.mergeSort_perm (vs.zip ys) (fun a b => pleP a.2 b.2)).mem_iff.mp hb
            exact this)
      · cases e
  · cases e
/-! isinstance -/
inductive Ty where
  | int | bool | str | tup | lst | non | dct
def Ty.nm : Ty → String
  | .int => "int"
  | .bool => "bool"
  | .str => "str"
  | .tup => "tuple"
  | .lst => "list"
  | .non => "NoneType"
  | .dct => "dict"
def tyP : PV → Option Ty
  | .non => some .non
  | .bl _ => some .bool
  | .int _ => some .int
  | .str _ => some .str
  | .tup _ => some .tup
  | .lst _ => some .lst
  | .scr _ => some .lst
  | .dct _ => some .dct
  | .fn _ => none
def isi : Ty → Ty → Bool
  | .int, .int => true
  | .bool, .bool => true
  | .bool, .int => true
  | .str, .str => true
  | .tup, .tup => true
  | .lst, .lst => true
  | .non, .non => true
  | .dct, .dct => true
  | _, _ => false
theorem kit_isi (K : PySem.W.Frag) (a b : Ty) : PySem.W.kitOne K (.type a.nm) (.type b.nm) = some (isi a b) := by
  refine kit_ty ?_
  cases a <;> cases b <;> decide +kernel
theorem ty_of {v : V} {p : PV} {t : Ty} (l : Le F H) (r : Rz T F v p) (e : tyP p = some t) : TyX T.K H v (.type t.nm) := by
  cases r with
  | non => cases e; exact .base .non
  | bl b => cases e; exact .base (.bl b)
  | int i => cases e; exact .base (.int i)
  | str x => cases e; exact .base (.str x)
  | tup h r =>
    cases e
    rcases SqT.le l h with (h | ⟨o, h⟩) | ⟨o, its, n, h1, h2, _⟩
    · exact .base (.tup h)
    · exact .fTuple h
    · exact .kTuple h1 h2
  | lst h r => cases e; exact .base (.lst (l _ _ h))
  | scr h r =>
    cases e
    rcases SqL.le l h with (h | ⟨o, h⟩) | ⟨o, its, n, h1, h2, _⟩
    · exact .base (.lst h)
    · exact .base (.frz h)
    · exact .kList h1 h2
  | dct h _ _ => cases e; exact .base (.dK (l _ _ h))
  | fn _ => cases e
def dIsi (d : DE) (ts : List Ty) : DE := fun ρ => d ρ >>= fun a => match tyP a.1 with
  | some t => .ok (.bl (ts.any (isi t)), a.2)
  | none => .bad
theorem pe_is1 {p px : Pos} {x : Str} {e : Expr} {d : DE} {t : Ty} (hK : X.K = T.K) (hg : Gl X "isinstance") (hm : X.mg "isinstance" = none) (ht : PE X (.Name x px) (tC (.ty t.nm))) (ne : notStar e = true) (he : PE X e (tE T E d)) :
    PE X (.Call (.Name "isinstance" p) [e, .Name x px] [] pos) (tE T E (dIsi d [t])) :=
  (pe_callB call_isi hg hm PyProof.Rows.boot_isinstance (pa_cons he (pa_cons ht pa_nil rfl) (star_of ne _ _)) (by decide) (by decide) (star_of ne _ _) rfl).imp fun σ H Q ⟨F, ρ, A, s, q⟩ => ⟨F, ρ, A, s, (Post.bind q).imp fun p ρ1 F1 H1 A1 st1 so1 q1 v rv => by
    rw [hK]
    cases e1 : tyP p with
    | none => simp only [e1] at q1; exact q1.elim
    | some t' =>
      simp only [e1] at q1
      refine ⟨v, .ty t.nm, _, _, _, rfl, .ty _, ty_of so1.fh rv e1, kit_isi _ _ _, q1 _ _ A1 so1.refl so1 _ ?_⟩
      simp only [List.any_cons, List.any_nil, Bool.or_false]
      exact .bl _⟩
theorem kitAny_isi (K : PySem.W.Frag) (a : Ty) : ∀ bs : List Ty, PySem.W.kitAny K (.type a.nm) (bs.map fun b => .type b.nm) = some (bs.any (isi a))
  | [] => kitAny_nil
  | b :: bs => by
    rw [List.map_cons, List.any_cons]
    exact kitAny_cons (kit_isi K a b) (fun h => by rw [h, Bool.false_or]; exact kitAny_isi K a bs) (fun h => by rw [h, Bool.true_or])
theorem clsv_all : ∀ bs : List Ty, Paired ClsV (bs.map fun b => V.ty b.nm) (bs.map fun b => Value.type b.nm)
  | [] => .nil
  | b :: bs => .cons (.ty _) (clsv_all bs)
def tTys : List Ty → TA
  | [] => tNil
  | t :: ts => tCons (tC (.ty t.nm)) (tTys ts)
theorem tTys_run {ts : List Ty} {Q : List V → Hp → Prop} (h : Q (ts.map fun b => V.ty b.nm) H) : tTys ts σ H Q := by
  induction ts generalizing Q with
  | nil => exact h
  | cons t ts ih => exact ih (Q := fun xs H1 => Q (.ty t.nm :: xs) H1) h
theorem pe_isT {p px : Pos} {e : Expr} {es : List Expr} {kk : Nat} {d : DE} {ts : List Ty} (hK : X.K = T.K) (hg : Gl X "isinstance") (hm : X.mg "isinstance" = none) (hl : ts.length ≤ sizeLine) (ht : PA X es (tTys ts)) (ne : notStar e = true) (he : PE X e (tE T E d)) :
    PE X (.Call (.Name "isinstance" p) [e, .Tuple es kk px] [] pos) (tE T E (dIsi d ts)) :=
  (pe_callB call_isiT hg hm PyProof.Rows.boot_isinstance (pa_cons he (pa_cons (pe_tup ht) pa_nil rfl) (star_of ne _ _)) (by decide) (by decide) (star_of ne _ _) rfl).imp fun σ H Q ⟨F, ρ, A, s, q⟩ => ⟨F, ρ, A, s, (Post.bind q).imp fun p ρ1 F1 H1 A1 st1 so1 q1 v rv => by
    refine tTys_run ⟨by simpa using hl, fun c hc => ?_⟩
    rw [hK]
    cases e1 : tyP p with
    | none => simp only [e1] at q1; exact q1.elim
    | some t' =>
      simp only [e1] at q1
      have s0 : Stp Nil F1 H1 Nil F1 (upd H1 c (.tup (ts.map fun b => V.ty b.nm))) := ⟨Le.refl _, fun b u q => by
        have : b ≠ c := fun z => by rw [z] at q; rw [so1.fh _ _ q] at hc; cases hc
        rw [upd_ne this]; exact so1.fh _ _ q, fun b u q _ => by
        have : b ≠ c := fun z => by rw [z, hc] at q; cases q
        rw [upd_ne this]; exact q, fun b q n => absurd n q, fun _ q => q.elim, fun _ q => q.elim⟩
      exact ⟨v, c, _, _, _, _, rfl, upd_same, clsv_all ts, ty_of s0.fh rv e1, kitAny_isi _ _ _, q1 _ _ A1 (so1.pure s0) (so1.purely s0) _ (.bl _)⟩⟩
end
end Dn

/-! DnL: chains, operators with new lists, slices with new lists, ranges as lists, a name given away. -/
namespace Dn
open PySem PySem.Spec PyProof.Rows L2

/-! ### chains of any length -/
section
variable {T : Tb} {E : XK} {X : Cx} {pos : Pos}
abbrev Lk := (PV → PV → Option PV) × DE
def dCh : PV → Lk → List Lk → Env → Res (PV × Env)
  | p, gd, [], ρ => gd.2 ρ >>= fun b => match gd.1 p b.1 with
    | some r => .ok (r, b.2)
    | none => .bad
  | p, gd, gd' :: l, ρ => gd.2 ρ >>= fun b => match gd.1 p b.1 with
    | some (.bl true) => dCh b.1 gd' l b.2
    | some (.bl false) => .ok (.bl false, b.2)
    | _ => .bad
def dChs (da : DE) (gd : Lk) (l : List Lk) : DE := fun ρ => da ρ >>= fun a => dCh a.1 gd l a.2
inductive Chs (T : Tb) (E : XK) (X : Cx) : CmpOp → List CmpOp → Expr → List Expr → Lk → List Lk → Prop
  | one {op : CmpOp} {e : Expr} {g : PV → PV → Option PV} {d : DE} (hg : CmpS T X op g) (he : PE X e (tE T E d)) : Chs T E X op [] e [] (g, d) []
  | cons {op op' : CmpOp} {ops : List CmpOp} {e e' : Expr} {es : List Expr} {g : PV → PV → Option PV} {d : DE} {gd : Lk} {l : List Lk} (hg : CmpS T X op g) (he : PE X e (tE T E d)) (r : Chs T E X op' ops e' es gd l) : Chs T E X op (op' :: ops) e (e' :: es) (g, d) (gd :: l)
theorem ch_run {op : CmpOp} {ops : List CmpOp} {e : Expr} {es : List Expr} {gd : Lk} {l : List Lk} (hc : Chs T E X op ops e es gd l) : ∀ (pins : List (Addr × Obj)) (s : Shared) (σ : L2.St) (H F : Hp) (ρ : Env) (A : Ow) (v : V) (p : PV) (u : Value) (Q : VK),
    Inv X pins σ H s → RelV v u → Rz T F v p → SOk T F H σ ρ A → Post T E F H σ A (fun r _ F' H' _ => ∀ w, Rz T F' w r → Q w H') (dCh p gd l ρ) →
    wpAny (model X.prog X.w) X.A (compareChain pos u (op :: ops) (eval e X.env :: evalEach es X.env)) (EP X pins σ Q) X.xe s := by
  induction hc with
  | @one op e g d hg he =>
    intro pins s σ H F ρ A v p u Q I rv rz so q
    obtain ⟨R, ho, hs⟩ := hg
    refine chain_last (thn (he.run pins s σ H (fun y H2 => R v y H2 Q) I ⟨F, ρ, A, so, (Post.bind q).imp fun b ρ1 F1 H1 A1 st1 so1 q1 y ry => ?_⟩) fun w s2 ⟨y, H2, I2, r2, q2⟩ => ho pins s2 σ H2 v y u w Q I2 rv r2 q2)
    cases e1 : g p b with
    | none => simp only [e1] at q1; exact q1.elim
    | some r =>
      simp only [e1] at q1
      exact hs _ _ _ _ _ F1 H1 Q so1.fh (rz.le st1.ff) ry e1 fun x F3 H3 st3 r3 => q1 F3 H3 A1 (so1.pure st3) (so1.purely st3) x r3
  | @cons op op' ops e e' es g d gd l hg he r ih =>
    intro pins s σ H F ρ A v p u Q I rv rz so q
    obtain ⟨R, ho, hs⟩ := hg
    refine chain_link (thn (he.run pins s σ H (fun y H2 => R v y H2 fun z H3 => ∃ k, z = .bl k ∧ if k = true then ∃ F3 ρ3 A3 p3, SOk T F3 H3 σ ρ3 A3 ∧ Rz T F3 y p3 ∧ Post T E F3 H3 σ A3 (fun r _ F' H' _ => ∀ w, Rz T F' w r → Q w H') (dCh p3 gd l ρ3) else Q (.bl false) H3) I
      ⟨F, ρ, A, so, (Post.bind q).imp fun b ρ1 F1 H1 A1 st1 so1 q1 y ry => ?_⟩) fun w s2 ⟨y, H2, I2, r2, q2⟩ => thn (ho pins s2 σ H2 v y u w _ I2 rv r2 q2) fun d s3 ⟨z, H3, I3, r3, k, e, q3⟩ => ?_)
    · cases e1 : g p b with
      | none => simp only [e1] at q1; exact q1.elim
      | some r =>
        simp only [e1] at q1
        refine hs _ _ _ _ _ F1 H1 _ so1.fh (rz.le st1.ff) ry e1 fun x F3 H3 st3 r3 => ?_
        cases r with
        | bl k =>
          cases r3
          refine ⟨k, rfl, ?_⟩
          cases k with
          | false => rw [if_neg (by decide)]; exact q1 F3 H3 A1 (so1.pure st3) (so1.purely st3) _ (.bl _)
          | true => rw [if_pos rfl]; exact ⟨F3, ρ1, A1, b, so1.purely st3, ry.le st3.ff, Post.after (so1.pure st3) q1⟩
        | _ => exact q1.elim
    · subst e
      cases r3
      refine wpAny_truthy_bool ?_
      cases k with
      | false => exact ite_ff ⟨.bl false, H3, I3, rfl, q3⟩
      | true =>
        rw [if_pos rfl] at q3
        obtain ⟨F3, ρ3, A3, p3, so3, rz3, q4⟩ := q3
        exact ite_tt (ih pins s3 σ H3 F3 ρ3 A3 y p3 w Q I3 r2 rz3 so3 q4)
theorem tst_run {op : CmpOp} {ops : List CmpOp} {e : Expr} {es : List Expr} {gd : Lk} {l : List Lk} (hc : Chs T E X op ops e es gd l) : ∀ (pins : List (Addr × Obj)) (s : Shared) (σ : L2.St) (H F : Hp) (ρ : Env) (A : Ow) (v : V) (p : PV) (u : Value) (Q : Bool → Hp → Prop),
    Inv X pins σ H s → RelV v u → Rz T F v p → SOk T F H σ ρ A → Post T E F H σ A (fun r _ F' H' _ => ∀ w, Rz T F' w r → ∃ k, w = .bl k ∧ Q k H') (dCh p gd l ρ) →
    wpAny (model X.prog X.w) X.A (testChain pos u (op :: ops) (eval e X.env :: evalEach es X.env)) (TP X pins σ Q) X.xe s := by
  induction hc with
  | @one op e g d hg he =>
    intro pins s σ H F ρ A v p u Q I rv rz so q
    obtain ⟨R, ho, hs⟩ := hg
    refine test_last (thn (he.run pins s σ H (fun y H2 => R v y H2 fun w H' => ∃ k, w = .bl k ∧ Q k H') I ⟨F, ρ, A, so, (Post.bind q).imp fun b ρ1 F1 H1 A1 st1 so1 q1 y ry => ?_⟩) fun w s2 ⟨y, H2, I2, r2, q2⟩ => thn (ho pins s2 σ H2 v y u w _ I2 rv r2 q2) fun d s3 ⟨z, H3, I3, r3, k, e, q3⟩ => ?_)
    · cases e1 : g p b with
      | none => simp only [e1] at q1; exact q1.elim
      | some r =>
        simp only [e1] at q1
        exact hs _ _ _ _ _ F1 H1 _ so1.fh (rz.le st1.ff) ry e1 fun x F3 H3 st3 r3 => q1 F3 H3 A1 (so1.pure st3) (so1.purely st3) x r3
    · subst e
      cases r3
      exact wpAny_truthy_bool ⟨H3, I3, q3⟩
  | @cons op op' ops e e' es g d gd l hg he r ih =>
    intro pins s σ H F ρ A v p u Q I rv rz so q
    obtain ⟨R, ho, hs⟩ := hg
    refine test_link (thn (he.run pins s σ H (fun y H2 => R v y H2 fun z H3 => ∃ k, z = .bl k ∧ if k = true then ∃ F3 ρ3 A3 p3, SOk T F3 H3 σ ρ3 A3 ∧ Rz T F3 y p3 ∧ Post T E F3 H3 σ A3 (fun r _ F' H' _ => ∀ w, Rz T F' w r → ∃ k, w = .bl k ∧ Q k H') (dCh p3 gd l ρ3) else Q false H3) I
      ⟨F, ρ, A, so, (Post.bind q).imp fun b ρ1 F1 H1 A1 st1 so1 q1 y ry => ?_⟩) fun w s2 ⟨y, H2, I2, r2, q2⟩ => thn (ho pins s2 σ H2 v y u w _ I2 rv r2 q2) fun d s3 ⟨z, H3, I3, r3, k, e, q3⟩ => ?_)
    · cases e1 : g p b with
      | none => simp only [e1] at q1; exact q1.elim
      | some r =>
        simp only [e1] at q1
        refine hs _ _ _ _ _ F1 H1 _ so1.fh (rz.le st1.ff) ry e1 fun x F3 H3 st3 r3 => ?_
        cases r with
        | bl k =>
          cases r3
          refine ⟨k, rfl, ?_⟩
          cases k with
          | false =>
            rw [if_neg (by decide)]
            obtain ⟨k, ek, qk⟩ := q1 F3 H3 A1 (so1.pure st3) (so1.purely st3) _ (.bl _)
            cases ek
            exact qk
          | true => rw [if_pos rfl]; exact ⟨F3, ρ1, A1, b, so1.purely st3, ry.le st3.ff, Post.after (so1.pure st3) q1⟩
        | _ => exact q1.elim
    · subst e
      cases r3
      refine wpAny_truthy_bool ?_
      cases k with
      | false => exact ite_ff ⟨H3, I3, q3⟩
      | true =>
        rw [if_pos rfl] at q3
        obtain ⟨F3, ρ3, A3, p3, so3, rz3, q4⟩ := q3
        exact ite_tt (ih pins s3 σ H3 F3 ρ3 A3 y p3 w Q I3 r2 rz3 so3 q4)
theorem pe_chN {op op' : CmpOp} {ops : List CmpOp} {a b c : Expr} {es : List Expr} {da : DE} {gd gd' : Lk} {l : List Lk} (ha : PE X a (tE T E da)) (hc : Chs T E X op (op' :: ops) b (c :: es) gd (gd' :: l)) (hm : lastMarks (op :: op' :: ops) (b :: c :: es) = false) :
    PE X (.Compare a (op :: op' :: ops) (b :: c :: es) pos) (tE T E (dChs da gd (gd' :: l))) := by
  refine ⟨fun pins s σ H Q I h => ?_⟩
  obtain ⟨F, ρ, A, so, q⟩ := h
  refine Compare_chain (thn (ha.run pins s σ H (fun v H1 => ∃ F1 ρ1 A1 p, SOk T F1 H1 σ ρ1 A1 ∧ Rz T F1 v p ∧ Post T E F1 H1 σ A1 (fun r _ F' H' _ => ∀ w, Rz T F' w r → Q w H') (dCh p gd (gd' :: l) ρ1)) I ⟨F, ρ, A, so, (Post.bind q).imp fun p ρ1 F1 H1 A1 st1 so1 q1 v rv => ⟨F1, ρ1, A1, p, so1, rv, q1⟩⟩)
    fun u s1 ⟨v, H1, I1, r1, F1, ρ1, A1, p, so1, rz1, q1⟩ => ch_run hc pins s1 σ H1 F1 ρ1 A1 v p u Q I1 r1 rz1 so1 q1) hm
theorem pt_chN {op op' : CmpOp} {ops : List CmpOp} {a b c : Expr} {es : List Expr} {da : DE} {gd gd' : Lk} {l : List Lk} (ha : PE X a (tE T E da)) (hc : Chs T E X op (op' :: ops) b (c :: es) gd (gd' :: l)) (hm : lastMarks (op :: op' :: ops) (b :: c :: es) = false) :
    PT X (.Compare a (op :: op' :: ops) (b :: c :: es) pos) (tT T E (dB (dChs da gd (gd' :: l)))) := by
  refine ⟨fun pins s σ H Q I h => ?_⟩
  obtain ⟨F, ρ, A, so, q⟩ := dB_imp h
  refine isTrue_chain (thn (ha.run pins s σ H (fun v H1 => ∃ F1 ρ1 A1 p, SOk T F1 H1 σ ρ1 A1 ∧ Rz T F1 v p ∧ Post T E F1 H1 σ A1 (fun r _ F' H' _ => ∀ w, Rz T F' w r → ∃ k, w = .bl k ∧ Q k H') (dCh p gd (gd' :: l) ρ1)) I ⟨F, ρ, A, so, (Post.bind q).imp fun p ρ1 F1 H1 A1 st1 so1 q1 v rv => ⟨F1, ρ1, A1, p, so1, rv, q1⟩⟩)
    fun u s1 ⟨v, H1, I1, r1, F1, ρ1, A1, p, so1, rz1, q1⟩ => tst_run hc pins s1 σ H1 F1 ρ1 A1 v p u Q I1 r1 rz1 so1 q1) hm
end

/-! ### operators that may make a list of one's own -/
section
variable {T : Tb} {E : XK} {X : Cx} {σ : L2.St} {F H : Hp} {ρ : Env} {A : Ow} {pos : Pos}
def OpSO (T : Tb) (R : R2) (g : PV → PV → Option (List PV)) : Prop := ∀ x y p q r F H Q, Le F H → Rz T F x p → Rz T F y q → g p q = some r → (∀ p, H p = none → ∀ vs, RzL T F vs r → Q (.ref p) (upd H p (.lst vs))) → R x y H Q
def dBinM (gl : PV → PV → Option (List PV)) (g : PV → PV → Option PV) (da db : DE) : DO := fun ρ => da ρ >>= fun a => db a.2 >>= fun b => match gl a.1 b.1 with
  | some r => .ok (.o r, b.2)
  | none => match g a.1 b.1 with
    | some r => .ok (.z r, b.2)
    | none => .bad
theorem binM_imp {R : R2} {gl : PV → PV → Option (List PV)} {g : PV → PV → Option PV} {da db : DE} (hl : OpSO T R gl) (hg : OpS T R g) {Q : VK} (h : tO T E (dBinM gl g da db) σ H Q) : tOp R (tE T E da) (tE T E db) σ H Q := by
  obtain ⟨F, ρ, A, s, q⟩ := h
  refine ⟨F, ρ, A, s, (PostO.bind q).imp fun p ρ1 F1 H1 A1 st1 so1 q1 v rv => ?_⟩
  refine ⟨F1, ρ1, A1, so1, (PostO.bind q1).imp fun p2 ρ2 F2 H2 A2 st2 so2 q2 v2 rv2 => ?_⟩
  have rv' := rv.le st2.ff
  cases e : gl p p2 with
  | some r =>
    simp only [e] at q2
    refine hl _ _ _ _ _ F2 H2 Q so2.fh rv' rv2 e fun c hc vs rvs => ?_
    obtain ⟨a, b, c, d⟩ := own_new so2 hc rvs
    exact q2 _ _ _ _ _ a b c d
  | none =>
    simp only [e] at q2
    cases e2 : g p p2 with
    | none => simp only [e2] at q2; exact q2.elim
    | some r =>
      simp only [e2] at q2
      exact hg _ _ _ _ _ F2 H2 Q so2.fh rv' rv2 e2 fun w F3 H3 st3 r3 => q2 F3 H3 A2 [] w ((so2.pure st3).less fun b z => z.elim id fun z => absurd z (by simp)) (so2.purely st3) ⟨rfl, r3⟩ fun b z => absurd z (by simp)
def gAddL : PV → PV → Option (List PV)
  | .lst xs, .lst ys => if xs.length + ys.length ≤ sizeLine then some (xs ++ ys) else none
  | _, _ => none
theorem so_add : OpSO T (rAddA T.K) gAddL := by
  intro x y p q r F H Q l rx ry e k
  unfold gAddL at e
  split at e
  · split at e
    · rename_i z
      cases e
      cases rx with
      | lst h1 r1 =>
        cases ry with
        | lst h2 r2 => exact .inr (.inr (.inl ⟨_, _, _, _, rfl, rfl, l _ _ h1, l _ _ h2, by rw [r1.length, r2.length]; exact z, fun p hp => k p hp _ (r1.app r2)⟩))
    · cases e
  · cases e
def gMulL : PV → PV → Option (List PV)
  | .lst xs, .int k => if decide (-(2 ^ 63) ≤ k) && decide (k < 2 ^ 63) && decide (xs.length * k.toNat ≤ sizeLine) then some (List.replicate k.toNat xs).flatten else none
  | _, _ => none
theorem so_mul : OpSO T (rMulA T.K) gMulL := by
  intro x y p q r F H Q l rx ry e k
  unfold gMulL at e
  split at e
  · split at e
    · rename_i z
      simp only [Bool.and_eq_true, decide_eq_true_eq] at z
      cases e
      cases rx with
      | lst h1 r1 =>
        cases ry
        exact .inr (.inl ⟨_, _, _, rfl, rfl, l _ _ h1, z.1.1, z.1.2, by rw [r1.length]; exact z.2, fun p hp => k p hp _ (r1.rep _)⟩)
    · cases e
  · cases e
def dSlO (d : DE) (dl dh : DPo) : DO := fun ρ => d ρ >>= fun a => dl a.2 >>= fun l => dh l.2 >>= fun h => match a.1 with
  | .lst xs => .ok (.o (cutP xs l.1 h.1), h.2)
  | .scr xs => .ok (.o (cutP xs l.1 h.1), h.2)
  | .tup xs => .ok (.z (.tup (cutP xs l.1 h.1)), h.2)
  | _ => .bad
theorem pe_slO {e : Expr} {lo hi : Option Expr} {d : DE} {dl dh : DPo} {p2 : Pos} (hK : X.K = T.K) (he : PE X e (tE T E d)) (hl : PO X lo (tPo T E dl)) (hh : PO X hi (tPo T E dh)) : PE X (.Subscript e (.Slice lo hi none p2) pos) (tO T E (dSlO d dl dh)) :=
  (pe_slice (r := rSlS X.K) (sl_list.or sl_tupA) he hl hh).imp fun σ H Q ⟨F, ρ, A, s, q⟩ => ⟨F, ρ, A, s, (PostO.bind q).imp fun p ρ1 F1 H1 A1 st1 so1 q1 v rv =>
    ⟨F1, ρ1, A1, so1, (PostO.bind q1).imp fun l ρ2 F2 H2 A2 st2 so2 q2 => ⟨F2, ρ2, A2, so2, (PostO.bind q2).imp fun h ρ3 F3 H3 A3 st3 so3 q3 => by
      have rv3 := (rv.le st2.ff).le st3.ff
      rw [hK]
      cases rv3 with
      | lst h1 r1 =>
        refine .inl ⟨_, _, rfl, .inl (.inl (so3.fh _ _ h1)), fun p hp => ?_⟩
        obtain ⟨a, b, c, d⟩ := own_new so3 hp (cut_rz r1 l h)
        exact q3 _ _ _ _ _ a b c d
      | scr h1 r1 =>
        refine .inl ⟨_, _, rfl, SqL.le so3.fh h1, fun p hp => ?_⟩
        obtain ⟨a, b, c, d⟩ := own_new so3 hp (cut_rz r1 l h)
        exact q3 _ _ _ _ _ a b c d
      | @tup a vs ps h1 r1 =>
        have fin : ∀ {w : V} {F' H' : Hp}, Stp Nil F3 H3 Nil F' H' → Rz T F' w (.tup (cutP ps l h)) → Q w H' := fun st r => q3 _ _ A3 [] _ ((so3.pure st).less fun b z => z.elim id fun z => absurd z (by simp)) (so3.purely st) ⟨rfl, r⟩ fun b z => absurd z (by simp)
        refine .inr ⟨_, _, rfl, SqT.le so3.fh h1, fun w => ?_, fun w p hp => ?_⟩
        · rw [r1.length] at w
          refine fin (stp_same so3.fh) ?_
          rw [cut_whole _ w]
          exact .tup h1 r1
        · obtain ⟨a, b⟩ := new_tup so3.fh (cut_rz r1 l h) hp
          exact fin a b
      | _ => exact q3.elim⟩⟩⟩
/-! list(range(..)), tuple(range(..)) -/
theorem rgV_eq (a b : Int) : rgV a b = (rangeF a (b - a).toNat).map (fun p => match p with
  | .int i => V.int i
  | _ => .non) := by
  unfold rgV
  have go : ∀ (n : Nat) (a : Int), (List.range n).map (fun i => V.int (a + (i : Nat))) = (rangeF a n).map (fun p => match p with
      | .int i => V.int i
      | _ => .non) := by
    intro n
    induction n with
    | zero => intro a; rfl
    | succ n ih =>
      intro a
      rw [List.range_succ_eq_map, List.map_cons, List.map_map]
      simp only [rangeF, List.map_cons]
      congr 1
      · simp
      · rw [← ih (a + 1)]
        apply List.map_congr_left
        intro i _
        simp only [Function.comp]
        congr 1
        omega
  exact go _ _
theorem rg_rz (a b : Int) : RzL T F (rgV a b) (rangeF a (b - a).toNat) := by
  rw [rgV_eq]
  have go : ∀ (n : Nat) (a : Int), RzL T F ((rangeF a n).map (fun p => match p with
      | .int i => V.int i
      | _ => .non)) (rangeF a n) := by
    intro n
    induction n with
    | zero => intro a; exact .nil
    | succ n ih => intro a; exact .cons (.int a) (ih (a + 1))
  exact go _ _
def rgOk (a b : Int) : Bool := smallI a && smallI b && decide ((b - a).toNat ≤ 2 ^ 24)
theorem rgOk_ok {a b : Int} (h : rgOk a b = true) : RgOk a b := by
  simp only [rgOk, smallI, Bool.and_eq_true, decide_eq_true_eq] at h
  exact ⟨h.1.1.1, h.1.1.2, h.1.2.1, h.1.2.2, h.2⟩
def dRg1 (d : DE) : DEs := fun ρ => d ρ >>= fun a => match a.1 with
  | .int n => if rgOk 0 n then .ok (rangeF 0 (n - 0).toNat, a.2) else .bad
  | _ => .bad
def dRg2 (da db : DE) : DEs := fun ρ => da ρ >>= fun a => db a.2 >>= fun b => match a.1, b.1 with
  | .int m, .int n => if rgOk m n then .ok (rangeF m (n - m).toNat, b.2) else .bad
  | _, _ => .bad
/-- the ints of a range that is made -/
def RgS (T : Tb) (E : XK) (te : L2.St → Hp → (Int → Int → Hp → Prop) → Prop) (d : DEs) : Prop := ∀ (σ : L2.St) (H : Hp) (Q : Int → Int → Hp → Prop), (∃ F ρ A, SOk T F H σ ρ A ∧ Post T E F H σ A (fun ps _ F' H' _ => ∀ a b, ps = rangeF a (b - a).toNat → rgOk a b = true → Q a b H') (d ρ)) → te σ H Q
theorem rg_1 {ta : TE} {d : DE} (h : ∀ σ H Q, tE T E d σ H Q → ta σ H Q) : RgS T E (tRg1 ta) (dRg1 d) := fun σ H Q ⟨F, ρ, A, s, q⟩ => h _ _ _ ⟨F, ρ, A, s, (Post.bind q).imp fun p ρ1 F1 H1 A1 st1 so1 q1 v rv => by
  cases p with
  | int n =>
    cases rv
    dsimp only at q1
    by_cases z : rgOk 0 n = true
    · rw [if_pos z] at q1
      exact ⟨n, rfl, Post.here so1 q1 0 n rfl z⟩
    · rw [if_neg z] at q1; exact q1.elim
  | _ => exact q1.elim⟩
theorem rg_2 {ta tb : TE} {da db : DE} (h : ∀ σ H Q, tE T E da σ H Q → ta σ H Q) (h' : ∀ σ H Q, tE T E db σ H Q → tb σ H Q) : RgS T E (tRg2 ta tb) (dRg2 da db) := fun σ H Q ⟨F, ρ, A, s, q⟩ => h _ _ _ ⟨F, ρ, A, s, (Post.bind q).imp fun p ρ1 F1 H1 A1 st1 so1 q1 v rv => h' _ _ _ ⟨F1, ρ1, A1, so1, (Post.bind q1).imp fun p2 ρ2 F2 H2 A2 st2 so2 q2 w rw' => by
  cases p with
  | int m =>
    cases p2 with
    | int n =>
      cases rv
      cases rw'
      dsimp only at q2
      by_cases z : rgOk m n = true
      · rw [if_pos z] at q2
        exact ⟨m, n, rfl, rfl, Post.here so2 q2 m n rfl z⟩
      · rw [if_neg z] at q2; exact q2.elim
    | _ => exact q2.elim
  | _ => exact q2.elim⟩⟩
def dLsO (d : DEs) : DO := fun ρ => d ρ >>= fun a => .ok (.o a.1, a.2)
def dTpl (d : DEs) : DE := fun ρ => d ρ >>= fun a => .ok (.tup a.1, a.2)
theorem lsRg_imp {te : L2.St → Hp → (Int → Int → Hp → Prop) → Prop} {d : DEs} (hr : RgS T E te d) {Q : VK} (h : tO T E (dLsO d) σ H Q) : tLstRg te σ H Q := by
  obtain ⟨F, ρ, A, s, q⟩ := h
  refine hr _ _ _ ⟨F, ρ, A, s, (PostO.bind q).imp fun ps ρ1 F1 H1 A1 st1 so1 q1 a b e z => ⟨rgOk_ok z, fun p hp => ?_⟩⟩
  subst e
  obtain ⟨x, y, z, w⟩ := own_new so1 hp (rg_rz a b)
  exact q1 _ _ _ _ _ x y z w
theorem tpRg_imp {te : L2.St → Hp → (Int → Int → Hp → Prop) → Prop} {d : DEs} (hr : RgS T E te d) {Q : VK} (h : tE T E (dTpl d) σ H Q) : tTupRg te σ H Q := by
  obtain ⟨F, ρ, A, s, q⟩ := h
  refine hr _ _ _ ⟨F, ρ, A, s, (Post.bind q).imp fun ps ρ1 F1 H1 A1 st1 so1 q1 a b e z => ⟨rgOk_ok z, fun p hp => ?_⟩⟩
  subst e
  obtain ⟨x, y⟩ := new_tup so1.fh (rg_rz a b) hp
  exact q1 _ _ A1 (so1.pure x) (so1.purely x) _ y
/-! ### return name: what the slot owns goes out -/
def dMv (i : Nat) : DO := fun ρ => match ρ[i]? with
  | some (some r) => .ok (r, ρ.set i none)
  | _ => .bad
theorem pe_mv {i : Nat} {x : Str} (hN : X.N[i]? = some x) (hv : Vis X.env.scope x) (hd : (x == ("__debug__" : Str)) = false) (hcd : (x == ("__classdict__" : Str)) = false) : PE X (.Name x pos) (tO T E (dMv i)) := (pe_var hN hv hd hcd).imp fun σ H Q ⟨F, ρ, A, s, q⟩ => by
  unfold dMv at q
  split at q
  · rename_i r e
    obtain ⟨v, h1, h2⟩ := s.slot i _ e
    have hi := lt_of_get e
    have own1 : ∀ b, Own (A.put i []) b ∨ b ∈ A i → Own A b := fun b z => z.elim (fun ⟨j, hb⟩ => by
      by_cases z : j = i
      · rw [z, Ow.put_same] at hb; simp at hb
      · rw [Ow.put_ne _ _ z] at hb; exact ⟨j, hb⟩) fun z => ⟨i, z⟩
    refine ⟨v, h1, q F H (A.put i []) (A i) v (s.refl.less own1) ⟨by rw [List.length_set]; exact s.len, fun j p ej => ?_, fun j k b hj hk => ?_, s.fh, fun j b hb => ?_, fun j b hb => ?_⟩ h2 fun b hb ⟨j, hj⟩ => ?_⟩
    · by_cases z : j = i
      · subst z; rw [List.getElem?_set_self hi] at ej; cases ej
      · rw [List.getElem?_set_ne (Ne.symm z)] at ej
        rw [Ow.put_ne _ _ z]
        exact s.slot j p ej
    · by_cases zj : j = i
      · rw [zj, Ow.put_same] at hj; simp at hj
      · by_cases zk : k = i
        · rw [zk, Ow.put_same] at hk; simp at hk
        · rw [Ow.put_ne _ _ zj] at hj
          rw [Ow.put_ne _ _ zk] at hk
          exact s.dj _ _ _ hj hk
    · by_cases z : j = i
      · rw [z, Ow.put_same] at hb; simp at hb
      · rw [Ow.put_ne _ _ z] at hb; exact s.nf _ _ hb
    · by_cases z : j = i
      · rw [z, Ow.put_same] at hb; simp at hb
      · rw [Ow.put_ne _ _ z] at hb; exact s.lv _ _ hb
    · by_cases z : j = i
      · rw [z, Ow.put_same] at hj; simp at hj
      · rw [Ow.put_ne _ _ z] at hj
        exact z (s.dj _ _ _ hj hb)
  · exact q.elim
end
end Dn

/-! DnM: from the syntax to what it denotes: the static part. -/
namespace Dn
open PySem PySem.Spec PyProof.Rows L2

def leqN : List Nat → List Nat → Bool
  | [], [] => true
  | a :: as, b :: bs => Nat.beq a b && leqN as bs
  | _, _ => false
theorem leqN_eq : ∀ {a b : List Nat}, leqN a b = true → a = b
  | [], [], _ => rfl
  | a :: as, b :: bs, h => by
    simp only [leqN, Bool.and_eq_true] at h
    rw [Nat.eq_of_beq_eq_true h.1, leqN_eq h.2]
  | [], _ :: _, h => by cases h
  | _ :: _, [], h => by cases h
theorem leqN_self : ∀ a : List Nat, leqN a a = true
  | [] => rfl
  | a :: as => by simp [leqN, leqN_self as]
def seqS (a b : Str) : Bool := leqN a.cps.toList b.cps.toList
theorem seqS_eq {a b : Str} (h : seqS a b = true) : a = b := PySem.W.str_of_cps (leqN_eq h)
theorem seqS_self (a : Str) : seqS a a = true := leqN_self _
def idx (x : Str) : List Str → Option Nat
  | [] => none
  | y :: ys => if seqS x y then some 0 else (idx x ys).map (· + 1)
theorem idx_get {x : Str} : ∀ {l : List Str} {i : Nat}, idx x l = some i → l[i]? = some x
  | [], _, h => by cases h
  | y :: ys, i, h => by
    unfold idx at h
    split at h
    · rename_i e; cases h; rw [seqS_eq e]; rfl
    · cases q : idx x ys with
      | none => rw [q] at h; cases h
      | some j => rw [q] at h; cases h; simpa using idx_get q
def lk (x : Str) : List (Str × NameKind) → Option NameKind
  | [] => none
  | (y, k) :: ys => if seqS x y then some k else lk x ys
theorem lk_eq (x : Str) : ∀ l : List (Str × NameKind), lk x l = l.lookup x
  | [] => rfl
  | (y, k) :: ys => by
    unfold lk
    rw [List.lookup_cons]
    by_cases h : x = y
    · subst h
      rw [if_pos (seqS_self _)]
      simp
    · rw [if_neg (fun e => h (seqS_eq e)), lk_eq x ys]
      have : (x == y) = false := by simpa using h
      rw [this]
theorem obnd {α β : Type} {x : Option α} {f : α → Option β} {b : β} (h : x.bind f = some b) : ∃ a, x = some a ∧ f a = some b := by
  cases x with
  | none => cases h
  | some a => exact ⟨a, rfl, h⟩
theorem omap {α β : Type} {x : Option α} {f : α → β} {b : β} (h : x.map f = some b) : ∃ a, x = some a ∧ f a = b := by
  cases x with
  | none => cases h
  | some a => cases h; exact ⟨a, rfl, rfl⟩

structure FnI where
  name : Str
  np : Nat
  mu : Bool
structure GT where
  fns : List FnI
  free : List Str
  con : List (Str × PV)
  exc : List Str
  nr : Nat
structure CC where
  gt : GT
  N : List Str
  sc : Scope
  raw : Option Scope
  fxb : Nat → Bool

def fidx (x : Str) : List FnI → Option (Nat × FnI)
  | [] => none
  | f :: fs => if seqS x f.name then some (0, f) else (fidx x fs).map fun p => (p.1 + 1, p.2)
theorem fidx_get {x : Str} : ∀ {l : List FnI} {i : Nat} {f : FnI}, fidx x l = some (i, f) → l[i]? = some f ∧ x = f.name
  | [], _, _, h => by cases h
  | g :: gs, i, f, h => by
    unfold fidx at h
    split at h
    · rename_i e; cases h; exact ⟨rfl, seqS_eq e⟩
    · obtain ⟨⟨j, f'⟩, h1, h2⟩ := omap h
      cases h2
      obtain ⟨a, b⟩ := fidx_get h1
      exact ⟨by simpa using a, b⟩
def cidx (x : Str) : List (Str × PV) → Option PV
  | [] => none
  | (y, p) :: fs => if seqS x y then some p else cidx x fs
theorem cidx_get {x : Str} {p : PV} : ∀ {l : List (Str × PV)}, cidx x l = some p → (x, p) ∈ l
  | [], h => by cases h
  | (y, q) :: gs, h => by
    unfold cidx at h
    split at h
    · rename_i e; cases h; rw [seqS_eq e]; exact List.mem_cons_self
    · exact List.mem_cons_of_mem _ (cidx_get h)
def sIn (x : Str) (l : List Str) : Bool := l.any fun y => seqS x y
theorem sIn_mem {x : Str} {l : List Str} (h : sIn x l = true) : x ∈ l := by
  unfold sIn at h
  obtain ⟨y, h1, h2⟩ := List.any_eq_true.mp h
  rw [seqS_eq h2]
  exact h1

/-- what the globals are -/
structure GOk (T : Tb) (C : Cals) (gt : GT) (prog : Program) (w : World) (K : PySem.W.Frag) (mg : Str → Option Value) (base : Heap) (A : Around) : Prop where
  fns : ∀ (i : Nat) (f : FnI), gt.fns[i]? = some f → (f.name == ("__debug__" : Str)) = false ∧ ∃ fd ps k, FnOk prog w K mg base (L2.CX prog w) k (T.fa i) fd ps (spG T C i f.np) ∧ Room k A ∧ mg f.name = some (.ref (T.fa i)) ∧ PySem.W.keepIn K (.ref (T.fa i)) = true ∧ Binds K fd ps []
  free : ∀ x ∈ gt.free, mg x = none
  con : ∀ x p, (x, p) ∈ gt.con → (x == ("__debug__" : Str)) = false ∧ ∃ v u, mg x = some u ∧ RelV v u ∧ ∀ F, Rz T F v p
  exc : ∀ (i : Nat) (x : Str), gt.exc[i]? = some x → (x == ("__debug__" : Str)) = false ∧ ∃ D, T.cls i = .ref D ∧ mg x = some (.ref D) ∧ (i < gt.nr → PySem.W.keepIn K (.ref D) = true ∧ PySem.W.excIn K D [.type "ValueError", .type "Exception", .type "BaseException", .type "object"] "ValueError.__new__" = true ∧
    PySem.W.subIn K (.ref D) (.type "BaseException") = some true ∧ PySem.W.typeIn K (.ref D) = some (.type "type") ∧ ExcC K D ∧ PySem.W.kitOne K (.ref D) (.type "ValueError") = some true)
  exm : ∀ (i j : Nat) (x y : Str), i < gt.nr → gt.exc[i]? = some x → gt.exc[j]? = some y → PySem.W.exmOne K (T.cls i) (T.cls j) = some (Nat.beq i j)
structure CxOk (T : Tb) (E : XK) (C : Cals) (c : CC) (X : Cx) : Prop where
  K : X.K = T.K
  N : X.N = c.N
  nd : c.N.Nodup
  nm : ∀ x ∈ c.N, (x == ("__debug__" : Str)) = false ∧ (x == ("__classdict__" : Str)) = false
  sc : X.env.scope = c.sc
  calm : X.calm = true
  fn : match c.raw with
    | none => ∀ x, X.fn x = true
    | some s => ∀ x, s.names.lookup x = some .cell → X.fn x = true
  un : X.A.units + 65 < cLine
  g : GOk T C c.gt X.prog X.w X.K X.mg X.base X.A
  px : Passes (L2.CX X.prog X.w) X E
/-- .. where statements run -/
structure StOk (T : Tb) (E : XK) (X : Cx) : Prop where
  po : PassesOwn (model X.prog X.w) X.A X.env X.xe
  tk : Takes X (fun cls d _ H => E cls d H)
  kd : X.env.scope.kind = .function
  st : X.stack = X.env :: X.outer
  fr : X.env.frame = some X.env.locals
def CC.slot (c : CC) (x : Str) : Option Nat := match lk x c.sc.names with
  | some .local => idx x c.N
  | some .cell => idx x c.N
  | some .free => idx x c.N
  | _ => none
def CC.isG (c : CC) (x : Str) : Bool := match lk x c.sc.names with
  | some .globalImplicit => true
  | _ => false
def CC.tgt (c : CC) (x : Str) : Option Nat := match lk x c.sc.names with
  | some .local => (idx x c.N).bind fun i => if c.fxb i then none else some i
  | some .cell => match c.raw with
    | none => (idx x c.N).bind fun i => if c.fxb i then none else some i
    | some s => match lk x s.names with
      | some .cell => (idx x c.N).bind fun i => if c.fxb i then none else some i
      | _ => none
  | _ => none
section
variable {T : Tb} {E : XK} {C : Cals} {c : CC} {X : Cx}
theorem CxOk.slot (ok : CxOk T E C c X) {x : Str} {i : Nat} (h : c.slot x = some i) : X.N[i]? = some x ∧ Vis X.env.scope x ∧ (x == ("__debug__" : Str)) = false ∧ (x == ("__classdict__" : Str)) = false := by
  unfold CC.slot at h
  rw [lk_eq, ← ok.sc] at h
  have fin : ∀ {i : Nat}, idx x c.N = some i → X.N[i]? = some x ∧ (x == ("__debug__" : Str)) = false ∧ (x == ("__classdict__" : Str)) = false := fun h => by
    have e := idx_get h
    exact ⟨by rw [ok.N]; exact e, ok.nm x (List.mem_of_getElem? e)⟩
  split at h
  · rename_i e; obtain ⟨a, b, d⟩ := fin h; exact ⟨a, .inl e, b, d⟩
  · rename_i e; obtain ⟨a, b, d⟩ := fin h; exact ⟨a, .inr (.inl e), b, d⟩
  · rename_i e; obtain ⟨a, b, d⟩ := fin h; exact ⟨a, .inr (.inr e), b, d⟩
  · cases h
theorem CxOk.gl (ok : CxOk T E C c X) {x : Str} (h : c.isG x = true) : Gl X x := by
  unfold CC.isG at h
  rw [lk_eq, ← ok.sc] at h
  split at h
  · assumption
  · cases h
theorem tgt_aux {i : Nat} {x : Str} (h : ((idx x c.N).bind fun i => if c.fxb i then none else some i) = some i) : idx x c.N = some i ∧ ¬ c.fxb i = true := by
  obtain ⟨j, h1, h2⟩ := obnd h
  split at h2
  · cases h2
  · rename_i z; cases h2; exact ⟨h1, z⟩
theorem CxOk.tgt (ok : CxOk T E C c X) {x : Str} {i : Nat} (h : c.tgt x = some i) : X.N[i]? = some x ∧ Loc X.env.scope x ∧ (X.fn x = true ∨ X.env.scope.names.lookup x = some .local) ∧ ¬ c.fxb i = true := by
  unfold CC.tgt at h
  rw [lk_eq, ← ok.sc] at h
  have of := ok.fn
  split at h
  · rename_i e
    obtain ⟨a, b⟩ := tgt_aux h
    exact ⟨by rw [ok.N]; exact idx_get a, .inl e, .inr e, b⟩
  · rename_i e
    split at h
    · rename_i er
      rw [er] at of
      obtain ⟨a, b⟩ := tgt_aux h
      exact ⟨by rw [ok.N]; exact idx_get a, .inr e, .inl (of x), b⟩
    · rename_i s er
      rw [er] at of
      rw [lk_eq] at h
      split at h
      · rename_i e2
        obtain ⟨a, b⟩ := tgt_aux h
        exact ⟨by rw [ok.N]; exact idx_get a, .inr e, .inl (of x e2), b⟩
      · cases h
  · cases h
theorem CxOk.un0 (ok : CxOk T E C c X) : X.A.units + 64 < cLine := Nat.lt_of_succ_lt ok.un
end

/-! ### no stars -/
theorem back_any (pos : Pos) : ∀ l : List (Bool × Sem Value), (backTo pos l).any (·.1) = l.any (·.1)
  | [] => rfl
  | (b, t) :: l => by
    have := back_any pos l
    unfold backTo at this ⊢
    simp only [List.map_cons, List.any_cons]
    rw [this]
theorem star_any {es : List Expr} (h : es.all notStar = true) (env : PySem.Env) : (starEach es env).any (·.1) = false := by
  induction es with
  | nil => rfl
  | cons e es ih =>
    simp only [List.all_cons, Bool.and_eq_true] at h
    rw [star_of h.1, List.any_cons, ih h.2]
    rfl
theorem back_star {es : List Expr} (h : es.all notStar = true) (pos : Pos) (env : PySem.Env) : (backTo pos (starEach es env)).any (·.1) = false := by
  rw [back_any]
  exact star_any h env
theorem each_len {es : List Expr} (h : es.all notStar = true) (env : PySem.Env) : (assignEach es env).length = es.length ∧ (assignEach es env).findIdx? (·.1) = none := by
  induction es with
  | nil => exact ⟨rfl, rfl⟩
  | cons e es ih =>
    simp only [List.all_cons, Bool.and_eq_true] at h
    obtain ⟨a, b⟩ := ih h.2
    have e1 : assignEach (e :: es) env = (false, assign e env) :: assignEach es env := by
      cases e <;> first | rfl | (simp [notStar] at h)
    rw [e1]
    refine ⟨congrArg (· + 1) a, ?_⟩
    rw [List.findIdx?_cons]
    simp [b]
theorem each_map {e : Expr} {es : List Expr} (h : notStar e = true) (env : PySem.Env) : (assignEach (e :: es) env).map (·.2) = assign e env :: (assignEach es env).map (·.2) := by
  cases e <;> first | rfl | (simp [notStar] at h)
theorem marks_of {op : CmpOp} {e : Expr} (h : notSet e = true) : behindInMarks op e = false := by
  cases e <;> first | rfl | (simp [notSet] at h)
theorem lmarks_of : ∀ {ops : List CmpOp} {es : List Expr}, es.all notSet = true → lastMarks ops es = false
  | [], [], _ => rfl
  | [], _ :: _, _ => by unfold lastMarks; rfl
  | [op], [e], h => by
    unfold lastMarks
    exact marks_of (by simpa using h)
  | [_], [], _ => by unfold lastMarks; rfl
  | _ :: _ :: _, [], _ => by unfold lastMarks; rfl
  | [op], e :: e' :: es, h => by
    show lastMarks [] (e' :: es) = false
    exact lmarks_of (by simp only [List.all_cons, Bool.and_eq_true] at h ⊢; exact h.2)
  | op :: op' :: ops, e :: es, h => by
    show lastMarks (op' :: ops) es = false
    exact lmarks_of (by simp only [List.all_cons, Bool.and_eq_true] at h; exact h.2)
/-! ### raise C() -/
theorem pmk_own0 {X : Cx} {C : Addr} {bmB : List Value} {B newId initId : String} {x : Str} {p pos : Pos} (F : ExcBaseFacts B newId initId bmB) (q : PySem.W.excIn X.K C bmB newId = true) (gC : X.mg x = some (.ref C)) (kC : PySem.W.keepIn X.K (.ref C) = true) (r : Raises X (.ref C)) (hg : Gl X x)
    (hdb : (x == ("__debug__" : Str)) = false) : PMk X (.Call (.Name x p) [] [] pos) (fun _ H Q => Q (.ref C) none H) := by
  intro pins s σ H Q I h
  refine wpAny_Call_Name_kw (ld_glob I hg gC ?_ hdb)
  refine PySem.W.callWith_K0 I.kIn kC ?_
  obtain ⟨bm, N, nm, qn, bs, hdct, sn, sub, ab, col, dd, k0, k1, k2, k3, k5, mN, hC, hN, hni, T⟩ := exc_obj I.kIn q
  refine wpAny_call_exc_subT F T hC hN hni (fun h' e hm => ?_) (Nat.zero_le _)
  exact mk_of I hm r h (I.hok.gone hm.new)
def dRaise (i : Nat) : DS := fun _ => .exc i
theorem ps_ra {T : Tb} {E : XK} {C : Cals} {c : CC} {X : Cx} {i : Nat} {x : Str} {p pos pos' : Pos} {fx : Nat → Prop} (ok : CxOk T E C c X) (st : StOk T E X) (hx : c.gt.exc[i]? = some x) (hi : i < c.gt.nr) (hg : c.isG x = true) :
    PS X (.Raise (some (.Call (.Name x p) [] [] pos)) none pos') (tS T E fx (dRaise i)) := by
  obtain ⟨hd, D, e1, e2, e9⟩ := ok.g.exc i x hx
  obtain ⟨e3, e4, e5, e6, _, _⟩ := e9 hi
  refine (ps_raise ok.calm st.tk (pmk_own0 PySem.F.excBase_ValueError e4 e2 e3 (raises_own e5 e6) (ok.gl hg) hd)).imp fun D σ H ⟨F, ρ, A, s, q⟩ => ?_
  have := q F H (s.refl.less fun _ z => z.elim)
  rw [e1] at this
  exact this
end Dn

/-! DnT: dicts with int keys, len(set(..)), calls of a def that a name holds. -/
namespace Dn
open PySem PySem.Spec PyProof.Rows L2

section
variable {T : Tb} {E : XK} {C : Cals} {X : Cx} {σ : L2.St} {F H : Hp} {ρ : Env} {A : Ow} {pos : Pos}
/-! ### {k: v} -/
def mk1 (p : PV) (b : PV × Env) : Res (SV × Env) := match p with
  | .int i => .ok (.od [(.inl i, b.1)], b.2)
  | _ => .bad
def dDct1 (dk dv : DE) : DO := fun ρ => dk ρ >>= fun a => dv a.2 >>= fun b => mk1 a.1 b
theorem pe_d1 {k v : Expr} {dk dv : DE} (hk : PE X k (tE T E dk)) (hv : PE X v (tE T E dv)) : PE X (.Dict [some k] [v] pos) (tO T E (dDct1 dk dv)) :=
  (pe_disp (pps_cons hk hv pps_nil) rfl rfl (by simp) (by simp)).imp fun σ H Q ⟨F, ρ, A, s, q⟩ p hp => by
    have s0 := stp_own (o := .dK []) s.fh hp
    have f0 := s0.frame (T := Own A) (fun b ⟨i, h⟩ => s.lv i b h) (fun _ _ q => q) (fun b ⟨i, h⟩ => s.nf i b h)
    have st0 : Stp (Own A) F H (fun b => Own A b ∨ b = p) F (upd H p (.dK [])) := (f0.weak fun b q => q.elim False.elim id).less fun b q => q.symm
    have so0 : SOk T F (upd H p (.dK [])) σ ρ A := s.step s0 fun _ q => q.elim
    have np : ¬ Own A p := fun ⟨i, hi⟩ => s.lv i p hi hp
    have fp : F p = none := s0.nf p rfl
    -- a step of the rest, the new dict beside
    have side : ∀ {A' : Ow} {F' H' : Hp}, Stp (Own A) F (upd H p (.dK [])) (Own A') F' H' → Stp (Own A) F H (fun b => Own A' b ∨ b = p) F' H' ∧ ¬ Own A' p ∧ H' p = some (.dK []) ∧ F' p = none := fun st => by
      have f := st.frame (T := fun b => b = p) (fun b e => by subst e; rw [upd_same]; simp) (fun b e => by subst e; exact np) (fun b e => by subst e; exact fp)
      refine ⟨st0.trans f, fun z => ?_, st.fr p _ upd_same np, f.nf p (.inr rfl)⟩
      rcases st.nw p z with w | w
      · exact np w
      · rw [upd_same] at w; cases w
    have exq : ∀ {c : Nat} {A' : Ow} {F' H' : Hp}, PostO T E F H σ A Q (.exc c) → Stp (Own A) F (upd H p (.dK [])) (Own A') F' H' → ∀ F2 H2, Stp (Own A') F' H' Nil F2 H2 → E (T.cls c) none H2 := fun q st F2 H2 s2 => by
      obtain ⟨a, b, cc, d⟩ := side st
      exact q F2 H2 ((a.trans (s2.weak fun b z => .inl z)).less fun b z => z.elim)
    refine ⟨F, ρ, A, so0, ?_⟩
    unfold dDct1 at q
    match e1 : dk ρ with
    | .bad => rw [e1] at q; exact q.elim
    | .exc c => rw [e1] at q; exact fun F2 H2 s2 => exq q so0.refl F2 H2 s2
    | .ok (pk, ρ1) =>
      rw [e1] at q
      intro F1 H1 A1 st1 so1 x rx
      refine ⟨F1, ρ1, A1, so1, ?_⟩
      replace q : PostO T E F H σ A Q (dv ρ1 >>= fun b => mk1 pk b) := q
      match e2 : dv ρ1 with
      | .bad => rw [e2] at q; exact q.elim
      | .exc c => rw [e2] at q; exact fun F2 H2 s2 => exq q st1 F2 H2 s2
      | .ok (pv, ρ2) =>
        rw [e2] at q
        intro F2 H2 A2 st2 so2 y ry
        cases pk with
        | int i =>
          cases rx
          obtain ⟨a, b, cc, d⟩ := side (st1.trans st2)
          refine ⟨cc, [(.inl i, y)], rfl, by simp, ?_⟩
          obtain ⟨w1, w2⟩ := stp_put1 (o := .dK [(.inl i, y)]) so2 d b
          refine q F2 _ A2 [p] (.ref p) ((a.trans w1).less fun b z => z.imp id fun z => by simpa using z) w2 ⟨p, [(.inl i, y)], rfl, rfl, upd_same, rfl, RzL.one ry⟩ fun b' hb z => ?_
          rw [List.mem_singleton] at hb
          subst hb
          exact b z
        | _ => exact q.elim
/-! ### name[k] = v, of a list or a dict -/
def putP (kvs : List (Key × PV)) (k : Key) (p : PV) : List (Key × PV) := if (kvs.any fun q => decide (q.1 = k)) = true then kvs.map (fun q => if q.1 = k then (q.1, p) else q) else kvs ++ [(k, p)]
theorem keys_any {vs : List (Key × V)} {kvs : List (Key × PV)} (h : vs.map (·.1) = kvs.map (·.1)) (k : Key) : (vs.any fun q => decide (q.1 = k)) = kvs.any fun q => decide (q.1 = k) := by
  have e1 : (vs.any fun q => decide (q.1 = k)) = (vs.map (·.1)).any fun z => decide (z = k) := by rw [List.any_map]; rfl
  have e2 : (kvs.any fun q => decide (q.1 = k)) = (kvs.map (·.1)).any fun z => decide (z = k) := by rw [List.any_map]; rfl
  rw [e1, e2, h]
theorem put_rel {vs : List (Key × V)} {kvs : List (Key × PV)} {k : Key} {v : V} {p : PV} (h : vs.map (·.1) = kvs.map (·.1)) (r : RzL T F (vs.map (·.2)) (kvs.map (·.2))) (rv : Rz T F v p) :
    (putK vs k v).map (·.1) = (putP kvs k p).map (·.1) ∧ RzL T F ((putK vs k v).map (·.2)) ((putP kvs k p).map (·.2)) := by
  unfold putK putP
  rw [keys_any h k]
  by_cases c : (kvs.any fun q => decide (q.1 = k)) = true
  · rw [if_pos c, if_pos c]
    clear c
    induction vs generalizing kvs with
    | nil =>
      cases kvs with
      | nil => exact ⟨rfl, .nil⟩
      | cons _ _ => simp at h
    | cons q vs ih =>
      cases kvs with
      | nil => simp at h
      | cons q' kvs =>
        simp only [List.map_cons, List.cons.injEq] at h
        simp only [List.map_cons] at r
        cases r with
        | cons r1 r2 =>
          obtain ⟨a, b⟩ := ih h.2 r2
          simp only [List.map_cons]
          rw [h.1]
          by_cases z : q'.1 = k
          · rw [if_pos z, if_pos z]
            exact ⟨by rw [a], .cons rv b⟩
          · rw [if_neg z, if_neg z]
            exact ⟨by rw [h.1, a], .cons r1 b⟩
  · rw [if_neg c, if_neg c]
    simp only [List.map_append, List.map_cons, List.map_nil, h]
    exact ⟨trivial, r.app (RzL.one rv)⟩
theorem own_writeD {i : Nat} {kvs kvs' : List (Key × PV)} {v : V} {vs' : List (Key × V)} (s : SOk T F H σ ρ A) (e : ρ[i]? = some (some (.od kvs))) (hv : σ[i]? = some (some v)) (hk : vs'.map (·.1) = kvs'.map (·.1)) (r : RzL T F (vs'.map (·.2)) (kvs'.map (·.2))) :
    ∃ a vs, v = .ref a ∧ H a = some (.dK vs) ∧ vs.map (·.1) = kvs.map (·.1) ∧ RzL T F (vs.map (·.2)) (kvs.map (·.2)) ∧ Stp (Own A) F H (Own A) F (upd H a (.dK vs')) ∧ SOk T F (upd H a (.dK vs')) σ (ρ.set i (some (.od kvs'))) A := by
  obtain ⟨a, vs, rfl, ea, h1, h3, h2⟩ := s.at e hv
  have hi := lt_of_get e
  have ia : a ∈ A i := by rw [ea]; simp
  have st : Stp (Own A) F H (Own A) F (upd H a (.dK vs')) := ⟨Le.refl F, fun b u q => by
      have : b ≠ a := fun z => by rw [z, s.nf i a ia] at q; cases q
      rw [upd_ne this]; exact s.fh _ _ q, fun b o q n => by
      have : b ≠ a := fun z => n (by rw [z]; exact ⟨i, ia⟩)
      rw [upd_ne this]; exact q, fun b q n => absurd n q, fun b q => .inl q, fun b ⟨j, q⟩ => s.nf j b q⟩
  refine ⟨a, vs, rfl, h1, h3, h2, st, by rw [List.length_set]; exact s.len, fun j p ej => ?_, s.dj, st.fh, s.nf, fun j b hb z => ?_⟩
  · by_cases z : j = i
    · subst z
      rw [List.getElem?_set_self hi] at ej
      cases ej
      exact ⟨_, hv, a, vs', rfl, ea, upd_same, hk, r⟩
    · rw [List.getElem?_set_ne (Ne.symm z)] at ej
      obtain ⟨w, g1, g2⟩ := s.slot j p ej
      refine ⟨w, g1, g2.mono (Le.refl F) fun b hb o q => ?_⟩
      have : b ≠ a := fun q2 => z (s.dj j i b hb (by rw [q2]; exact ia))
      rw [upd_ne this]; exact q
  · by_cases q : b = a
    · rw [q, upd_same] at z; cases z
    · rw [upd_ne q] at z; exact s.lv j b hb z
def dStX (i : Nat) (dj d : DE) : DS := fun ρ => d ρ >>= fun a => match a.2[i]? with
  | some (some _) => dj a.2 >>= fun b => match b.2[i]?, b.1 with
    | some (some (.o xs)), .int j => match ixN xs.length j with
      | some m => .ok (.nx, b.2.set i (some (.o (xs.set m a.1))))
      | none => .bad
    | some (some (.od kvs)), .int j => if kvs.length < sizeLine then .ok (.nx, b.2.set i (some (.od (putP kvs (.inl j) a.1)))) else .bad
    | _, _ => .bad
  | _ => .bad
def rSetX : TSet := fun o i v H Q => rSetL o i v H Q ∨ rSetD o i v H Q
theorem set_x (hu : X.A.units + 64 < cLine) : PSet X rSetX := fun pins s σ H o i v ov iv u Q I r1 r2 r3 h => by
  rcases h with h | h
  · exact set_list pins s σ H o i v ov iv u Q I r1 r2 r3 h
  · exact set_dict (by omega) pins s σ H o i v ov iv u Q I r1 r2 r3 h
theorem ps_sx {fx : Nat → Prop} {i : Nat} {x : Str} {o e : Expr} {dj d : DE} {px sp : Pos} (hu : X.A.units + 64 < cLine) (hx : X.N[i]? = some x) (hv : Vis X.env.scope x) (hd : (x == ("__debug__" : Str)) = false) (hcd : (x == ("__classdict__" : Str)) = false) (nb : notSlice o = true) (ntp : swappedStores [.Subscript (.Name x px) o sp] e X.env = pure none)
    (hj : PE X o (tE T E dj)) (he : PE X e (tE T E d)) : PS X (.Assign [.Subscript (.Name x px) o sp] e pos) (tS T E fx (dStX i dj d)) :=
  (ps_asg he (pg_sub (pe_var hx hv hd hcd) hj (set_x hu) (fun v => by cases o <;> first | rfl | (simp [notSlice] at nb))) (by cases e <;> rfl) ntp rfl).imp fun D σ H ⟨F, ρ, A, s, q⟩ => ⟨F, ρ, A, s, (PostS.bind q).imp fun p ρ1 F1 H1 A1 st1 so1 q1 v rv => by
    split at q1
    · rename_i sv e0
      obtain ⟨va, h1, _⟩ := so1.slot i sv e0
      refine ⟨va, h1, F1, ρ1, A1, so1, (PostS.bind q1).imp fun p2 ρ2 F2 H2 A2 st2 so2 q2 w rw' => ?_⟩
      split at q2
      · rename_i xs j e1 e2
        split at q2
        · rename_i m hm
          cases (show p2 = PV.int j from e2)
          cases rw'
          obtain ⟨a', vs1, ea, _, f1, f2⟩ := so2.at e1 h1
          cases ea
          refine .inl ⟨a', vs1, j, m, rfl, rfl, f1, by rw [f2.length]; exact hm, ?_⟩
          obtain ⟨a2, vs2, ea2, g1, g2, st3, so3⟩ := own_write so2 e1 h1 (RzL.set (rv.le st2.ff) m f2)
          cases ea2
          exact q2 σ F2 _ A2 st3 so3 (FxOk.refl' _ _)
        · exact q2.elim
      · rename_i kvs j e1 e2
        split at q2
        · rename_i hz
          cases (show p2 = PV.int j from e2)
          cases rw'
          obtain ⟨a', vs1, ea, _, f1, f3, f2⟩ := so2.at e1 h1
          cases ea
          obtain ⟨k1, k2⟩ := put_rel (k := .inl j) f3 f2 (rv.le st2.ff)
          have hl : vs1.length = kvs.length := by have := congrArg List.length f3; simpa using this
          refine .inr ⟨a', _, rfl, DPut.k (k := .inl j) f1 (by rw [hl]; exact hz), ?_⟩
          obtain ⟨a2, vs2, ea2, g1, g4, g2, st3, so3⟩ := own_writeD so2 e1 h1 k1 k2
          cases ea2
          exact q2 σ F2 _ A2 st3 so3 (FxOk.refl' _ _)
        · exact q2.elim
      · exact q2.elim
    · exact q1.elim⟩
/-! ### in, of a dict too -/
def keyP : PV → Option Key
  | .int i => some (.inl i)
  | .str x => some (.inr x)
  | _ => none
def gInX (neg : Bool) (p : PV) : PV → Option PV
  | .dct kvs => match keyP p with
    | some k => some (.bl ((kvs.any fun q => decide (q.1 = k)) != neg))
    | none => none
  | q => gIn neg p q
def rInDc (neg : Bool) : R2 := fun x y H Q => ∃ a o, y = .ref a ∧ DGet H a x o ∧ Q (.bl (o.isSome != neg)) H
def rInX (K : PySem.W.Frag) (neg : Bool) : R2 := fun x y H Q => rInA K neg x y H Q ∨ rInDc neg x y H Q
theorem op_inDc (hu : X.A.units + 1 < cLine) : OpR X (compareOp .In) (rInDc false) := by
  intro pins s σ H x y v u Q I rx ry h
  obtain ⟨a, o, rfl, g, q⟩ := h
  cases ry
  refine d_in hu I g rx fun s' J => ⟨.bl o.isSome, H, J, rfl, ?_⟩
  simpa using q
theorem op_notInDc (hu : X.A.units + 1 < cLine) : OpR X (compareOp .NotIn) (rInDc true) := by
  intro pins s σ H x y v u Q I rx ry h
  obtain ⟨a, o, rfl, g, q⟩ := h
  cases ry
  refine d_notIn hu I g rx fun s' J => ⟨.bl (!o.isSome), H, J, rfl, ?_⟩
  simpa using q
theorem op_inX (hu : X.A.units + 65 < cLine) : OpR X (compareOp .In) (rInX X.K false) := (op_inA hu).or (op_inDc (by omega))
theorem op_notInX (hu : X.A.units + 65 < cLine) : OpR X (compareOp .NotIn) (rInX X.K true) := (op_notInA hu).or (op_notInDc (by omega))
theorem find_any {vs : List (Key × V)} {k : Key} : (valV vs k).isSome = vs.any fun q => decide (q.1 = k) := by
  unfold valV
  rw [Option.isSome_map]
  induction vs with
  | nil => rfl
  | cons q vs ih =>
    rw [List.find?_cons, List.any_cons]
    by_cases h : q.1 = k
    · simp [h]
    · simp [h, ih]
theorem keyP_v {v : V} {p : PV} {k : Key} (r : Rz T F v p) (e : keyP p = some k) : v = kV k := by
  cases r <;> first | (simp [keyP] at e; done) | (simp [keyP] at e; subst e; rfl)
theorem s_inX (neg : Bool) : OpS T (rInX T.K neg) (gInX neg) := by
  intro x y p q r F H Q l rx ry e k
  unfold gInX at e
  split at e
  · rename_i kvs
    cases ek : keyP p with
    | none => rw [ek] at e; cases e
    | some kk =>
      rw [ek] at e
      cases e
      cases ry with
      | @dct a vs _ h1 h2 r2 =>
        refine .inr ⟨a, valV vs kk, rfl, ?_, ?_⟩
        · rw [keyP_v rx ek]; exact DGet.k (l _ _ h1)
        · rw [find_any, keys_any h2 kk]
          exact k _ F H (stp_same l) (.bl _)
  · exact .inl (s_in neg x y p q r F H Q l rx ry e k)
/-! ### sorted, of a dict with int keys too -/
def keysI : List (Key × PV) → Option (List Int)
  | [] => some []
  | (.inl i, _) :: l => (keysI l).map (i :: ·)
  | (.inr _, _) :: _ => none
theorem keysI_eq : ∀ {kvs : List (Key × PV)} {ks : List Int}, keysI kvs = some ks → kvs.map (·.1) = ks.map Sum.inl
  | [], ks, e => by cases e; rfl
  | (.inl i, p) :: l, ks, e => by
    simp only [keysI] at e
    cases q : keysI l with
    | none => rw [q] at e; cases e
    | some ms => rw [q] at e; cases e; rw [List.map_cons, keysI_eq q]; rfl
  | (.inr _, _) :: _, _, e => by cases e
def gSortedX : List PV → Option (List PV)
  | [.dct kvs] => match keysI kvs with
    | some ks => if ks.length < 64 then some ((isort (fun i j => decide (i ≤ j)) ks).map .int) else none
    | none => none
  | ps => gSorted ps
abbrev rSortDI : List V → Hp → VK → Prop := fun xs H Q => ∃ (a : Addr) (kvs : List (Key × V)) (ks : List Int), xs = [.ref a] ∧ Rd H a (.dK kvs) ∧ kvs.map (·.1) = ks.map Sum.inl ∧ ks.length < 64 ∧
  ∀ (ys : List Int) (p : Addr), ys.Perm ks → ys.Pairwise (· ≤ ·) → H p = none → Q (.ref p) (upd H p (.lst (ys.map V.int)))
def rSortX (K : PySem.W.Frag) : List V → Hp → VK → Prop := fun xs H Q => rSortD K xs H Q ∨ rSortDI xs H Q
theorem cr_sortX (hc : X.calm = true) (hu : X.A.units + 64 < cLine) : CallR X (.builtin "sorted") (rSortX X.K) := (cr_sortD hu).or (call_sortedDI hc)
theorem insL_perm {α : Type} (le : α → α → Bool) (a : α) : ∀ l : List α, (insL le a l).Perm (a :: l)
  | [] => .refl _
  | b :: l => by
    unfold insL
    split
    · exact .refl _
    · exact ((insL_perm le a l).cons b).trans (.swap a b l)
theorem isort_perm {α : Type} (le : α → α → Bool) : ∀ l : List α, (isort le l).Perm l
  | [] => .refl _
  | a :: l => (insL_perm le a _).trans ((isort_perm le l).cons a)
theorem insL_sorted (a : Int) : ∀ l : List Int, l.Pairwise (· ≤ ·) → (insL (fun i j => decide (i ≤ j)) a l).Pairwise (· ≤ ·)
  | [], _ => by simp [insL]
  | b :: l, h => by
    unfold insL
    rw [List.pairwise_cons] at h
    by_cases c : a ≤ b
    · rw [if_pos (by simpa using c)]
      rw [List.pairwise_cons]
      refine ⟨fun x hx => ?_, by rw [List.pairwise_cons]; exact h⟩
      rcases List.mem_cons.mp hx with rfl | hx
      · exact c
      · have := h.1 x hx; omega
    · rw [if_neg (by simpa using c)]
      rw [List.pairwise_cons]
      refine ⟨fun x hx => ?_, insL_sorted a l h.2⟩
      rcases List.mem_cons.mp ((insL_perm _ a l).mem_iff.mp hx) with rfl | hx
      · omega
      · exact h.1 x hx
theorem isortI_sorted : ∀ l : List Int, (isort (fun i j => decide (i ≤ j)) l).Pairwise (· ≤ ·)
  | [] => .nil
  | a :: l => insL_sorted a _ (isortI_sorted l)
theorem perm_sortedI {l m : List Int} (hp : l.Perm m) (hl : l.Pairwise (· ≤ ·)) (hm : m.Pairwise (· ≤ ·)) : l = m := hp.eq_of_pairwise (fun a b _ _ h1 h2 => by omega) hl hm
theorem f_sortedX : FnSO T (rSortX T.K) gSortedX := by
  intro xs ps r F H Q l rz e k
  unfold gSortedX at e
  split at e
  · rename_i kvs
    cases e1 : keysI kvs with
    | none => rw [e1] at e; cases e
    | some ks =>
      rw [e1] at e
      dsimp only at e
      split at e
      · rename_i h64
        cases e
        obtain ⟨x, rfl, rx⟩ := rz1 rz
        cases rx with
        | @dct a vs _ h1 h2 r2 =>
          refine .inr ⟨a, vs, ks, rfl, .inl (l _ _ h1), by rw [h2]; exact keysI_eq e1, h64, fun ys p hp hs hn => ?_⟩
          have : ys = isort (fun i j => decide (i ≤ j)) ks := perm_sortedI (hp.trans (isort_perm _ ks).symm) hs (isortI_sorted ks)
          rw [this]
          exact k p hn _ (ints_rz _)
      · cases e
  · exact .inl (f_sorted xs ps r F H Q l rz e k)
/-! ### len(set(xs)), xs a list of tuples of ints, or of ints -/
def rowI : PV → Option (List Int)
  | .tup xs => allI xs
  | _ => none
def rowsI : List PV → Option (List (List Int))
  | [] => some []
  | p :: ps => match rowI p with
    | some r => (rowsI ps).map (r :: ·)
    | none => none
def leqI : List Int → List Int → Bool
  | [], [] => true
  | a :: as, b :: bs => decide (a = b) && leqI as bs
  | _, _ => false
theorem leqI_iff : ∀ {a b : List Int}, leqI a b = true ↔ a = b
  | [], [] => by simp [leqI]
  | a :: as, b :: bs => by simp [leqI, leqI_iff (a := as) (b := bs)]
  | [], _ :: _ => by simp [leqI]
  | _ :: _, [] => by simp [leqI]
def distI : List (List Int) → List (List Int)
  | [] => []
  | x :: xs => if xs.any (leqI x) then distI xs else x :: distI xs
theorem distI_mem : ∀ {xs : List (List Int)} {y : List Int}, y ∈ distI xs ↔ y ∈ xs
  | [], y => by simp [distI]
  | x :: xs, y => by
    unfold distI
    split
    · rename_i h
      obtain ⟨z, h1, h2⟩ := List.any_eq_true.mp h
      have e : x = z := leqI_iff.mp h2
      rw [distI_mem, List.mem_cons]
      constructor
      · exact .inr
      · rintro (rfl | h)
        · rw [e]; exact h1
        · exact h
    · rw [List.mem_cons, distI_mem, List.mem_cons]
theorem distI_nd : ∀ xs : List (List Int), (distI xs).Nodup
  | [] => List.nodup_nil
  | x :: xs => by
    unfold distI
    split
    · exact distI_nd xs
    · rename_i h
      rw [List.nodup_cons]
      refine ⟨fun hx => h ?_, distI_nd xs⟩
      exact List.any_eq_true.mpr ⟨x, distI_mem.mp hx, leqI_iff.mpr rfl⟩
theorem nodup_le {α : Type} [DecidableEq α] : ∀ (l D : List α), l.Nodup → (∀ x ∈ l, x ∈ D) → l.length ≤ D.length
  | [], _, _, _ => Nat.zero_le _
  | x :: l, D, hn, hs => by
    rw [List.nodup_cons] at hn
    have hx : x ∈ D := hs x List.mem_cons_self
    have ih := nodup_le l (D.erase x) hn.2 fun y hy => (List.mem_erase_of_ne (fun e => hn.1 (by rw [← e]; exact hy))).2 (hs y (List.mem_cons_of_mem _ hy))
    have e := List.length_erase_of_mem hx
    have p : 0 < D.length := List.length_pos_of_mem hx
    rw [List.length_cons]
    omega
def dLenSet (d : DE) : DE := fun ρ => d ρ >>= fun a => match listItems a.1 with
  | some xs => match rowsI xs with
    | some rows => if rows.length < 64 then .ok (.int (distI rows).length, a.2) else .bad
    | none => .bad
  | none => .bad
theorem allI_tup {xs : List V} {ps : List PV} {ns : List Int} (r : RzL T F xs ps) (e : allI ps = some ns) : xs = ns.map V.int := by
  rw [allI_eq e] at r
  exact rz_intsL r
theorem rowsI_rel : ∀ {vs : List V} {ps : List PV} {rows : List (List Int)}, Le F H → RzL T F vs ps → rowsI ps = some rows → ∃ ks : List (Addr × List Int), vs = ks.map (fun p => V.ref p.1) ∧ ks.map (·.2) = rows ∧ ∀ p ∈ ks, SqT T.K H p.1 (p.2.map V.int)
  | _, _, rows, l, .nil, e => by cases e; exact ⟨[], rfl, rfl, fun p h => by simp at h⟩
  | _, _, rows, l, .cons (v := v) (p := p) r t, e => by
    unfold rowsI at e
    split at e
    · rename_i rw0 e1
      obtain ⟨rs, h1, rfl⟩ := omap e
      obtain ⟨ks, a, b, c⟩ := rowsI_rel l t h1
      cases p <;> simp only [rowI, reduceCtorEq] at e1
      cases r with
      | @tup ad us _ g1 g2 =>
        refine ⟨(ad, rw0) :: ks, by rw [a]; rfl, by rw [List.map_cons, b], fun q hq => ?_⟩
        rcases List.mem_cons.mp hq with rfl | hq
        · have := allI_tup g2 e1
          rw [← this]
          exact SqT.le l g1
        · exact c q hq
    · cases e
theorem pe_lset {a : Expr} {d : DE} {p p2 q pos : Pos} (hK : X.K = T.K) (hc : X.calm = true) (hu : X.A.units + 64 < cLine) (hg : Gl X "len") (hm : X.mg "len" = none) (hg2 : Gl X "set") (hm2 : X.mg "set" = none) (ns : notStar a = true) (ha : PE X a (tE T E d)) :
    PE X (.Call (.Name "len" p) [.Call (.Name "set" p2) [a] [] q] [] pos) (tE T E (dLenSet d)) := by
  have na := star_of ns [] X.env
  refine ⟨fun pins s σ H Q I h => ?_⟩
  obtain ⟨F, ρ, A, so, h⟩ := h
  refine Call_ (ld_blt I hg hm PySem.boot_len ?_)
  refine PyProof.Rows.callWith_builtin1 (PyProof.Rows.args_cons ?_ rfl) rfl rfl
  refine Call_ (ld_blt I hg2 hm2 PyProof.Rows.boot_set ?_)
  refine PyProof.Rows.callWith_type1 (PyProof.Rows.args_cons (thn (ha.run pins s σ H (fun x H1 => ∃ (l : Addr) (ks : List (Addr × List Int)) (rows : List (List Int)), x = V.ref l ∧ SqL T.K H1 l (ks.map fun p : Addr × List Int => V.ref p.1) ∧ ks.map (·.2) = rows ∧ (∀ p ∈ ks, SqT T.K H1 p.1 (p.2.map V.int)) ∧ rows.length < 64 ∧ Q (.int (distI rows).length) H1) I
    ⟨F, ρ, A, so, (Post.bind h).imp fun p ρ1 F1 H1 A1 st1 so1 q1 v rv => ?_⟩) fun v s1 ⟨x, H1, I1, r1, q1⟩ => PyProof.Rows.args_nil ?_) na) na rfl
  · cases e1 : listItems p with
    | none => simp only [e1] at q1; exact q1.elim
    | some xs =>
      simp only [e1] at q1
      cases e2 : rowsI xs with
      | none => simp only [e2] at q1; exact q1.elim
      | some rows =>
        simp only [e2] at q1
        by_cases z : rows.length < 64
        · rw [if_pos z] at q1
          obtain ⟨l, vs, rfl, g1, g2⟩ := seq_list so1.fh rv e1
          obtain ⟨ks, a1, a2, a3⟩ := rowsI_rel so1.fh g2 e2
          exact ⟨l, ks, rows, rfl, by rw [← a1]; exact g1, a2, a3, z, Post.here so1 q1 _ (.int _)⟩
        · rw [if_neg z] at q1; exact q1.elim
  · obtain ⟨l, ks, rows, rfl, hq, e2, hk, h64, q1⟩ := q1
    cases r1
    rw [← hK] at hq hk
    obtain ⟨its, r, pl, hz⟩ := I1.list hq
    have hl : ks.length = rows.length := by rw [← e2, List.length_map]
    refine call_set_tups (P := X.prog) (w := X.w) ks (I1.ok.hd hc) pl.isList (by simpa using refs_of_vals r) (fun p hp => I1.isT (hk p hp)) (by omega) (by omega) fun h' tk L es ep t R g kp => ?_
    refine PyProof.Rows.args_nil ?_
    have I2 : Inv X pins σ H1 { s1 with heap := h', toks := tk } := I1.kept kp
    obtain ⟨o, ho, hex, hd⟩ := R.ob
    have hsz := SetTR.size (s := { s1 with heap := h', toks := tk }) R
    have hf := SetTR.fits (s := { s1 with heap := h', toks := tk }) R
    have eL : L.length = (distI rows).length := by
      have m1 : ∀ y ∈ L.map (·.2), y ∈ distI rows := fun y hy => by
        obtain ⟨p, hp, rfl⟩ := List.mem_map.mp hy
        rw [distI_mem, ← e2]
        exact List.mem_map.mpr ⟨p, List.mem_of_mem_take (g.sub p hp), rfl⟩
      have m2 : ∀ y ∈ distI rows, y ∈ L.map (·.2) := fun y hy => by
        rw [distI_mem, ← e2] at hy
        obtain ⟨p, hp, rfl⟩ := List.mem_map.mp hy
        exact g.all p (by rw [List.take_length]; exact hp)
      have a1 := nodup_le _ _ R.nd m1
      have a2 := nodup_le _ _ (distI_nd rows) m2
      rw [List.length_map] at a1 a2
      omega
    have h63 := line63
    have hfew := R.few
    exact call_len_set ho hex hd hf (by rw [hsz]; omega) ⟨.int (distI rows).length, H1, I2.tok _, ⟨_, by rw [hsz, eL]⟩, q1⟩
end
end Dn

/-! DnY: rows of one's own: made by a comprehension, stored into. -/
namespace Dn
open PySem PySem.Spec PyProof.Rows L2

section
variable {T : Tb} {E : XK} {X : Cx} {σ : L2.St} {pos : Pos}
theorem rows_set {F H : Hp} {b : Addr} {vs : List V} {xs : List PV} (l : Le F (upd H b (.lst vs))) (r : RzL T F vs xs) : ∀ {bs : List Addr} {xss : List (List PV)} {m : Nat}, Rows T F H bs xss → bs.Nodup → bs[m]? = some b → Rows T F (upd H b (.lst vs)) bs (xss.set m xs)
  | _, _, _, .nil, _, e => by simp at e
  | _, _, 0, .cons h q t, nd, e => by
    simp at e
    subst e
    refine .cons upd_same r (Rows.mono (Le.refl F) (fun c hc o e => ?_) t)
    rw [upd_ne (fun z => (List.nodup_cons.mp nd).1 (by rw [← z]; exact hc))]
    exact e
  | c :: bs, _, m + 1, .cons h q t, nd, e => by
    have e : bs[m]? = some b := by simpa using e
    have hc : c ≠ b := fun z => (List.nodup_cons.mp nd).1 (by rw [z]; exact List.mem_of_getElem? e)
    exact .cons (by rw [upd_ne hc]; exact h) q (rows_set l r t (List.nodup_cons.mp nd).2 e)
/-- a row of one's own is written -/
theorem own_writeR {F H : Hp} {ρ : Env} {A : Ow} {i m : Nat} {xss : List (List PV)} {xs' : List PV} {b c : Addr} {bs : List Addr} {vs' : List V} (s : SOk T F H σ ρ A) (e : ρ[i]? = some (some (.oo xss))) (hv : σ[i]? = some (some (.ref c)))
    (ea : A i = c :: bs) (hc : H c = some (.lst (bs.map V.ref))) (rows : Rows T F H bs xss) (nd : (c :: bs).Nodup) (hb : bs[m]? = some b) (r : RzL T F vs' xs') :
    Stp (Own A) F H (Own A) F (upd H b (.lst vs')) ∧ SOk T F (upd H b (.lst vs')) σ (ρ.set i (some (.oo (xss.set m xs')))) A := by
  have hi := lt_of_get e
  have hbm := List.mem_of_getElem? hb
  have ib : b ∈ A i := by rw [ea]; exact List.mem_cons_of_mem _ hbm
  have st : Stp (Own A) F H (Own A) F (upd H b (.lst vs')) := ⟨Le.refl F, fun d u q => by
      have : d ≠ b := fun z => by rw [z, s.nf i b ib] at q; cases q
      rw [upd_ne this]; exact s.fh _ _ q, fun d o q n => by
      have : d ≠ b := fun z => n (by rw [z]; exact ⟨i, ib⟩)
      rw [upd_ne this]; exact q, fun d q n => absurd n q, fun d q => .inl q, fun d ⟨j, q⟩ => s.nf j d q⟩
  refine ⟨st, by rw [List.length_set]; exact s.len, fun j p ej => ?_, s.dj, st.fh, s.nf, fun j d hd z => ?_⟩
  · by_cases z : j = i
    · subst z
      rw [List.getElem?_set_self hi] at ej
      cases ej
      have hcb : c ≠ b := fun z => (List.nodup_cons.mp nd).1 (by rw [z]; exact hbm)
      exact ⟨_, hv, c, bs, rfl, ea, by rw [upd_ne hcb]; exact hc, rows_set st.fh r rows (List.nodup_cons.mp nd).2 hb, nd⟩
    · rw [List.getElem?_set_ne (Ne.symm z)] at ej
      obtain ⟨w, g1, g2⟩ := s.slot j p ej
      exact ⟨w, g1, g2.mono (Le.refl F) fun d hd o eo => by
        have : d ≠ b := fun q => z (s.dj _ _ _ hd (by rw [q]; exact ib))
        rw [upd_ne this]; exact eo⟩
  · by_cases q : d = b
    · subst q; rw [upd_same] at z; cases z
    · rw [upd_ne q] at z; exact s.lv j d hd z
def dStXX (i : Nat) (a b : SI) (d : DE) : DS := fun ρ => d ρ >>= fun r => match r.2[i]?, a.val r.2, b.val r.2 with
  | some (some (.oo xss)), some j, some k => match ixN xss.length j with
    | some m => match xss[m]? with
      | some xs => match ixN xs.length k with
        | some n => .ok (.nx, r.2.set i (some (.oo (xss.set m (xs.set n r.1)))))
        | none => .bad
      | none => .bad
    | none => .bad
  | _, _, _ => .bad
theorem ps_sxx {fx : Nat → Prop} {i : Nat} {x : Str} {a b e : Expr} {sa sb : SI} {d : DE} {px p1 sp : Pos} (hK : X.K = T.K) (hx : X.N[i]? = some x) (hv : Vis X.env.scope x) (hd : (x == ("__debug__" : Str)) = false) (hcd : (x == ("__classdict__" : Str)) = false)
    (ntp : swappedStores [.Subscript (.Subscript (.Name x px) a p1) b sp] e X.env = pure none) (ha : PSi X a sa) (hb : PSi X b sb) (he : PE X e (tE T E d)) :
    PS X (.Assign [.Subscript (.Subscript (.Name x px) a p1) b sp] e pos) (tS T E fx (dStXX i sa sb d)) :=
  (ps_asg he (pg_sub (pe_ix ix_seq (pe_var hx hv hd hcd) ha.pe (plain_ix ha.ns)) hb.pe set_list (fun v => by cases hb <;> rfl)) (by cases e <;> rfl) ntp rfl).imp fun D σ H ⟨F, ρ, A, s, q⟩ => ⟨F, ρ, A, s, (PostS.bind q).imp fun p ρ1 F1 H1 A1 st1 so1 q1 v rv => by
    rw [hK]
    split at q1
    · rename_i xss j k e0 e1 e2
      obtain ⟨va, h1, c, bs, rfl, ea, hc, rows, nd⟩ := so1.slot i _ e0
      split at q1
      · rename_i m hm
        split at q1
        · rename_i xs hxs
          split at q1
          · rename_i n hn
            obtain ⟨b', vs, f1, f2, f3⟩ := rows_at rows hxs
            refine ⟨.ref c, h1, si_at so1 e1 (.inl ⟨_, bs.map V.ref, _, .ref b', rfl, rfl, .inl (.inl hc), atI_mk (j := m) (by rw [List.length_map, rows.length]; exact hm) (by rw [List.getElem?_map, f1]; rfl), si_at so1 e2 ?_⟩)⟩
            obtain ⟨st3, so3⟩ := own_writeR so1 e0 h1 ea hc rows nd f1 (RzL.set (rv.le (Le.refl F1)) n f3)
            exact ⟨b', vs, k, n, rfl, rfl, f2, by rw [f3.length]; exact hn, q1 σ F1 _ A1 st3 so3 (FxOk.refl' _ _)⟩
          · exact q1.elim
        · exact q1.elim
      · exact q1.elim
    · exact q1.elim⟩

/-! ### a comprehension of own lists -/
def preR (qs : List (List PV)) : Res (List (List PV) × Env) → Res (List (List PV) × Env)
  | .ok (rs, ρ) => .ok (qs ++ rs, ρ)
  | _ => .bad
def lcR (vs : List Nat) (g : DG) (e : DO) : List PV → Env → Res (List (List PV) × Env)
  | [], ρ => .ok ([], ρ)
  | p :: ps, ρ => match g p ρ with
    | none => .bad
    | some ρ1 => match e ρ1 with
      | .ok (.o q, ρ3) => preR [q] (lcR vs g e ps (wipeE ρ3 vs))
      | _ => .bad
def dLcR (vs : List Nat) (di : DEs) (g : DG) (e : DO) : DO := fun ρ => di ρ >>= fun a => match lcR vs g e a.1 (wipeE a.2 vs) with
  | .ok (qs, ρ2) => if qs.length ≤ sizeLine then .ok (.oo qs, unwipe a.2 ρ2 vs) else .bad
  | _ => .bad
theorem preR_preR (a b : List (List PV)) (r : Res (List (List PV) × Env)) : preR a (preR b r) = preR (a ++ b) r := by
  match r with
  | .ok (rs, ρ) => simp [preR, List.append_assoc]
  | .exc c => rfl
  | .bad => rfl
theorem preR_ok {a : List (List PV)} {r : Res (List (List PV) × Env)} {all : List (List PV)} {ρe : Env} (h : preR a r = .ok (all, ρe)) : ∃ rs, r = .ok (rs, ρe) ∧ all = a ++ rs := by
  match r, h with
  | .ok (rs, ρ), h => simp only [preR] at h; cases h; exact ⟨rs, rfl, rfl⟩
  | .exc c, h => cases h
  | .bad, h => cases h
/-- what is being made, beside what is one's own -/
abbrev AndL (O : Addr → Prop) (L : List Addr) : Addr → Prop := fun b => O b ∨ b ∈ L
theorem Rows.app1 {F H : Hp} {a : Addr} {vs : List V} {xs : List PV} (h : H a = some (.lst vs)) (r : RzL T F vs xs) : ∀ {bs : List Addr} {xss : List (List PV)}, Rows T F H bs xss → Rows T F H (bs ++ [a]) (xss ++ [xs])
  | _, _, .nil => .cons h r .nil
  | _, _, .cons h' r' t => .cons h' r' (Rows.app1 h r t)
theorem lcR_imp {vs : List Nat} {di : DEs} {g : DG} {e : DO} {H : Hp} {Q : VK} (h : tO T E (dLcR vs di g e) σ H Q) :
    tLc (tI T E di) (tG T (fun j => j ∉ vs) g) (tT T E0 dYes) (tO T E0 e) vs σ H Q := by
  obtain ⟨F, ρ, A, s, q⟩ := h
  refine ⟨F, ρ, A, s, (PostO.bind q).imp fun ps ρ1 F1 H1 A1 st1 so1 q1 J ok D hD => ?_⟩
  match eR : lcR vs g e ps (wipeE ρ1 vs) with
  | .exc c => simp only [eR] at q1; exact q1.elim
  | .bad => simp only [eR] at q1; exact q1.elim
  | .ok (tot, ρe) =>
  simp only [eR] at q1
  by_cases hz : tot.length ≤ sizeLine
  case neg => rw [if_neg hz] at q1; exact q1.elim
  rw [if_pos hz] at q1
  obtain ⟨a1, a2, a3⟩ := lc_start vs so1 hD
  have hF1D : F1 D = none := by
    cases z : F1 D with
    | none => rfl
    | some o => rw [so1.fh _ _ z] at hD; cases hD
  refine ⟨fun i m H' => m = ps.length - i ∧ i ≤ ps.length ∧ ∃ F' ρ' A' bs xss, Le F1 F' ∧ Stp (Own A1) F1 H1 (AndL (Own A') (D :: bs)) F' H' ∧ SOk T F' H' (wipe σ vs) ρ' A' ∧ (∀ b ∈ D :: bs, ¬ Own A' b) ∧ (D :: bs).Nodup ∧ H' D = some (.lst (bs.map V.ref)) ∧ Rows T F' H' bs xss ∧ preR xss (lcR vs g e (ps.drop i) ρ') = .ok (tot, ρe),
    ⟨ps.length, by simp, Nat.zero_le _, F1, wipeE ρ1 vs, A1.clr vs, [], [], Le.refl _, a1.less fun b z => z.imp id (by simp), a2, fun b hb => by rw [List.mem_singleton] at hb; subst hb; exact a3, by simp, upd_same, .nil, by rw [List.drop_zero, eR]; rfl⟩, ?_⟩
  rintro i m H2 ⟨rfl, hi, F2, ρ2, A2, bs, xss, l12, st2, so2, nD2, nd2, hD2, rows2, e2⟩
  by_cases hlt : i < ps.length
  case neg =>
    have ei : i = ps.length := by omega
    subst ei
    rw [List.drop_length] at e2
    simp only [lcR, preR, List.append_nil] at e2
    cases e2
    refine .inl ⟨ok.st F2 H2 l12 so2.fh, ?_⟩
    have so3 := sok_unwipe so1 l12 so2
    refine q1 F2 H2 (A2.clr vs) (D :: bs) (.ref D) (st2.less fun b z => z.elim (fun z => .inl (own_clr z)) .inr) so3 ⟨D, bs, rfl, rfl, hD2, rows2, nd2⟩ fun b hb z => nD2 b hb (own_clr z)
  rw [List.drop_eq_getElem_cons hlt] at e2
  simp only [lcR] at e2
  refine .inr ⟨ok.go i F2 H2 hlt l12 so2.fh, fun H' => ∃ F' ρ' A' bs xss, Le F1 F' ∧ Stp (Own A1) F1 H1 (AndL (Own A') (D :: bs)) F' H' ∧ SOk T F' H' (wipe σ vs) ρ' A' ∧ (∀ b ∈ D :: bs, ¬ Own A' b) ∧ (D :: bs).Nodup ∧ H' D = some (.lst (bs.map V.ref)) ∧ Rows T F' H' bs xss ∧ preR xss (lcR vs g e (ps.drop (i + 1)) ρ') = .ok (tot, ρe), ?_, ?_⟩
  · rintro H' ⟨F', ρ', A', bs', xss', h0, h1, h2, h3, h4, h5, h6, h7⟩
    exact ⟨ps.length - (i + 1), by omega, rfl, hlt, F', ρ', A', bs', xss', h0, h1, h2, h3, h4, h5, h6, h7⟩
  intro x H3 y
  obtain ⟨F3, st3, rx⟩ := ok.yl i F2 H2 x H3 _ (List.getElem?_eq_getElem hlt) l12 so2.fh y
  have so3 := so2.purely st3
  refine ⟨F3, ρ2, A2, ps[i], so3, rx, ?_⟩
  cases eg : g ps[i] ρ2 with
  | none => rw [eg] at e2; cases e2
  | some ρ3 =>
  simp only [eg] at e2
  intro σ4 F4 H4 A4 st4 so4 f4
  have ew : wipe σ4 vs = wipe σ vs := by
    rw [wipe_eq (σ1 := wipe σ vs) (by rw [f4.len]) fun j hj => f4.eq j hj]
    exact wipe_wipe σ fun _ z => z
  refine ⟨ew, F4, ρ3, A4, so4, ?_⟩
  have st24 : Stp (Own A2) F2 H2 (Own A4) F4 H4 := (so2.pure st3).trans st4
  intro F5 H5 A5 st5 so5
  refine (if_pos rfl).mpr ?_
  refine ⟨F5, ρ3, A5, so5, ?_⟩
  match ee : e ρ3 with
  | .exc c => simp only [ee] at e2; cases e2
  | .bad => simp only [ee] at e2; cases e2
  | .ok (.z p, ρ6) => simp only [ee] at e2; cases e2
  | .ok (.oo p, ρ6) => simp only [ee] at e2; cases e2
  | .ok (.od p, ρ6) => simp only [ee] at e2; cases e2
  | .ok (.o qv, ρ6) =>
    simp only [ee] at e2
    intro F6 H6 A6 R yv st6 so6 rs nR
    rw [preR_preR] at e2
    obtain ⟨a, ws, rfl, rfl, ha, rz⟩ := rs
    have st26 : Stp (Own A2) F2 H2 (fun b => Own A6 b ∨ b ∈ [a]) F6 H6 := (st24.trans st5).trans st6
    have lv2 : ∀ b ∈ D :: bs, H2 b ≠ none := fun b hb => by
      rcases List.mem_cons.mp hb with rfl | hb
      · rw [hD2]; simp
      · exact rows2.live b hb
    have nf2 : ∀ b ∈ D :: bs, F2 b = none := fun b hb => st2.nf b (.inr hb)
    have fr := st26.frame (T := fun b => b ∈ D :: bs) lv2 nD2 nf2
    have na : a ∉ D :: bs := fun z => by
      rcases st26.nw a (.inr (by simp)) with w | w
      · exact nD2 a z w
      · exact lv2 a z w
    have keep : ∀ b ∈ D :: bs, ∀ o, H2 b = some o → H6 b = some o := fun b hb o eo => st26.fr b o eo (nD2 b hb)
    have hD6 : H6 D = some (.lst (bs.map V.ref)) := keep D List.mem_cons_self _ hD2
    have rows6 : Rows T F6 H6 bs xss := rows2.mono st26.ff fun b hb o eo => keep b (List.mem_cons_of_mem _ hb) o eo
    have nf6 : ∀ b, (Own A6 b ∨ b ∈ [a]) ∨ b ∈ D :: bs → F6 b = none := fun b hb => fr.nf b hb
    have nO6 : ∀ b ∈ D :: (bs ++ [a]), ¬ Own A6 b := fun b hb z => by
      rcases List.mem_cons.mp hb with rfl | hb
      · rcases st26.nw b (.inl z) with w | w
        · exact nD2 b List.mem_cons_self w
        · exact lv2 b List.mem_cons_self w
      · rcases List.mem_append.mp hb with hb | hb
        · rcases st26.nw b (.inl z) with w | w
          · exact nD2 b (List.mem_cons_of_mem _ hb) w
          · exact lv2 b (List.mem_cons_of_mem _ hb) w
        · exact nR b hb z
    have fD6 : F6 D = none := nf6 D (.inr List.mem_cons_self)
    have w := stp_write (o := .lst (bs.map V.ref ++ [.ref a])) so6.fh fD6
    have hDa : D ≠ a := fun z => na (by rw [z]; exact List.mem_cons_self)
    have hDb : D ∉ bs := (List.nodup_cons.mp nd2).1
    refine ⟨bs.map V.ref, hD6, ?_, F6, wipeE ρ6 vs, A6.clr vs, bs ++ [a], xss ++ [qv], l12.trans st26.ff, ?_, ?_, fun b hb z => nO6 b hb (own_clr z), ?_, ?_, ?_, e2⟩
    · obtain ⟨rs, _, ea⟩ := preR_ok e2
      rw [ea] at hz
      simp only [List.length_append, List.length_cons, List.length_nil] at hz
      rw [List.length_map, rows6.length]
      omega
    · have s1 : Stp (Own A1) F1 H1 (fun b => (Own A6 b ∨ b ∈ [a]) ∨ b ∈ D :: bs) F6 H6 := st2.trans fr
      have s2 : Stp (fun b => (Own A6 b ∨ b ∈ [a]) ∨ b ∈ D :: bs) F6 H6 (fun b => (Own A6 b ∨ b ∈ [a]) ∨ b ∈ D :: bs) F6 (upd H6 D (.lst (bs.map V.ref ++ [.ref a]))) :=
        ⟨Le.refl F6, w.fh, fun b o q n => by rw [upd_ne (fun z => n (.inr (by rw [z]; exact List.mem_cons_self)))]; exact q, fun b q n => absurd n q, fun b q => .inl q, nf6⟩
      refine (s1.trans s2).less fun b z => ?_
      rcases z with z | z
      · exact .inl (.inl (own_clr z))
      · rcases List.mem_cons.mp z with rfl | z
        · exact .inr List.mem_cons_self
        · rcases List.mem_append.mp z with z | z
          · exact .inr (List.mem_cons_of_mem _ z)
          · exact .inl (.inr z)
    · have := sok_wipe (so6.step w fun b q z => nO6 b (by rw [q]; exact List.mem_cons_self) z) vs
      rw [ew] at this
      exact this
    · rw [← List.cons_append]
      exact List.nodup_append.mpr ⟨nd2, by simp, fun b hb c hc => by rw [List.mem_singleton] at hc; subst hc; exact fun z => na (by rw [← z]; exact hb)⟩
    · rw [List.map_append]; exact upd_same
    · refine Rows.app1 (by rw [upd_ne (Ne.symm hDa)]; exact ha) rz (rows6.mono (Le.refl _) fun b hb o eo => ?_)
      rw [upd_ne (fun z => hDb (by rw [← z]; exact hb))]
      exact eo
theorem pe_lR {elt tg iter : Expr} {scope : Scope} {own : List (Str × Nat)} {di : DEs} {g : DG} {e : DO} (hc : X.calm = true) (hN : X.N.Nodup) (hi : PI X tg iter (tI T E di)) (ok : BlkOk X.N X.env.scope scope own)
    (hg : Blk X scope fun X => PG X tg (tG T (fun j => j ∉ own.map (·.2)) g)) (he : Blk X scope fun X => PE X elt (tO T E0 e)) (ns : notSet iter = true) :
    PE X (.ListComp elt [⟨tg, iter, [], 0⟩] scope pos) (tO T E (dLcR (own.map (·.2)) di g e)) := (pe_lc hc hN hi ok hg (fun s H C cl fp => pts_n) he (no_fold ns _)).imp fun σ H Q h => lcR_imp h
theorem ps_lR {fx : Nat → Prop} {i : Nat} {y : Str} {py spos : Pos} {elt tg iter : Expr} {scope : Scope} {own : List (Str × Nat)} {di : DEs} {g : DG} {e : DO} (hfx : ¬ fx i) (hc : X.calm = true) (hN : X.N.Nodup) (hy : X.N[i]? = some y) (hyl : X.env.scope.names.lookup y = some .local)
    (hsw : swapsWith (.ListComp elt [⟨tg, iter, [], 0⟩] scope pos) (some (.Name y py)) spos.line X.env = pure true) (hi : PI X tg iter (tI T E di)) (ok : BlkOk X.N X.env.scope scope own)
    (hg : Blk X scope fun X => PG X tg (tG T (fun j => j ∉ own.map (·.2)) g)) (he : Blk X scope fun X => PE X elt (tO T E0 e)) (ns : notSet iter = true) :
    PS X (.Assign [.Name y py] (.ListComp elt [⟨tg, iter, [], 0⟩] scope pos) spos) (tS T E fx (dSet i (dLcR (own.map (·.2)) di g e))) :=
  (ps_setLc hc hN hy hyl hsw hi ok hg (fun s H C cl fp => pts_n) he (no_fold ns _)).imp fun D σ H q => by
    have q2 := set_imp (fx := fx) hfx q
    exact lcR_imp q2
/-! ### range of three -/
def rangeC (i c : Int) : Nat → List PV
  | 0 => []
  | n + 1 => .int i :: rangeC (i + c) c n
theorem rangeC_length : ∀ (n : Nat) (i c : Int), (rangeC i c n).length = n
  | 0, _, _ => rfl
  | n + 1, i, c => congrArg (· + 1) (rangeC_length n (i + c) c)
theorem rangeC_get : ∀ (n : Nat) (i c : Int) (k : Nat), k < n → (rangeC i c n)[k]? = some (.int (i + (k : Nat) * c))
  | 0, _, _, _, h => absurd h (Nat.not_lt_zero _)
  | n + 1, i, c, 0, _ => by simp [rangeC]
  | n + 1, i, c, k + 1, h => by
    have := rangeC_get n (i + c) c k (Nat.lt_of_succ_lt_succ h)
    simp only [rangeC, List.getElem?_cons_succ, this]
    have e : ((k + 1 : Nat) : Int) * c = (k : Int) * c + c := by
      rw [Int.natCast_succ, Int.add_mul, Int.one_mul]
    rw [e]
    congr 2
    omega
theorem itok_rangeC (lo c : Int) (n : Nat) (F : Hp) : ItOk T (Itc lo c n) F (rangeC lo c n) where
  go := fun i F2 H2 hi _ _ => by rw [rangeC_length] at hi; exact hi
  yl := fun i F2 H2 x H3 p e l1 l2 y => by
    obtain ⟨rfl, rfl⟩ := y
    have hi := lt_of_get e
    rw [rangeC_length] at hi
    rw [rangeC_get n lo c i hi] at e
    cases e
    exact ⟨F2, stp_same l2, .int _⟩
  st := fun F2 H2 _ _ => by show n ≤ _; rw [rangeC_length]; exact Nat.le_refl _
def rgN (i j c : Int) : Nat := (Builtin.Range.rangeSize i j c).toNat
def rgB (i j c : Int) : Bool := decide (c ≠ 0) && (decide (c.natAbs < 1073741824) && (Builtin.Range.small i j c && decide (Builtin.Range.rangeSize i j c = (rgN i j c : Int))))
def gRange3 : List PV → Option (List PV)
  | [.int i, .int j, .int c] => if rgB i j c then some (rangeC i c (rgN i j c)) else none
  | _ => none
theorem rz3 {F : Hp} {v : List V} {p p2 p3 : PV} (h : RzL T F v [p, p2, p3]) : ∃ x y z, v = [x, y, z] ∧ Rz T F x p ∧ Rz T F y p2 ∧ Rz T F z p3 := by
  cases h with
  | cons r t =>
    obtain ⟨y, z, rfl, r2, r3⟩ := rz2 t
    exact ⟨_, _, _, rfl, r, r2, r3⟩
theorem pi_r3 {tg a b c : Expr} {ds : DEs} {p : Pos} (hg : Gl X "range") (hm : X.mg "range" = none) (ha : PA X [a, b, c] (tL T E ds)) (na : notStar a = true) (nb : notStar b = true) (nc : notStar c = true) : PI X tg (.Call (.Name "range" p) [a, b, c] [] pos) (tI T E (dIt gRange3 ds)) :=
  (pi_range3 hg hm ha (by rw [star_of na, star_of nb]) (by rw [star_of nb, star_of nc]; rfl)).imp fun σ H R q => it_imp (T := T) (E := E) (wi := fun vs H1 R => ∃ (i j c : Int) (n : Nat), vs = [.int i, .int j, .int c] ∧ RgC i j c n ∧ R (Itc i c n) H1) (fun vs ps r F H R l rz e k => by
    unfold gRange3 at e
    split at e
    · rename_i i j c
      split at e
      · rename_i z
        cases e
        obtain ⟨x, y, w, rfl, rx, ry, rw'⟩ := rz3 rz
        cases rx
        cases ry
        cases rw'
        simp only [rgB, Bool.and_eq_true, decide_eq_true_eq] at z
        exact ⟨_, _, _, _, rfl, ⟨z.1, z.2.1, z.2.2.1, z.2.2.2⟩, k _ (itok_rangeC _ _ _ _)⟩
      · cases e
    · cases e) q
end
end Dn

/-! DnS: several clauses `except C as n`. -/
namespace Dn
open PySem PySem.Spec PyProof.Rows L2

abbrev HdT := Value × Nat × (Addr → Value → Option Addr → TS)
def offE (D : Ends) (i : Nat) : Ends := { nx := fun τ G => D.nx (τ.set i none) G, rt := D.rt, bk := fun τ G => D.bk (τ.set i none) G, ct := fun τ G => D.ct (τ.set i none) G }
def wAsN (K : PySem.W.Frag) (Wo : WX) (D : Ends) : List HdT → WX
  | [] => Wo
  | (cv, i, ts) :: more => fun cls d τ G => ∃ b, PySem.W.exmOne K cls cv = some b ∧ (b = true → ∀ x, G x = none → ts x cls d (offE D i) (τ.set i (some (.ref x))) G) ∧ (b = false → wAsN K Wo D more cls d τ G)
inductive HdsN (X : Cx) : List ExceptHandler → List HdT → Prop
  | nil : HdsN X [] []
  | cons {x n : Str} {cv : Value} {i : Nat} {ts : Addr → Value → Option Addr → TS} {st : Stmt} {sts : List Stmt} {q1 q2 : Pos} {hds : List ExceptHandler} {l : List HdT} (hc : Names X x cv) (hi : X.N[i]? = some n) (hn : X.env.kindOf n = some .local)
      (hsu : ∀ (a : Addr) (oe : Obj) (cls : Value) (d : Option Addr) (pn : List (Addr × Obj)), Zc cls d oe → (∃ vs, oe.data = .fields vs) → PSs (X.suite a ((a, oe) :: pn)) (st :: sts) (ts a cls d)) (more : HdsN X hds l) :
      HdsN X (.ExceptHandler (some (.Name x q1)) (some n) (st :: sts) q2 :: hds) ((cv, i, ts) :: l)
section
variable {X : Cx} {body : List Stmt} {hd : ExceptHandler} {hds : List ExceptHandler} {l : List HdT} {pos : Pos} {tb : WX → TS} {Wo : WX}
theorem ps_tryN (est : X.stack = X.env :: X.outer) (efr : X.env.frame = some X.env.locals) (nd : X.N.Nodup) (tko : Takes X Wo)
    (hb : ∀ (W : WX) (pn : List (Addr × Obj)) (xe : Value → Shared → Prop), Takes (X.tr pn xe) W → PassesOwn (model X.prog X.w) X.A X.env xe → PSs (X.tr pn xe) body (tb W))
    (hh : HdsN X (hd :: hds) l) : PS X (.Try body (hd :: hds) [] [] pos) (fun D τ G => tb (wAsN X.K Wo D l) D τ G) := by
  refine ⟨fun pins s τ G D I h => ?_⟩
  have okX := I.ok
  have frA : X.A.frames = some (X.env :: X.outer) := okX.frames.trans (congrArg some est)
  refine wpAny_Try_except ?_
  refine wpAny_mono ((hb (wAsN X.K Wo D l) (X.pn ++ pins) (fun e t1 => wpAny (model X.prog X.w) X.A (noteFrame e X.env) (fun _ t2 => wpAny (model X.prog X.w) X.A (setFlight e none) (fun _ t3 =>
    wpAny (model X.prog X.w) X.A (handleBy e X.env (hd :: hds)) (SP X pins D) X.xe t3) X.xe t2) X.xe t1) (fun u s2 xx => ?_) PassesOwn.looking).run [] s τ G D (I.toTry _) h) (fun f s1 sp => ?_) (fun e s1 he => he)
  · obtain ⟨x, B, sI, pins2, τ2, G2, cls, d, rfl, J0, nb, up, sky, nx, os, ag, w⟩ := xx
    have J : Inv X pins τ2 G2 sI := J0.ofTry okX
    have sky2 : Sky B (X.env :: X.outer) x (Zc cls d) X.env.locals s2.heap := est ▸ sky
    show wpAny (model X.prog X.w) X.A (noteFrame (.ref x) X.env) _ _ _
    refine Sky.land Zc.steady frA efr sky2 fun h3 fl3 up3 => ?_
    have J3 : Inv X pins τ2 G2 { s2 with heap := h3 } := J.landed nb fl3.1 (up.trans up3) os ag
    obtain ⟨ob, vs3, at3, z3, dt3⟩ := fl3.there
    have off : x ∉ frs (X.env :: X.outer) := fun hm => by
      obtain ⟨_, o2, e2, nf⟩ := fl3.2.2.1.mem hm
      rw [at3] at e2
      cases e2
      exact nf _ dt3
    have offL : x ≠ X.env.locals := fun z => off (List.mem_filterMap.mpr ⟨X.env, List.mem_cons_self, efr.trans (congrArg some z.symm)⟩)
    have offF : x ∉ X.fs := fun hm => by
      obtain ⟨e, he, q⟩ := List.mem_filterMap.mp hm
      exact off (List.mem_filterMap.mpr ⟨e, List.mem_cons_of_mem _ he, q⟩)
    have S3 := J3.suite at3 dt3 nx offL offF
    have go : ∀ {hs2 : List ExceptHandler} {l2 : List HdT}, HdsN X hs2 l2 → wAsN X.K Wo D l2 cls d τ2 G2 → wpAny (model X.prog X.w) X.A (handleBy (.ref x) X.env hs2) (SP X pins D) X.xe { s2 with heap := h3 } := by
      intro hs2 l2 hk
      induction hk with
      | nil =>
        intro w
        refine wpAny_handleBy_nil ?_
        obtain ⟨_, _, _, o5, vs5, t5, oT5, ts5, at5, z5, dt5, f5, _⟩ := id fl3
        unfold PySem.passOn
        refine wpAny_bind (wpAny_field at5 dt5 f5 ?_)
        rw [if_neg (by simp)]
        have fin : wpAny (model X.prog X.w) X.A (setFlight (.ref x) X.env.frame) (fun _ t4 => wpAny (model X.prog X.w) X.A (throw (.ref x) : Sem Flow) (SP X pins D) X.xe t4) X.xe { s2 with heap := h3 } := by
          rw [efr]
          refine HandSPX.setFlight_upZ fl3 fun h4 held4 up4 => wpAny_throw (tko _ _ ?_)
          exact ⟨x, B, sI, pins, τ2, G2, cls, d, rfl, J, nb, (up.trans up3).trans up4, .inr (.inr (est ▸ held4)), nx, os, ag, w⟩
        first
          | exact wpAny_bind (wpAny_pure (wpAny_bind fin))
          | exact wpAny_bind fin
      | @cons y n cv i ts st sts q1 q2 hds3 l3 hc hi hn hsu more ih =>
        intro w
        obtain ⟨b, hb1, yes, no⟩ := w
        refine wpAny_handleBy_cons (codeAny_handlers_test ?_) (by intro q; cases q)
        have lt : PySem.W.Looks (model X.prog X.w) h3 (typeOf (.ref x)) cls := fun A2 Q2 E2 s5 k5 q5 => wpAny_typeOf_ref (k5 _ _ at3) (by rw [z3.1]; exact q5)
        have lm := PySem.W.exm_one (M := model X.prog X.w) J3.kIn lt hb1
        have test : ∀ {Q2 E2 : Value → Shared → Prop}, Q2 cv { s2 with heap := h3 } → wpAny (model X.prog X.w) (X.A.mark (some (.ref x))) (eval (.Name y q1) X.env) Q2 E2 { s2 with heap := h3 } := fun {Q2 E2} q => by
          obtain ⟨gl, db, mv | ⟨mv, bv, nv⟩⟩ := hc
          · exact ld_glob (X := X.suite x ((x, ob) :: (X.pn ++ pins))) S3 gl mv q db
          · exact ld_blt (X := X.suite x ((x, ob) :: (X.pn ++ pins))) S3 gl mv bv q nv db
        refine test (lm.here ?_)
        cases b with
        | false =>
          show wpAny _ X.A (handleBy (.ref x) X.env hds3) _ _ _
          exact ih (no rfl)
        | true =>
          refine codeAny_handlers_suite_as ?_
          refine HandSPX.lands_againZ fl3 fun h4 fl4 up4 => ?_
          have J4 : Inv X pins τ2 G2 { s2 with heap := h4 } := J.landed nb fl4.1 ((up.trans up3).trans up4) os ag
          obtain ⟨ob4, vs4, at4, z4, dt4⟩ := fl4.there
          have S4 := J4.suite at4 dt4 nx offL offF
          refine store_ok (X := X.suite x ((x, ob4) :: (X.pn ++ pins))) (v := .ref x) S4 nd hi (.inl hn) rfl (fun s5 S5 => ?_) (.inr hn)
          refine wpAny_mono ((hsu x ob4 cls d (X.pn ++ pins) z4 ⟨_, dt4⟩).run [] s5 _ G2 _ S5 (yes rfl x nx)) (fun f s6 sp => ?_) (fun _ _ z => z.elim)
          have fin : ∀ {τ6 : L2.St} {G6 : Hp} {Q6 : Shared → Prop}, Inv (X.suite x ((x, ob4) :: (X.pn ++ pins))) [] τ6 G6 s6 → (∀ s7, Inv X pins (τ6.set i none) G6 s7 → Q6 s7) →
              wpAny (model X.prog X.w) X.A (do bindName X.env n .none; unbindBehindTheSuite X.env n q2) (fun _ s7 => Q6 s7) X.xe s6 := fun S6 hq => gone_ok (S6.unsuite okX) nd hi hn hq
          cases f with
          | next => obtain ⟨τ6, G6, S6, q6⟩ := sp; exact fin S6 fun s7 J7 => ⟨_, _, J7, q6⟩
          | brk => obtain ⟨τ6, G6, S6, q6⟩ := sp; exact fin S6 fun s7 J7 => ⟨_, _, J7, q6⟩
          | cont => obtain ⟨τ6, G6, S6, q6⟩ := sp; exact fin S6 fun s7 J7 => ⟨_, _, J7, q6⟩
          | ret u => obtain ⟨v6, τ6, G6, S6, r6, q6⟩ := sp; exact fin S6 fun s7 J7 => ⟨_, _, _, J7, r6, q6⟩
    exact go hh w
  · cases f with
    | next => obtain ⟨τ2, G2, J2, q⟩ := sp; exact wpAny_execs_nil ⟨τ2, G2, J2.ofTry okX, q⟩
    | brk => obtain ⟨τ2, G2, J2, q⟩ := sp; exact ⟨τ2, G2, J2.ofTry okX, q⟩
    | cont => obtain ⟨τ2, G2, J2, q⟩ := sp; exact ⟨τ2, G2, J2.ofTry okX, q⟩
    | ret u => obtain ⟨v, τ2, G2, J2, r, q⟩ := sp; exact ⟨v, τ2, G2, J2.ofTry okX, r, q⟩
end
end Dn

/-! DnN: expressions, from the syntax to what they denote. -/
namespace Dn
open PySem PySem.Spec PyProof.Rows L2

structure Cmp where
  e : CC → Expr → Option DE
  o : CC → Expr → Option DO
  t : CC → Expr → Option DT
  w : CC → Expr → Option DT
  g : CC → Expr → Option DG
  s : CC → Stmt → Option DS
abbrev fxP (c : CC) : Nat → Prop := fun j => c.fxb j = true
structure Snd (T : Tb) (C : Cals) (r : Cmp) : Prop where
  e : ∀ {E : XK} {c : CC} {X : Cx} {x : Expr} {d : DE}, CxOk T E C c X → r.e c x = some d → PE X x (tE T E d)
  o : ∀ {E : XK} {c : CC} {X : Cx} {x : Expr} {d : DO}, CxOk T E C c X → r.o c x = some d → PE X x (tO T E d)
  t : ∀ {E : XK} {c : CC} {X : Cx} {x : Expr} {d : DT}, CxOk T E C c X → r.t c x = some d → PT X x (tT T E d)
  w : ∀ {E : XK} {c : CC} {X : Cx} {x : Expr} {d : DT}, CxOk T E C c X → r.w c x = some d → PW X x (tT T E d)
  g : ∀ {E : XK} {c : CC} {X : Cx} {x : Expr} {d : DG}, CxOk T E C c X → r.g c x = some d → PG X x (tG T (fxP c) d)
  s : ∀ {E : XK} {c : CC} {X : Cx} {x : Stmt} {d : DS}, CxOk T E C c X → StOk T E X → r.s c x = some d → PS X x (tS T E (fxP c) d)

section
variable {T : Tb} {E : XK} {C : Cals} {c : CC} {X : Cx} {r : Cmp}
/-! constants, names -/
def cConst : Const → Option PV
  | .none => some .non
  | .bool b => some (.bl b)
  | .int i => some (.int i)
  | .str x => some (.str x)
  | _ => none
theorem cConst_ok {k : Const} {p : PV} {j : Nat} {pos : Pos} (h : cConst k = some p) : PE X (.Constant k j pos) (tE T E (dC p)) := by
  cases k <;> simp only [cConst, Option.some.injEq, reduceCtorEq] at h
  · subst h; exact pe_c pe_non fun _ => .non
  · subst h; exact pe_c pe_bl fun _ => .bl _
  · subst h; exact pe_c pe_int fun _ => .int _
  · subst h; exact pe_c pe_str fun _ => .str _
def cGlob (c : CC) (x : Str) : Option DE := if c.isG x then match cidx x c.gt.con with
    | some p => some (dC p)
    | none => (fidx x c.gt.fns).map fun q => dC (.fn q.1)
  else none
theorem cGlob_ok {x : Str} {d : DE} {pos : Pos} (ok : CxOk T E C c X) (h : cGlob c x = some d) : PE X (.Name x pos) (tE T E d) := by
  unfold cGlob at h
  split at h
  · rename_i hg
    split at h
    · rename_i p hp
      cases h
      obtain ⟨hd, v, u, h1, h2, h3⟩ := ok.g.con x p (cidx_get hp)
      exact pe_c (pe_glob (ok.gl hg) h1 h2 hd) h3
    · obtain ⟨⟨i, f⟩, h1, h2⟩ := omap h
      cases h2
      obtain ⟨g1, rfl⟩ := fidx_get h1
      obtain ⟨hd, fd, ps, k, _, _, hm, _⟩ := ok.g.fns i f g1
      exact pe_c (pe_glob (v := .ref (T.fa i)) (ok.gl hg) hm rfl hd) fun _ => .fn i
  · cases h
def cName (c : CC) (x : Str) : Option DE := match c.slot x with
  | some i => some (dV i)
  | none => cGlob c x
theorem cName_ok {x : Str} {d : DE} {pos : Pos} (ok : CxOk T E C c X) (h : cName c x = some d) : PE X (.Name x pos) (tE T E d) := by
  unfold cName at h
  split at h
  · rename_i i hi
    cases h
    obtain ⟨a, b, hd, hcd⟩ := ok.slot hi
    exact pe_v a b hd hcd
  · exact cGlob_ok ok h
/-! lists of expressions -/
def cEs (r : Cmp) (c : CC) : List Expr → Option DEs
  | [] => some dNil
  | e :: es => if notStar e then (r.e c e).bind fun d => (cEs r c es).map fun ds => dCons d ds else none
theorem cEs_ok (S : Snd T C r) (ok : CxOk T E C c X) : ∀ {es : List Expr} {ds : DEs}, cEs r c es = some ds → PA X es (tL T E ds) ∧ es.all notStar = true
  | [], ds, h => by cases h; exact ⟨pa_n, rfl⟩
  | e :: es, ds, h => by
    unfold cEs at h
    split at h
    · rename_i ns
      obtain ⟨d, h1, h2⟩ := obnd h
      obtain ⟨ds', h3, rfl⟩ := omap h2
      obtain ⟨a, b⟩ := cEs_ok S ok h3
      exact ⟨pa_c ns (S.e ok h1) a, by simp [ns, b]⟩
    · cases h
def cOs (r : Cmp) (c : CC) : List Expr → Option DOs
  | [] => some dNilO
  | e :: es => if notStar e then (r.o c e).bind fun d => (cOs r c es).map fun ds => dConsO d ds else none
theorem cOs_ok (S : Snd T C r) (ok : CxOk T E C c X) : ∀ {es : List Expr} {ds : DOs}, cOs r c es = some ds → PA X es (tLO T E ds)
  | [], ds, h => by cases h; exact pa_nO
  | e :: es, ds, h => by
    unfold cOs at h
    split at h
    · rename_i ns
      obtain ⟨d, h1, h2⟩ := obnd h
      obtain ⟨ds', h3, rfl⟩ := omap h2
      exact pa_cO ns (S.o ok h1) (cOs_ok S ok h3)
    · cases h
/-! operators -/
def cBin : Operator → Option (PV → PV → Option PV)
  | .Add => some gAdd
  | .Sub => some gSubI
  | .Mult => some gMul
  | .FloorDiv => some gFdiv
  | .Mod => some gMod
  | .Pow => some gPow
  | _ => none
theorem cBin_ok {op : Operator} {g : PV → PV → Option PV} (ok : CxOk T E C c X) (h : cBin op = some g) : ∃ R, OpR X (binaryOp op) R ∧ OpS T R g := by
  cases op <;> simp only [cBin, Option.some.injEq, reduceCtorEq] at h <;> subst h
  · exact ⟨_, op_addA, by rw [ok.K]; exact s_add⟩
  · exact ⟨_, op_sub, s_sub⟩
  · exact ⟨_, op_mulA, by rw [ok.K]; exact s_mul⟩
  · exact ⟨_, op_modN, s_mod⟩
  · exact ⟨_, op_pow, s_pow⟩
  · exact ⟨_, op_fd, s_fdiv⟩
def cCm : CmpOp → Option (PV → PV → Option PV)
  | .Eq => some (gEq false)
  | .NotEq => some (gEq true)
  | .Lt => some gLt
  | .LtE => some (gCmpI fun i j => decide (i ≤ j))
  | .Gt => some (gCmpI fun i j => decide (j < i))
  | .GtE => some (gCmpI fun i j => decide (j ≤ i))
  | .Is => some (gIsN false)
  | .IsNot => some (gIsN true)
  | .In => some (gInX false)
  | .NotIn => some (gInX true)
theorem cCm_ok {op : CmpOp} {g : PV → PV → Option PV} (ok : CxOk T E C c X) (h : cCm op = some g) : CmpS T X op g := by
  have hu := ok.un
  have hu0 := ok.un0
  have hu1 : X.A.units < cLine := by omega
  cases op <;> simp only [cCm, Option.some.injEq, reduceCtorEq] at h <;> subst h
  · exact ⟨_, op_eqD hu0, by rw [ok.K]; exact s_eq⟩
  · exact ⟨_, op_neD hu0, by rw [ok.K]; exact s_ne⟩
  · exact ⟨_, op_ltA hu1, by rw [ok.K]; exact s_lt⟩
  · exact ⟨_, op_le, s_cmp⟩
  · exact ⟨_, op_gt, s_cmp⟩
  · exact ⟨_, op_ge, s_cmp⟩
  · exact ⟨_, op_isA, s_is false⟩
  · exact ⟨_, op_isNotA, s_is true⟩
  · exact ⟨_, op_inX hu, by rw [ok.K]; exact s_inX false⟩
  · exact ⟨_, op_notInX hu, by rw [ok.K]; exact s_inX true⟩
/-! one comparison -/
def lookL (c : CC) (op : CmpOp) (a : Expr) : Option Nat := match op, a with
  | .Eq, .Name x _ => c.slot x
  | .NotEq, .Name x _ => c.slot x
  | _, _ => none
def lookR (c : CC) (op : CmpOp) (b : Expr) : Option Nat := match op, b with
  | .In, .Name x _ => c.slot x
  | .NotIn, .Name x _ => c.slot x
  | _, _ => none
theorem lookL_ok {op : CmpOp} {a : Expr} {i : Nat} (ok : CxOk T E C c X) (h : lookL c op a = some i) : PE X a (tVar i) := by
  unfold lookL at h
  split at h
  · obtain ⟨a, b, hd, hcd⟩ := ok.slot h; exact pe_var a b hd hcd
  · obtain ⟨a, b, hd, hcd⟩ := ok.slot h; exact pe_var a b hd hcd
  · cases h
theorem lookR_ok {op : CmpOp} {a : Expr} {i : Nat} (ok : CxOk T E C c X) (h : lookR c op a = some i) : PE X a (tVar i) := by
  unfold lookR at h
  split at h
  · obtain ⟨a, b, hd, hcd⟩ := ok.slot h; exact pe_var a b hd hcd
  · obtain ⟨a, b, hd, hcd⟩ := ok.slot h; exact pe_var a b hd hcd
  · cases h
def cCmp1 (r : Cmp) (c : CC) (a : Expr) (op : CmpOp) (b : Expr) : Option DE := if notSet b then (cCm op).bind fun g => match lookL c op a with
    | some i => (r.e c b).map fun db => dBinL g i db
    | none => match lookR c op b with
      | some j => (r.e c a).map fun da => dBinR g da j
      | none => (r.e c a).bind fun da => (r.e c b).map fun db => dBin g da db
  else none
theorem cCmp1_ok {op : CmpOp} {a b : Expr} {d : DE} (S : Snd T C r) (ok : CxOk T E C c X) (h : cCmp1 r c a op b = some d) : behindInMarks op b = false ∧ ∃ R ta tb, OpR X (compareOp op) R ∧ PE X a ta ∧ PE X b tb ∧ ∀ σ H Q, tE T E d σ H Q → tOp R ta tb σ H Q := by
  unfold cCmp1 at h
  split at h
  case isFalse => cases h
  rename_i ns
  refine ⟨marks_of ns, ?_⟩
  obtain ⟨g, hg, h⟩ := obnd h
  obtain ⟨R, ho, hs⟩ := cCm_ok ok hg
  split at h
  · rename_i i hi
    obtain ⟨db, h1, rfl⟩ := omap h
    exact ⟨R, _, _, ho, lookL_ok ok hi, S.e ok h1, fun σ H Q q => binL_imp hs q⟩
  · split at h
    · rename_i j hj
      obtain ⟨da, h1, rfl⟩ := omap h
      exact ⟨R, _, _, ho, S.e ok h1, lookR_ok ok hj, fun σ H Q q => binR_imp hs q⟩
    · obtain ⟨da, h1, h⟩ := obnd h
      obtain ⟨db, h2, rfl⟩ := omap h
      exact ⟨R, _, _, ho, S.e ok h1, S.e ok h2, fun σ H Q q => bin_imp hs q⟩
/-! chains -/
def cLks (r : Cmp) (c : CC) : List CmpOp → List Expr → Option (List Lk)
  | [], [] => some []
  | op :: ops, e :: es => if notSet e then (cCm op).bind fun g => (r.e c e).bind fun d => (cLks r c ops es).map fun l => (g, d) :: l else none
  | _, _ => none
theorem cLks_ok (S : Snd T C r) (ok : CxOk T E C c X) : ∀ {ops : List CmpOp} {es : List Expr} {l : List Lk} {op : CmpOp} {e : Expr}, cLks r c (op :: ops) (e :: es) = some l → ∃ gd l', l = gd :: l' ∧ Chs T E X op ops e es gd l' ∧ (e :: es).all notSet = true
  | ops, es, l, op, e, h => by
    unfold cLks at h
    split at h
    case isFalse => cases h
    rename_i ns
    obtain ⟨g, h1, h⟩ := obnd h
    obtain ⟨d, h2, h⟩ := obnd h
    obtain ⟨l', h3, rfl⟩ := omap h
    have cg := cCm_ok ok h1
    have cd := S.e ok h2
    cases ops with
    | nil =>
      cases es with
      | nil => cases h3; exact ⟨_, _, rfl, .one cg cd, by simp [ns]⟩
      | cons _ _ => cases h3
    | cons op' ops =>
      cases es with
      | nil => cases h3
      | cons e' es =>
        obtain ⟨gd, l2, rfl, h4, h5⟩ := cLks_ok S ok h3
        exact ⟨_, _, rfl, .cons cg cd h4, by simp only [List.all_cons, ns, Bool.true_and]; simpa using h5⟩
def cChain (r : Cmp) (c : CC) (a : Expr) (ops : List CmpOp) (es : List Expr) : Option DE := match ops, es with
  | op :: op' :: ops, b :: b' :: es => (r.e c a).bind fun da => (cLks r c (op :: op' :: ops) (b :: b' :: es)).bind fun l => match l with
    | gd :: l => some (dChs da gd l)
    | [] => none
  | _, _ => none
theorem cChain_ok {a : Expr} {ops : List CmpOp} {es : List Expr} {d : DE} {pos : Pos} (S : Snd T C r) (ok : CxOk T E C c X) (h : cChain r c a ops es = some d) : PE X (.Compare a ops es pos) (tE T E d) ∧ PT X (.Compare a ops es pos) (tT T E (dB d)) := by
  unfold cChain at h
  split at h
  · obtain ⟨da, h1, h⟩ := obnd h
    obtain ⟨l, h2, h⟩ := obnd h
    obtain ⟨gd, l', rfl, h3, h4⟩ := cLks_ok S ok h2
    dsimp only at h
    cases h
    cases h3 with
    | cons hg he hr => exact ⟨pe_chN (S.e ok h1) (.cons hg he hr) (lmarks_of h4), pt_chN (S.e ok h1) (.cons hg he hr) (lmarks_of h4)⟩
  · cases h
/-! subscripts -/
def cSi (c : CC) : Expr → Option SI
  | .Constant (.int k) _ _ => some (.c k)
  | .Name x _ => (c.slot x).map .v
  | _ => none
theorem cSi_ok {e : Expr} {si : SI} (ok : CxOk T E C c X) (h : cSi c e = some si) : PSi X e si := by
  unfold cSi at h
  split at h
  · cases h; exact .c
  · obtain ⟨i, h1, rfl⟩ := omap h
    obtain ⟨a, b, hd, hcd⟩ := ok.slot h1
    exact .v a b hd hcd
  · cases h
def cPo (r : Cmp) (c : CC) : Option Expr → Option DPo
  | none => some dNoP
  | some e => (r.e c e).map dP
theorem cPo_ok {o : Option Expr} {d : DPo} (S : Snd T C r) (ok : CxOk T E C c X) (h : cPo r c o = some d) : PO X o (tPo T E d) := by
  cases o with
  | none => cases h; exact po_n
  | some e => obtain ⟨d, h1, rfl⟩ := omap h; exact po_s (S.e ok h1)
def cIx2 (c : CC) (a i : Expr) : Option DE := match a with
  | .Subscript (.Name x _) a' _ => (c.slot x).bind fun j => (cSi c a').bind fun s1 => (cSi c i).map fun s2 => dIx2 j s1 s2
  | _ => none
def cIx1 (r : Cmp) (c : CC) (a i : Expr) : Option DE := match a with
  | .Name x _ => (c.slot x).bind fun j => (r.e c i).map fun d => dIxV j d
  | _ => none
def cSub (r : Cmp) (c : CC) (a i : Expr) : Option DE := match i with
  | .Slice lo hi none _ => (r.e c a).bind fun d => (cPo r c lo).bind fun dl => (cPo r c hi).map fun dh => dSl d dl dh
  | i => if notSlice i then match cIx2 c a i with
      | some d => some d
      | none => match cIx1 r c a i with
        | some d => some d
        | none => (r.e c a).bind fun da => (r.e c i).map fun di => dBin gIx da di
    else none
theorem cSub_ok {a i : Expr} {d : DE} {pos : Pos} (S : Snd T C r) (ok : CxOk T E C c X) (h : cSub r c a i = some d) : PE X (.Subscript a i pos) (tE T E d) := by
  unfold cSub at h
  split at h
  · obtain ⟨d0, h1, h⟩ := obnd h
    obtain ⟨dl, h2, h⟩ := obnd h
    obtain ⟨dh, h3, rfl⟩ := omap h
    exact pe_sl ok.K (S.e ok h1) (cPo_ok S ok h2) (cPo_ok S ok h3)
  · split at h
    case isFalse => cases h
    rename_i ns
    split at h
    · rename_i d' h1
      cases h
      unfold cIx2 at h1
      split at h1
      · obtain ⟨j, g1, h1⟩ := obnd h1
        obtain ⟨s1, g2, h1⟩ := obnd h1
        obtain ⟨s2, g3, rfl⟩ := omap h1
        obtain ⟨a, b, hd, hcd⟩ := ok.slot g1
        exact pe_x2 ok.K a b hd hcd (cSi_ok ok g2) (cSi_ok ok g3)
      · cases h1
    · split at h
      · rename_i d' h1
        cases h
        unfold cIx1 at h1
        split at h1
        · obtain ⟨j, g1, h1⟩ := obnd h1
          obtain ⟨di, g2, rfl⟩ := omap h1
          obtain ⟨a, b, hd, hcd⟩ := ok.slot g1
          exact pe_xv ok.K a b hd hcd ns (S.e ok g2)
        · cases h1
      · obtain ⟨da, h1, h⟩ := obnd h
        obtain ⟨di, h2, rfl⟩ := omap h
        exact pe_x ok.K ns (S.e ok h1) (S.e ok h2)
def cSlO (r : Cmp) (c : CC) (a i : Expr) : Option DO := match i with
  | .Slice lo hi none _ => (r.e c a).bind fun d => (cPo r c lo).bind fun dl => (cPo r c hi).map fun dh => dSlO d dl dh
  | _ => none
theorem cSlO_ok {a i : Expr} {d : DO} {pos : Pos} (S : Snd T C r) (ok : CxOk T E C c X) (h : cSlO r c a i = some d) : PE X (.Subscript a i pos) (tO T E d) := by
  unfold cSlO at h
  split at h
  · obtain ⟨d0, h1, h⟩ := obnd h
    obtain ⟨dl, h2, h⟩ := obnd h
    obtain ⟨dh, h3, rfl⟩ := omap h
    exact pe_slO ok.K (S.e ok h1) (cPo_ok S ok h2) (cPo_ok S ok h3)
  · cases h
/-! built-in functions -/
inductive BF where
  | len | abs | int | min | max | sum | all | any | tup | str
def BF.nm : BF → Str
  | .len => "len"
  | .abs => "abs"
  | .int => "int"
  | .min => "min"
  | .max => "max"
  | .sum => "sum"
  | .all => "all"
  | .any => "any"
  | .tup => "tuple"
  | .str => "str"
def BF.g : BF → List PV → Option PV
  | .len => gLen
  | .abs => gAbs
  | .int => gInt
  | .min => gMin
  | .max => gMax
  | .sum => gSum
  | .all => gAll
  | .any => gAny
  | .tup => gTupOf
  | .str => gStr
def BF.R (K : PySem.W.Frag) : BF → List V → Hp → VK → Prop
  | .len => rLen2 K
  | .abs => rAbs
  | .int => rInt1
  | .min => rMin3 K
  | .max => rMax3 K
  | .sum => rSum2 K
  | .all => rAll K
  | .any => rAny K
  | .tup => rTupOf K
  | .str => rStrI
theorem BF.fn (b : BF) : FnS T (b.R T.K) b.g := by
  cases b
  · exact f_len
  · exact f_abs
  · exact f_int
  · exact f_min
  · exact f_max
  · exact f_sum
  · exact f_all
  · exact f_any
  · exact f_tupOf
  · exact f_str
theorem BF.pe (b : BF) {e : Expr} {es : List Expr} {t : TA} {p pos : Pos} (ok : CxOk T E C c X) (hg : Gl X b.nm) (hm : X.mg b.nm = none) (ha : PA X (e :: es) t) (ns : (e :: es).all notStar = true) : PE X (.Call (.Name b.nm p) (e :: es) [] pos) (tCB (b.R T.K) t) := by
  have he := star_of (show notStar e = true by simp only [List.all_cons, Bool.and_eq_true] at ns; exact ns.1) es X.env
  have hpl := back_star (show es.all notStar = true by simp only [List.all_cons, Bool.and_eq_true] at ns; exact ns.2) pos X.env
  rw [← ok.K]
  cases b
  · exact pe_callB cr_len2 hg hm (by decide +kernel) ha (by decide) (by decide) he hpl
  · exact pe_callB call_abs hg hm (by decide +kernel) ha (by decide) (by decide) he hpl
  · exact pe_callTy call_int1 hg hm (by decide +kernel) ha (by decide) (by decide) he hpl
  · exact pe_callB (cr_min3 ok.calm ok.un0) hg hm (by decide +kernel) ha (by decide) (by decide) he hpl
  · exact pe_callB (cr_max3 ok.calm ok.un0) hg hm (by decide +kernel) ha (by decide) (by decide) he hpl
  · exact pe_callB (cr_sum2 ok.calm) hg hm (by decide +kernel) ha (by decide) (by decide) he hpl
  · exact pe_callB (cr_all ok.calm) hg hm (by decide +kernel) ha (by decide) (by decide) he hpl
  · exact pe_callB (cr_any ok.calm) hg hm (by decide +kernel) ha (by decide) (by decide) he hpl
  · exact pe_callTy call_tuple_of hg hm (by decide +kernel) ha (by decide) (by decide) he hpl
  · exact pe_callTy call_str_int hg hm (by decide +kernel) ha (by decide) (by decide) he hpl
def bfs : List BF := [.len, .all, .int, .sum, .abs, .tup, .min, .max, .any, .str]
def bfOf (x : Str) : Option BF := bfs.find? fun b => seqS x b.nm
theorem bfOf_eq {x : Str} {b : BF} (h : bfOf x = some b) : x = b.nm := by
  have := List.find?_some (p := fun b : BF => seqS x b.nm) h
  exact seqS_eq this
def peekable : BF → Bool
  | .tup => false
  | _ => true
def look1 (c : CC) : List Expr → Option Nat
  | [.Name x _] => c.slot x
  | _ => none
theorem look1_ok {es : List Expr} {i : Nat} (ok : CxOk T E C c X) (h : look1 c es = some i) : PA X es (tCons (tVar i) tNil) ∧ es.all notStar = true := by
  unfold look1 at h
  split at h
  · obtain ⟨a, b, hd, hcd⟩ := ok.slot h
    exact ⟨pa_cons (pe_var a b hd hcd) pa_nil rfl, rfl⟩
  · cases h
def cBf (r : Cmp) (c : CC) (x : Str) (args : List Expr) : Option DE := if c.isG x && sIn x c.gt.free then (bfOf x).bind fun b => match args with
    | [] => none
    | e :: es => match (if peekable b then look1 c (e :: es) else none) with
      | some i => some (dFn1 b.g i)
      | none => (cEs r c (e :: es)).map fun ds => dFn b.g ds
  else none
theorem cBf_ok {x : Str} {args : List Expr} {d : DE} {p pos : Pos} (S : Snd T C r) (ok : CxOk T E C c X) (h : cBf r c x args = some d) : PE X (.Call (.Name x p) args [] pos) (tE T E d) := by
  unfold cBf at h
  split at h
  case isFalse => cases h
  rename_i hh
  simp only [Bool.and_eq_true] at hh
  obtain ⟨b, hb, h2⟩ := obnd h
  clear h
  have h := h2
  clear h2
  cases bfOf_eq hb
  have hg := ok.gl hh.1
  have hm := ok.g.free _ (sIn_mem hh.2)
  split at h
  · cases h
  · split at h
    · rename_i i hi
      cases h
      split at hi
      · obtain ⟨ha, ns⟩ := look1_ok ok hi
        exact (b.pe ok hg hm ha ns).imp fun σ H Q q => fn1_imp b.fn q
      · cases hi
    · obtain ⟨ds, h1, rfl⟩ := omap h
      obtain ⟨ha, ns⟩ := cEs_ok S ok h1
      exact (b.pe ok hg hm ha ns).imp fun σ H Q q => fn_imp b.fn q
/-! isinstance -/
def tyOf (c : CC) (x : Str) : Option Ty := if c.isG x && sIn x c.gt.free then
    if seqS x "int" then some .int else if seqS x "bool" then some .bool else if seqS x "str" then some .str else if seqS x "tuple" then some .tup else if seqS x "list" then some .lst else if seqS x "dict" then some .dct else none
  else none
theorem tyOf_ok {x : Str} {t : Ty} {pos : Pos} (ok : CxOk T E C c X) (h : tyOf c x = some t) : PE X (.Name x pos) (tC (.ty t.nm)) := by
  unfold tyOf at h
  split at h
  case isFalse => cases h
  rename_i hh
  simp only [Bool.and_eq_true] at hh
  have hg := ok.gl hh.1
  have hm := ok.g.free _ (sIn_mem hh.2)
  split at h
  · rename_i e; cases seqS_eq e; cases h; exact pe_bltn hg hm (u := .type "int") (by decide +kernel) rfl (by decide) (by decide)
  split at h
  · rename_i e; cases seqS_eq e; cases h; exact pe_bltn hg hm (u := .type "bool") (by decide +kernel) rfl (by decide) (by decide)
  split at h
  · rename_i e; cases seqS_eq e; cases h; exact pe_bltn hg hm (u := .type "str") (by decide +kernel) rfl (by decide) (by decide)
  split at h
  · rename_i e; cases seqS_eq e; cases h; exact pe_bltn hg hm (u := .type "tuple") (by decide +kernel) rfl (by decide) (by decide)
  split at h
  · rename_i e; cases seqS_eq e; cases h; exact pe_bltn hg hm (u := .type "list") (by decide +kernel) rfl (by decide) (by decide)
  split at h
  · rename_i e; cases seqS_eq e; cases h; exact pe_bltn hg hm (u := .type "dict") (by decide +kernel) rfl (by decide) (by decide)
  · cases h
def tysOf (c : CC) : List Expr → Option (List Ty)
  | [] => some []
  | .Name x _ :: es => (tyOf c x).bind fun t => (tysOf c es).map (t :: ·)
  | _ :: _ => none
theorem tysOf_ok (ok : CxOk T E C c X) : ∀ {es : List Expr} {ts : List Ty}, tysOf c es = some ts → PA X es (tTys ts) ∧ ts.length = es.length
  | [], ts, h => by cases h; exact ⟨pa_nil, rfl⟩
  | e :: es, ts, h => by
    unfold tysOf at h
    split at h
    · rename_i e'; cases e'
    · rename_i e'
      cases e'
      obtain ⟨t, h1, h⟩ := obnd h
      obtain ⟨ts', h2, rfl⟩ := omap h
      obtain ⟨a, b⟩ := tysOf_ok ok h2
      exact ⟨pa_cons (tyOf_ok ok h1) a rfl, congrArg (· + 1) b⟩
    · cases h
def cIsi (r : Cmp) (c : CC) (x : Str) (args : List Expr) : Option DE := if c.isG x && sIn x c.gt.free && seqS x "isinstance" then match args with
    | [e, .Name y _] => if notStar e then (tyOf c y).bind fun t => (r.e c e).map fun d => dIsi d [t] else none
    | [e, .Tuple es _ _] => if notStar e && decide (es.length ≤ 100) then (tysOf c es).bind fun ts => (r.e c e).map fun d => dIsi d ts else none
    | _ => none
  else none
theorem cIsi_ok {x : Str} {args : List Expr} {d : DE} {p pos : Pos} (S : Snd T C r) (ok : CxOk T E C c X) (h : cIsi r c x args = some d) : PE X (.Call (.Name x p) args [] pos) (tE T E d) := by
  unfold cIsi at h
  split at h
  case isFalse => cases h
  rename_i hh
  simp only [Bool.and_eq_true] at hh
  have hg := ok.gl hh.1.1
  have hm := ok.g.free _ (sIn_mem hh.1.2)
  cases seqS_eq hh.2
  split at h
  · split at h
    · rename_i ns
      obtain ⟨t, h1, h⟩ := obnd h
      obtain ⟨d', h2, rfl⟩ := omap h
      exact pe_is1 ok.K hg hm (tyOf_ok ok h1) ns (S.e ok h2)
    · cases h
  · split at h
    · rename_i ns
      simp only [Bool.and_eq_true, decide_eq_true_eq] at ns
      obtain ⟨ts, h1, h⟩ := obnd h
      obtain ⟨d', h2, rfl⟩ := omap h
      obtain ⟨a, b⟩ := tysOf_ok ok h1
      exact pe_isT ok.K hg hm (by rw [sizeLine_eq]; omega) a ns.1 (S.e ok h2)
    · cases h
  · cases h
/-! methods -/
inductive MF where
  | append | extend | pop | popAt | index
def MF.nm : MF → Str
  | .append => "append"
  | .extend => "extend"
  | .pop => "pop"
  | .popAt => "pop"
  | .index => "index"
def MF.g : MF → List PV → List PV → Option (PV × List PV)
  | .append => gAppend
  | .extend => gExtend
  | .pop => gPop
  | .popAt => gPopAt
  | .index => gIndex
def mfOf (m : Str) (k : Nat) : Option MF := match k with
  | 0 => if seqS m "pop" then some .pop else none
  | 1 => if seqS m "append" then some .append else if seqS m "extend" then some .extend else if seqS m "pop" then some .popAt else if seqS m "index" then some .index else none
  | _ => none
def cMt (r : Cmp) (c : CC) (x m : Str) (apos cpos : Pos) (args : List Expr) : Option DE := if apos.endLine == cpos.line then (c.slot x).bind fun i => (mfOf m args.length).bind fun f => (cEs r c args).map fun ds => dMt i f.g ds else none
theorem cMt_ok {x m : Str} {args : List Expr} {d : DE} {px apos cpos : Pos} (S : Snd T C r) (ok : CxOk T E C c X) (h : cMt r c x m apos cpos args = some d) : PE X (.Call (.Attribute (.Name x px) m apos) args [] cpos) (tE T E d) := by
  unfold cMt at h
  split at h
  case isFalse => cases h
  rename_i hl
  obtain ⟨i, h1, h⟩ := obnd h
  obtain ⟨f, h2, h⟩ := obnd h
  obtain ⟨ds, h3, rfl⟩ := omap h
  obtain ⟨hx, hv, hd, hcd⟩ := ok.slot h1
  obtain ⟨ha, ns⟩ := cEs_ok S ok h3
  have hp : PE X (.Name x px) (tVar i) := pe_var hx hv hd hcd
  have hK := ok.K
  unfold mfOf at h2
  split at h2
  · rename_i hk
    have e0 : args = [] := List.eq_nil_of_length_eq_zero hk
    subst e0
    split at h2
    · rename_i em
      cases h2
      cases seqS_eq em
      cases h3
      refine (pe_bm0 PySem.F.plainAttrs_list PySem.F.slot_list_pop PySem.F.type_list_pop mt_pop hp rfl hl).imp fun σ H Q q => ?_
      obtain ⟨F, ρ, A, s, q⟩ := q
      obtain ⟨x, h1, h2, h3⟩ := mt_imp m_pop ⟨F, ρ, A, s, q⟩
      rw [hK]
      obtain ⟨F2, ρ2, A2, s2, q2⟩ := h3
      exact ⟨x, h1, h2, Post.here s2 q2 [] .nil⟩
    · cases h2
  · rename_i hk
    obtain ⟨e, rfl⟩ : ∃ e, args = [e] := by
      cases args with
      | nil => cases hk
      | cons e es => cases es with
        | nil => exact ⟨e, rfl⟩
        | cons _ _ => simp at hk
    have ne : notStar e = true := by simpa using ns
    have hs := star_of ne [] X.env
    have hpl : (backTo cpos (starEach ([] : List Expr) X.env)).any (·.1) = false := rfl
    have hfew : ((backTo cpos (starEach [e] X.env)).all (fun x => !x.1) && (backToKw cpos (keywordEach [] X.env)).all (fun x => x.1.isSome)
      && decide ([e].length + ([] : List Keyword).length + (if ([] : List Keyword).isEmpty then 0 else 1) < 30)) = true := by
      rw [hs]
      rfl
    split at h2
    · rename_i em
      cases h2
      cases seqS_eq em
      exact (pe_bm PySem.F.plainAttrs_list PySem.F.slot_list_append PySem.F.type_list_append mt_append hp ha rfl hfew hl hs hpl).imp fun σ H Q q => by rw [hK]; exact mt_imp m_append q
    split at h2
    · rename_i em
      cases h2
      cases seqS_eq em
      exact (pe_bm PySem.F.plainAttrs_list PySem.F.slot_list_extend PySem.F.type_list_extend mt_extend hp ha rfl hfew hl hs hpl).imp fun σ H Q q => by rw [hK]; exact mt_imp m_extend q
    split at h2
    · rename_i em
      cases h2
      cases seqS_eq em
      exact (pe_bm PySem.F.plainAttrs_list PySem.F.slot_list_pop PySem.F.type_list_pop mt_popAt hp ha rfl hfew hl hs hpl).imp fun σ H Q q => by rw [hK]; exact mt_imp m_popAt q
    split at h2
    · rename_i em
      cases h2
      cases seqS_eq em
      exact (pe_bm PySem.F.plainAttrs_list PySem.F.slot_list_index PySem.F.type_list_index (mt_indexD ok.un) hp ha rfl hfew hl hs hpl).imp fun σ H Q q => by rw [hK]; exact mt_imp m_index q
    · cases h2
  · cases h2
end
end Dn

/-! DnO: calls of defs, comprehensions, statements; all joined. -/
namespace Dn
open PySem PySem.Spec PyProof.Rows L2

section
variable {T : Tb} {E : XK} {C : Cals} {c : CC} {X : Cx} {r : Cmp}
/-! calls of the program's defs -/
def cFnO (C : Cals) (r : Cmp) (c : CC) (x : Str) (args : List Expr) : Option DO := if c.isG x then (fidx x c.gt.fns).bind fun q => if q.2.mu then match args with
      | .Name y _ :: rest => (c.slot y).bind fun j => (cEs r c rest).map fun ds => dCallL C q.1 q.2.np j ds
      | _ => none
    else match args with
      | [] => none
      | e :: es => (cEs r c (e :: es)).map fun ds => dCall C q.1 q.2.np ds
  else none
theorem cFnO_ok {x : Str} {args : List Expr} {d : DO} {p pos : Pos} (S : Snd T C r) (ok : CxOk T E C c X) (h : cFnO C r c x args = some d) : PE X (.Call (.Name x p) args [] pos) (tO T E d) := by
  unfold cFnO at h
  split at h
  case isFalse => cases h
  rename_i hg0
  have hg := ok.gl hg0
  obtain ⟨⟨i, f⟩, hf, h2⟩ := obnd h
  clear h
  obtain ⟨g1, rfl⟩ := fidx_get hf
  obtain ⟨hd, fd, ps, k, F, hr, hm, hk, hb⟩ := ok.g.fns i f g1
  dsimp only at h2
  split at h2
  · split at h2
    · rename_i y py rest
      obtain ⟨j, h1, h3⟩ := obnd h2
      obtain ⟨ds, h4, rfl⟩ := omap h3
      obtain ⟨ha, ns⟩ := cEs_ok S ok h4
      obtain ⟨a, b, hd2, hcd2⟩ := ok.slot h1
      have hall : (Expr.Name y py :: rest).all notStar = true := by simp [notStar, ns]
      exact (pe_call (dvs := []) F hr hg hm hk hb .nil ok.px (pa_cons (pe_var a b hd2 hcd2) ha (star_of rfl _ _)) hd (star_of rfl _ _) (back_star ns _ _)).imp fun σ H Q q => by
        obtain ⟨v, e1, q⟩ := callL_imp q
        exact ⟨v, e1, by
          have e2 : (fun (xs : List V) (H2 : Hp) => spG T C i f.np ((v :: xs) ++ []) H2 Q E) = fun xs H2 => spG T C i f.np (v :: xs) H2 Q E := by
            funext xs H2; rw [List.append_nil]
          show (tL T E ds) σ H (fun xs H2 => spG T C i f.np ((v :: xs) ++ []) H2 Q E)
          rw [e2]; exact q⟩
    · cases h2
  · split at h2
    · cases h2
    · rename_i e es
      obtain ⟨ds, h4, rfl⟩ := omap h2
      obtain ⟨ha, ns⟩ := cEs_ok S ok h4
      have ns1 : notStar e = true := by simp only [List.all_cons, Bool.and_eq_true] at ns; exact ns.1
      have ns2 : es.all notStar = true := by simp only [List.all_cons, Bool.and_eq_true] at ns; exact ns.2
      exact (pe_call (dvs := []) F hr hg hm hk hb .nil ok.px ha hd (star_of ns1 _ _) (back_star ns2 _ _)).imp fun σ H Q q => by
        have q := call_imp q
        have e2 : (fun (xs : List V) (H2 : Hp) => spG T C i f.np (xs ++ []) H2 Q E) = fun xs H2 => spG T C i f.np xs H2 Q E := by
          funext xs H2; rw [List.append_nil]
        show (tL T E ds) σ H (fun xs H2 => spG T C i f.np (xs ++ []) H2 Q E)
        rw [e2]; exact q
/-- a call of the def that a name holds -/
def dCallV (C : Cals) (fns : List FnI) (i : Nat) (ds : DEs) : DO := fun ρ => match ρ[i]? with
  | some (some (.z (.fn j))) => match fns[j]? with
    | some f => dCall C j f.np ds ρ
    | none => .bad
  | _ => .bad
def cVal (C : Cals) (r : Cmp) (c : CC) (x : Str) (args : List Expr) : Option DO := match args with
  | [] => none
  | e :: es => (c.slot x).bind fun i => (cEs r c (e :: es)).map fun ds => dCallV C c.gt.fns i ds
theorem cVal_ok {x : Str} {args : List Expr} {d : DO} {p pos : Pos} (S : Snd T C r) (ok : CxOk T E C c X) (h : cVal C r c x args = some d) : PE X (.Call (.Name x p) args [] pos) (tO T E d) := by
  unfold cVal at h
  split at h
  · cases h
  · rename_i e es
    obtain ⟨i, h1, h2⟩ := obnd h
    clear h
    obtain ⟨ds, h3, rfl⟩ := omap h2
    obtain ⟨ha, ns⟩ := cEs_ok S ok h3
    obtain ⟨a, b, hd, hcd⟩ := ok.slot h1
    have ns1 : notStar e = true := by simp only [List.all_cons, Bool.and_eq_true] at ns; exact ns.1
    have ns2 : es.all notStar = true := by simp only [List.all_cons, Bool.and_eq_true] at ns; exact ns.2
    refine ⟨fun pins s σ H Q I hq => ?_⟩
    obtain ⟨F, ρ, A, so, q⟩ := hq
    unfold dCallV at q
    split at q
    · rename_i j ej
      split at q
      · rename_i f ef
        obtain ⟨_, fd, ps, k, Fk, hr, hm, hk, hb⟩ := ok.g.fns j f ef
        obtain ⟨v, g1, _, g2⟩ := so.slot i _ ej
        cases g2
        refine (pe_callL (dvs := []) Fk hr a b hk hb .nil ok.px ha hd hcd (star_of ns1 _ _) (back_star ns2 _ _)).run pins s σ H Q I ⟨g1, ?_⟩
        have q2 := call_imp (T := T) (E := E) (C := C) (f := j) (np := f.np) (ds := ds) (Q := Q) ⟨F, ρ, A, so, q⟩
        have e2 : (fun (xs : List V) (H2 : Hp) => spG T C j f.np (xs ++ []) H2 Q E) = fun xs H2 => spG T C j f.np xs H2 Q E := by
          funext xs H2; rw [List.append_nil]
        rw [e2]
        exact q2
      · exact q.elim
    · exact q.elim
/-! len(set(..)) -/
def cLset (r : Cmp) (c : CC) (x : Str) (args : List Expr) : Option DE := if c.isG x && sIn x c.gt.free && seqS x "len" then match args with
    | [.Call (.Name y _) [a] [] _] => if c.isG y && sIn y c.gt.free && seqS y "set" && notStar a then (r.e c a).map dLenSet else none
    | _ => none
  else none
theorem cLset_ok {x : Str} {args : List Expr} {d : DE} {p pos : Pos} (S : Snd T C r) (ok : CxOk T E C c X) (h : cLset r c x args = some d) : PE X (.Call (.Name x p) args [] pos) (tE T E d) := by
  unfold cLset at h
  split at h
  case isFalse => cases h
  rename_i hh
  simp only [Bool.and_eq_true] at hh
  cases seqS_eq hh.2
  have hg := ok.gl hh.1.1
  have hm := ok.g.free _ (sIn_mem hh.1.2)
  split at h
  · split at h
    · rename_i h2
      simp only [Bool.and_eq_true] at h2
      obtain ⟨d', h1, rfl⟩ := omap h
      cases seqS_eq h2.1.2
      exact pe_lset ok.K ok.calm ok.un0 hg hm (ok.gl h2.1.1.1) (ok.g.free _ (sIn_mem h2.1.1.2)) h2.2 (S.e ok h1)
    · cases h
  · cases h
/-! list(..), sorted(..), list(range(..)), tuple(range(..)) -/
def cRg (r : Cmp) (c : CC) : Expr → Option DEs
  | .Call (.Name x _) [a] [] _ => if c.isG x && sIn x c.gt.free && seqS x "range" && notStar a then (r.e c a).map dRg1 else none
  | .Call (.Name x _) [a, b] [] _ => if c.isG x && sIn x c.gt.free && seqS x "range" && notStar a && notStar b then (r.e c a).bind fun da => (r.e c b).map fun db => dRg2 da db else none
  | _ => none
theorem cRg_ok {e : Expr} {d : DEs} (S : Snd T C r) (ok : CxOk T E C c X) (h : cRg r c e = some d) : (∃ te, PRg X e te ∧ RgS T E te d) ∧ notStar e = true := by
  unfold cRg at h
  split at h
  · split at h
    · rename_i hh
      simp only [Bool.and_eq_true] at hh
      obtain ⟨d', h1, rfl⟩ := omap h
      cases seqS_eq hh.1.2
      exact ⟨⟨_, prg_1 (ok.gl hh.1.1.1) (ok.g.free _ (sIn_mem hh.1.1.2)) (S.e ok h1) (star_of hh.2 _ _), rg_1 fun σ H Q q => q⟩, rfl⟩
    · cases h
  · split at h
    · rename_i hh
      simp only [Bool.and_eq_true] at hh
      obtain ⟨da, h1, h⟩ := obnd h
      obtain ⟨db, h2, rfl⟩ := omap h
      cases seqS_eq hh.1.1.2
      exact ⟨⟨_, prg_2 (ok.gl hh.1.1.1.1) (ok.g.free _ (sIn_mem hh.1.1.1.2)) (S.e ok h1) (S.e ok h2) (star_of hh.1.2 _ _) (star_of hh.2 _ _) (by rw [star_of hh.2]; rfl), rg_2 (fun σ H Q q => q) fun σ H Q q => q⟩, rfl⟩
    · cases h
  · cases h
def cLsO (r : Cmp) (c : CC) (x : Str) (args : List Expr) : Option DO := if c.isG x && sIn x c.gt.free then match args with
    | [e] => if seqS x "list" then match cRg r c e with
          | some d => some (dLsO d)
          | none => (cEs r c [e]).map fun ds => dFnO gListOf ds
        else if seqS x "sorted" then (cEs r c [e]).map fun ds => dFnO gSortedX ds
        else if seqS x "tuple" then (cRg r c e).map fun d => dZ (dTpl d)
        else none
    | _ => none
  else none
theorem cLsO_ok {x : Str} {args : List Expr} {d : DO} {p pos : Pos} (S : Snd T C r) (ok : CxOk T E C c X) (h : cLsO r c x args = some d) : PE X (.Call (.Name x p) args [] pos) (tO T E d) := by
  unfold cLsO at h
  split at h
  case isFalse => cases h
  rename_i hh
  simp only [Bool.and_eq_true] at hh
  have hg := ok.gl hh.1
  have hm := ok.g.free _ (sIn_mem hh.2)
  split at h
  · rename_i e
    split at h
    · rename_i es
      cases seqS_eq es
      split at h
      · rename_i d' h1
        cases h
        obtain ⟨⟨te, a, b⟩, ns⟩ := cRg_ok S ok h1
        exact (pe_listRg ok.calm hg hm a (star_of ns _ _)).imp fun σ H Q q => lsRg_imp b q
      · obtain ⟨ds, h1, rfl⟩ := omap h
        obtain ⟨ha, ns⟩ := cEs_ok S ok h1
        have ns1 : notStar e = true := by simpa using ns
        exact (pe_callTy call_list_of hg hm (by decide +kernel) ha (by decide) (by decide) (star_of ns1 _ _) rfl).imp fun σ H Q q => by rw [ok.K]; exact fno_imp f_listOf q
    split at h
    · rename_i es
      cases seqS_eq es
      obtain ⟨ds, h1, rfl⟩ := omap h
      obtain ⟨ha, ns⟩ := cEs_ok S ok h1
      have ns1 : notStar e = true := by simpa using ns
      exact (pe_callB (cr_sortX ok.calm ok.un0) hg hm (by decide +kernel) ha (by decide) (by decide) (star_of ns1 _ _) rfl).imp fun σ H Q q => by rw [ok.K]; exact fno_imp f_sortedX q
    split at h
    · rename_i es
      cases seqS_eq es
      obtain ⟨d', h1, rfl⟩ := omap h
      obtain ⟨⟨te, a, b⟩, ns⟩ := cRg_ok S ok h1
      exact pe_z ((pe_tupRg ok.calm hg hm a (star_of ns _ _)).imp fun σ H Q q => tpRg_imp b q)
    · cases h
  · cases h
/-! what is walked -/
def isTup : Expr → Bool
  | .Tuple _ _ _ => true
  | _ => false
def cItC (r : Cmp) (c : CC) (tg : Expr) : Expr → Option DEs
  | .Call (.Name x _) [a] [] _ => if c.isG x && sIn x c.gt.free && notStar a then
      if seqS x "range" then (cEs r c [a]).map fun d => dIt gRange1 d
      else if seqS x "enumerate" && isTup tg then (cEs r c [a]).map fun d => dIt gEnum d
      else none else none
  | .Call (.Name x _) [a, b] [] _ => if c.isG x && sIn x c.gt.free && notStar a && notStar b then
      if seqS x "range" then (cEs r c [a, b]).map fun d => dIt gRange2 d
      else if seqS x "zip" && isTup tg then (cEs r c [a, b]).map fun d => dIt gZip d
      else none else none
  | .Call (.Name x _) [a, b, e] [] _ => if c.isG x && sIn x c.gt.free && notStar a && notStar b && notStar e then
      if seqS x "range" then (cEs r c [a, b, e]).map fun d => dIt gRange3 d
      else none else none
  | _ => none
def cIt (r : Cmp) (c : CC) (tg e : Expr) : Option DEs := if notSet e then match cItC r c tg e with
    | some d => some d
    | none => (r.e c e).map dSeqI
  else none
theorem cIt_ok {tg e : Expr} {d : DEs} (S : Snd T C r) (ok : CxOk T E C c X) (h : cIt r c tg e = some d) : PI X tg e (tI T E d) ∧ notSet e = true := by
  unfold cIt at h
  split at h
  case isFalse => cases h
  rename_i ns
  refine ⟨?_, ns⟩
  split at h
  · rename_i d' h1
    cases h
    unfold cItC at h1
    split at h1
    · split at h1
      case isFalse => cases h1
      rename_i hh
      simp only [Bool.and_eq_true] at hh
      have hg := ok.gl hh.1.1
      have hm := ok.g.free _ (sIn_mem hh.1.2)
      split at h1
      · rename_i es
        cases seqS_eq es
        obtain ⟨ds, h2, rfl⟩ := omap h1
        exact pi_r1 hg hm (cEs_ok S ok h2).1 hh.2
      split at h1
      · rename_i es
        simp only [Bool.and_eq_true] at es
        cases seqS_eq es.1
        obtain ⟨ds, h2, rfl⟩ := omap h1
        cases tg <;> first | (exact pi_en ok.K hg hm (cEs_ok S ok h2).1 hh.2) | (exact absurd es.2 (by simp [isTup]))
      · cases h1
    · split at h1
      case isFalse => cases h1
      rename_i hh
      simp only [Bool.and_eq_true] at hh
      have hg := ok.gl hh.1.1.1
      have hm := ok.g.free _ (sIn_mem hh.1.1.2)
      split at h1
      · rename_i es
        cases seqS_eq es
        obtain ⟨ds, h2, rfl⟩ := omap h1
        exact pi_r2 hg hm (cEs_ok S ok h2).1 hh.1.2 hh.2
      split at h1
      · rename_i es
        simp only [Bool.and_eq_true] at es
        cases seqS_eq es.1
        obtain ⟨ds, h2, rfl⟩ := omap h1
        cases tg <;> first | (exact pi_zi ok.K hg hm (cEs_ok S ok h2).1 hh.1.2 hh.2) | (exact absurd es.2 (by simp [isTup]))
      · cases h1
    · split at h1
      case isFalse => cases h1
      rename_i hh
      simp only [Bool.and_eq_true] at hh
      have hg := ok.gl hh.1.1.1.1
      have hm := ok.g.free _ (sIn_mem hh.1.1.1.2)
      split at h1
      · rename_i es
        cases seqS_eq es
        obtain ⟨ds, h2, rfl⟩ := omap h1
        exact pi_r3 hg hm (cEs_ok S ok h2).1 hh.1.1.2 hh.1.2 hh.2
      · cases h1
    · cases h1
  · obtain ⟨d', h1, rfl⟩ := omap h
    exact pi_s ok.K (S.e ok h1)
theorem cIt_ns {c : CC} {tg e : Expr} {d : DEs} (h : cIt r c tg e = some d) : notSet e = true := by
  unfold cIt at h
  split at h
  · assumption
  · cases h
/-! comprehensions -/
def ownOf (N : List Str) : List (Str × NameKind) → List (Str × Nat)
  | [] => []
  | (x, .local) :: ys => match idx x N with
    | some i => (x, i) :: ownOf N ys
    | none => ownOf N ys
  | (x, .cell) :: ys => match idx x N with
    | some i => (x, i) :: ownOf N ys
    | none => ownOf N ys
  | _ :: ys => ownOf N ys
def nIn (j : Nat) : List Nat → Bool
  | [] => false
  | k :: ks => Nat.beq j k || nIn j ks
theorem nIn_iff {j : Nat} : ∀ {l : List Nat}, nIn j l = true ↔ j ∈ l
  | [] => by simp [nIn]
  | k :: ks => by
    simp only [nIn, Bool.or_eq_true, List.mem_cons, nIn_iff (l := ks)]
    constructor
    · rintro (h | h)
      · exact .inl (Nat.eq_of_beq_eq_true h)
      · exact .inr h
    · rintro (h | h)
      · subst h; exact .inl (Nat.beq_refl j)
      · exact .inr h
def blkCC (c : CC) (scope : Scope) (vs : List Nat) : CC := { c with sc := relS scope c.sc, raw := some scope, fxb := fun j => !nIn j vs }
theorem blk_ok (ok : CxOk T E C c X) (scope : Scope) (vs : List Nat) : Blk X scope fun X => CxOk T E0 C (blkCC c scope vs) X := fun s H D cl fp => by
  refine ⟨ok.K, ok.N, ok.nd, ok.nm, ?_, ok.calm, ?_, ok.un, ok.g, passL⟩
  · show relS scope X.env.scope = relS scope c.sc
    rw [ok.sc]
  · show ∀ x, scope.names.lookup x = some .cell → (scope.names.lookup x == some .cell) = true
    intro x h
    rw [h]
    rfl
theorem fx_blk {c : CC} {scope : Scope} {vs : List Nat} : fxP (blkCC c scope vs) = fun j => j ∉ vs := by
  funext j
  have := nIn_iff (j := j) (l := vs)
  show ((!nIn j vs) = true) = (j ∉ vs)
  rw [← this]
  cases nIn j vs <;> simp
def cIfs (r : Cmp) (c : CC) : List Expr → Option DT
  | [] => some dYes
  | [e] => r.t c e
  | _ => none
theorem cIfs_ok {es : List Expr} {d : DT} (S : Snd T C r) (ok : CxOk T E C c X) (h : cIfs r c es = some d) : PTs X es (tT T E d) := by
  unfold cIfs at h
  split at h
  · cases h; exact pts_n
  · exact pts_1 (S.t ok h)
  · cases h
/-- the slots of a target's names -/
def tgV (c : CC) : Expr → List Nat
  | .Name x _ => (idx x c.N).toList
  | .Tuple es _ _ => es.flatMap fun e => match e with
    | .Name x _ => (idx x c.N).toList
    | .Tuple es _ _ => es.flatMap fun e => match e with
      | .Name x _ => (idx x c.N).toList
      | _ => []
    | _ => []
  | _ => []
def cLc (r : Cmp) (c : CC) (elt : Expr) (gens : List Comprehension) (scope : Scope) : Option DO := match gens with
  | [⟨tg, iter, ifs, 0⟩] =>
    let own := ownOf c.N scope.names
    let vs := own.map (·.2)
    if blkC c.N c.sc scope own then (cIt r c tg iter).bind fun di => (r.g (blkCC c scope vs) tg).bind fun g => (cIfs r (blkCC c scope vs) ifs).bind fun t => (r.e (blkCC c scope vs) elt).map fun e => dLc vs di g t e else none
  | [⟨tg, iter, ifs, 0⟩, ⟨tg1, iter1, ifs1, 0⟩] =>
    let own := ownOf c.N scope.names
    let vs := own.map (·.2)
    let vs1 := tgV c tg1
    if blkC c.N c.sc scope own && vs1.all fun i => nIn i vs then (cIt r c tg iter).bind fun di => (r.g (blkCC c scope vs) tg).bind fun g => (cIfs r (blkCC c scope vs) ifs).bind fun t =>
      (cIt r (blkCC c scope vs) tg1 iter1).bind fun di1 => (r.g (blkCC c scope vs1) tg1).bind fun g1 => (cIfs r (blkCC c scope vs) ifs1).bind fun t1 => (r.e (blkCC c scope vs) elt).map fun e => dLc2 vs vs1 di g t di1 g1 t1 e else none
  | _ => none
theorem cLc_ok {elt : Expr} {gens : List Comprehension} {scope : Scope} {d : DO} {pos : Pos} (S : Snd T C r) (ok : CxOk T E C c X) (h : cLc r c elt gens scope = some d) : PE X (.ListComp elt gens scope pos) (tO T E d) ∧
    ∀ {fx : Nat → Prop} {i : Nat} {y : Str} {py spos : Pos}, ¬ fx i → X.N[i]? = some y → X.env.scope.names.lookup y = some .local → swapsWith (.ListComp elt gens scope pos) (some (.Name y py)) spos.line X.env = pure true → PS X (.Assign [.Name y py] (.ListComp elt gens scope pos) spos) (tS T E fx (dSet i d)) := by
  have hN : X.N.Nodup := by rw [ok.N]; exact ok.nd
  unfold cLc at h
  split at h
  · dsimp only at h
    split at h
    case isFalse => cases h
    rename_i hb
    obtain ⟨di, h1, h⟩ := obnd h
    obtain ⟨g, h2, h⟩ := obnd h
    obtain ⟨t, h3, h⟩ := obnd h
    obtain ⟨e, h4, rfl⟩ := omap h
    obtain ⟨a1, ns⟩ := cIt_ok S ok h1
    have bo := blk_ok ok scope ((ownOf c.N scope.names).map (·.2))
    have ob : BlkOk X.N X.env.scope scope (ownOf c.N scope.names) := by
      rw [ok.N, ok.sc]; exact blkOk_by hb
    have hg : Blk X scope fun X => PG X _ (tG T (fun j => j ∉ (ownOf c.N scope.names).map (·.2)) g) := fun s H D cl fp => by
      have := S.g (bo s H D cl fp) h2
      rw [fx_blk] at this
      exact this
    exact ⟨pe_l1 ok.calm hN a1 ob hg (fun s H D cl fp => cIfs_ok S (bo s H D cl fp) h3) (fun s H D cl fp => S.e (bo s H D cl fp) h4) ns,
      fun hfx hy hyl hsw => ps_l1 hfx ok.calm hN hy hyl hsw a1 ob hg (fun s H D cl fp => cIfs_ok S (bo s H D cl fp) h3) (fun s H D cl fp => S.e (bo s H D cl fp) h4) ns⟩
  · dsimp only at h
    split at h
    case isFalse => cases h
    rename_i tg iter ifs tg1 iter1 ifs1 hb
    simp only [Bool.and_eq_true, List.all_eq_true] at hb
    obtain ⟨di, h1, h⟩ := obnd h
    obtain ⟨g, h2, h⟩ := obnd h
    obtain ⟨t, h3, h⟩ := obnd h
    obtain ⟨di1, h4, h⟩ := obnd h
    obtain ⟨g1, h5, h⟩ := obnd h
    obtain ⟨t1, h6, h⟩ := obnd h
    obtain ⟨e, h7, rfl⟩ := omap h
    obtain ⟨a1, ns⟩ := cIt_ok S ok h1
    have bo := blk_ok ok scope ((ownOf c.N scope.names).map (·.2))
    have bo1 := blk_ok ok scope (tgV c tg1)
    have ob : BlkOk X.N X.env.scope scope (ownOf c.N scope.names) := by
      rw [ok.N, ok.sc]; exact blkOk_by hb.1
    have hv : ∀ i ∈ tgV c tg1, i ∈ (ownOf c.N scope.names).map (·.2) := fun i hi => nIn_iff.mp (hb.2 i hi)
    have hg : Blk X scope fun X => PG X tg (tG T (fun j => j ∉ (ownOf c.N scope.names).map (·.2)) g) := fun s H D cl fp => by
      have := S.g (bo s H D cl fp) h2
      rw [fx_blk] at this
      exact this
    have hg1 : Blk X scope fun X => PG X tg1 (tG T (fun j => j ∉ tgV c tg1) g1) := fun s H D cl fp => by
      have := S.g (bo1 s H D cl fp) h5
      rw [fx_blk] at this
      exact this
    have hi1 : Blk X scope fun X => PI X tg1 iter1 (tI T E0 di1) := fun s H D cl fp => (cIt_ok S (bo s H D cl fp) h4).1
    have ns1 : notSet iter1 = true := cIt_ns h4
    exact ⟨pe_l2 ok.calm hN a1 ob hv hg (fun s H D cl fp => cIfs_ok S (bo s H D cl fp) h3) hi1 hg1 (fun s H D cl fp => cIfs_ok S (bo s H D cl fp) h6) (fun s H D cl fp => S.e (bo s H D cl fp) h7) ns ns1,
      fun hfx hy hyl hsw => ps_l2 hfx ok.calm hN hy hyl hsw a1 ob hv hg (fun s H D cl fp => cIfs_ok S (bo s H D cl fp) h3) hi1 hg1 (fun s H D cl fp => cIfs_ok S (bo s H D cl fp) h6) (fun s H D cl fp => S.e (bo s H D cl fp) h7) ns ns1⟩
  · cases h
/-- a list that is new each time: of globals -/
def globs (c : CC) (es : List Expr) : Bool := es.all fun e => match e with
  | .Name x _ => c.isG x
  | _ => false
def freshE (c : CC) : Expr → Bool
  | .BinOp (.List es _) .Mult _ _ => globs c es
  | .List es _ => globs c es
  | _ => false
def cLcR (r : Cmp) (c : CC) (elt : Expr) (gens : List Comprehension) (scope : Scope) : Option DO := match gens with
  | [⟨tg, iter, [], 0⟩] =>
    let own := ownOf c.N scope.names
    let vs := own.map (·.2)
    if freshE (blkCC c scope vs) elt && blkC c.N c.sc scope own then (cIt r c tg iter).bind fun di => (r.g (blkCC c scope vs) tg).bind fun g => (r.o (blkCC c scope vs) elt).map fun e => dLcR vs di g e else none
  | _ => none
theorem cLcR_ok {elt : Expr} {gens : List Comprehension} {scope : Scope} {d : DO} {pos : Pos} (S : Snd T C r) (ok : CxOk T E C c X) (h : cLcR r c elt gens scope = some d) : PE X (.ListComp elt gens scope pos) (tO T E d) ∧
    ∀ {fx : Nat → Prop} {i : Nat} {y : Str} {py spos : Pos}, ¬ fx i → X.N[i]? = some y → X.env.scope.names.lookup y = some .local → swapsWith (.ListComp elt gens scope pos) (some (.Name y py)) spos.line X.env = pure true → PS X (.Assign [.Name y py] (.ListComp elt gens scope pos) spos) (tS T E fx (dSet i d)) := by
  have hN : X.N.Nodup := by rw [ok.N]; exact ok.nd
  unfold cLcR at h
  split at h
  · dsimp only at h
    split at h
    case isFalse => cases h
    rename_i hb
    simp only [Bool.and_eq_true] at hb
    obtain ⟨di, h1, h⟩ := obnd h
    obtain ⟨g, h2, h⟩ := obnd h
    obtain ⟨e, h4, rfl⟩ := omap h
    obtain ⟨a1, ns⟩ := cIt_ok S ok h1
    have bo := blk_ok ok scope ((ownOf c.N scope.names).map (·.2))
    have ob : BlkOk X.N X.env.scope scope (ownOf c.N scope.names) := by
      rw [ok.N, ok.sc]; exact blkOk_by hb.2
    have hg : Blk X scope fun X => PG X _ (tG T (fun j => j ∉ (ownOf c.N scope.names).map (·.2)) g) := fun s H D cl fp => by
      have := S.g (bo s H D cl fp) h2
      rw [fx_blk] at this
      exact this
    exact ⟨pe_lR ok.calm hN a1 ob hg (fun s H D cl fp => S.o (bo s H D cl fp) h4) ns,
      fun hfx hy hyl hsw => ps_lR hfx ok.calm hN hy hyl hsw a1 ob hg (fun s H D cl fp => S.o (bo s H D cl fp) h4) ns⟩
  · cases h
/-- what a name is set to by a comprehension -/
def cLcA (r : Cmp) (c : CC) (elt : Expr) (gens : List Comprehension) (scope : Scope) : Option DO := match cLcR r c elt gens scope with
  | some d => some d
  | none => cLc r c elt gens scope
theorem cLcA_ok {elt : Expr} {gens : List Comprehension} {scope : Scope} {d : DO} {pos : Pos} (S : Snd T C r) (ok : CxOk T E C c X) (h : cLcA r c elt gens scope = some d) : PE X (.ListComp elt gens scope pos) (tO T E d) ∧
    ∀ {fx : Nat → Prop} {i : Nat} {y : Str} {py spos : Pos}, ¬ fx i → X.N[i]? = some y → X.env.scope.names.lookup y = some .local → swapsWith (.ListComp elt gens scope pos) (some (.Name y py)) spos.line X.env = pure true → PS X (.Assign [.Name y py] (.ListComp elt gens scope pos) spos) (tS T E fx (dSet i d)) := by
  unfold cLcA at h
  split at h
  · rename_i h1; cases h; exact cLcR_ok S ok h1
  · exact cLc_ok S ok h
end
end Dn

/-! DnP: statements; all joined. -/
namespace Dn
open PySem PySem.Spec PyProof.Rows L2

section
variable {T : Tb} {E : XK} {C : Cals} {c : CC} {X : Cx} {r : Cmp} {σ : L2.St} {H : Hp} {pos : Pos}
/-! own results by a test -/
def dIfO (dc : DT) (da db : DO) : DO := fun ρ => dc ρ >>= fun k => if k.1 then da k.2 else db k.2
theorem pe_ifO {t a b : Expr} {dc : DT} {da db : DO} (hc : PT X t (tT T E dc)) (ha : PE X a (tO T E da)) (hb : PE X b (tO T E db)) : PE X (.IfExp t a b pos) (tO T E (dIfO dc da db)) :=
  (pe_ifExp hc ha hb).imp fun σ H Q ⟨F, ρ, A, s, q⟩ => ⟨F, ρ, A, s, (PostO.bind q).imp fun b ρ1 F1 H1 A1 st1 so1 q1 => by
    cases b with
    | true => exact ⟨F1, ρ1, A1, so1, q1⟩
    | false => exact ⟨F1, ρ1, A1, so1, q1⟩⟩
def truS : SV → Option Bool
  | .z p => tru p
  | .o xs => some (!xs.isEmpty)
  | _ => none
def dOrP (da db : DO) : DO := fun ρ => da ρ >>= fun a => match truS a.1 with
  | some true => .ok a
  | some false => db a.2
  | none => .bad
theorem pe_orO {a b : Expr} {rest : List Expr} {da db : DO} (hK : X.K = T.K) (ha : PE X a (tO T E da)) (hb : PE X (.BoolOp .Or (b :: rest) pos) (tO T E db)) : PE X (.BoolOp .Or (a :: b :: rest) pos) (tO T E (dOrP da db)) :=
  (pe_orT ha hb).imp fun σ H Q ⟨F, ρ, A, s, q⟩ => by
    refine ⟨F, ρ, A, s, ?_⟩
    unfold dOrP at q
    match e : da ρ with
    | .bad => rw [e] at q; exact q.elim
    | .exc c => rw [e] at q; exact q
    | .ok (r, ρ1) =>
      rw [e] at q
      intro F1 H1 A1 R v st so rs n
      replace q : PostO T E F H σ A Q (match truS r with
        | some true => .ok (r, ρ1)
        | some false => db ρ1
        | none => .bad) := q
      have tv : ∀ {k : Bool}, truS r = some k → TruV T.K v H1 k := fun {k} h => by
        cases r with
        | z p => exact tru_v so.fh rs.2 h
        | o xs =>
          obtain ⟨a, vs, rfl, _, h1, h2⟩ := rs
          cases h
          exact .inl ⟨vs, .inl (.inl h1), by rw [h2.isEmpty]⟩
        | _ => cases h
      cases k : truS r with
      | none => simp only [k] at q; exact q.elim
      | some b =>
        refine ⟨b, by rw [hK]; exact tv k, ?_⟩
        cases b with
        | true => simp only [k] at q; rw [if_pos rfl]; exact q F1 H1 A1 R v st so rs n
        | false =>
          simp only [k] at q
          rw [if_neg (by decide)]
          exact ⟨F1, ρ1, A1, so, PostO.after (st.less fun b z => .inl z) q⟩

/-! ### expressions, joined -/
def cE (C : Cals) (r : Cmp) (c : CC) : Expr → Option DE
  | .Constant k _ _ => (cConst k).map dC
  | .Name x _ => cName c x
  | .BinOp a op b _ => (cBin op).bind fun g => (r.e c a).bind fun da => (r.e c b).map fun db => dBin g da db
  | .UnaryOp .USub a _ => (r.e c a).map fun d => dUn gNeg d
  | .UnaryOp .Not a _ => (r.e c a).map fun d => dNotV d
  | .BoolOp _ [a] _ => r.e c a
  | .BoolOp .And (a :: b :: rest) p => (r.e c a).bind fun da => (r.e c (.BoolOp .And (b :: rest) p)).map fun db => dAndV da db
  | .BoolOp .Or (a :: b :: rest) p => (r.e c a).bind fun da => (r.e c (.BoolOp .Or (b :: rest) p)).map fun db => dOrV da db
  | .Compare a [op] [b] _ => cCmp1 r c a op b
  | .Compare a ops es _ => cChain r c a ops es
  | .IfExp t a b _ => (r.t c t).bind fun dt => (r.e c a).bind fun da => (r.e c b).map fun db => dIf dt da db
  | .Tuple es _ _ => (cEs r c es).map fun ds => dFn gTuple ds
  | .List es _ => (cEs r c es).map fun ds => dFn gList ds
  | .Subscript a i _ => cSub r c a i
  | .ListComp elt gens scope _ => (cLc r c elt gens scope).map dFz
  | .Call (.Name x _) args [] _ => match cLset r c x args with
    | some d => some d
    | none => match cBf r c x args with
      | some d => some d
      | none => match cIsi r c x args with
        | some d => some d
        | none => match cFnO C r c x args with
          | some d => some (dFz d)
          | none => match cLsO r c x args with
            | some d => some (dFz d)
            | none => (cVal C r c x args).map dFz
  | .Call (.Attribute (.Name x _) m apos) args [] cpos => cMt r c x m apos cpos args
  | _ => none
theorem cE_ok {x : Expr} {d : DE} (S : Snd T C r) (ok : CxOk T E C c X) (h : cE C r c x = some d) : PE X x (tE T E d) := by
  unfold cE at h
  split at h
  · obtain ⟨p, h1, rfl⟩ := omap h; exact cConst_ok h1
  · exact cName_ok ok h
  · obtain ⟨g, h1, h⟩ := obnd h
    obtain ⟨da, h2, h⟩ := obnd h
    obtain ⟨db, h3, rfl⟩ := omap h
    obtain ⟨R, ho, hs⟩ := cBin_ok ok h1
    exact pe_b ho hs (S.e ok h2) (S.e ok h3)
  · obtain ⟨d, h1, rfl⟩ := omap h; exact pe_u un_neg s_neg (S.e ok h1)
  · obtain ⟨d, h1, rfl⟩ := omap h; exact pe_nv ok.K (S.e ok h1)
  · exact pe_one (S.e ok h)
  · obtain ⟨da, h2, h⟩ := obnd h
    obtain ⟨db, h3, rfl⟩ := omap h
    exact pe_av ok.K (S.e ok h2) (S.e ok h3)
  · obtain ⟨da, h2, h⟩ := obnd h
    obtain ⟨db, h3, rfl⟩ := omap h
    exact pe_ov ok.K (S.e ok h2) (S.e ok h3)
  · obtain ⟨hm, R, ta, tb, ho, ha, hb, hi⟩ := cCmp1_ok S ok h
    exact (pe_cmpR ho ha hb hm).imp hi
  · exact (cChain_ok S ok h).1
  · obtain ⟨dt, h1, h⟩ := obnd h
    obtain ⟨da, h2, h⟩ := obnd h
    obtain ⟨db, h3, rfl⟩ := omap h
    exact pe_if (S.t ok h1) (S.e ok h2) (S.e ok h3)
  · obtain ⟨ds, h1, rfl⟩ := omap h; exact pe_tu (cEs_ok S ok h1).1
  · obtain ⟨ds, h1, rfl⟩ := omap h; exact pe_li (cEs_ok S ok h1).1
  · exact cSub_ok S ok h
  · obtain ⟨d, h1, rfl⟩ := omap h; exact pe_fz (cLc_ok S ok h1).1
  · split at h
    · rename_i h1; cases h; exact cLset_ok S ok h1
    · split at h
      · rename_i h1; cases h; exact cBf_ok S ok h1
      · split at h
        · rename_i h1; cases h; exact cIsi_ok S ok h1
        · split at h
          · rename_i h1; cases h; exact pe_fz (cFnO_ok S ok h1)
          · split at h
            · rename_i h1; cases h; exact pe_fz (cLsO_ok S ok h1)
            · obtain ⟨d, h1, rfl⟩ := omap h; exact pe_fz (cVal_ok S ok h1)
  · exact cMt_ok S ok h
  · cases h
def cO (C : Cals) (r : Cmp) (c : CC) : Expr → Option DO
  | .List es _ => (cEs r c es).map fun ds => dFnO gListO ds
  | .ListComp elt gens scope _ => cLc r c elt gens scope
  | .BinOp a .Add b _ => (r.e c a).bind fun da => (r.e c b).map fun db => dBinM gAddL gAdd da db
  | .BinOp a .Mult b _ => (r.e c a).bind fun da => (r.e c b).map fun db => dBinM gMulL gMul da db
  | .Subscript a (.Slice lo hi none p2) p => cSlO r c a (.Slice lo hi none p2)
  | .IfExp t a b _ => (r.t c t).bind fun dt => (r.o c a).bind fun da => (r.o c b).map fun db => dIfO dt da db
  | .BoolOp .Or [a] _ => r.o c a
  | .BoolOp .Or (a :: b :: rest) p => (r.o c a).bind fun da => (r.o c (.BoolOp .Or (b :: rest) p)).map fun db => dOrP da db
  | .Dict [some k] [v] _ => (r.e c k).bind fun dk => (r.e c v).map fun dv => dDct1 dk dv
  | .Call (.Name x px) args [] p => match cFnO C r c x args with
    | some d => some d
    | none => match cLsO r c x args with
      | some d => some d
      | none => match cVal C r c x args with
        | some d => some d
        | none => (r.e c (.Call (.Name x px) args [] p)).map dZ
  | e => (r.e c e).map dZ
theorem cO_ok {x : Expr} {d : DO} (S : Snd T C r) (ok : CxOk T E C c X) (h : cO C r c x = some d) : PE X x (tO T E d) := by
  unfold cO at h
  split at h
  · obtain ⟨ds, h1, rfl⟩ := omap h; exact pe_liO (cEs_ok S ok h1).1
  · exact (cLc_ok S ok h).1
  · obtain ⟨da, h2, h⟩ := obnd h
    obtain ⟨db, h3, rfl⟩ := omap h
    exact (pe_op op_addA (S.e ok h2) (S.e ok h3)).imp fun σ H Q q => by rw [ok.K]; exact binM_imp so_add s_add q
  · obtain ⟨da, h2, h⟩ := obnd h
    obtain ⟨db, h3, rfl⟩ := omap h
    exact (pe_op op_mulA (S.e ok h2) (S.e ok h3)).imp fun σ H Q q => by rw [ok.K]; exact binM_imp so_mul s_mul q
  · exact cSlO_ok S ok h
  · obtain ⟨dt, h1, h⟩ := obnd h
    obtain ⟨da, h2, h⟩ := obnd h
    obtain ⟨db, h3, rfl⟩ := omap h
    exact pe_ifO (S.t ok h1) (S.o ok h2) (S.o ok h3)
  · exact pe_one (S.o ok h)
  · obtain ⟨da, h2, h⟩ := obnd h
    obtain ⟨db, h3, rfl⟩ := omap h
    exact pe_orO ok.K (S.o ok h2) (S.o ok h3)
  · obtain ⟨dk, h2, h⟩ := obnd h
    obtain ⟨dv, h3, rfl⟩ := omap h
    exact pe_d1 (S.e ok h2) (S.e ok h3)
  · split at h
    · rename_i h1; cases h; exact cFnO_ok S ok h1
    · split at h
      · rename_i h1; cases h; exact cLsO_ok S ok h1
      · split at h
        · rename_i h1; cases h; exact cVal_ok S ok h1
        · obtain ⟨d, h1, rfl⟩ := omap h; exact pe_z (S.e ok h1)
  · obtain ⟨d, h1, rfl⟩ := omap h; exact pe_z (S.e ok h1)
def cT (r : Cmp) (c : CC) : Expr → Option DT
  | .BoolOp op vs p => r.w c (.BoolOp op vs p)
  | .UnaryOp .Not a _ => (r.t c a).map dNotT
  | .Compare a [op] [b] _ => (cCmp1 r c a op b).map dB
  | .Compare a ops es _ => (cChain r c a ops es).map dB
  | e => if plainTest e then (r.e c e).map dTru else none
theorem cT_ok {x : Expr} {d : DT} (S : Snd T C r) (ok : CxOk T E C c X) (h : cT r c x = some d) : PT X x (tT T E d) := by
  unfold cT at h
  split at h
  · exact (S.w ok h).pt
  · obtain ⟨d, h1, rfl⟩ := omap h; exact pt_n (S.t ok h1)
  · obtain ⟨d, h1, rfl⟩ := omap h
    obtain ⟨hm, R, ta, tb, ho, ha, hb, hi⟩ := cCmp1_ok S ok h1
    exact (pt_cmpR ho ha hb hm).imp fun σ H Q q => hi _ _ _ (dB_imp q)
  · obtain ⟨d, h1, rfl⟩ := omap h; exact (cChain_ok S ok h1).2
  · split at h
    · rename_i hp
      obtain ⟨d, h1, rfl⟩ := omap h
      exact pt_v ok.K hp (S.e ok h1)
    · cases h
def cW (r : Cmp) (c : CC) : Expr → Option DT
  | .BoolOp .And [a] _ => r.t c a
  | .BoolOp .Or [a] _ => r.t c a
  | .BoolOp .And (a :: b :: rest) p => (r.t c a).bind fun da => (r.w c (.BoolOp .And (b :: rest) p)).map fun db => dAndT da db
  | .BoolOp .Or (a :: b :: rest) p => (r.t c a).bind fun da => (r.w c (.BoolOp .Or (b :: rest) p)).map fun db => dOrT da db
  | _ => none
theorem cW_ok {x : Expr} {d : DT} (S : Snd T C r) (ok : CxOk T E C c X) (h : cW r c x = some d) : PW X x (tT T E d) := by
  unfold cW at h
  split at h
  · exact pw_1a (S.t ok h)
  · exact pw_1o (S.t ok h)
  · obtain ⟨da, h2, h⟩ := obnd h
    obtain ⟨db, h3, rfl⟩ := omap h
    exact pw_a (S.t ok h2) (S.w ok h3)
  · obtain ⟨da, h2, h⟩ := obnd h
    obtain ⟨db, h3, rfl⟩ := omap h
    exact pw_o (S.t ok h2) (S.w ok h3)
  · cases h
/-! ### targets -/
def cGs (r : Cmp) (c : CC) : List Expr → Option DGs
  | [] => some gsNil
  | e :: es => (r.g c e).bind fun g => (cGs r c es).map fun gs => gsCons g gs
theorem cGs_ok (S : Snd T C r) (ok : CxOk T E C c X) : ∀ {es : List Expr} {g : DGs}, es.all notStar = true → cGs r c es = some g → PGs X es (tGs T (fxP c) g)
  | [], g, _, h => by cases h; exact pgs_n
  | e :: es, g, ns, h => by
    simp only [List.all_cons, Bool.and_eq_true] at ns
    obtain ⟨g1, h1, h⟩ := obnd h
    obtain ⟨gs, h2, rfl⟩ := omap h
    exact pgs_c (S.g ok h1) (cGs_ok S ok ns.2 h2) (each_map ns.1 _)
def cG (r : Cmp) (c : CC) : Expr → Option DG
  | .Name x _ => (c.tgt x).map gNm
  | .Tuple es _ _ => if es.all notStar then (cGs r c es).map fun gs => gTp es.length gs else none
  | _ => none
theorem cG_ok {x : Expr} {g : DG} (S : Snd T C r) (ok : CxOk T E C c X) (h : cG r c x = some g) : PG X x (tG T (fxP c) g) := by
  have hN : X.N.Nodup := by rw [ok.N]; exact ok.nd
  unfold cG at h
  split at h
  · obtain ⟨i, h1, rfl⟩ := omap h
    obtain ⟨a, b, d, e⟩ := ok.tgt h1
    exact pg_n e hN a b d
  · split at h
    · rename_i ns
      obtain ⟨gs, h1, rfl⟩ := omap h
      obtain ⟨a, b⟩ := each_len ns X.env
      exact pg_t ok.K ok.calm (cGs_ok S ok ns h1) a b
    · cases h
  · cases h
/-! ### stores of tuples -/
def swNm (k : Str → Option NameKind) (line : Nat) : Expr → Option Str
  | .Name id pos => if k id == some .local && pos.line == line then some id else none
  | _ => none
def swP (k : Str → Option NameKind) (ts vs : List Expr) : Option (Option (List Str)) :=
  if !(ts.length == 2 || ts.length == 3) || vs.length != ts.length then some none
  else if vs.any (fun | .Starred .. => true | _ => false) then some none
  else
    let names := ts.filterMap (swNm k ((ts.head?.map (·.pos.line)).getD 0))
    if names.length != ts.length || names.eraseDups.length != names.length then some none
    else if vs.all (foldedForSure 8) then some none
    else if vs.all (constantsAlone 8) then none
    else some (some names)
theorem swP_ok {ts vs : List Expr} {kt k2 : Nat} {pt pt2 : Pos} {env : PySem.Env} {res : Option (List Str)} (hk : env.scope.kind = .function) (h : swP env.kindOf ts vs = some res) : swappedStores [.Tuple ts kt pt] (.Tuple vs k2 pt2) env = pure res := by
  have hb : (env.blockKind != .function) = false := by
    unfold Env.blockKind
    rw [hk]
    rfl
  unfold swP at h
  unfold swappedStores
  simp only [hb, Bool.or_false]
  dsimp only at h ⊢
  split at h
  · rename_i z
    cases h
    exact if_pos z
  · rename_i z
    refine (if_neg z).trans ?_
    split at h
    · rename_i z2
      cases h
      exact if_pos z2
    · rename_i z2
      refine (if_neg z2).trans ?_
      split at h
      · rename_i z3
        cases h
        exact if_pos z3
      · rename_i z3
        refine (if_neg z3).trans ?_
        split at h
        · rename_i z4
          cases h
          exact if_pos z4
        · rename_i z4
          refine (if_neg z4).trans ?_
          split at h
          · cases h
          · rename_i z5
            cases h
            exact if_neg z5
def tgts (c : CC) : List Expr → Option (List Nat)
  | [] => some []
  | .Name x _ :: es => (c.tgt x).bind fun i => (tgts c es).map (i :: ·)
  | _ :: _ => none
theorem tgts_ok (ok : CxOk T E C c X) : ∀ {es : List Expr} {is : List Nat}, tgts c es = some is → Nms X es is ∧ (∀ i ∈ is, ¬ fxP c i) ∧ is.length = es.length
  | [], is, h => by cases h; exact ⟨.nil, by simp, rfl⟩
  | e :: es, is, h => by
    unfold tgts at h
    split at h
    · rename_i z; cases z
    · rename_i z
      cases z
      obtain ⟨i, h1, h⟩ := obnd h
      obtain ⟨is', h2, rfl⟩ := omap h
      obtain ⟨a, b, l⟩ := tgts_ok ok h2
      obtain ⟨a1, b1, d1, e1⟩ := ok.tgt h1
      exact ⟨.cons a1 b1 d1 a, fun j hj => by
        rcases List.mem_cons.mp hj with rfl | hj
        · exact e1
        · exact b j hj, congrArg (· + 1) l⟩
    · cases h
def distinct : List Nat → Bool
  | [] => true
  | i :: is => !nIn i is && distinct is
def cPar (r : Cmp) (c : CC) (ts es : List Expr) : Option DS := if decide (ts.length ≤ 100) then (tgts c ts).bind fun is => (cOs r c es).bind fun ds => match swP (fun x => lk x c.sc.names) ts es with
    | some none => some (dPar is ds)
    | some (some _) => if distinct is then some (dPar is ds) else none
    | none => none
  else none
theorem kind_lk (ok : CxOk T E C c X) : (fun x => lk x c.sc.names) = X.env.kindOf := by
  funext x
  rw [lk_eq, ← ok.sc]
  rfl
theorem swP_names {k : Str → Option NameKind} {ts vs : List Expr} {ns : List Str} (h : swP k ts vs = some (some ns)) : (∃ x y px py a b, ts = [.Name x px, .Name y py] ∧ vs = [a, b] ∧ ns = [x, y] ∧ k x = some .local ∧ k y = some .local) ∨
    ∃ x y z px py pz a b d, ts = [.Name x px, .Name y py, .Name z pz] ∧ vs = [a, b, d] ∧ ns = [x, y, z] ∧ k x = some .local ∧ k y = some .local ∧ k z = some .local := by
  have one : ∀ {l : Nat} {e : Expr} {es : List Expr}, ¬ ((e :: es).filterMap (swNm k l)).length = (e :: es).length ∨ ∃ x p, e = .Name x p ∧ k x = some .local ∧ (e :: es).filterMap (swNm k l) = x :: es.filterMap (swNm k l) := fun {l e es} => by
    cases q : swNm k l e with
    | none =>
      refine .inl fun z => ?_
      rw [List.filterMap_cons_none q] at z
      have := List.length_filterMap_le (swNm k l) es
      rw [List.length_cons] at z
      omega
    | some y =>
      refine .inr ?_
      cases e <;> simp only [swNm, reduceCtorEq] at q
      rename_i x p
      split at q
      · rename_i hc
        cases q
        simp only [Bool.and_eq_true, beq_iff_eq] at hc
        exact ⟨_, _, rfl, hc.1, List.filterMap_cons_some (by simp [swNm, hc.1, hc.2])⟩
      · cases q
  unfold swP at h
  split at h
  · cases h
  rename_i z1
  split at h
  · cases h
  dsimp only at h
  split at h
  · cases h
  rename_i z3
  split at h
  · cases h
  split at h
  · cases h
  cases h
  simp only [Bool.or_eq_true, Bool.not_eq_true', Bool.or_eq_false_iff, not_or, Bool.not_eq_true, bne_iff_ne, ne_eq, Decidable.not_not, beq_eq_false_iff_ne, not_and] at z1 z3
  obtain ⟨z1, zl⟩ := z1
  generalize hl : (ts.head?.map (·.pos.line)).getD 0 = l at z3 ⊢
  clear hl
  match ts, vs with
  | [], _ => exact absurd (z1 (by simp)) (by simp)
  | [_], _ => exact absurd (z1 (by simp)) (by simp)
  | [t1, t2], [a, b] =>
    rcases one (l := l) (e := t1) (es := [t2]) with q | ⟨x, px, rfl, hx, e1⟩
    · exact absurd z3.1 q
    · have z4 := z3.1
      rw [e1] at z4 ⊢
      rcases one (l := l) (e := t2) (es := []) with q | ⟨y, py, rfl, hy, e2⟩
      · exact absurd (by simpa using z4) q
      · rw [e2]
        exact .inl ⟨x, y, px, py, a, b, rfl, rfl, rfl, hx, hy⟩
  | [t1, t2, t3], [a, b, d] =>
    rcases one (l := l) (e := t1) (es := [t2, t3]) with q | ⟨x, px, rfl, hx, e1⟩
    · exact absurd z3.1 q
    · have z4 := z3.1
      rw [e1] at z4 ⊢
      rcases one (l := l) (e := t2) (es := [t3]) with q | ⟨y, py, rfl, hy, e2⟩
      · exact absurd (by simpa using z4) q
      · rw [e2] at z4 ⊢
        rcases one (l := l) (e := t3) (es := []) with q | ⟨z, pz, rfl, hz, e3⟩
        · exact absurd (by simpa using z4) q
        · rw [e3]
          exact .inr ⟨x, y, z, px, py, pz, a, b, d, rfl, rfl, rfl, hx, hy, hz⟩
  | [_, _], [] => simp at zl
  | [_, _], [_] => simp at zl
  | [_, _], _ :: _ :: _ :: _ => simp at zl
  | [_, _, _], [] => simp at zl
  | [_, _, _], [_] => simp at zl
  | [_, _, _], [_, _] => simp at zl
  | [_, _, _], _ :: _ :: _ :: _ :: _ => simp at zl
  | _ :: _ :: _ :: _ :: _, _ => exact absurd (z1 (by simp)) (by simp)
theorem cPar_ok {ts es : List Expr} {d : DS} {kt k2 : Nat} {pt pt2 : Pos} (S : Snd T C r) (ok : CxOk T E C c X) (sk : StOk T E X) (h : cPar r c ts es = some d) : PS X (.Assign [.Tuple ts kt pt] (.Tuple es k2 pt2) pos) (tS T E (fxP c) d) := by
  have hN : X.N.Nodup := by rw [ok.N]; exact ok.nd
  unfold cPar at h
  split at h
  case isFalse => cases h
  rename_i hz
  simp only [decide_eq_true_eq] at hz
  obtain ⟨is, h1, h⟩ := obnd h
  obtain ⟨ds, h2, h⟩ := obnd h
  obtain ⟨nm, hfx, hlen⟩ := tgts_ok ok h1
  have hd := cOs_ok S ok h2
  rw [kind_lk ok] at h
  split at h
  · rename_i e
    cases h
    exact ps_pn hfx ok.calm hN nm (by rw [sizeLine_eq]; omega) hd (swP_ok sk.kd e)
  · rename_i ns e
    split at h
    case isFalse => cases h
    rename_i di
    cases h
    have sw := swP_ok (kt := kt) (pt := pt) (k2 := k2) (pt2 := pt2) sk.kd e
    rcases swP_names e with ⟨x, y, px, py, a, b, rfl, rfl, rfl, hx, hy⟩ | ⟨x, y, z, px, py, pz, a, b, d, rfl, rfl, rfl, hx, hy, hz⟩
    · cases nm with
      | @cons _ _ i _ is g1 _ _ nm =>
        cases nm with
        | @cons _ _ j _ is g2 _ _ nm =>
          cases nm
          simp only [distinct, nIn, Bool.or_false, Bool.and_true, Bool.not_eq_true'] at di
          exact ps_p2 (hfx i (by simp)) (hfx j (by simp)) ok.calm hN g1 g2 (fun z => by subst z; rw [Nat.beq_refl] at di; cases di) hx hy hd sw
    · cases nm with
      | @cons _ _ i _ is g1 _ _ nm =>
        cases nm with
        | @cons _ _ j _ is g2 _ _ nm =>
          cases nm with
          | @cons _ _ l _ is g3 _ _ nm =>
            cases nm
            simp only [distinct, nIn, Bool.or_false, Bool.and_true, Bool.not_eq_true', Bool.and_eq_true, Bool.or_eq_false_iff] at di
            exact ps_p3 (hfx i (by simp)) (hfx j (by simp)) (hfx l (by simp)) ok.calm hN g1 g2 g3 (fun z => by subst z; rw [Nat.beq_refl] at di; exact absurd di.1.1 (by decide)) (fun z => by subst z; rw [Nat.beq_refl] at di; exact absurd di.1.2 (by decide)) (fun z => by subst z; rw [Nat.beq_refl] at di; exact absurd di.2 (by decide)) hx hy hz hd sw
  · cases h
end
end Dn

/-! DnQ: statements, the whole compiler, the defs by levels. -/
namespace Dn
open PySem PySem.Spec PyProof.Rows L2

section
variable {T : Tb} {E : XK} {C : Cals} {c : CC} {X : Cx} {r : Cmp} {σ : L2.St} {H : Hp} {pos : Pos}
def swB (k : Str → Option NameKind) (scope : Scope) (x : Str) (px lp : Pos) : Bool := k x == some .local && px.line == lp.line && !(scope.names.any fun (n, k) => n == x && (k == .local || k == .cell))
theorem swB_ok {elt : Expr} {gens : List Comprehension} {scope : Scope} {lp px : Pos} {x : Str} {line : Nat} {env : PySem.Env} (hk : env.scope.kind = .function) : swapsWith (.ListComp elt gens scope lp) (some (.Name x px)) line env = pure (swB env.kindOf scope x px lp) := by
  have hb : (env.blockKind == .function) = true := by
    unfold Env.blockKind
    rw [hk]
    rfl
  unfold swapsWith swB
  simp only [hb, Bool.true_and]
  rfl
def cAsg (r : Cmp) (c : CC) (t e : Expr) : Option DS := match t with
  | .Name x px => (c.tgt x).bind fun i => match e with
    | .ListComp elt gens scope lp => (cLcA r c elt gens scope).map fun d => dSet i d
    | e => if noComp e then (r.o c e).map fun d => dSet i d else none
  | .Subscript (.Name x _) o _ => if notSlice o then (c.slot x).bind fun i => (r.e c o).bind fun dj => (r.e c e).map fun d => dStX i dj d else none
  | .Subscript (.Subscript (.Name x _) a _) b _ => if noComp e then (c.slot x).bind fun i => (cSi c a).bind fun s1 => (cSi c b).bind fun s2 => (r.e c e).map fun d => dStXX i s1 s2 d else none
  | .Tuple ts _ _ => match e with
    | .Tuple es _ _ => match cPar r c ts es with
      | some d => some d
      | none => match swP (fun x => lk x c.sc.names) ts es with
        | some none => (r.e c e).bind fun d => (r.g c t).map fun g => dAsg d g
        | _ => none
    | e => if noComp e then (r.e c e).bind fun d => (r.g c t).map fun g => dAsg d g else none
  | _ => none
theorem sws_tuple {ts : List Expr} {k : Nat} {p : Pos} {e : Expr} {env : PySem.Env} (h : isTup e = false) : swappedStores [.Tuple ts k p] e env = pure none := by
  cases e <;> first | rfl | (simp [isTup] at h)
theorem swl_tuple {ts : List Expr} {k : Nat} {p : Pos} {e : Expr} {l : Nat} {env : PySem.Env} : swapsWithSole [.Tuple ts k p] e l env = pure false := by
  cases e <;> rfl
theorem cAsg_ok {t e : Expr} {d : DS} (S : Snd T C r) (ok : CxOk T E C c X) (sk : StOk T E X) (h : cAsg r c t e = some d) : PS X (.Assign [t] e pos) (tS T E (fxP c) d) := by
  have hN : X.N.Nodup := by rw [ok.N]; exact ok.nd
  unfold cAsg at h
  split at h
  · rename_i x px
    obtain ⟨i, h1, h2⟩ := obnd h
    clear h
    have h := h2
    clear h2
    obtain ⟨a, b, f, fx⟩ := ok.tgt h1
    split at h
    · rename_i elt gens scope lp
      obtain ⟨d', h2, rfl⟩ := omap h
      obtain ⟨p1, p2⟩ := cLcA_ok (pos := lp) S ok h2
      have sw := swB_ok (elt := elt) (gens := gens) (scope := scope) (lp := lp) (px := px) (x := x) (line := pos.line) sk.kd
      cases hb : swB X.env.kindOf scope x px lp with
      | false => exact ps_a fx hN a b f (by rw [sw, hb]) p1
      | true =>
        refine p2 (fx := fxP c) fx a ?_ (by rw [sw, hb])
        unfold swB at hb
        simp only [Bool.and_eq_true, beq_iff_eq] at hb
        exact hb.1.1
    · split at h
      · rename_i nc
        obtain ⟨d', h2, rfl⟩ := omap h
        exact ps_a fx hN a b f (no_swap nc _ _ _) (S.o ok h2)
      · cases h
  · split at h
    case isFalse => cases h
    rename_i ns
    obtain ⟨i, h1, h⟩ := obnd h
    obtain ⟨dj, h2, h⟩ := obnd h
    obtain ⟨d', h3, rfl⟩ := omap h
    obtain ⟨a, b, hd, hcd⟩ := ok.slot h1
    exact ps_sx ok.un0 a b hd hcd ns (by cases e <;> rfl) (S.e ok h2) (S.e ok h3)
  · split at h
    case isFalse => cases h
    obtain ⟨i, h1, h⟩ := obnd h
    obtain ⟨s1, h2, h⟩ := obnd h
    obtain ⟨s2, h3, h⟩ := obnd h
    obtain ⟨d', h4, rfl⟩ := omap h
    obtain ⟨a, b, hd, hcd⟩ := ok.slot h1
    exact ps_sxx ok.K a b hd hcd (by cases e <;> rfl) (cSi_ok ok h2) (cSi_ok ok h3) (S.e ok h4)
  · split at h
    · split at h
      · rename_i h1; cases h; exact cPar_ok S ok sk h1
      · split at h
        · rename_i h1
          obtain ⟨d', h2, h⟩ := obnd h
          obtain ⟨g, h3, rfl⟩ := omap h
          rw [kind_lk ok] at h1
          exact ps_as (S.e ok h2) (S.g ok h3) swl_tuple (swP_ok sk.kd h1) rfl
        · cases h
    · rename_i nt
      split at h
      · rename_i nc
        obtain ⟨d', h2, h⟩ := obnd h
        obtain ⟨g, h3, rfl⟩ := omap h
        exact ps_as (S.e ok h2) (S.g ok h3) swl_tuple (sws_tuple (by cases e <;> first | rfl | exact absurd rfl (nt _ _ _))) rfl
      · cases h
  · cases h
def cSs (r : Cmp) (c : CC) : List Stmt → Option DS
  | [] => some dSkip
  | s :: ss => (r.s c s).bind fun d => (cSs r c ss).map fun ds => dSeq d ds
theorem cSs_ok (S : Snd T C r) (ok : CxOk T E C c X) (sk : StOk T E X) : ∀ {ss : List Stmt} {d : DS}, cSs r c ss = some d → PSs X ss (tS T E (fxP c) d)
  | [], d, h => by cases h; exact pss_n
  | s :: ss, d, h => by
    obtain ⟨d1, h1, h⟩ := obnd h
    obtain ⟨ds, h2, rfl⟩ := omap h
    exact pss_c (S.s ok sk h1) (cSs_ok S ok sk h2)
def eidx (x : Str) : List Str → Option Nat := idx x
/-- how often a while loop may turn -/
def WF : Nat := 2 ^ 64
def augAdd (p q : PV) : Option PV := match p, q with
  | .int a, .int b => some (.int (a + b))
  | _, _ => none
/-- a name given back: rows of one's own are given back frozen -/
def dMvZ (i : Nat) : DO := fun ρ => match dMv i ρ with
  | .ok (.oo xss, ρ') => .ok (.z (.lst (xss.map .lst)), ρ')
  | r => r
theorem mvz_imp {i : Nat} {Q : VK} (h : tO T E (dMvZ i) σ H Q) : tO T E (dMv i) σ H Q := by
  obtain ⟨F, ρ, A, s, q⟩ := h
  refine ⟨F, ρ, A, s, ?_⟩
  unfold dMvZ at q
  match e : dMv i ρ with
  | .ok (.oo xss, ρ') =>
    rw [e] at q
    intro F' H' A' R v st so rs n
    obtain ⟨F2, st2, so2, rz⟩ := fz_res so rs n
    exact q F2 H' A' [] v ((st.trans st2).less fun b z => z.elim id fun z => absurd z (by simp)) so2 ⟨rfl, rz⟩ fun b hb => absurd hb (by simp)
  | .ok (.z p, ρ') => rw [e] at q; exact q
  | .ok (.o p, ρ') => rw [e] at q; exact q
  | .ok (.od p, ρ') => rw [e] at q; exact q
  | .exc c => rw [e] at q; exact q
  | .bad => rw [e] at q; exact q
def cRet (r : Cmp) (c : CC) : Expr → Option DS
  | .Name x p => match c.slot x with
    | some i => if c.fxb i then none else some (dRet (dMvZ i))
    | none => (r.o c (.Name x p)).map fun d => dRet d
  | e => (r.o c e).map fun d => dRet d
theorem cRet_ok {e : Expr} {d : DS} (S : Snd T C r) (ok : CxOk T E C c X) (h : cRet r c e = some d) : PS X (.Return (some e) pos) (tS T E (fxP c) d) := by
  unfold cRet at h
  split at h
  · split at h
    · rename_i i hi
      split at h
      · cases h
      · cases h
        obtain ⟨a, b, hd, hcd⟩ := ok.slot hi
        exact ps_re ((pe_mv a b hd hcd).imp fun σ H Q q => mvz_imp q)
    · obtain ⟨d', h1, rfl⟩ := omap h; exact ps_re (S.o ok h1)
  · obtain ⟨d', h1, rfl⟩ := omap h; exact ps_re (S.o ok h1)
/-! ### try: .. except C as n: return s if isinstance(n, ValueError) else .. -/
def lookH (k : Nat) : List (Nat × Option Str) → Option (Option Str)
  | [] => none
  | (j, o) :: l => if Nat.beq k j then some o else lookH k l
def dTry (n : Nat) (d : DS) (hs : List (Nat × Option Str)) : DS := fun ρ => match d ρ with
  | .exc k => if k < n then match lookH k hs with
      | some (some s) => .ok (.ret (.z (.str s)), ρ.map fun _ => none)
      | some none => .bad
      | none => .exc k
    else .bad
  | x => x
def strC : Expr → Option Str
  | .Constant (.str s) _ _ => some s
  | _ => none
def isLoc (c : CC) (n : Str) : Bool := match lk n c.sc.names with
  | some .local => true
  | _ => false
def cHd (c : CC) : ExceptHandler → Option (Nat × Option Str)
  | .ExceptHandler (some (.Name x _)) (some n) [.Return (some (.IfExp (.Call (.Name f _) [.Name m _, .Name v _] [] _) e1 _ _)) _] _ =>
    if c.isG x && seqS f "isinstance" && c.isG f && sIn f c.gt.free && seqS m n && seqS v "ValueError" && c.isG v && sIn v c.gt.free && isLoc c n then (idx x c.gt.exc).bind fun k => (c.slot n).map fun _ => (k, if k < c.gt.nr then strC e1 else none) else none
  | _ => none
def cHds (c : CC) : List ExceptHandler → Option (List (Nat × Option Str))
  | [] => some []
  | h :: hs => (cHd c h).bind fun p => (cHds c hs).map fun l => p :: l
def EW (X : Cx) (W : WX) : XK := fun cls d H => ∀ τ : L2.St, τ.length = X.N.length → W cls d τ H
theorem takes_len {W : WX} (t : Takes X W) : Takes X (fun c d σ H => σ.length = X.N.length → W c d σ H) := fun u s' ⟨a, B, sI, pins, σ, H, cls, d, e, I, nb, up, sky, na, os, ag, w⟩ => t u s' ⟨a, B, sI, pins, σ, H, cls, d, e, I, nb, up, sky, na, os, ag, w I.len⟩
/-- what a clause's suite comes to -/
def tsH (T : Tb) (k i : Nat) (o : Option Str) : Addr → Value → Option Addr → TS := fun a cls d D σ H => cls = T.cls k ∧ d = none ∧ σ[i]? = some (some (.ref a)) ∧ match o with
  | some s => D.rt (.str s) H
  | none => False
def tNo : TE := fun _ _ _ => False
theorem pe_no {e : Expr} : PE X e tNo := ⟨fun _ _ _ _ _ _ h => h.elim⟩
theorem pe_strC {e : Expr} : PE X e (fun _ H Q => match strC e with
    | some s => Q (.str s) H
    | none => False) := by
  refine ⟨fun pins s σ H Q I h => ?_⟩
  cases hs : strC e with
  | none => rw [hs] at h; exact h.elim
  | some z =>
    rw [hs] at h
    obtain ⟨j, q, rfl⟩ : ∃ j q, e = .Constant (.str z) j q := by
      unfold strC at hs
      split at hs
      · cases hs; exact ⟨_, _, rfl⟩
      · cases hs
    exact pe_str.run pins s σ H Q I h
theorem cHd_ok {h : ExceptHandler} {p : Nat × Option Str} (ok : CxOk T E C c X) (e : cHd c h = some p) : ∃ i, i < X.N.length ∧ (∃ x, c.gt.exc[p.1]? = some x) ∧ ∀ {hs : List ExceptHandler} {l : List HdT}, HdsN X hs l → HdsN X (h :: hs) ((T.cls p.1, i, tsH T p.1 i p.2) :: l) := by
  unfold cHd at e
  split at e
  case h_2 => cases e
  rename_i x q1 n f q3 m q4 v q5 q6 e1 e2 q7 q8 q9
  split at e
  case isFalse => cases e
  rename_i hh
  simp only [Bool.and_eq_true] at hh
  obtain ⟨⟨⟨⟨⟨⟨⟨⟨hx, hf⟩, hfg⟩, hff⟩, hm⟩, hv⟩, hvg⟩, hvf⟩, hl⟩ := hh
  cases seqS_eq hf
  cases seqS_eq hm
  cases seqS_eq hv
  obtain ⟨k, h1, e⟩ := obnd e
  obtain ⟨i, h2, rfl⟩ := omap e
  have hex := idx_get h1
  obtain ⟨hdb, D, g1, g2, g9⟩ := ok.g.exc k x hex
  obtain ⟨s1, s2, s3, s4⟩ := ok.slot h2
  have hkl : X.env.kindOf n = some .local := by
    unfold isLoc at hl
    rw [lk_eq, ← ok.sc] at hl
    show X.env.scope.names.lookup n = some .local
    cases e9 : X.env.scope.names.lookup n with
    | none => rw [e9] at hl; cases hl
    | some k9 => rw [e9] at hl; cases k9 <;> first | rfl | cases hl
  refine ⟨i, (List.getElem?_eq_some_iff.mp s1).1, ⟨x, hex⟩, fun more => .cons ⟨ok.gl hx, hdb, .inl (by rw [g1]; exact g2)⟩ s1 hkl (fun a oe cls d pn hz hfl => ?_) more⟩
  refine ⟨fun pins s σ H D' I q => ?_⟩
  obtain ⟨rfl, rfl, hs, q⟩ := q
  rw [g1] at hz
  by_cases hk : k < c.gt.nr
  case neg => rw [if_neg hk] at q; exact q.elim
  rw [if_pos hk] at q
  obtain ⟨g3, g4, g5, g6, g7, g8⟩ := g9 hk
  have hc := call_isE (X := X) (a := a) (pn := pn) g7 hz hfl
  have pt := pt_truth (X := X.suite a ((a, oe) :: pn)) (pe_callB (p := q3) (pos := q6) hc (ok.gl hfg) (ok.g.free _ (sIn_mem hff)) PyProof.Rows.boot_isinstance (pa_cons (pe_var (pos := q4) s1 s2 s3 s4) (pa_cons (pe_bltn (pos := q5) (v := .ty "ValueError") (u := .type "ValueError") (ok.gl hvg) (ok.g.free _ (sIn_mem hvf)) (by decide +kernel) rfl (by decide) (by decide)) pa_nil rfl) rfl) (by decide) (by decide) rfl rfl) (plain_test rfl _)
  refine (pss_one (ps_ret (pos := q8) (pe_ifExp (pos := q7) pt (pe_strC (e := e1)) (pe_no (e := e2))))).run pins s σ H D' I ?_
  refine ⟨.ref a, hs, .ty "ValueError", .type "ValueError", true, rfl, fun u r => r, g8, true, rfl, ?_⟩
  dsimp only
  rw [if_pos rfl]
  cases e5 : strC e1 with
  | none => rw [e5] at q; exact q.elim
  | some z => rw [e5] at q; exact q
theorem cHds_ok (ok : CxOk T E C c X) : ∀ {hs : List ExceptHandler} {l : List (Nat × Option Str)}, cHds c hs = some l → ∃ L : List HdT, HdsN X hs L ∧
    ∀ (Wo : WX) (D : Ends) (k : Nat) (x : Str) (τ : L2.St) (H : Hp), k < c.gt.nr → c.gt.exc[k]? = some x → τ.length = X.N.length → (match lookH k l with
      | some (some s) => D.rt (.str s) H
      | some none => False
      | none => Wo (T.cls k) none τ H) → wAsN X.K Wo D L (T.cls k) none τ H
  | [], l, e => by cases e; exact ⟨[], .nil, fun Wo D k x τ H _ _ _ q => q⟩
  | h :: hs, l, e => by
    obtain ⟨p, h1, e⟩ := obnd e
    obtain ⟨l', h2, rfl⟩ := omap e
    obtain ⟨i, hi, ⟨y, hy⟩, hcons⟩ := cHd_ok ok h1
    obtain ⟨L, hL, hW⟩ := cHds_ok ok h2
    refine ⟨_, hcons hL, fun Wo D k x τ H hnr hk hlen q => ?_⟩
    refine ⟨Nat.beq k p.1, ok.g.exm k p.1 x y hnr hk hy, fun hb a ha => ?_, fun hb => ?_⟩
    · have ek : k = p.1 := Nat.eq_of_beq_eq_true hb
      have q : (match lookH k ((p.1, p.2) :: l') with
        | some (some s) => D.rt (.str s) H
        | some none => False
        | none => Wo (T.cls k) none τ H) := q
      unfold lookH at q
      rw [if_pos hb] at q
      refine ⟨by rw [ek], rfl, by rw [List.getElem?_set_self (by rw [hlen]; exact hi)], ?_⟩
      revert q
      cases p.2 with
      | some s => exact id
      | none => exact id
    · refine hW Wo D k x τ H hnr hk hlen ?_
      have q : (match lookH k ((p.1, p.2) :: l') with
        | some (some s) => D.rt (.str s) H
        | some none => False
        | none => Wo (T.cls k) none τ H) := q
      unfold lookH at q
      rw [if_neg (by rw [hb]; decide)] at q
      exact q
def cTry (r : Cmp) (c : CC) (body : List Stmt) (hs : List ExceptHandler) : Option DS := match hs with
  | [] => none
  | h :: hs => (cHds c (h :: hs)).bind fun l => (cSs r c body).map fun d => dTry (min c.gt.nr c.gt.exc.length) d l
theorem cTry_ok {body : List Stmt} {hs : List ExceptHandler} {d : DS} (S : Snd T C r) (ok : CxOk T E C c X) (sk : StOk T E X) (h : cTry r c body hs = some d) : PS X (.Try body hs [] [] pos) (tS T E (fxP c) d) := by
  have hN : X.N.Nodup := by rw [ok.N]; exact ok.nd
  unfold cTry at h
  split at h
  · cases h
  · rename_i h0 hs
    obtain ⟨l, h1, h2⟩ := obnd h
    clear h
    obtain ⟨db, h3, rfl⟩ := omap h2
    obtain ⟨L, hL, hW⟩ := cHds_ok ok h1
    refine (ps_tryN (tb := fun W => tS T (EW X W) (fxP c) db) sk.st sk.fr hN sk.tk (fun W pn xe tk po => ?_) hL).imp fun D τ H ⟨F, ρ, A, so, q⟩ => ⟨F, ρ, A, so, ?_⟩
    · have tk' := takes_len tk
      have ok2 : CxOk T (EW X W) C c (X.tr pn xe) := ⟨ok.K, ok.N, ok.nd, ok.nm, ok.sc, ok.calm, ok.fn, ok.un, ok.g, passes_call tk' fun cls d σ H h => h σ⟩
      have sk2 : StOk T (EW X W) (X.tr pn xe) := ⟨po, tk'.imp fun cls d σ H h => h σ, sk.kd, sk.st, sk.fr⟩
      exact cSs_ok S ok2 sk2 h3
    · unfold dTry at q
      match e : db ρ with
      | .ok (.nx, ρ') => rw [e] at q; exact q
      | .ok (.brk, ρ') => rw [e] at q; exact q
      | .ok (.ct, ρ') => rw [e] at q; exact q
      | .ok (.ret r, ρ') => rw [e] at q; exact q
      | .bad => rw [e] at q; exact q
      | .exc k =>
        rw [e] at q
        dsimp only at q
        by_cases hk : k < min c.gt.nr c.gt.exc.length
        case neg => rw [if_neg hk] at q; exact q.elim
        rw [if_pos hk] at q
        intro F2 H2 st τ2 hlen
        refine hW _ D k _ τ2 H2 (by omega) (List.getElem?_eq_getElem (show k < c.gt.exc.length by omega)) hlen ?_
        cases el : lookH k l with
        | none => rw [el] at q; exact q F2 H2 st
        | some o =>
          rw [el] at q
          cases o with
          | none => exact q.elim
          | some z =>
            refine q τ F2 H2 Nul [] (.str z) (st.less fun b h => h.elim (fun h => absurd h own_nul) fun h => absurd h (by simp)) ⟨by rw [List.length_map]; exact so.len, fun j p ej => ?_, fun i j b h => absurd h (by simp [Nul]), st.fh, fun i b h => absurd h (by simp [Nul]), fun i b h => absurd h (by simp [Nul])⟩ (FxOk.refl' _ _) ⟨rfl, .str z⟩ fun b h => absurd h (by simp)
            rw [List.getElem?_map] at ej
            cases hj : ρ[j]? with
            | none => rw [hj] at ej; cases ej
            | some w => rw [hj] at ej; cases ej
/-- what is not in the list below is not followed -/
def dBad : DS := fun _ => .bad
theorem ps_bad {fx : Nat → Prop} {st : Stmt} : PS X st (tS T E fx dBad) := ⟨fun pins s σ H D I ⟨F, ρ, A, so, q⟩ => q.elim⟩
def cS0 (r : Cmp) (c : CC) : Stmt → Option DS
  | .Pass _ => some dSkip
  | .Break _ => some dBrk
  | .Continue _ => some dCt
  | .Expr e _ => if noComp e then (r.e c e).map fun d => dEx d else none
  | .Return none _ => some dRetN
  | .Return (some e) _ => cRet r c e
  | .Assign [t] e _ => cAsg r c t e
  | .AugAssign (.Name x _) .Add e _ => (c.tgt x).bind fun i => (r.e c e).map fun d => dAug i augAdd d
  | .For tg it body [] _ => (cIt r c tg it).bind fun di => (r.g c tg).bind fun g => (cSs r c body).map fun b => dFor di g b
  | .While t body [] _ => (r.t c t).bind fun dt => (cSs r c body).map fun b => whileD dt b WF
  | .If t a b _ => (r.t c t).bind fun dt => (cSs r c a).bind fun da => (cSs r c b).map fun db => dIfS dt da db
  | .Raise (some (.Call (.Name x _) [] [] _)) none _ => if c.isG x then (idx x c.gt.exc).bind fun i => if i < c.gt.nr then some (dRaise i) else none else none
  | .Try body hs [] [] _ => cTry r c body hs
  | _ => none
theorem cS0_ok {s : Stmt} {d : DS} (S : Snd T C r) (ok : CxOk T E C c X) (sk : StOk T E X) (h : cS0 r c s = some d) : PS X s (tS T E (fxP c) d) := by
  have hN : X.N.Nodup := by rw [ok.N]; exact ok.nd
  unfold cS0 at h
  split at h
  · cases h; exact ps_pa
  · cases h; exact ps_br
  · cases h; exact ps_co
  · split at h
    · rename_i nc
      obtain ⟨d', h1, rfl⟩ := omap h
      exact ps_ex nc (S.e ok h1)
    · cases h
  · cases h; exact ps_rn
  · exact cRet_ok S ok h
  · exact cAsg_ok S ok sk h
  · obtain ⟨i, h1, h⟩ := obnd h
    obtain ⟨d', h2, rfl⟩ := omap h
    obtain ⟨a, b, f, fx⟩ := ok.tgt h1
    exact ps_au fx hN a b f (S.e ok h2)
  · obtain ⟨di, h1, h⟩ := obnd h
    obtain ⟨g, h2, h⟩ := obnd h
    obtain ⟨b, h3, rfl⟩ := omap h
    obtain ⟨a, ns⟩ := cIt_ok S ok h1
    exact ps_fo sk.po ok.calm ns a (S.g ok h2) (cSs_ok S ok sk h3)
  · obtain ⟨dt, h1, h⟩ := obnd h
    obtain ⟨b, h2, rfl⟩ := omap h
    exact ps_wh WF sk.po (S.t ok h1) (cSs_ok S ok sk h2)
  · obtain ⟨dt, h1, h⟩ := obnd h
    obtain ⟨da, h2, h⟩ := obnd h
    obtain ⟨db, h3, rfl⟩ := omap h
    exact ps_i (S.t ok h1) (cSs_ok S ok sk h2) (cSs_ok S ok sk h3)
  · split at h
    · rename_i hg
      obtain ⟨i, h1, h2⟩ := obnd h
      split at h2
      · rename_i hi
        cases h2
        exact ps_ra ok sk (idx_get h1) hi hg
      · cases h2
    · cases h
  · exact cTry_ok S ok sk h
  · cases h
def cS (r : Cmp) (c : CC) (s : Stmt) : Option DS := match cS0 r c s with
  | some d => some d
  | none => some dBad
theorem cS_ok {s : Stmt} {d : DS} (S : Snd T C r) (ok : CxOk T E C c X) (sk : StOk T E X) (h : cS r c s = some d) : PS X s (tS T E (fxP c) d) := by
  unfold cS at h
  split at h
  · rename_i h1; cases h; exact cS0_ok S ok sk h1
  · cases h; exact ps_bad
end
/-! ### the compiler -/
def step (C : Cals) (r : Cmp) : Cmp := ⟨cE C r, cO C r, cT r, cW r, cG r, cS r⟩
def cmp (C : Cals) : Nat → Cmp
  | 0 => ⟨fun _ _ => none, fun _ _ => none, fun _ _ => none, fun _ _ => none, fun _ _ => none, fun _ _ => none⟩
  | n + 1 => step C (cmp C n)
theorem cmp_snd (T : Tb) (C : Cals) : ∀ n : Nat, Snd T C (cmp C n)
  | 0 => ⟨fun _ h => (by cases h), fun _ h => (by cases h), fun _ h => (by cases h), fun _ h => (by cases h), fun _ h => (by cases h), fun _ _ h => (by cases h)⟩
  | n + 1 => ⟨fun ok h => cE_ok (cmp_snd T C n) ok h, fun ok h => cO_ok (cmp_snd T C n) ok h, fun ok h => cT_ok (cmp_snd T C n) ok h, fun ok h => cW_ok (cmp_snd T C n) ok h, fun ok h => cG_ok (cmp_snd T C n) ok h, fun ok sk h => cS_ok (cmp_snd T C n) ok sk h⟩

/-! ### the defs -/
structure FnD where
  np : Nat
  n : Nat
  mu : Bool
  body : Cals → DS
def callN (tbl : List FnD) : Nat → Cals
  | 0 => fun _ _ => .bad
  | k + 1 => fun i svs => match tbl[i]? with
    | some d => runFn d.np d.n d.mu (d.body (callN tbl k)) svs
    | none => .bad
/-- what is known of a def, beside its body -/
structure DefOk (K : PySem.W.Frag) (gt : GT) (i : Nat) (d : FnD) (f : Addr) (x : Str) : Prop where
  ex : ∃ (N ps : List Str) (params : Arguments) (body : List Stmt) (scope : Scope) (fd : FuncData), FunD K x x params body scope [] [] f fd ∧ FnScope N ps scope ∧ ps.length = d.np ∧ N.length = d.n ∧ (d.mu = true → 0 < d.np) ∧
    (∀ y ∈ N, (y == ("__debug__" : Str)) = false ∧ (y == ("__classdict__" : Str)) = false) ∧
    (∀ (kV doc pm : Value) (an : Option Addr) (cdv ct : Value) (us : List Value), us.length = ps.length → bindArgs (PySem.W.fnOf x x params body scope .none kV doc pm an cdv ct) ⟨us, []⟩ = pure (ps.zip us)) ∧
    ∃ m, ∀ C : Cals, cSs (cmp C m) ⟨gt, N, scope, none, fun j => d.mu && Nat.beq j 0⟩ body = some (d.body C)
structure Facts (T : Tb) (gt : GT) (tbl : List FnD) (mg : Str → Option Value) : Prop where
  df : ∀ (i : Nat) (f : FnI), gt.fns[i]? = some f → (f.name == ("__debug__" : Str)) = false ∧ mg f.name = some (.ref (T.fa i)) ∧ ∃ d, tbl[i]? = some d ∧ d.np = f.np ∧ d.mu = f.mu ∧ DefOk T.K gt i d (T.fa i) f.name
  free : ∀ x ∈ gt.free, mg x = none
  con : ∀ x p, (x, p) ∈ gt.con → (x == ("__debug__" : Str)) = false ∧ ∃ v u, mg x = some u ∧ RelV v u ∧ ∀ F, Rz T F v p
  exc : ∀ (i : Nat) (x : Str), gt.exc[i]? = some x → (x == ("__debug__" : Str)) = false ∧ ∃ D, T.cls i = .ref D ∧ mg x = some (.ref D) ∧ (i < gt.nr → PySem.W.keepIn T.K (.ref D) = true ∧ PySem.W.excIn T.K D [.type "ValueError", .type "Exception", .type "BaseException", .type "object"] "ValueError.__new__" = true ∧
    PySem.W.subIn T.K (.ref D) (.type "BaseException") = some true ∧ PySem.W.typeIn T.K (.ref D) = some (.type "type") ∧ ExcC T.K D ∧ PySem.W.kitOne T.K (.ref D) (.type "ValueError") = some true)
  exm : ∀ (i j : Nat) (x y : Str), i < gt.nr → gt.exc[i]? = some x → gt.exc[j]? = some y → PySem.W.exmOne T.K (T.cls i) (T.cls j) = some (Nat.beq i j)
section
variable {T : Tb} {gt : GT} {tbl : List FnD} {P : Program} {w : World} {mg : Str → Option Value} {base : Heap}
theorem spG_len {C : Cals} {i np : Nat} {vs : List V} {H : Hp} {Q : VK} {E : XK} (h : spG T C i np vs H Q E) : vs.length = np := h.1
/-- every def keeps its promise, k levels deep -/
theorem defs_ok (Fc : Facts T gt tbl mg) : ∀ (k : Nat) (i : Nat) (f : FnI), gt.fns[i]? = some f → ∃ fd ps, FnOk P w T.K mg base (L2.CX P w) k (T.fa i) fd ps (spG T (callN tbl k) i f.np) ∧ PySem.W.keepIn T.K (.ref (T.fa i)) = true ∧ Binds T.K fd ps [] ∧
    (∀ (s : Shared) (us : List Value), us.length = ps.length → BindsTo s fd ⟨us, []⟩ (ps.zip us)) ∧ ps.length = f.np
  | 0, i, f, hf => by
    obtain ⟨_, _, d, hd, e1, e2, N, ps, params, body, scope, fd, F, S, l1, l2, hmu, hnm, hb, m, hm⟩ := Fc.df i f hf
    refine ⟨fd, ps, ⟨fun vs H Q E h => by rw [h.1, l1, e1], fun A outer s H args us vs Q E hr he hbt hv hs => ?_⟩, F.kp, F.bindsN hb, fun s us hl => FunD.bindsA F hb s us hl, by rw [l1, e1]⟩
    obtain ⟨_, F', svs, A', _, q⟩ := hs
    exact q.elim
  | k + 1, i, f, hf => by
    obtain ⟨_, hmg, d, hd, e1, e2, N, ps, params, body, scope, fd, F, S, l1, l2, hmu, hnm, hb, m, hm⟩ := Fc.df i f hf
    refine ⟨fd, ps, ?_, F.kp, F.bindsN hb, fun s us hl => FunD.bindsA F hb s us hl, by rw [l1, e1]⟩
    refine FunD.ok F S (fun vs H Q E h => by rw [h.1, l1, e1]) fun cdv A outer s H vs Q E hr h => ?_
    obtain ⟨hl, F0, svs, A0, s0, q⟩ := h
    have e0 : callN tbl (k + 1) i svs = runFn d.np d.n d.mu (d.body (callN tbl k)) svs := by
      show (match tbl[i]? with
        | some d => runFn d.np d.n d.mu (d.body (callN tbl k)) svs
        | none => .bad) = _
      rw [hd]
    rw [e0] at q
    have hpl : ps.length ≤ N.length := by have := congrArg List.length S.pre; rw [List.length_take] at this; omega
    have gok : GOk T (callN tbl k) gt P w T.K mg base (A.deeper (envOfC f.name scope s.heap.objs.size (T.fa i) cdv)) := by
      refine ⟨fun j g hg => ?_, Fc.free, Fc.con, Fc.exc, Fc.exm⟩
      obtain ⟨h1, h2, _⟩ := Fc.df j g hg
      obtain ⟨fd', ps', F', kp', b', _, _⟩ := defs_ok Fc k j g hg
      exact ⟨h1, fd', ps', k, F', hr, h2, kp', b'⟩
    have tk : Takes (cxOf (L2.CX P w) P w T.K mg base N f.name scope (T.fa i) cdv A outer s H E) (fun cls d _ H => E cls d H) := takes_of rfl rfl rfl rfl
    have cok : CxOk T E (callN tbl k) ⟨gt, N, scope, none, fun j => d.mu && Nat.beq j 0⟩ (cxOf (L2.CX P w) P w T.K mg base N f.name scope (T.fa i) cdv A outer s H E) :=
      ⟨rfl, rfl, S.nd, hnm, rfl, rfl, fun _ => rfl, by have := hr.un; show (A.deeper _).units + 65 < cLine; omega, gok, passes_call tk fun _ _ _ _ h => h⟩
    have sok : StOk T E (cxOf (L2.CX P w) P w T.K mg base N f.name scope (T.fa i) cdv A outer s H E) := ⟨passes_of rfl, tk, S.kind, rfl, rfl⟩
    refine ⟨_, cSs_ok (cmp_snd T (callN tbl k) m) cok sok (hm _), ?_⟩
    have efx : fxP ⟨gt, N, scope, none, fun j => d.mu && Nat.beq j 0⟩ = fun j => d.mu = true ∧ j = 0 := by
      funext j
      show ((d.mu && Nat.beq j 0) = true) = _
      rw [Bool.and_eq_true]
      apply propext
      constructor
      · rintro ⟨a, b⟩; exact ⟨a, Nat.eq_of_beq_eq_true b⟩
      · rintro ⟨a, rfl⟩; exact ⟨a, rfl⟩
    rw [efx]
    exact body_ok (N := N) (np := d.np) (m := N.length - d.np) (by omega) (by rw [hl, e1]) s0 (by rw [l2]; exact q)
end
end Dn

/-! DnR2: the head: what the module's names stand for; a law's end. -/
namespace Dn
open PySem PySem.Spec PyProof.Rows L2

/-! ### the defs -/
def nmB (N : List Str) : Bool := N.all fun y => !(y == ("__debug__" : Str)) && !(y == ("__classdict__" : Str))
def scopeB (N ps : List Str) (sc : Scope) : Bool := decide (sc.kind = .function) && (!sc.isCoroutine && (!sc.isGenerator && (decide N.Nodup && (decide (N.take ps.length = ps) &&
  ((ps.all fun x => match lk x sc.names with
    | some .local => true
    | some .cell => true
    | _ => false) && (sc.names.all fun y => match y.2 with
    | .free => false
    | _ => true))))))
theorem scopeB_ok {N ps : List Str} {sc : Scope} (h : scopeB N ps sc = true) : FnScope N ps sc := by
  simp only [scopeB, Bool.and_eq_true, decide_eq_true_eq, Bool.not_eq_true', List.all_eq_true] at h
  obtain ⟨h1, h2, h3, h4, h5, h6, h7⟩ := h
  refine ⟨h1, h2, h3, h4, h5, fun x hx => ?_, fun y hy e => ?_⟩
  · have := h6 x hx
    rw [lk_eq] at this
    split at this
    · rename_i e; exact .inl e
    · rename_i e; exact .inr e
    · cases this
  · have := h7 y hy
    rw [e] at this
    cases this
/-- one def: its text, its names, what it denotes -/
structure DefS (gt : GT) (dd : He.DefD) (d : FnD) (f : FnI) : Prop where
  at_ : dd.at_ = (f.name, none)
  nm : dd.name = f.name
  ql : dd.qual = f.name
  d1 : dd.dfl = []
  d2 : dd.kwd = []
  np : d.np = f.np
  mu : d.mu = f.mu
  db : (f.name == ("__debug__" : Str)) = false
  ex : ∃ (N ps : List Str), FnScope N ps dd.scope ∧ ps.length = d.np ∧ N.length = d.n ∧ (d.mu = true → 0 < d.np) ∧ nmB N = true ∧
    (∀ (kV doc pm : Value) (an : Option Addr) (cdv ct : Value) (us : List Value), us.length = ps.length → bindArgs (PySem.W.fnOf dd.name dd.qual dd.params dd.body dd.scope .none kV doc pm an cdv ct) ⟨us, []⟩ = pure (ps.zip us)) ∧
    ∃ m, ∀ C : Cals, cSs (cmp C m) ⟨gt, N, dd.scope, none, fun j => d.mu && Nat.beq j 0⟩ dd.body = some (d.body C)
inductive DefsS (gt : GT) : List FnI → List He.DefD → List FnD → Prop
  | nil : DefsS gt [] [] []
  | cons {f : FnI} {dd : He.DefD} {d : FnD} {fs : List FnI} {dds : List He.DefD} {ds : List FnD} : DefS gt dd d f → DefsS gt fs dds ds → DefsS gt (f :: fs) (dd :: dds) (d :: ds)
theorem DefsS.at {gt : GT} : ∀ {fs : List FnI} {dds : List He.DefD} {ds : List FnD} {i : Nat} {f : FnI}, DefsS gt fs dds ds → fs[i]? = some f → ∃ dd d, dds[i]? = some dd ∧ ds[i]? = some d ∧ DefS gt dd d f
  | _, _, _, _, _, .nil, e => by simp at e
  | _, _, _, 0, _, .cons a _, e => by simp at e; subst e; exact ⟨_, _, rfl, rfl, a⟩
  | _, _, _, i + 1, f, .cons _ t, e => by
    obtain ⟨dd, d, h1, h2, h3⟩ := DefsS.at (i := i) t (by simpa using e)
    exact ⟨dd, d, by simpa using h1, by simpa using h2, h3⟩
def tbOf (K : PySem.W.Frag) (gt : GT) : Tb := ⟨K, fun i => match gt.fns[i]? with
  | some f => He.ga K f.name
  | none => 0, fun i => match gt.exc[i]? with
  | some x => .ref (He.ga K x)
  | none => .none⟩
theorem nmB_ok {N : List Str} (h : nmB N = true) : ∀ y ∈ N, (y == ("__debug__" : Str)) = false ∧ (y == ("__classdict__" : Str)) = false := fun y hy => by
  have := List.all_eq_true.mp h y hy
  simpa using this
theorem facts_of {h : HdX} {gt : GT} {tbl : List FnD} {K : PySem.W.Frag} {hp : Heap} {mg : Str → Option Value} (X : K.In hp) (G : hp.Ns mainGlobals mg) (c : obsX h K = valX h) (hfr : gt.free = h.fr) (hex : gt.exc = h.ex) (hnr : gt.nr = h.nr) (hcs : gt.con = h.cs)
    (hnm : nmB (gt.exc ++ gt.con.map (·.1)) = true) (ds : DefsS gt gt.fns h.fn tbl) : Facts (tbOf K gt) gt tbl mg := by
  have c1 : okX h K = true := congrArg (fun z : He.AlD => z.1) c
  have c2 : h.fn.map (fun d => He.fnW K d.at_) = h.fn.map He.DefD.val := congrArg (fun z : He.AlD => z.2) c
  simp only [okX, Bool.and_eq_true, List.all_eq_true] at c1
  obtain ⟨k1, ⟨k2, k5, k6⟩, k3, k4⟩ := c1
  have nm := nmB_ok hnm
  have ecl : ∀ {i : Nat} {x : Str}, gt.exc[i]? = some x → (tbOf K gt).cls i = .ref (He.ga K x) := fun {i x} hx => by
    show (match gt.exc[i]? with
      | some x => Value.ref (He.ga K x)
      | none => .none) = _
    rw [hx]
  refine ⟨fun i f hf => ?_, fun x hx => He.free_ok X G (k1 x (by rw [← hfr]; exact hx)), fun x p hx => ?_, fun i x hx => ?_, fun i j x y hi hx hy => ?_⟩
  · obtain ⟨dd, d, h1, h2, D⟩ := ds.at hf
    have hm := List.mem_of_getElem? h1
    obtain ⟨g1, g2⟩ := k4 dd hm
    have hg := He.glo_ok X G g1
    rw [D.nm] at hg
    have e2 : (h.fn.map fun d => He.fnW K d.at_)[i]? = (h.fn.map He.DefD.val)[i]? := by rw [c2]
    rw [List.getElem?_map, List.getElem?_map, h1] at e2
    obtain ⟨fd, F⟩ := He.DefD.funD (Option.some.inj e2) g2
    have efa : (tbOf K gt).fa i = He.ga K f.name := by
      show (match gt.fns[i]? with
        | some f => He.ga K f.name
        | none => 0) = _
      rw [hf]
    rw [efa]
    obtain ⟨N, ps, S, l1, l2, l3, l4, hb, hm2⟩ := D.ex
    have ead : He.fAd K dd.at_ = He.ga K f.name := by rw [D.at_]; rfl
    have e1 : He.DefD.dvs K dd = [] := by unfold He.DefD.dvs; rw [D.d1]; rfl
    have e3 : He.DefD.kws K dd = [] := by unfold He.DefD.kws; rw [D.d2]; rfl
    rw [e1, e3, ead, D.nm, D.ql] at F
    rw [D.nm, D.ql] at hb
    exact ⟨D.db, hg, d, h2, D.np, D.mu, N, ps, dd.params, dd.body, dd.scope, fd, F, S, l1, l2, l3, nmB_ok l4, hb, hm2⟩
  · have hx2 : (x, p) ∈ h.cs := by rw [← hcs]; exact hx
    refine ⟨(nm x (List.mem_append_right _ (List.mem_map.mpr ⟨_, hx, rfl⟩))).1, ?_⟩
    have q := k3 _ hx2
    unfold conB at q
    split at q
    · rename_i u e
      obtain ⟨v, r1, r2⟩ := datB_ok (T := tbOf K gt) q
      exact ⟨v, u, PySem.W.mg_of X G e, r1, r2⟩
    · cases q
  · have hx2 : x ∈ h.ex := by rw [← hex]; exact List.mem_of_getElem? hx
    refine ⟨(nm x (List.mem_append_left _ (List.mem_of_getElem? hx))).1, He.ga K x, ecl hx, He.glo_ok X G (k2 x hx2), fun hi => ?_⟩
    have hx3 : x ∈ h.ex.take h.nr := by
      rw [← hex, ← hnr]
      have : (gt.exc.take gt.nr)[i]? = some x := by rw [List.getElem?_take_of_lt hi]; exact hx
      exact List.mem_of_getElem? this
    have q := k5 x hx3
    simp only [exB, Bool.and_eq_true, decide_eq_true_eq] at q
    obtain ⟨g2, f1, f2, f3, f4, f5, f6, f7, f8⟩ := q
    obtain ⟨e1, e2, e3, e4⟩ := He.exc_ok g2
    exact ⟨e2, e1, e3, e4, ⟨f1, f2, e3, f3, f4, f5, f6, f7⟩, f8⟩
  · rw [ecl hx, ecl hy]
    simp only [exmB, List.all_eq_true, List.mem_range] at k6
    have := k6 i (by rw [← hnr]; exact hi) j (by rw [← hex]; exact (List.getElem?_eq_some_iff.mp hy).1)
    have ex1 : nth h.ex i = some x := by show h.ex[i]? = _; rw [← hex]; exact hx
    have ex2 : nth h.ex j = some y := by show h.ex[j]? = _; rw [← hex]; exact hy
    rw [ex1, ex2] at this
    exact of_decide_eq_true this
/-! ### a law's end -/
theorem fn_shut {P : Program} {w : World} {K : PySem.W.Frag} {mg : Str → Option Value} {base : Heap} {k : Nat} {f : Addr} {fd : FuncData} {ps : List Str} {sp : Sp} (F : FnOk P w K mg base (L2.CX P w) k f fd ps sp) :
    FnOk P w K mg base CX0 k f fd ps (fun vs H Q _ => sp vs H Q E0) :=
  ⟨fun vs H Q E h => F.len vs H Q E0 h, fun A outer s H args us vs Q E hr he hb hv hs => codeAny_mono (F.run A outer s H args us vs Q E0 hr he hb hv hs) fun r s' q => by
    cases r with
    | error e =>
      obtain ⟨_, _, _, _, _, _, _, _, _, _, _, _, z⟩ := q
      exact z.elim
    | ok fl =>
      cases fl with
      | ret u => exact q
      | next => exact q
      | brk => exact q
      | cont => exact q⟩
theorem law_sp {T : Tb} {C : Cals} {i : Nat} {H : Hp} {a : Addr} {ns : List Int} (hS : SqL T.K H a (ns.map V.int)) (hc : C i [.z (.scr (ns.map .int))] = .ok (.z (.bl true), none)) :
    spG T C i 1 [.ref a] H (fun v _ => v = .bl true) E0 := by
  refine ⟨rfl, H, [.z (.scr (ns.map .int))], Nul, ⟨rfl, fun j p e => ?_, fun i j b h => absurd h (by simp [Nul]), Le.refl _, fun i b h => absurd h (by simp [Nul]), fun i b h => absurd h (by simp [Nul])⟩, ?_⟩
  · cases j with
    | zero =>
      simp at e
      subst e
      exact ⟨.ref a, rfl, rfl, .scr hS (ints_rz ns)⟩
    | succ j => simp at e
  · rw [hc]
    intro F' H' R0 R v st e0 rs n
    obtain ⟨_, r⟩ := rs
    cases r
    rfl
end Dn

namespace KL
open PySem PySem.Spec PyProof.Rows L2 Dn

def gt : GT := ⟨[⟨"is_number", 1, false⟩, ⟨"is_within", 3, false⟩, ⟨"sure_within", 3, false⟩, ⟨"is_long", 2, false⟩, ⟨"are_numbers", 1, false⟩, ⟨"tupled", 1, false⟩, ⟨"common", 2, false⟩, ⟨"lowest", 2, false⟩, ⟨"plus", 2, false⟩, ⟨"less", 2, false⟩, ⟨"times", 2, false⟩, ⟨"over", 2, false⟩, ⟨"is_under", 2, false⟩, ⟨"lesser_of", 2, false⟩, ⟨"greater_of", 2, false⟩, ⟨"is_whole_in", 1, false⟩, ⟨"in_line", 1, false⟩, ⟨"is_fraction_in", 1, false⟩, ⟨"is_near_fraction", 1, false⟩, ⟨"is_rectangle_in", 1, false⟩, ⟨"is_near_rectangle", 1, false⟩, ⟨"sure_rectangle", 1, false⟩, ⟨"are_near_parts", 1, false⟩, ⟨"sure_parts", 1, false⟩, ⟨"sides_of", 1, false⟩, ⟨"area_in", 1, false⟩, ⟨"around_in", 1, false⟩, ⟨"shared_in", 2, false⟩, ⟨"lies_in", 2, false⟩, ⟨"has_point", 2, false⟩, ⟨"total_in", 1, false⟩, ⟨"middle", 2, false⟩, ⟨"gap_in", 2, false⟩, ⟨"flaw_in", 2, false⟩, ⟨"is_laying_in", 2, false⟩, ⟨"sure_laying", 2, false⟩, ⟨"crossed", 3, false⟩, ⟨"cut_at", 2, false⟩, ⟨"is_before", 2, false⟩, ⟨"in_order_of", 1, false⟩, ⟨"ways_in", 1, false⟩, ⟨"way_of", 3, false⟩, ⟨"net_in", 1, false⟩, ⟨"ratios_in", 1, false⟩, ⟨"is_net_in", 1, false⟩, ⟨"reached_in", 2, false⟩, ⟨"sure_net", 1, false⟩, ⟨"sure_ratios", 2, false⟩, ⟨"table_of", 2, false⟩, ⟨"cleared", 2, false⟩, ⟨"lowered", 3, false⟩, ⟨"determinant", 1, false⟩, ⟨"solved", 1, false⟩, ⟨"without_nodes", 2, false⟩, ⟨"drops_in", 2, false⟩, ⟨"flows_in", 2, false⟩, ⟨"trees_in", 1, false⟩, ⟨"sure_flowing", 2, false⟩, ⟨"level_ways", 2, false⟩, ⟨"net_of", 2, false⟩, ⟨"ratios_of", 2, false⟩, ⟨"widths_at", 2, false⟩, ⟨"drops", 2, false⟩, ⟨"flows", 2, false⟩, ⟨"whole_ratio", 2, false⟩, ⟨"sides_told", 2, false⟩, ⟨"tree_sum", 2, false⟩, ⟨"pair_sum", 2, false⟩, ⟨"net_trees", 1, false⟩, ⟨"both_sides", 3, false⟩, ⟨"tree_or_core", 2, false⟩, ⟨"numbers_in", 1, false⟩, ⟨"is_tree_in", 1, false⟩, ⟨"laid_by", 2, false⟩, ⟨"is_core_in", 2, false⟩, ⟨"cut_tree", 2, false⟩, ⟨"core_of", 2, false⟩, ⟨"is_core", 3, false⟩, ⟨"sure_tree", 1, false⟩, ⟨"parts_of_tree", 2, false⟩, ⟨"tree_height", 1, false⟩, ⟨"tree_numbers", 1, false⟩, ⟨"is_tile", 1, false⟩, ⟨"tile_cells", 1, false⟩, ⟨"is_brickwork_in", 3, false⟩, ⟨"inner_lines", 2, false⟩, ⟨"crossed_by", 2, false⟩, ⟨"bare_lines", 3, false⟩, ⟨"is_domino", 1, false⟩, ⟨"lying", 1, false⟩, ⟨"grown_up", 3, false⟩, ⟨"has_faultless_in", 2, false⟩, ⟨"faultless_in", 2, false⟩, ⟨"grown_to", 5, false⟩, ⟨"sure_brickwork", 3, false⟩, ⟨"line_crossings", 3, false⟩, ⟨"faults", 3, false⟩, ⟨"has_faultless", 2, false⟩, ⟨"faultless", 2, false⟩, ⟨"is_faultless", 3, false⟩, ⟨"stretched_up", 3, false⟩, ⟨"is_root_in", 1, false⟩, ⟨"is_near_root", 1, false⟩, ⟨"sign_of", 1, false⟩, ⟨"root_plus", 2, false⟩, ⟨"root_less", 2, false⟩, ⟨"root_times", 2, false⟩, ⟨"root_under", 2, false⟩, ⟨"is_rooted_in", 1, false⟩, ⟨"is_near_rooted", 1, false⟩, ⟨"sure_rooted", 1, false⟩, ⟨"are_near_rooted", 1, false⟩, ⟨"sure_many_rooted", 1, false⟩, ⟨"root_sides_in", 1, false⟩, ⟨"lies_within", 2, false⟩, ⟨"do_share", 2, false⟩, ⟨"area_of", 1, false⟩, ⟨"is_root_laid", 2, false⟩, ⟨"sure_root_laying", 2, false⟩, ⟨"twist_in", 1, false⟩, ⟨"twists_in", 1, false⟩, ⟨"root_sign", 1, false⟩, ⟨"rooted_sides", 1, false⟩, ⟨"rooted_area", 1, false⟩, ⟨"is_rooted_laying", 2, false⟩, ⟨"twist", 1, false⟩, ⟨"twists", 1, false⟩, ⟨"ratio_of", 1, false⟩, ⟨"first_twisted", 2, false⟩, ⟨"as_rooted", 3, false⟩, ⟨"is_square_in", 1, false⟩, ⟨"is_code_in", 1, false⟩, ⟨"sure_code", 1, false⟩, ⟨"levels_joined", 1, false⟩, ⟨"lowest_level", 1, false⟩, ⟨"row_laid", 2, false⟩, ⟨"squares_by", 2, false⟩, ⟨"as_rectangle", 1, false⟩, ⟨"code_rows", 2, false⟩, ⟨"greatest_first", 2, false⟩, ⟨"first_fit", 1, false⟩, ⟨"can_lie", 4, false⟩, ⟨"marked", 2, false⟩, ⟨"filled_by", 2, false⟩, ⟨"are_squares", 1, false⟩, ⟨"none_alike", 1, false⟩, ⟨"squares_of_code", 2, false⟩, ⟨"code_of_squares", 2, false⟩, ⟨"known_code", 1, false⟩, ⟨"squares_by_greatest", 2, false⟩, ⟨"quotients", 2, false⟩, ⟨"greatest_row", 2, false⟩, ⟨"fewest_squares", 2, false⟩, ⟨"fewest_laying", 2, false⟩, ⟨"_law_box", 2, false⟩, ⟨"_law_take", 2, true⟩, ⟨"_law_cells", 2, false⟩, ⟨"_law_pick", 3, true⟩, ⟨"_law_call", 2, false⟩, ⟨"_law_slip", 2, false⟩, ⟨"_law_as_rect", 1, false⟩, ⟨"_law_are_all_unfit", 4, false⟩, ⟨"law", 1, false⟩],
  ["len", "abs", "int", "min", "max", "sum", "all", "any", "tuple", "str", "list", "sorted", "isinstance", "bool", "range", "enumerate", "zip", "set", "ValueError"],
  [("NOUGHT", .tup [.int 0, .int 1]), ("ONE", .tup [.int 1, .int 1]), ("MOST_PART", .int 1000000000000), ("MOST_RECTANGLES", .int 60), ("MOST_NODES", .int 30), ("MOST_WIRES", .int 60), ("MOST_TREES", .int 2000), ("MOST_DEEP", .int 60), ("MOST_FLOOR", .int 40), ("LEAST_SIDE", .int 5), ("FIVE_SIX", .tup [.tup [.int 0, .int 0, .int 2, .int 1], .tup [.int 0, .int 1, .int 1, .int 3], .tup [.int 0, .int 3, .int 2, .int 4], .tup [.int 0, .int 4, .int 1, .int 6], .tup [.int 1, .int 1, .int 2, .int 3], .tup [.int 1, .int 4, .int 3, .int 5], .tup [.int 1, .int 5, .int 3, .int 6], .tup [.int 2, .int 0, .int 4, .int 1], .tup [.int 2, .int 1, .int 4, .int 2], .tup [.int 2, .int 2, .int 3, .int 4], .tup [.int 3, .int 2, .int 5, .int 3], .tup [.int 3, .int 3, .int 4, .int 5], .tup [.int 3, .int 5, .int 5, .int 6], .tup [.int 4, .int 0, .int 5, .int 2], .tup [.int 4, .int 3, .int 5, .int 5]]), ("SIX_EIGHT", .tup [.tup [.int 0, .int 0, .int 2, .int 1], .tup [.int 0, .int 1, .int 2, .int 2], .tup [.int 0, .int 2, .int 1, .int 4], .tup [.int 0, .int 4, .int 1, .int 6], .tup [.int 0, .int 6, .int 1, .int 8], .tup [.int 1, .int 2, .int 2, .int 4], .tup [.int 1, .int 4, .int 2, .int 6], .tup [.int 1, .int 6, .int 3, .int 7], .tup [.int 1, .int 7, .int 3, .int 8], .tup [.int 2, .int 0, .int 4, .int 1], .tup [.int 2, .int 1, .int 3, .int 3], .tup [.int 2, .int 3, .int 3, .int 5], .tup [.int 2, .int 5, .int 4, .int 6], .tup [.int 3, .int 1, .int 4, .int 3], .tup [.int 3, .int 3, .int 5, .int 4], .tup [.int 3, .int 4, .int 5, .int 5], .tup [.int 3, .int 6, .int 4, .int 8], .tup [.int 4, .int 0, .int 5, .int 2], .tup [.int 4, .int 2, .int 6, .int 3], .tup [.int 4, .int 5, .int 5, .int 7], .tup [.int 4, .int 7, .int 6, .int 8], .tup [.int 5, .int 0, .int 6, .int 2], .tup [.int 5, .int 3, .int 6, .int 5], .tup [.int 5, .int 5, .int 6, .int 7]]), ("MOST_ROOT", .int 1000000), ("MOST_ROOTED", .int 30), ("TWO", .tup [.int 2, .int 1]), ("MOST_SQUARES", .int 60), ("MOST_WIDE", .int 1000000), ("MOST_TRIED", .int 7), ("KNOWN", .tup [.tup [.int 33, .tup [.tup [.int 18, .int 15], .tup [.int 7, .int 8], .tup [.int 14, .int 4], .tup [.int 10, .int 1], .tup [.int 9]]], .tup [.int 69, .tup [.tup [.int 36, .int 33], .tup [.int 5, .int 28], .tup [.int 25, .int 9, .int 2], .tup [.int 7], .tup [.int 16]]], .tup [.int 112, .tup [.tup [.int 50, .int 35, .int 27], .tup [.int 8, .int 19], .tup [.int 15, .int 17, .int 11], .tup [.int 6, .int 24], .tup [.int 29, .int 25, .int 9, .int 2], .tup [.int 7, .int 18], .tup [.int 16], .tup [.int 42], .tup [.int 4, .int 37], .tup [.int 33]]]])],
  ["CanNot", "TooMany", "Unfit", "BadText"], 3⟩
/-- is_number -/
def b0 (C : Cals) : DS :=
  (dSeq (dRet (dZ (dAndV (dIsi (dV 0) [.int]) (dNotV (dIsi (dV 0) [.bool])))))
    dSkip)
/-- is_within -/
def b1 (C : Cals) : DS :=
  (dSeq (dRet (dZ (dAndV (dFz (dCall C 0 1 (dCons (dV 0) dNil))) (dChs (dV 1) ((gCmpI fun i j => decide (i ≤ j)), (dV 0)) [((gCmpI fun i j => decide (i ≤ j)), (dV 2))]))))
    dSkip)
/-- sure_within -/
def b2 (C : Cals) : DS :=
  (dSeq (dIfS (dNotT (dTru (dFz (dCall C 1 3 (dCons (dV 0) (dCons (dV 1) (dCons (dV 2) dNil))))))) (dSeq (dRaise 2)
    dSkip) dSkip)
    (dSeq (dRet (dMvZ 0))
    dSkip))
/-- is_long -/
def b3 (C : Cals) : DS :=
  (dSeq (dRet (dZ (dAndV (dIsi (dV 0) [.tup]) (dBin (gEq false) (dFn1 gLen 0) (dV 1)))))
    dSkip)
/-- are_numbers -/
def b4 (C : Cals) : DS :=
  (dSeq (dRet (dZ (dAndV (dIsi (dV 0) [.tup]) (dFn gAll (dCons (dFz (dLc [1] (dSeqI (dV 0)) (gNm 1) dYes (dFz (dCall C 0 1 (dCons (dV 1) dNil))))) dNil)))))
    dSkip)
/-- tupled -/
def b5 (C : Cals) : DS :=
  (dSeq (dRet (dIfO (dTru (dIsi (dV 0) [.lst, .tup])) (dZ (dFn gTupOf (dCons (dFz (dLc [1] (dSeqI (dV 0)) (gNm 1) dYes (dFz (dCall C 5 1 (dCons (dV 1) dNil))))) dNil))) (dZ (dV 0))))
    dSkip)
/-- common -/
def b6 (C : Cals) : DS :=
  (dSeq (dPar [0, 1] (dConsO (dZ (dFn1 gAbs 0)) (dConsO (dZ (dFn1 gAbs 1)) dNilO)))
    (dSeq (whileD (dB (dBinL (gEq true) 1 (dC (.int 0)))) (dSeq (dPar [0, 1] (dConsO (dZ (dV 1)) (dConsO (dZ (dBin gMod (dV 0) (dV 1))) dNilO)))
    dSkip) WF)
    (dSeq (dRet (dMvZ 0))
    dSkip)))
/-- lowest -/
def b7 (C : Cals) : DS :=
  (dSeq (dSet 2 (dBinM gMulL gMul (dFz (dCall C 6 2 (dCons (dV 0) (dCons (dV 1) dNil)))) (dIf (dB (dBin gLt (dV 1) (dC (.int 0)))) (dUn gNeg (dC (.int 1))) (dC (.int 1)))))
    (dSeq (dRet (dZ (dFn gTuple (dCons (dBin gFdiv (dV 0) (dV 2)) (dCons (dBin gFdiv (dV 1) (dV 2)) dNil)))))
    dSkip))
/-- plus -/
def b8 (C : Cals) : DS :=
  (dSeq (dRet (dCall C 7 2 (dCons (dBin gAdd (dBin gMul (dIxV 0 (dC (.int 0))) (dIxV 1 (dC (.int 1)))) (dBin gMul (dIxV 1 (dC (.int 0))) (dIxV 0 (dC (.int 1))))) (dCons (dBin gMul (dIxV 0 (dC (.int 1))) (dIxV 1 (dC (.int 1)))) dNil))))
    dSkip)
/-- less -/
def b9 (C : Cals) : DS :=
  (dSeq (dRet (dCall C 7 2 (dCons (dBin gSubI (dBin gMul (dIxV 0 (dC (.int 0))) (dIxV 1 (dC (.int 1)))) (dBin gMul (dIxV 1 (dC (.int 0))) (dIxV 0 (dC (.int 1))))) (dCons (dBin gMul (dIxV 0 (dC (.int 1))) (dIxV 1 (dC (.int 1)))) dNil))))
    dSkip)
/-- times -/
def b10 (C : Cals) : DS :=
  (dSeq (dRet (dCall C 7 2 (dCons (dBin gMul (dIxV 0 (dC (.int 0))) (dIxV 1 (dC (.int 0)))) (dCons (dBin gMul (dIxV 0 (dC (.int 1))) (dIxV 1 (dC (.int 1)))) dNil))))
    dSkip)
/-- over -/
def b11 (C : Cals) : DS :=
  (dSeq (dRet (dCall C 7 2 (dCons (dBin gMul (dIxV 0 (dC (.int 0))) (dIxV 1 (dC (.int 1)))) (dCons (dBin gMul (dIxV 0 (dC (.int 1))) (dIxV 1 (dC (.int 0)))) dNil))))
    dSkip)
/-- is_under -/
def b12 (C : Cals) : DS :=
  (dSeq (dRet (dZ (dBin gLt (dBin gMul (dIxV 0 (dC (.int 0))) (dIxV 1 (dC (.int 1)))) (dBin gMul (dIxV 1 (dC (.int 0))) (dIxV 0 (dC (.int 1)))))))
    dSkip)
/-- lesser_of -/
def b13 (C : Cals) : DS :=
  (dSeq (dRet (dIfO (dTru (dFz (dCall C 12 2 (dCons (dV 0) (dCons (dV 1) dNil))))) (dZ (dV 0)) (dZ (dV 1))))
    dSkip)
/-- greater_of -/
def b14 (C : Cals) : DS :=
  (dSeq (dRet (dIfO (dTru (dFz (dCall C 12 2 (dCons (dV 0) (dCons (dV 1) dNil))))) (dZ (dV 1)) (dZ (dV 0))))
    dSkip)
/-- is_whole_in -/
def b15 (C : Cals) : DS :=
  (dSeq (dRet (dZ (dBin (gEq false) (dIxV 0 (dC (.int 1))) (dC (.int 1)))))
    dSkip)
/-- in_line -/
def b16 (C : Cals) : DS :=
  (dSeq (dSet 1 (dFnO gListO dNil))
    (dSeq (dFor (dSeqI (dV 0)) (gNm 2) (dSeq (dSet 3 (dLc [4] (dSeqI (dV 1)) (gNm 4) (dTru (dFz (dCall C 12 2 (dCons (dV 4) (dCons (dV 2) dNil))))) (dV 4)))
    (dSeq (dIfS (dB (dBin (gEq true) (dSl (dV 1) (dP (dFn1 gLen 3)) (dP (dBin gAdd (dFn1 gLen 3) (dC (.int 1))))) (dFn gList (dCons (dV 2) dNil)))) (dSeq (dSet 1 (dBinM gAddL gAdd (dBin gAdd (dV 3) (dFn gList (dCons (dV 2) dNil))) (dSl (dV 1) (dP (dFn1 gLen 3)) dNoP)))
    dSkip) dSkip)
    dSkip)))
    (dSeq (dRet (dMvZ 1))
    dSkip)))
/-- is_fraction_in -/
def b17 (C : Cals) : DS :=
  (dSeq (dRet (dZ (dAndV (dFz (dCall C 3 2 (dCons (dV 0) (dCons (dC (.int 2)) dNil)))) (dAndV (dFz (dCall C 4 1 (dCons (dV 0) dNil))) (dAndV (dBin (gCmpI fun i j => decide (j < i)) (dIxV 0 (dC (.int 1))) (dC (.int 0))) (dBin (gEq false) (dFz (dCall C 6 2 (dCons (dIxV 0 (dC (.int 0))) (dCons (dIxV 0 (dC (.int 1))) dNil)))) (dC (.int 1))))))))
    dSkip)
/-- is_near_fraction -/
def b18 (C : Cals) : DS :=
  (dSeq (dRet (dZ (dAndV (dFz (dCall C 17 1 (dCons (dV 0) dNil))) (dBin (gCmpI fun i j => decide (i ≤ j)) (dFn gMax (dCons (dFn gAbs (dCons (dIxV 0 (dC (.int 0))) dNil)) (dCons (dIxV 0 (dC (.int 1))) dNil))) (dC (.int 1000000000000))))))
    dSkip)
/-- is_rectangle_in -/
def b19 (C : Cals) : DS :=
  (dSeq (dIfS (dOrT (dNotT (dTru (dFz (dCall C 3 2 (dCons (dV 0) (dCons (dC (.int 4)) dNil)))))) (dNotT (dTru (dFn gAll (dCons (dFz (dLc [5] (dSeqI (dV 0)) (gNm 5) dYes (dFz (dCall C 17 1 (dCons (dV 5) dNil))))) dNil))))) (dSeq (dRet (dZ (dC (.bl false))))
    dSkip) dSkip)
    (dSeq (dAsg (dV 0) (gTp 4 (gsCons (gNm 1) (gsCons (gNm 2) (gsCons (gNm 3) (gsCons (gNm 4) gsNil))))))
    (dSeq (dRet (dZ (dAndV (dFz (dCall C 12 2 (dCons (dV 1) (dCons (dV 3) dNil)))) (dFz (dCall C 12 2 (dCons (dV 2) (dCons (dV 4) dNil)))))))
    dSkip)))
/-- is_near_rectangle -/
def b20 (C : Cals) : DS :=
  (dSeq (dRet (dZ (dAndV (dFz (dCall C 19 1 (dCons (dV 0) dNil))) (dFn gAll (dCons (dFz (dLc [1] (dSeqI (dV 0)) (gNm 1) dYes (dFz (dCall C 18 1 (dCons (dV 1) dNil))))) dNil)))))
    dSkip)
/-- sure_rectangle -/
def b21 (C : Cals) : DS :=
  (dSeq (dSet 1 (dCall C 5 1 (dCons (dV 0) dNil)))
    (dSeq (dIfS (dNotT (dTru (dFz (dCall C 20 1 (dCons (dV 1) dNil))))) (dSeq (dRaise 2)
    dSkip) dSkip)
    (dSeq (dRet (dMvZ 1))
    dSkip)))
/-- are_near_parts -/
def b22 (C : Cals) : DS :=
  (dSeq (dIfS (dOrT (dNotT (dTru (dIsi (dV 0) [.tup]))) (dNotT (dB (dChs (dC (.int 1)) ((gCmpI fun i j => decide (i ≤ j)), (dFn1 gLen 0)) [((gCmpI fun i j => decide (i ≤ j)), (dC (.int 60)))])))) (dSeq (dRet (dZ (dC (.bl false))))
    dSkip) dSkip)
    (dSeq (dRet (dZ (dFn gAll (dCons (dFz (dLc [1] (dSeqI (dV 0)) (gNm 1) dYes (dFz (dCall C 20 1 (dCons (dV 1) dNil))))) dNil))))
    dSkip))
/-- sure_parts -/
def b23 (C : Cals) : DS :=
  (dSeq (dSet 1 (dCall C 5 1 (dCons (dV 0) dNil)))
    (dSeq (dIfS (dNotT (dTru (dFz (dCall C 22 1 (dCons (dV 1) dNil))))) (dSeq (dRaise 2)
    dSkip) dSkip)
    (dSeq (dRet (dMvZ 1))
    dSkip)))
/-- sides_of -/
def b24 (C : Cals) : DS :=
  (dSeq (dAsg (dV 0) (gTp 4 (gsCons (gNm 1) (gsCons (gNm 2) (gsCons (gNm 3) (gsCons (gNm 4) gsNil))))))
    (dSeq (dRet (dZ (dFn gTuple (dCons (dFz (dCall C 9 2 (dCons (dV 3) (dCons (dV 1) dNil)))) (dCons (dFz (dCall C 9 2 (dCons (dV 4) (dCons (dV 2) dNil)))) dNil)))))
    dSkip))
/-- area_in -/
def b25 (C : Cals) : DS :=
  (dSeq (dAsg (dFz (dCall C 24 1 (dCons (dV 0) dNil))) (gTp 2 (gsCons (gNm 1) (gsCons (gNm 2) gsNil))))
    (dSeq (dRet (dCall C 10 2 (dCons (dV 1) (dCons (dV 2) dNil))))
    dSkip))
/-- around_in -/
def b26 (C : Cals) : DS :=
  (dSeq (dAsg (dIxV 0 (dC (.int 0))) (gTp 4 (gsCons (gNm 1) (gsCons (gNm 2) (gsCons (gNm 3) (gsCons (gNm 4) gsNil))))))
    (dSeq (dFor (dSeqI (dSl (dV 0) (dP (dC (.int 1))) dNoP)) (gNm 5) (dSeq (dPar [1, 2] (dConsO (dCall C 13 2 (dCons (dV 1) (dCons (dIxV 5 (dC (.int 0))) dNil))) (dConsO (dCall C 13 2 (dCons (dV 2) (dCons (dIxV 5 (dC (.int 1))) dNil))) dNilO)))
    (dSeq (dPar [3, 4] (dConsO (dCall C 14 2 (dCons (dV 3) (dCons (dIxV 5 (dC (.int 2))) dNil))) (dConsO (dCall C 14 2 (dCons (dV 4) (dCons (dIxV 5 (dC (.int 3))) dNil))) dNilO)))
    dSkip)))
    (dSeq (dRet (dZ (dFn gTuple (dCons (dV 1) (dCons (dV 2) (dCons (dV 3) (dCons (dV 4) dNil)))))))
    dSkip)))
/-- shared_in -/
def b27 (C : Cals) : DS :=
  (dSeq (dPar [2, 3] (dConsO (dCall C 14 2 (dCons (dIxV 0 (dC (.int 0))) (dCons (dIxV 1 (dC (.int 0))) dNil))) (dConsO (dCall C 14 2 (dCons (dIxV 0 (dC (.int 1))) (dCons (dIxV 1 (dC (.int 1))) dNil))) dNilO)))
    (dSeq (dPar [4, 5] (dConsO (dCall C 13 2 (dCons (dIxV 0 (dC (.int 2))) (dCons (dIxV 1 (dC (.int 2))) dNil))) (dConsO (dCall C 13 2 (dCons (dIxV 0 (dC (.int 3))) (dCons (dIxV 1 (dC (.int 3))) dNil))) dNilO)))
    (dSeq (dRet (dIfO (dAndT (dTru (dFz (dCall C 12 2 (dCons (dV 2) (dCons (dV 4) dNil))))) (dTru (dFz (dCall C 12 2 (dCons (dV 3) (dCons (dV 5) dNil)))))) (dZ (dFn gTuple (dCons (dV 2) (dCons (dV 3) (dCons (dV 4) (dCons (dV 5) dNil)))))) (dZ (dC (.non)))))
    dSkip)))
/-- lies_in -/
def b28 (C : Cals) : DS :=
  (dSeq (dRet (dZ (dBin (gEq false) (dFz (dCall C 26 1 (dCons (dFn gTuple (dCons (dV 0) (dCons (dV 1) dNil))) dNil))) (dV 0))))
    dSkip)
/-- has_point -/
def b29 (C : Cals) : DS :=
  (dSeq (dAsg (dV 0) (gTp 4 (gsCons (gNm 2) (gsCons (gNm 3) (gsCons (gNm 4) (gsCons (gNm 5) gsNil))))))
    (dSeq (dAsg (dV 1) (gTp 2 (gsCons (gNm 6) (gsCons (gNm 7) gsNil))))
    (dSeq (dRet (dZ (dNotV (dOrV (dFz (dCall C 12 2 (dCons (dV 6) (dCons (dV 2) dNil)))) (dOrV (dFz (dCall C 12 2 (dCons (dV 4) (dCons (dV 6) dNil)))) (dOrV (dFz (dCall C 12 2 (dCons (dV 7) (dCons (dV 3) dNil)))) (dFz (dCall C 12 2 (dCons (dV 5) (dCons (dV 7) dNil))))))))))
    dSkip)))
/-- total_in -/
def b30 (C : Cals) : DS :=
  (dSeq (dSet 1 (dZ (dC (.tup [.int 0, .int 1]))))
    (dSeq (dFor (dSeqI (dV 0)) (gNm 2) (dSeq (dSet 1 (dCall C 8 2 (dCons (dV 1) (dCons (dFz (dCall C 25 1 (dCons (dV 2) dNil))) dNil))))
    dSkip))
    (dSeq (dRet (dMvZ 1))
    dSkip)))
/-- middle -/
def b31 (C : Cals) : DS :=
  (dSeq (dSet 2 (dCall C 8 2 (dCons (dV 0) (dCons (dV 1) dNil))))
    (dSeq (dRet (dCall C 7 2 (dCons (dIxV 2 (dC (.int 0))) (dCons (dBin gMul (dIxV 2 (dC (.int 1))) (dC (.int 2))) dNil))))
    dSkip))
/-- gap_in -/
def b32 (C : Cals) : DS :=
  (dSeq (dSet 2 (dCall C 16 1 (dCons (dBin gAdd (dBin gAdd (dFz (dLc [9] (dSeqI (dV 1)) (gNm 9) dYes (dIxV 9 (dC (.int 0))))) (dFz (dLc [9] (dSeqI (dV 1)) (gNm 9) dYes (dIxV 9 (dC (.int 2)))))) (dFn gList (dCons (dIxV 0 (dC (.int 0))) (dCons (dIxV 0 (dC (.int 2))) dNil)))) dNil)))
    (dSeq (dSet 3 (dCall C 16 1 (dCons (dBin gAdd (dBin gAdd (dFz (dLc [9] (dSeqI (dV 1)) (gNm 9) dYes (dIxV 9 (dC (.int 1))))) (dFz (dLc [9] (dSeqI (dV 1)) (gNm 9) dYes (dIxV 9 (dC (.int 3)))))) (dFn gList (dCons (dIxV 0 (dC (.int 1))) (dCons (dIxV 0 (dC (.int 3))) dNil)))) dNil)))
    (dSeq (dFor (dIt gZip (dCons (dV 2) (dCons (dSl (dV 2) (dP (dC (.int 1))) dNoP) dNil))) (gTp 2 (gsCons (gNm 4) (gsCons (gNm 5) gsNil))) (dSeq (dFor (dIt gZip (dCons (dV 3) (dCons (dSl (dV 3) (dP (dC (.int 1))) dNoP) dNil))) (gTp 2 (gsCons (gNm 6) (gsCons (gNm 7) gsNil))) (dSeq (dSet 8 (dZ (dFn gTuple (dCons (dFz (dCall C 31 2 (dCons (dV 4) (dCons (dV 5) dNil)))) (dCons (dFz (dCall C 31 2 (dCons (dV 6) (dCons (dV 7) dNil)))) dNil)))))
    (dSeq (dIfS (dAndT (dTru (dFz (dCall C 29 2 (dCons (dV 0) (dCons (dV 8) dNil))))) (dNotT (dTru (dFn gAny (dCons (dFz (dLc [9] (dSeqI (dV 1)) (gNm 9) dYes (dFz (dCall C 29 2 (dCons (dV 9) (dCons (dV 8) dNil)))))) dNil))))) (dSeq (dRet (dMvZ 8))
    dSkip) dSkip)
    dSkip)))
    dSkip))
    (dSeq (dRet (dZ (dC (.non))))
    dSkip))))
/-- flaw_in -/
def b33 (C : Cals) : DS :=
  (dSeq (dFor (dIt gEnum (dCons (dV 1) dNil)) (gTp 2 (gsCons (gNm 2) (gsCons (gNm 3) gsNil))) (dSeq (dIfS (dNotT (dTru (dFz (dCall C 28 2 (dCons (dV 0) (dCons (dV 3) dNil)))))) (dSeq (dRet (dZ (dFn gTuple (dCons (dC (.str "out")) (dCons (dV 2) dNil)))))
    dSkip) dSkip)
    dSkip))
    (dSeq (dFor (dIt gEnum (dCons (dV 1) dNil)) (gTp 2 (gsCons (gNm 2) (gsCons (gNm 3) gsNil))) (dSeq (dFor (dIt gRange2 (dCons (dBin gAdd (dV 2) (dC (.int 1))) (dCons (dFn1 gLen 1) dNil))) (gNm 4) (dSeq (dIfS (dB (dBin (gIsN true) (dFz (dCall C 27 2 (dCons (dV 3) (dCons (dIxV 1 (dV 4)) dNil)))) (dC (.non)))) (dSeq (dRet (dZ (dFn gTuple (dCons (dC (.str "over")) (dCons (dV 2) (dCons (dV 4) dNil))))))
    dSkip) dSkip)
    dSkip))
    dSkip))
    (dSeq (dIfS (dB (dBin (gEq false) (dFz (dCall C 30 1 (dCons (dV 1) dNil))) (dFz (dCall C 25 1 (dCons (dV 0) dNil))))) (dSeq (dRet (dZ (dC (.non))))
    dSkip) dSkip)
    (dSeq (dRet (dZ (dFn gTuple (dCons (dC (.str "gap")) (dCons (dFz (dCall C 32 2 (dCons (dV 0) (dCons (dV 1) dNil)))) dNil)))))
    dSkip))))
/-- is_laying_in -/
def b34 (C : Cals) : DS :=
  (dSeq (dRet (dZ (dBin (gIsN false) (dFz (dCall C 33 2 (dCons (dV 0) (dCons (dV 1) dNil)))) (dC (.non)))))
    dSkip)
/-- sure_laying -/
def b35 (C : Cals) : DS :=
  (dSeq (dSet 2 (dCall C 21 1 (dCons (dV 0) dNil)))
    (dSeq (dSet 3 (dCall C 23 1 (dCons (dV 1) dNil)))
    (dSeq (dIfS (dNotT (dTru (dFz (dCall C 34 2 (dCons (dV 2) (dCons (dV 3) dNil)))))) (dSeq (dRaise 2)
    dSkip) dSkip)
    (dSeq (dRet (dZ (dFn gTuple (dCons (dV 2) (dCons (dV 3) dNil)))))
    dSkip))))
/-- crossed -/
def b36 (C : Cals) : DS :=
  (dSeq (dRet (dZ (dFn gAny (dCons (dFz (dLc [3] (dSeqI (dV 0)) (gNm 3) dYes (dAndV (dFz (dCall C 12 2 (dCons (dIxV 3 (dV 1)) (dCons (dV 2) dNil)))) (dFz (dCall C 12 2 (dCons (dV 2) (dCons (dIxV 3 (dBin gAdd (dV 1) (dC (.int 2)))) dNil))))))) dNil))))
    dSkip)
/-- cut_at -/
def b37 (C : Cals) : DS :=
  (dSeq (dFor (dSeqI (dFn gTuple (dCons (dC (.int 0)) (dCons (dC (.int 1)) dNil)))) (gNm 2) (dSeq (dSet 3 (dLc [4] (dSeqI (dFz (dCall C 16 1 (dCons (dFz (dLc [5] (dSeqI (dV 1)) (gNm 5) dYes (dIxV 5 (dV 2)))) dNil)))) (gNm 4) (dTru (dFz (dCall C 12 2 (dCons (dIxV 0 (dV 2)) (dCons (dV 4) dNil))))) (dV 4)))
    (dSeq (dFor (dSeqI (dV 3)) (gNm 4) (dSeq (dIfS (dNotT (dTru (dFz (dCall C 36 3 (dCons (dV 1) (dCons (dV 2) (dCons (dV 4) dNil))))))) (dSeq (dRet (dZ (dFn gTuple (dCons (dV 2) (dCons (dV 4) dNil)))))
    dSkip) dSkip)
    dSkip))
    dSkip)))
    (dSeq (dRet (dZ (dC (.non))))
    dSkip))
/-- is_before -/
def b38 (C : Cals) : DS :=
  (dSeq (dRet (dOrP (dCall C 12 2 (dCons (dIxV 0 (dC (.int 0))) (dCons (dIxV 1 (dC (.int 0))) dNil))) (dZ (dAndV (dBin (gEq false) (dIxV 0 (dC (.int 0))) (dIxV 1 (dC (.int 0)))) (dFz (dCall C 12 2 (dCons (dIxV 0 (dC (.int 1))) (dCons (dIxV 1 (dC (.int 1))) dNil))))))))
    dSkip)
/-- in_order_of -/
def b39 (C : Cals) : DS :=
  (dSeq (dSet 1 (dFnO gListO dNil))
    (dSeq (dFor (dSeqI (dV 0)) (gNm 2) (dSeq (dSet 3 (dLc [4] (dSeqI (dV 1)) (gNm 4) (dNotT (dTru (dFz (dCall C 38 2 (dCons (dV 2) (dCons (dV 4) dNil)))))) (dV 4)))
    (dSeq (dSet 1 (dBinM gAddL gAdd (dBin gAdd (dV 3) (dFn gList (dCons (dV 2) dNil))) (dSl (dV 1) (dP (dFn1 gLen 3)) dNoP)))
    dSkip)))
    (dSeq (dRet (dMvZ 1))
    dSkip)))
/-- ways_in -/
def b40 (C : Cals) : DS :=
  (dSeq (dSet 1 (dBinM gAddL gAdd (dFz (dLc [7] (dSeqI (dV 0)) (gNm 7) dYes (dFn gTuple (dCons (dIxV 7 (dC (.int 1))) (dCons (dIxV 7 (dC (.int 0))) (dCons (dIxV 7 (dC (.int 2))) dNil)))))) (dFz (dLc [7] (dSeqI (dV 0)) (gNm 7) dYes (dFn gTuple (dCons (dIxV 7 (dC (.int 3))) (dCons (dIxV 7 (dC (.int 0))) (dCons (dIxV 7 (dC (.int 2))) dNil))))))))
    (dSeq (dSet 2 (dFnO gListO dNil))
    (dSeq (dFor (dSeqI (dFz (dCall C 39 1 (dCons (dV 1) dNil)))) (gTp 3 (gsCons (gNm 3) (gsCons (gNm 4) (gsCons (gNm 5) gsNil)))) (dSeq (dIfS (dAndT (dB (dBinL (gEq true) 2 (dFn gList dNil))) (dAndT (dB (dBin (gEq false) (dBin gIx (dIxV 2 (dUn gNeg (dC (.int 1)))) (dC (.int 0))) (dV 3))) (dNotT (dTru (dFz (dCall C 12 2 (dCons (dBin gIx (dIxV 2 (dUn gNeg (dC (.int 1)))) (dC (.int 2))) (dCons (dV 4) dNil)))))))) (dSeq (dSet 6 (dIfO (dTru (dFz (dCall C 12 2 (dCons (dBin gIx (dIxV 2 (dUn gNeg (dC (.int 1)))) (dC (.int 2))) (dCons (dV 5) dNil))))) (dZ (dV 5)) (dZ (dBin gIx (dIxV 2 (dUn gNeg (dC (.int 1)))) (dC (.int 2))))))
    (dSeq (dSet 2 (dBinM gAddL gAdd (dSl (dV 2) dNoP (dP (dUn gNeg (dC (.int 1))))) (dFn gList (dCons (dFn gTuple (dCons (dV 3) (dCons (dBin gIx (dIxV 2 (dUn gNeg (dC (.int 1)))) (dC (.int 1))) (dCons (dV 6) dNil)))) dNil))))
    dSkip)) (dSeq (dSet 2 (dBinM gAddL gAdd (dV 2) (dFn gList (dCons (dFn gTuple (dCons (dV 3) (dCons (dV 4) (dCons (dV 5) dNil)))) dNil))))
    dSkip))
    dSkip))
    (dSeq (dRet (dMvZ 2))
    dSkip))))
/-- way_of -/
def b41 (C : Cals) : DS :=
  (dSeq (dSet 3 (dLc [4, 5] (dIt gEnum (dCons (dV 0) dNil)) (gTp 2 (gsCons (gNm 4) (gsCons (gNm 5) gsNil))) (dAndT (dB (dBin (gEq false) (dIxV 5 (dC (.int 0))) (dV 1))) (dNotT (dTru (dFz (dCall C 12 2 (dCons (dV 2) (dCons (dIxV 5 (dC (.int 1))) dNil))))))) (dV 4)))
    (dSeq (dRet (dZ (dBin gIx (dFz (dLc [4] (dSeqI (dV 3)) (gNm 4) (dNotT (dTru (dFz (dCall C 12 2 (dCons (dIx2 0 (.v 4) (.c 2)) (dCons (dV 2) dNil)))))) (dV 4))) (dC (.int 0)))))
    dSkip))
/-- net_in -/
def b42 (C : Cals) : DS :=
  (dSeq (dSet 1 (dCall C 40 1 (dCons (dV 0) dNil)))
    (dSeq (dSet 2 (dLc [3] (dSeqI (dV 0)) (gNm 3) dYes (dFn gTuple (dCons (dFz (dCall C 41 3 (dCons (dV 1) (dCons (dIxV 3 (dC (.int 1))) (dCons (dIxV 3 (dC (.int 0))) dNil))))) (dCons (dFz (dCall C 41 3 (dCons (dV 1) (dCons (dIxV 3 (dC (.int 3))) (dCons (dIxV 3 (dC (.int 0))) dNil))))) dNil)))))
    (dSeq (dRet (dZ (dFn gTuple (dCons (dFn1 gLen 1) (dCons (dFn gTupOf (dCons (dV 2) dNil)) dNil)))))
    dSkip)))
/-- ratios_in -/
def b43 (C : Cals) : DS :=
  (dSeq (dRet (dZ (dFn gTupOf (dCons (dFz (dLc [1] (dSeqI (dV 0)) (gNm 1) dYes (dFz (dCall C 11 2 (dCons (dFz (dCall C 9 2 (dCons (dIxV 1 (dC (.int 2))) (dCons (dIxV 1 (dC (.int 0))) dNil)))) (dCons (dFz (dCall C 9 2 (dCons (dIxV 1 (dC (.int 3))) (dCons (dIxV 1 (dC (.int 1))) dNil)))) dNil)))))) dNil))))
    dSkip)
/-- is_net_in -/
def b44 (C : Cals) : DS :=
  (dSeq (dIfS (dOrT (dNotT (dTru (dFz (dCall C 3 2 (dCons (dV 0) (dCons (dC (.int 2)) dNil)))))) (dOrT (dNotT (dTru (dFz (dCall C 1 3 (dCons (dIxV 0 (dC (.int 0))) (dCons (dC (.int 2)) (dCons (dC (.int 1000)) dNil))))))) (dOrT (dNotT (dTru (dIsi (dIxV 0 (dC (.int 1))) [.tup]))) (dB (dBin (gEq false) (dIxV 0 (dC (.int 1))) (dFn gTuple dNil)))))) (dSeq (dRet (dZ (dC (.bl false))))
    dSkip) dSkip)
    (dSeq (dIfS (dNotT (dTru (dFn gAll (dCons (dFz (dLc [1] (dSeqI (dIxV 0 (dC (.int 1)))) (gNm 1) dYes (dAndV (dFz (dCall C 3 2 (dCons (dV 1) (dCons (dC (.int 2)) dNil)))) (dFz (dCall C 4 1 (dCons (dV 1) dNil)))))) dNil)))) (dSeq (dRet (dZ (dC (.bl false))))
    dSkip) dSkip)
    (dSeq (dRet (dZ (dFn gAll (dCons (dFz (dLc [1] (dSeqI (dIxV 0 (dC (.int 1)))) (gNm 1) dYes (dChs (dC (.int 0)) ((gCmpI fun i j => decide (i ≤ j)), (dIxV 1 (dC (.int 0)))) [(gLt, (dIxV 1 (dC (.int 1)))), (gLt, (dIxV 0 (dC (.int 0))))]))) dNil))))
    dSkip)))
/-- reached_in -/
def b45 (C : Cals) : DS :=
  (dSeq (dPar [2, 3] (dConsO (dDct1 (dV 1) (dC (.bl true))) (dConsO (dFnO gListO (dCons (dV 1) dNil)) dNilO)))
    (dSeq (whileD (dB (dBinL (gEq true) 3 (dFn gList dNil))) (dSeq (dSet 4 (dZ (dMt 3 gPop dNil)))
    (dSeq (dFor (dSeqI (dIxV 0 (dC (.int 1)))) (gTp 2 (gsCons (gNm 5) (gsCons (gNm 6) gsNil))) (dSeq (dIfS (dAndT (dB (dBin (gInX false) (dV 4) (dFn gTuple (dCons (dV 5) (dCons (dV 6) dNil))))) (dB (dBinR (gInX true) (dBin gSubI (dBin gAdd (dV 5) (dV 6)) (dV 4)) 2))) (dSeq (dStX 2 (dBin gSubI (dBin gAdd (dV 5) (dV 6)) (dV 4)) (dC (.bl true)))
    (dSeq (dEx (dMt 3 gAppend (dCons (dBin gSubI (dBin gAdd (dV 5) (dV 6)) (dV 4)) dNil)))
    dSkip)) dSkip)
    dSkip))
    dSkip)) WF)
    (dSeq (dRet (dFnO gSortedX (dCons (dV 2) dNil)))
    dSkip)))
/-- sure_net -/
def b46 (C : Cals) : DS :=
  (dSeq (dSet 1 (dCall C 5 1 (dCons (dV 0) dNil)))
    (dSeq (dIfS (dOrT (dNotT (dTru (dFz (dCall C 44 1 (dCons (dV 1) dNil))))) (dOrT (dB (dBin (gCmpI fun i j => decide (j < i)) (dIxV 1 (dC (.int 0))) (dC (.int 30)))) (dB (dBin (gCmpI fun i j => decide (j < i)) (dFn gLen (dCons (dIxV 1 (dC (.int 1))) dNil)) (dC (.int 60)))))) (dSeq (dRaise 2)
    dSkip) dSkip)
    (dSeq (dRet (dMvZ 1))
    dSkip)))
/-- sure_ratios -/
def b47 (C : Cals) : DS :=
  (dSeq (dSet 2 (dCall C 5 1 (dCons (dV 1) dNil)))
    (dSeq (dIfS (dOrT (dNotT (dTru (dIsi (dV 2) [.tup]))) (dOrT (dB (dBin (gEq true) (dFn1 gLen 2) (dFn gLen (dCons (dIxV 0 (dC (.int 1))) dNil)))) (dNotT (dTru (dFn gAll (dCons (dFz (dLc [3] (dSeqI (dV 2)) (gNm 3) dYes (dFz (dCall C 18 1 (dCons (dV 3) dNil))))) dNil)))))) (dSeq (dRaise 2)
    dSkip) dSkip)
    (dSeq (dIfS (dNotT (dTru (dFn gAll (dCons (dFz (dLc [3] (dSeqI (dV 2)) (gNm 3) dYes (dBin (gCmpI fun i j => decide (j < i)) (dIxV 3 (dC (.int 0))) (dC (.int 0))))) dNil)))) (dSeq (dRaise 2)
    dSkip) dSkip)
    (dSeq (dRet (dMvZ 2))
    dSkip))))
/-- table_of -/
def b48 (C : Cals) : DS :=
  (dSeq (dSet 2 (dZ (dIxV 0 (dC (.int 0)))))
    (dSeq (dSet 3 (dLcR [9] (dIt gRange1 (dCons (dV 2) dNil)) (gNm 9) (dBinM gMulL gMul (dFn gList (dCons (dC (.tup [.int 0, .int 1])) dNil)) (dV 2))))
    (dSeq (dFor (dIt gZip (dCons (dIxV 0 (dC (.int 1))) (dCons (dV 1) dNil))) (gTp 2 (gsCons (gTp 2 (gsCons (gNm 4) (gsCons (gNm 5) gsNil))) (gsCons (gNm 6) gsNil))) (dSeq (dFor (dSeqI (dFn gTuple (dCons (dFn gTuple (dCons (dV 4) (dCons (dV 5) dNil))) (dCons (dFn gTuple (dCons (dV 5) (dCons (dV 4) dNil))) dNil)))) (gTp 2 (gsCons (gNm 7) (gsCons (gNm 8) gsNil))) (dSeq (dStXX 3 (.v 7) (.v 7) (dFz (dCall C 8 2 (dCons (dIx2 3 (.v 7) (.v 7)) (dCons (dV 6) dNil)))))
    (dSeq (dStXX 3 (.v 7) (.v 8) (dFz (dCall C 9 2 (dCons (dIx2 3 (.v 7) (.v 8)) (dCons (dV 6) dNil)))))
    dSkip)))
    dSkip))
    (dSeq (dRet (dMvZ 3))
    dSkip))))
/-- cleared -/
def b49 (C : Cals) : DS :=
  (dSeq (dSet 2 (dLc [3] (dIt gRange2 (dCons (dV 1) (dCons (dFn1 gLen 0) dNil))) (gNm 3) (dB (dBin (gEq true) (dBin gIx (dIx2 0 (.v 3) (.v 1)) (dC (.int 0))) (dC (.int 0)))) (dV 3)))
    (dSeq (dIfS (dB (dBinL (gEq false) 2 (dFn gList dNil))) (dSeq (dRet (dZ (dC (.non))))
    dSkip) dSkip)
    (dSeq (dRet (dBinM gAddL gAdd (dBin gAdd (dBin gAdd (dSl (dV 0) dNoP (dP (dV 1))) (dFn gList (dCons (dIxV 0 (dIxV 2 (dC (.int 0)))) dNil))) (dSl (dV 0) (dP (dV 1)) (dP (dIxV 2 (dC (.int 0)))))) (dSl (dV 0) (dP (dBin gAdd (dIxV 2 (dC (.int 0))) (dC (.int 1)))) dNoP)))
    dSkip)))
/-- lowered -/
def b50 (C : Cals) : DS :=
  (dSeq (dRet (dLc [3, 4] (dIt gZip (dCons (dV 0) (dCons (dV 2) dNil))) (gTp 2 (gsCons (gNm 3) (gsCons (gNm 4) gsNil))) dYes (dFz (dCall C 9 2 (dCons (dV 3) (dCons (dFz (dCall C 10 2 (dCons (dV 1) (dCons (dV 4) dNil)))) dNil))))))
    dSkip)
/-- determinant -/
def b51 (C : Cals) : DS :=
  (dSeq (dSet 1 (dZ (dC (.tup [.int 1, .int 1]))))
    (dSeq (dFor (dIt gRange1 (dCons (dFn1 gLen 0) dNil)) (gNm 2) (dSeq (dIfS (dB (dBin (gEq false) (dBin gIx (dIx2 0 (.v 2) (.v 2)) (dC (.int 0))) (dC (.int 0)))) (dSeq (dRet (dZ (dC (.tup [.int 0, .int 1]))))
    dSkip) dSkip)
    (dSeq (dSet 3 (dZ (dIxV 0 (dV 2))))
    (dSeq (dSet 1 (dCall C 10 2 (dCons (dV 1) (dCons (dIxV 3 (dV 2)) dNil))))
    (dSeq (dSet 0 (dBinM gAddL gAdd (dSl (dV 0) dNoP (dP (dBin gAdd (dV 2) (dC (.int 1))))) (dFz (dLc [4] (dSeqI (dSl (dV 0) (dP (dBin gAdd (dV 2) (dC (.int 1)))) dNoP)) (gNm 4) dYes (dFz (dCall C 50 3 (dCons (dV 4) (dCons (dFz (dCall C 11 2 (dCons (dIxV 4 (dV 2)) (dCons (dIxV 3 (dV 2)) dNil)))) (dCons (dV 3) dNil)))))))))
    dSkip)))))
    (dSeq (dRet (dMvZ 1))
    dSkip)))
/-- solved -/
def b52 (C : Cals) : DS :=
  (dSeq (dFor (dIt gRange1 (dCons (dFn1 gLen 0) dNil)) (gNm 1) (dSeq (dSet 0 (dCall C 49 2 (dCons (dV 0) (dCons (dV 1) dNil))))
    (dSeq (dSet 2 (dLc [3] (dSeqI (dIxV 0 (dV 1))) (gNm 3) dYes (dFz (dCall C 11 2 (dCons (dV 3) (dCons (dIx2 0 (.v 1) (.v 1)) dNil))))))
    (dSeq (dSet 0 (dLc [4, 5] (dIt gEnum (dCons (dV 0) dNil)) (gTp 2 (gsCons (gNm 4) (gsCons (gNm 5) gsNil))) dYes (dIf (dB (dBinL (gEq false) 4 (dV 1))) (dV 2) (dFz (dCall C 50 3 (dCons (dV 5) (dCons (dIxV 5 (dV 1)) (dCons (dV 2) dNil))))))))
    dSkip))))
    (dSeq (dRet (dLc [5] (dSeqI (dV 0)) (gNm 5) dYes (dIxV 5 (dUn gNeg (dC (.int 1))))))
    dSkip))
/-- without_nodes -/
def b53 (C : Cals) : DS :=
  (dSeq (dSet 2 (dLc [3] (dIt gRange1 (dCons (dFn1 gLen 0) dNil)) (gNm 3) (dB (dBinR (gInX true) (dV 3) 1)) (dV 3)))
    (dSeq (dRet (dLc [4] (dSeqI (dV 2)) (gNm 4) dYes (dFz (dLc [5] (dSeqI (dV 2)) (gNm 5) dYes (dIx2 0 (.v 4) (.v 5))))))
    dSkip))
/-- drops_in -/
def b54 (C : Cals) : DS :=
  (dSeq (dSet 2 (dZ (dIxV 0 (dC (.int 0)))))
    (dSeq (dSet 3 (dCall C 48 2 (dCons (dV 0) (dCons (dV 1) dNil))))
    (dSeq (dSet 4 (dLsO (dRg2 (dC (.int 1)) (dBin gSubI (dV 2) (dC (.int 1))))))
    (dSeq (dSet 5 (dLc [6] (dSeqI (dV 4)) (gNm 6) dYes (dBin gAdd (dFz (dLc [7] (dSeqI (dV 4)) (gNm 7) dYes (dIx2 3 (.v 6) (.v 7)))) (dFn gList (dCons (dFz (dCall C 9 2 (dCons (dC (.tup [.int 0, .int 1])) (dCons (dBin gIx (dIxV 3 (dV 6)) (dBin gSubI (dV 2) (dC (.int 1)))) dNil)))) dNil)))))
    (dSeq (dRet (dBinM gAddL gAdd (dBin gAdd (dFn gList (dCons (dC (.tup [.int 0, .int 1])) dNil)) (dFz (dCall C 52 1 (dCons (dV 5) dNil)))) (dFn gList (dCons (dC (.tup [.int 1, .int 1])) dNil))))
    dSkip)))))
/-- flows_in -/
def b55 (C : Cals) : DS :=
  (dSeq (dSet 2 (dCall C 54 2 (dCons (dV 0) (dCons (dV 1) dNil))))
    (dSeq (dRet (dLc [3, 4, 5] (dIt gZip (dCons (dIxV 0 (dC (.int 1))) (dCons (dV 1) dNil))) (gTp 2 (gsCons (gTp 2 (gsCons (gNm 3) (gsCons (gNm 4) gsNil))) (gsCons (gNm 5) gsNil))) dYes (dFz (dCall C 10 2 (dCons (dV 5) (dCons (dFz (dCall C 9 2 (dCons (dIxV 2 (dV 4)) (dCons (dIxV 2 (dV 3)) dNil)))) dNil))))))
    dSkip))
/-- trees_in -/
def b56 (C : Cals) : DS :=
  (dSeq (dSet 1 (dFnO gListO dNil))
    (dSeq (dSet 2 (dFnO gListO (dCons (dFn gTuple (dCons (dFn gTuple dNil) (dCons (dFz (dZ (dTpl (dRg1 (dIxV 0 (dC (.int 0))))))) (dCons (dC (.int 0)) dNil)))) dNil)))
    (dSeq (whileD (dAndT (dB (dBinL (gEq true) 2 (dFn gList dNil))) (dB (dBin (gCmpI fun i j => decide (i ≤ j)) (dFn1 gLen 1) (dC (.int 2000))))) (dSeq (dAsg (dMt 2 gPop dNil) (gTp 3 (gsCons (gNm 3) (gsCons (gNm 4) (gsCons (gNm 5) gsNil)))))
    (dSeq (dIfS (dB (dBin (gEq false) (dFn1 gLen 3) (dBin gSubI (dIxV 0 (dC (.int 0))) (dC (.int 1))))) (dSeq (dEx (dMt 1 gAppend (dCons (dV 3) dNil)))
    dSkip) (dSeq (dIfS (dB (dBin gLt (dV 5) (dFn gLen (dCons (dIxV 0 (dC (.int 1))) dNil)))) (dSeq (dAsg (dIx2 0 (.c 1) (.v 5)) (gTp 2 (gsCons (gNm 6) (gsCons (gNm 7) gsNil))))
    (dSeq (dEx (dMt 2 gAppend (dCons (dFn gTuple (dCons (dV 3) (dCons (dV 4) (dCons (dBin gAdd (dV 5) (dC (.int 1))) dNil)))) dNil)))
    (dSeq (dIfS (dB (dBin (gEq true) (dIxV 4 (dV 6)) (dIxV 4 (dV 7)))) (dSeq (dSet 8 (dZ (dFn gTupOf (dCons (dFz (dLc [9] (dSeqI (dV 4)) (gNm 9) dYes (dIf (dB (dBinL (gEq false) 9 (dIxV 4 (dV 7)))) (dIxV 4 (dV 6)) (dV 9)))) dNil))))
    (dSeq (dEx (dMt 2 gAppend (dCons (dFn gTuple (dCons (dBin gAdd (dV 3) (dFn gTuple (dCons (dV 5) dNil))) (dCons (dV 8) (dCons (dBin gAdd (dV 5) (dC (.int 1))) dNil)))) dNil)))
    dSkip)) dSkip)
    dSkip))) dSkip)
    dSkip))
    dSkip)) WF)
    (dSeq (dRet (dMvZ 1))
    dSkip))))
/-- sure_flowing -/
def b57 (C : Cals) : DS :=
  (dSeq (dSet 2 (dCall C 46 1 (dCons (dV 0) dNil)))
    (dSeq (dSet 3 (dCall C 47 2 (dCons (dV 2) (dCons (dV 1) dNil))))
    (dSeq (dIfS (dB (dBin (gEq true) (dFn gLen (dCons (dFz (dCall C 45 2 (dCons (dV 2) (dCons (dC (.int 0)) dNil)))) dNil)) (dIxV 2 (dC (.int 0))))) (dSeq (dRaise 0)
    dSkip) dSkip)
    (dSeq (dRet (dZ (dFn gTuple (dCons (dV 2) (dCons (dV 3) dNil)))))
    dSkip))))
/-- level_ways -/
def b58 (C : Cals) : DS :=
  (dSeq (dRet (dZ (dFn gTupOf (dCons (dFz (dCall C 40 1 (dCons (dBin gIx (dFz (dCall C 35 2 (dCons (dV 0) (dCons (dV 1) dNil)))) (dC (.int 1))) dNil))) dNil))))
    dSkip)
/-- net_of -/
def b59 (C : Cals) : DS :=
  (dSeq (dRet (dCall C 42 1 (dCons (dBin gIx (dFz (dCall C 35 2 (dCons (dV 0) (dCons (dV 1) dNil)))) (dC (.int 1))) dNil)))
    dSkip)
/-- ratios_of -/
def b60 (C : Cals) : DS :=
  (dSeq (dRet (dCall C 43 1 (dCons (dBin gIx (dFz (dCall C 35 2 (dCons (dV 0) (dCons (dV 1) dNil)))) (dC (.int 1))) dNil)))
    dSkip)
/-- widths_at -/
def b61 (C : Cals) : DS :=
  (dSeq (dSet 2 (dZ (dBin gIx (dFz (dCall C 35 2 (dCons (dV 0) (dCons (dV 1) dNil)))) (dC (.int 1)))))
    (dSeq (dAsg (dFz (dCall C 42 1 (dCons (dV 2) dNil))) (gTp 2 (gsCons (gNm 3) (gsCons (gNm 4) gsNil))))
    (dSeq (dSet 5 (dLcR [10] (dIt gRange1 (dCons (dV 3) dNil)) (gNm 10) (dFnO gListO (dCons (dC (.tup [.int 0, .int 1])) (dCons (dC (.tup [.int 0, .int 1])) dNil)))))
    (dSeq (dFor (dIt gZip (dCons (dV 4) (dCons (dV 2) dNil))) (gTp 2 (gsCons (gTp 2 (gsCons (gNm 6) (gsCons (gNm 7) gsNil))) (gsCons (gNm 8) gsNil))) (dSeq (dSet 9 (dCall C 9 2 (dCons (dIxV 8 (dC (.int 2))) (dCons (dIxV 8 (dC (.int 0))) dNil))))
    (dSeq (dStXX 5 (.v 6) (.c 0) (dFz (dCall C 8 2 (dCons (dIx2 5 (.v 6) (.c 0)) (dCons (dV 9) dNil)))))
    (dSeq (dStXX 5 (.v 7) (.c 1) (dFz (dCall C 8 2 (dCons (dIx2 5 (.v 7) (.c 1)) (dCons (dV 9) dNil)))))
    dSkip))))
    (dSeq (dRet (dZ (dFn gTupOf (dCons (dFz (dLc [11] (dSeqI (dV 5)) (gNm 11) dYes (dFn gTupOf (dCons (dV 11) dNil)))) dNil))))
    dSkip)))))
/-- drops -/
def b62 (C : Cals) : DS :=
  (dSeq (dAsg (dFz (dCall C 57 2 (dCons (dV 0) (dCons (dV 1) dNil)))) (gTp 2 (gsCons (gNm 2) (gsCons (gNm 3) gsNil))))
    (dSeq (dRet (dZ (dFn gTupOf (dCons (dFz (dCall C 54 2 (dCons (dV 2) (dCons (dV 3) dNil)))) dNil))))
    dSkip))
/-- flows -/
def b63 (C : Cals) : DS :=
  (dSeq (dAsg (dFz (dCall C 57 2 (dCons (dV 0) (dCons (dV 1) dNil)))) (gTp 2 (gsCons (gNm 2) (gsCons (gNm 3) gsNil))))
    (dSeq (dRet (dZ (dFn gTupOf (dCons (dFz (dCall C 55 2 (dCons (dV 2) (dCons (dV 3) dNil)))) dNil))))
    dSkip))
/-- whole_ratio -/
def b64 (C : Cals) : DS :=
  (dSeq (dAsg (dFz (dCall C 57 2 (dCons (dV 0) (dCons (dV 1) dNil)))) (gTp 2 (gsCons (gNm 2) (gsCons (gNm 3) gsNil))))
    (dSeq (dSet 4 (dZ (dC (.tup [.int 0, .int 1]))))
    (dSeq (dFor (dIt gZip (dCons (dIxV 2 (dC (.int 1))) (dCons (dFz (dCall C 55 2 (dCons (dV 2) (dCons (dV 3) dNil)))) dNil))) (gTp 2 (gsCons (gTp 2 (gsCons (gNm 5) (gsCons (gNm 6) gsNil))) (gsCons (gNm 7) gsNil))) (dSeq (dSet 4 (dIfO (dB (dBinL (gEq false) 5 (dC (.int 0)))) (dCall C 8 2 (dCons (dV 4) (dCons (dV 7) dNil))) (dZ (dV 4))))
    dSkip))
    (dSeq (dRet (dMvZ 4))
    dSkip))))
/-- sides_told -/
def b65 (C : Cals) : DS :=
  (dSeq (dAsg (dFz (dCall C 57 2 (dCons (dV 0) (dCons (dV 1) dNil)))) (gTp 2 (gsCons (gNm 2) (gsCons (gNm 3) gsNil))))
    (dSeq (dSet 4 (dCall C 54 2 (dCons (dV 2) (dCons (dV 3) dNil))))
    (dSeq (dRet (dZ (dFn gTupOf (dCons (dFz (dLc [5, 6, 7] (dIt gZip (dCons (dIxV 2 (dC (.int 1))) (dCons (dFz (dCall C 55 2 (dCons (dV 2) (dCons (dV 3) dNil)))) dNil))) (gTp 2 (gsCons (gTp 2 (gsCons (gNm 5) (gsCons (gNm 6) gsNil))) (gsCons (gNm 7) gsNil))) dYes (dFn gTuple (dCons (dV 7) (dCons (dFz (dCall C 9 2 (dCons (dIxV 4 (dV 6)) (dCons (dIxV 4 (dV 5)) dNil)))) dNil))))) dNil))))
    dSkip)))
/-- tree_sum -/
def b66 (C : Cals) : DS :=
  (dSeq (dAsg (dFz (dCall C 57 2 (dCons (dV 0) (dCons (dV 1) dNil)))) (gTp 2 (gsCons (gNm 2) (gsCons (gNm 3) gsNil))))
    (dSeq (dRet (dCall C 51 1 (dCons (dFz (dCall C 53 2 (dCons (dFz (dCall C 48 2 (dCons (dV 2) (dCons (dV 3) dNil)))) (dCons (dFn gTuple (dCons (dC (.int 0)) dNil)) dNil)))) dNil)))
    dSkip))
/-- pair_sum -/
def b67 (C : Cals) : DS :=
  (dSeq (dAsg (dFz (dCall C 57 2 (dCons (dV 0) (dCons (dV 1) dNil)))) (gTp 2 (gsCons (gNm 2) (gsCons (gNm 3) gsNil))))
    (dSeq (dRet (dCall C 51 1 (dCons (dFz (dCall C 53 2 (dCons (dFz (dCall C 48 2 (dCons (dV 2) (dCons (dV 3) dNil)))) (dCons (dFn gTuple (dCons (dC (.int 0)) (dCons (dBin gSubI (dIxV 2 (dC (.int 0))) (dC (.int 1))) dNil))) dNil)))) dNil)))
    dSkip))
/-- net_trees -/
def b68 (C : Cals) : DS :=
  (dSeq (dSet 1 (dCall C 56 1 (dCons (dFz (dCall C 46 1 (dCons (dV 0) dNil))) dNil)))
    (dSeq (dIfS (dB (dBin (gCmpI fun i j => decide (j < i)) (dFn1 gLen 1) (dC (.int 2000)))) (dSeq (dRaise 1)
    dSkip) dSkip)
    (dSeq (dRet (dFnO gSortedX (dCons (dV 1) dNil)))
    dSkip)))
/-- both_sides -/
def b69 (C : Cals) : DS :=
  (dSeq (dAsg (dV 2) (gTp 2 (gsCons (gNm 3) (gsCons (gNm 4) gsNil))))
    (dSeq (dSet 5 (dLc [6] (dSeqI (dV 1)) (gNm 6) (dNotT (dTru (dFz (dCall C 12 2 (dCons (dV 4) (dCons (dBin gIx (dIxV 0 (dV 6)) (dBin gAdd (dV 3) (dC (.int 2)))) dNil)))))) (dV 6)))
    (dSeq (dRet (dZ (dFn gTuple (dCons (dV 5) (dCons (dFz (dLc [6] (dSeqI (dV 1)) (gNm 6) (dB (dBinR (gInX true) (dV 6) 5)) (dV 6))) dNil)))))
    dSkip)))
/-- tree_or_core -/
def b70 (C : Cals) : DS :=
  (dSeq (dIfS (dB (dBin (gEq false) (dFn1 gLen 1) (dC (.int 1)))) (dSeq (dRet (dZ (dFn gTuple (dCons (dC (.str "tree")) (dCons (dIxV 1 (dC (.int 0))) dNil)))))
    dSkip) dSkip)
    (dSeq (dSet 2 (dZ (dFn gTupOf (dCons (dFz (dLc [8] (dSeqI (dV 1)) (gNm 8) dYes (dIxV 0 (dV 8)))) dNil))))
    (dSeq (dSet 3 (dCall C 37 2 (dCons (dFz (dCall C 26 1 (dCons (dV 2) dNil))) (dCons (dV 2) dNil))))
    (dSeq (dIfS (dB (dBin (gIsN false) (dV 3) (dC (.non)))) (dSeq (dRet (dZ (dFn gTuple (dCons (dC (.str "core")) (dCons (dFn gTupOf (dCons (dV 1) dNil)) dNil)))))
    dSkip) dSkip)
    (dSeq (dAsg (dFz (dCall C 69 3 (dCons (dV 0) (dCons (dV 1) (dCons (dV 3) dNil))))) (gTp 2 (gsCons (gNm 4) (gsCons (gNm 5) gsNil))))
    (dSeq (dSet 6 (dCall C 70 2 (dCons (dV 0) (dCons (dV 4) dNil))))
    (dSeq (dIfS (dB (dBin (gEq false) (dIxV 6 (dC (.int 0))) (dC (.str "core")))) (dSeq (dRet (dMvZ 6))
    dSkip) dSkip)
    (dSeq (dSet 7 (dCall C 70 2 (dCons (dV 0) (dCons (dV 5) dNil))))
    (dSeq (dIfS (dB (dBin (gEq false) (dIxV 7 (dC (.int 0))) (dC (.str "core")))) (dSeq (dRet (dMvZ 7))
    dSkip) dSkip)
    (dSeq (dRet (dZ (dFn gTuple (dCons (dC (.str "tree")) (dCons (dFn gTuple (dCons (dIxV 3 (dC (.int 0))) (dCons (dIxV 3 (dC (.int 1))) (dCons (dIxV 6 (dC (.int 1))) (dCons (dIxV 7 (dC (.int 1))) dNil))))) dNil)))))
    dSkip))))))))))
/-- numbers_in -/
def b71 (C : Cals) : DS :=
  (dSeq (dPar [1, 2] (dConsO (dFnO gListO (dCons (dV 0) dNil)) (dConsO (dFnO gListO dNil) dNilO)))
    (dSeq (whileD (dB (dBinL (gEq true) 1 (dFn gList dNil))) (dSeq (dSet 3 (dZ (dMt 1 gPop dNil)))
    (dSeq (dIfS (dTru (dIsi (dV 3) [.tup])) (dSeq (dEx (dMt 1 gExtend (dCons (dFn gList (dCons (dIxV 3 (dC (.int 3))) (dCons (dIxV 3 (dC (.int 2))) dNil))) dNil)))
    dSkip) (dSeq (dEx (dMt 2 gAppend (dCons (dV 3) dNil)))
    dSkip))
    dSkip)) WF)
    (dSeq (dRet (dMvZ 2))
    dSkip)))
/-- is_tree_in -/
def b72 (C : Cals) : DS :=
  (dSeq (dPar [1, 2] (dConsO (dFnO gListO (dCons (dV 0) dNil)) (dConsO (dFnO gListO dNil) dNilO)))
    (dSeq (whileD (dB (dBinL (gEq true) 1 (dFn gList dNil))) (dSeq (dSet 3 (dZ (dMt 1 gPop dNil)))
    (dSeq (dIfS (dTru (dFz (dCall C 0 1 (dCons (dV 3) dNil)))) (dSeq (dEx (dMt 2 gAppend (dCons (dV 3) dNil)))
    dSkip) (dSeq (dIfS (dAndT (dTru (dFz (dCall C 3 2 (dCons (dV 3) (dCons (dC (.int 4)) dNil))))) (dAndT (dTru (dFz (dCall C 0 1 (dCons (dIxV 3 (dC (.int 0))) dNil)))) (dAndT (dB (dBin (gInX false) (dIxV 3 (dC (.int 0))) (dFn gTuple (dCons (dC (.int 0)) (dCons (dC (.int 1)) dNil))))) (dTru (dFz (dCall C 18 1 (dCons (dIxV 3 (dC (.int 1))) dNil))))))) (dSeq (dEx (dMt 1 gExtend (dCons (dFn gList (dCons (dIxV 3 (dC (.int 3))) (dCons (dIxV 3 (dC (.int 2))) dNil))) dNil)))
    dSkip) (dSeq (dRet (dZ (dC (.bl false))))
    dSkip))
    dSkip))
    dSkip)) WF)
    (dSeq (dRet (dZ (dBin (gEq false) (dFz (dFnO gSortedX (dCons (dV 2) dNil))) (dFz (dLsO (dRg1 (dFn1 gLen 2)))))))
    dSkip)))
/-- laid_by -/
def b73 (C : Cals) : DS :=
  (dSeq (dPar [2, 3] (dConsO (dFnO gListO (dCons (dFn gTuple (dCons (dV 0) (dCons (dV 1) dNil))) dNil)) (dConsO (dFnO gListO dNil) dNilO)))
    (dSeq (whileD (dB (dBinL (gEq true) 2 (dFn gList dNil))) (dSeq (dAsg (dMt 2 gPop dNil) (gTp 2 (gsCons (gNm 4) (gsCons (gNm 5) gsNil))))
    (dSeq (dIfS (dNotT (dTru (dIsi (dV 5) [.tup]))) (dSeq (dEx (dMt 3 gAppend (dCons (dFn gTuple (dCons (dV 5) (dCons (dV 4) dNil))) dNil)))
    dSkip) (dSeq (dPar [6, 7] (dConsO (dZ (dIxV 5 (dC (.int 0)))) (dConsO (dZ (dIxV 5 (dC (.int 1)))) dNilO)))
    (dSeq (dIfS (dOrT (dNotT (dTru (dFz (dCall C 12 2 (dCons (dIxV 4 (dV 6)) (dCons (dV 7) dNil)))))) (dNotT (dTru (dFz (dCall C 12 2 (dCons (dV 7) (dCons (dIxV 4 (dBin gAdd (dV 6) (dC (.int 2)))) dNil))))))) (dSeq (dRet (dZ (dC (.non))))
    dSkip) dSkip)
    (dSeq (dEx (dMt 2 gAppend (dCons (dFn gTuple (dCons (dBin gAdd (dBin gAdd (dSl (dV 4) dNoP (dP (dBin gAdd (dV 6) (dC (.int 2))))) (dFn gTuple (dCons (dV 7) dNil))) (dSl (dV 4) (dP (dBin gAdd (dV 6) (dC (.int 3)))) dNoP)) (dCons (dIxV 5 (dC (.int 2))) dNil))) dNil)))
    (dSeq (dEx (dMt 2 gAppend (dCons (dFn gTuple (dCons (dBin gAdd (dBin gAdd (dSl (dV 4) dNoP (dP (dV 6))) (dFn gTuple (dCons (dV 7) dNil))) (dSl (dV 4) (dP (dBin gAdd (dV 6) (dC (.int 1)))) dNoP)) (dCons (dIxV 5 (dC (.int 3))) dNil))) dNil)))
    dSkip)))))
    dSkip)) WF)
    (dSeq (dRet (dMvZ 3))
    dSkip)))
/-- is_core_in -/
def b74 (C : Cals) : DS :=
  (dSeq (dIfS (dOrT (dNotT (dTru (dIsi (dV 1) [.tup]))) (dOrT (dB (dBin gLt (dFn1 gLen 1) (dC (.int 2)))) (dNotT (dTru (dFn gAll (dCons (dFz (dLc [4] (dSeqI (dV 1)) (gNm 4) dYes (dFz (dCall C 0 1 (dCons (dV 4) dNil))))) dNil)))))) (dSeq (dRet (dZ (dC (.bl false))))
    dSkip) dSkip)
    (dSeq (dIfS (dOrT (dNotT (dTru (dFn gAll (dCons (dFz (dLc [5, 6] (dIt gZip (dCons (dV 1) (dCons (dSl (dV 1) (dP (dC (.int 1))) dNoP) dNil))) (gTp 2 (gsCons (gNm 5) (gsCons (gNm 6) gsNil))) dYes (dBin gLt (dV 5) (dV 6)))) dNil)))) (dOrT (dB (dBin gLt (dIxV 1 (dC (.int 0))) (dC (.int 0)))) (dB (dBin (gCmpI fun i j => decide (j ≤ i)) (dIxV 1 (dUn gNeg (dC (.int 1)))) (dFn1 gLen 0))))) (dSeq (dRet (dZ (dC (.bl false))))
    dSkip) dSkip)
    (dSeq (dSet 2 (dZ (dFn gTupOf (dCons (dFz (dLc [4] (dSeqI (dV 1)) (gNm 4) dYes (dIxV 0 (dV 4)))) dNil))))
    (dSeq (dSet 3 (dCall C 26 1 (dCons (dV 2) dNil)))
    (dSeq (dRet (dZ (dAndV (dBin (gEq false) (dFz (dCall C 30 1 (dCons (dV 2) dNil))) (dFz (dCall C 25 1 (dCons (dV 3) dNil)))) (dBin (gIsN false) (dFz (dCall C 37 2 (dCons (dV 3) (dCons (dV 2) dNil)))) (dC (.non))))))
    dSkip)))))
/-- cut_tree -/
def b75 (C : Cals) : DS :=
  (dSeq (dAsg (dFz (dCall C 70 2 (dCons (dBin gIx (dFz (dCall C 35 2 (dCons (dV 0) (dCons (dV 1) dNil)))) (dC (.int 1))) (dCons (dFz (dLsO (dRg1 (dFn gLen (dCons (dFz (dCall C 5 1 (dCons (dV 1) dNil))) dNil))))) dNil)))) (gTp 2 (gsCons (gNm 2) (gsCons (gNm 3) gsNil))))
    (dSeq (dIfS (dB (dBinL (gEq false) 2 (dC (.str "core")))) (dSeq (dRaise 0)
    dSkip) dSkip)
    (dSeq (dRet (dMvZ 3))
    dSkip)))
/-- core_of -/
def b76 (C : Cals) : DS :=
  (dSeq (dAsg (dFz (dCall C 70 2 (dCons (dBin gIx (dFz (dCall C 35 2 (dCons (dV 0) (dCons (dV 1) dNil)))) (dC (.int 1))) (dCons (dFz (dLsO (dRg1 (dFn gLen (dCons (dFz (dCall C 5 1 (dCons (dV 1) dNil))) dNil))))) dNil)))) (gTp 2 (gsCons (gNm 2) (gsCons (gNm 3) gsNil))))
    (dSeq (dIfS (dB (dBinL (gEq false) 2 (dC (.str "tree")))) (dSeq (dRaise 0)
    dSkip) dSkip)
    (dSeq (dRet (dMvZ 3))
    dSkip)))
/-- is_core -/
def b77 (C : Cals) : DS :=
  (dSeq (dRet (dCall C 74 2 (dCons (dBin gIx (dFz (dCall C 35 2 (dCons (dV 0) (dCons (dV 1) dNil)))) (dC (.int 1))) (dCons (dV 2) dNil))))
    dSkip)
/-- sure_tree -/
def b78 (C : Cals) : DS :=
  (dSeq (dSet 1 (dCall C 5 1 (dCons (dV 0) dNil)))
    (dSeq (dIfS (dOrT (dNotT (dTru (dFz (dCall C 72 1 (dCons (dV 1) dNil))))) (dB (dBin (gCmpI fun i j => decide (j < i)) (dFn gLen (dCons (dFz (dCall C 71 1 (dCons (dV 1) dNil))) dNil)) (dC (.int 60))))) (dSeq (dRaise 2)
    dSkip) dSkip)
    (dSeq (dRet (dMvZ 1))
    dSkip)))
/-- parts_of_tree -/
def b79 (C : Cals) : DS :=
  (dSeq (dSet 2 (dCall C 21 1 (dCons (dV 0) dNil)))
    (dSeq (dSet 3 (dCall C 73 2 (dCons (dV 2) (dCons (dFz (dCall C 78 1 (dCons (dV 1) dNil))) dNil))))
    (dSeq (dIfS (dB (dBin (gIsN false) (dV 3) (dC (.non)))) (dSeq (dRaise 0)
    dSkip) dSkip)
    (dSeq (dRet (dZ (dFn gTupOf (dCons (dFz (dLc [4, 5] (dSeqI (dFz (dFnO gSortedX (dCons (dV 3) dNil)))) (gTp 2 (gsCons (gNm 4) (gsCons (gNm 5) gsNil))) dYes (dV 5))) dNil))))
    dSkip))))
/-- tree_height -/
def b80 (C : Cals) : DS :=
  (dSeq (dSet 1 (dCall C 78 1 (dCons (dV 0) dNil)))
    (dSeq (dPar [2, 3] (dConsO (dFnO gListO (dCons (dFn gTuple (dCons (dV 1) (dCons (dC (.int 0)) dNil))) dNil)) (dConsO (dZ (dC (.int 0))) dNilO)))
    (dSeq (whileD (dB (dBinL (gEq true) 2 (dFn gList dNil))) (dSeq (dAsg (dMt 2 gPop dNil) (gTp 2 (gsCons (gNm 4) (gsCons (gNm 5) gsNil))))
    (dSeq (dSet 3 (dZ (dFn gMax (dCons (dV 3) (dCons (dV 5) dNil)))))
    (dSeq (dIfS (dTru (dIsi (dV 4) [.tup])) (dSeq (dEx (dMt 2 gExtend (dCons (dFn gList (dCons (dFn gTuple (dCons (dIxV 4 (dC (.int 2))) (dCons (dBin gAdd (dV 5) (dC (.int 1))) dNil))) (dCons (dFn gTuple (dCons (dIxV 4 (dC (.int 3))) (dCons (dBin gAdd (dV 5) (dC (.int 1))) dNil))) dNil))) dNil)))
    dSkip) dSkip)
    dSkip))) WF)
    (dSeq (dRet (dMvZ 3))
    dSkip))))
/-- tree_numbers -/
def b81 (C : Cals) : DS :=
  (dSeq (dRet (dZ (dFn gTupOf (dCons (dFz (dCall C 71 1 (dCons (dFz (dCall C 78 1 (dCons (dV 0) dNil))) dNil))) dNil))))
    dSkip)
/-- is_tile -/
def b82 (C : Cals) : DS :=
  (dSeq (dRet (dZ (dAndV (dFz (dCall C 3 2 (dCons (dV 0) (dCons (dC (.int 4)) dNil)))) (dAndV (dFz (dCall C 4 1 (dCons (dV 0) dNil))) (dAndV (dChs (dC (.int 0)) ((gCmpI fun i j => decide (i ≤ j)), (dIxV 0 (dC (.int 0)))) [(gLt, (dIxV 0 (dC (.int 2))))]) (dChs (dC (.int 0)) ((gCmpI fun i j => decide (i ≤ j)), (dIxV 0 (dC (.int 1)))) [(gLt, (dIxV 0 (dC (.int 3))))]))))))
    dSkip)
/-- tile_cells -/
def b83 (C : Cals) : DS :=
  (dSeq (dAsg (dV 0) (gTp 4 (gsCons (gNm 1) (gsCons (gNm 2) (gsCons (gNm 3) (gsCons (gNm 4) gsNil))))))
    (dSeq (dRet (dLc2 [5, 6] [6] (dIt gRange2 (dCons (dV 1) (dCons (dV 3) dNil))) (gNm 5) dYes (dIt gRange2 (dCons (dV 2) (dCons (dV 4) dNil))) (gNm 6) dYes (dFn gTuple (dCons (dV 5) (dCons (dV 6) dNil)))))
    dSkip))
/-- is_brickwork_in -/
def b84 (C : Cals) : DS :=
  (dSeq (dIfS (dOrT (dNotT (dTru (dIsi (dV 2) [.tup]))) (dNotT (dTru (dFn gAll (dCons (dFz (dLc [3] (dSeqI (dV 2)) (gNm 3) dYes (dFz (dCall C 82 1 (dCons (dV 3) dNil))))) dNil))))) (dSeq (dRet (dZ (dC (.bl false))))
    dSkip) dSkip)
    (dSeq (dIfS (dNotT (dTru (dFn gAll (dCons (dFz (dLc [4, 5] (dIt gZip (dCons (dV 2) (dCons (dSl (dV 2) (dP (dC (.int 1))) dNoP) dNil))) (gTp 2 (gsCons (gNm 4) (gsCons (gNm 5) gsNil))) dYes (dBin gLt (dV 4) (dV 5)))) dNil)))) (dSeq (dRet (dZ (dC (.bl false))))
    dSkip) dSkip)
    (dSeq (dIfS (dNotT (dTru (dFn gAll (dCons (dFz (dLc [3] (dSeqI (dV 2)) (gNm 3) dYes (dAndV (dBin (gCmpI fun i j => decide (i ≤ j)) (dIxV 3 (dC (.int 2))) (dV 0)) (dBin (gCmpI fun i j => decide (i ≤ j)) (dIxV 3 (dC (.int 3))) (dV 1))))) dNil)))) (dSeq (dRet (dZ (dC (.bl false))))
    dSkip) dSkip)
    (dSeq (dIfS (dB (dBin (gEq true) (dFn gSum (dCons (dFz (dLc [3] (dSeqI (dV 2)) (gNm 3) dYes (dBin gMul (dBin gSubI (dIxV 3 (dC (.int 2))) (dIxV 3 (dC (.int 0)))) (dBin gSubI (dIxV 3 (dC (.int 3))) (dIxV 3 (dC (.int 1))))))) dNil)) (dBin gMul (dV 0) (dV 1)))) (dSeq (dRet (dZ (dC (.bl false))))
    dSkip) dSkip)
    (dSeq (dRet (dZ (dBin (gEq false) (dLenSet (dFz (dLc2 [3, 6] [6] (dSeqI (dV 2)) (gNm 3) dYes (dSeqI (dFz (dCall C 83 1 (dCons (dV 3) dNil)))) (gNm 6) dYes (dV 6)))) (dBin gMul (dV 0) (dV 1)))))
    dSkip)))))
/-- inner_lines -/
def b85 (C : Cals) : DS :=
  (dSeq (dRet (dBinM gAddL gAdd (dFz (dLc [2] (dIt gRange2 (dCons (dC (.int 1)) (dCons (dV 0) dNil))) (gNm 2) dYes (dFn gTuple (dCons (dC (.int 0)) (dCons (dV 2) dNil))))) (dFz (dLc [3] (dIt gRange2 (dCons (dC (.int 1)) (dCons (dV 1) dNil))) (gNm 3) dYes (dFn gTuple (dCons (dC (.int 1)) (dCons (dV 3) dNil)))))))
    dSkip)
/-- crossed_by -/
def b86 (C : Cals) : DS :=
  (dSeq (dAsg (dV 0) (gTp 2 (gsCons (gNm 2) (gsCons (gNm 3) gsNil))))
    (dSeq (dRet (dZ (dFn gLen (dCons (dFz (dLc [4] (dSeqI (dV 1)) (gNm 4) (dB (dChs (dIxV 4 (dV 2)) (gLt, (dV 3)) [(gLt, (dIxV 4 (dBin gAdd (dV 2) (dC (.int 2)))))])) (dV 4))) dNil))))
    dSkip))
/-- bare_lines -/
def b87 (C : Cals) : DS :=
  (dSeq (dRet (dLc [3] (dSeqI (dFz (dCall C 85 2 (dCons (dV 0) (dCons (dV 1) dNil))))) (gNm 3) (dB (dBin (gEq false) (dFz (dCall C 86 2 (dCons (dV 3) (dCons (dV 2) dNil)))) (dC (.int 0)))) (dV 3)))
    dSkip)
/-- is_domino -/
def b88 (C : Cals) : DS :=
  (dSeq (dRet (dZ (dBin (gEq false) (dFz (dFnO gSortedX (dCons (dFn gList (dCons (dBin gSubI (dIxV 0 (dC (.int 2))) (dIxV 0 (dC (.int 0)))) (dCons (dBin gSubI (dIxV 0 (dC (.int 3))) (dIxV 0 (dC (.int 1)))) dNil))) dNil))) (dFn gList (dCons (dC (.int 1)) (dCons (dC (.int 2)) dNil))))))
    dSkip)
/-- lying -/
def b89 (C : Cals) : DS :=
  (dSeq (dRet (dZ (dFn gTupOf (dCons (dFz (dFnO gSortedX (dCons (dFz (dLc [1] (dSeqI (dV 0)) (gNm 1) dYes (dFn gTuple (dCons (dIxV 1 (dC (.int 1))) (dCons (dIxV 1 (dC (.int 0))) (dCons (dIxV 1 (dC (.int 3))) (dCons (dIxV 1 (dC (.int 2))) dNil))))))) dNil))) dNil))))
    dSkip)
/-- grown_up -/
def b90 (C : Cals) : DS :=
  (dSeq (dSet 3 (dLc [6] (dSeqI (dV 2)) (gNm 6) (dB (dBin (gEq false) (dIxV 6 (dC (.int 3))) (dV 1))) (dV 6)))
    (dSeq (dSet 4 (dLc [6] (dSeqI (dV 3)) (gNm 6) dYes (dFn gTuple (dCons (dIxV 6 (dC (.int 0))) (dCons (dBin gAdd (dIxV 6 (dC (.int 1))) (dC (.int 2))) (dCons (dIxV 6 (dC (.int 2))) (dCons (dBin gAdd (dIxV 6 (dC (.int 3))) (dC (.int 2))) dNil)))))))
    (dSeq (dSet 5 (dLc2 [6, 7] [7] (dSeqI (dV 3)) (gNm 6) dYes (dIt gRange2 (dCons (dIxV 6 (dC (.int 0))) (dCons (dIxV 6 (dC (.int 2))) dNil))) (gNm 7) dYes (dFn gTuple (dCons (dV 7) (dCons (dIxV 6 (dC (.int 1))) (dCons (dBin gAdd (dV 7) (dC (.int 1))) (dCons (dBin gAdd (dIxV 6 (dC (.int 1))) (dC (.int 2))) dNil)))))))
    (dSeq (dRet (dZ (dFn gTupOf (dCons (dFz (dFnO gSortedX (dCons (dBin gAdd (dBin gAdd (dFz (dLc [6] (dSeqI (dV 2)) (gNm 6) (dB (dBinR (gInX true) (dV 6) 3)) (dV 6))) (dV 4)) (dV 5)) dNil))) dNil))))
    dSkip))))
/-- has_faultless_in -/
def b91 (C : Cals) : DS :=
  (dSeq (dIfS (dB (dBin (gEq false) (dBin gMul (dV 0) (dV 1)) (dC (.int 2)))) (dSeq (dRet (dZ (dC (.bl true))))
    dSkip) dSkip)
    (dSeq (dIfS (dOrT (dB (dBin gLt (dFn gMin (dCons (dV 0) (dCons (dV 1) dNil))) (dC (.int 5)))) (dB (dBin (gEq false) (dBin gMod (dBin gMul (dV 0) (dV 1)) (dC (.int 2))) (dC (.int 1))))) (dSeq (dRet (dZ (dC (.bl false))))
    dSkip) dSkip)
    (dSeq (dRet (dZ (dBin (gEq true) (dFn gTuple (dCons (dV 0) (dCons (dV 1) dNil))) (dFn gTuple (dCons (dC (.int 6)) (dCons (dC (.int 6)) dNil))))))
    dSkip)))
/-- faultless_in -/
def b92 (C : Cals) : DS :=
  (dSeq (dIfS (dB (dBin (gEq false) (dBin gMul (dV 0) (dV 1)) (dC (.int 2)))) (dSeq (dRet (dZ (dFn gTuple (dCons (dFn gTuple (dCons (dC (.int 0)) (dCons (dC (.int 0)) (dCons (dV 0) (dCons (dV 1) dNil))))) dNil))))
    dSkip) dSkip)
    (dSeq (dIfS (dB (dBin (gEq false) (dBin gMod (dV 0) (dC (.int 2))) (dC (.int 1)))) (dSeq (dRet (dCall C 93 5 (dCons (dC (.int 5)) (dCons (dC (.int 6)) (dCons (dC (.tup [.tup [.int 0, .int 0, .int 2, .int 1], .tup [.int 0, .int 1, .int 1, .int 3], .tup [.int 0, .int 3, .int 2, .int 4], .tup [.int 0, .int 4, .int 1, .int 6], .tup [.int 1, .int 1, .int 2, .int 3], .tup [.int 1, .int 4, .int 3, .int 5], .tup [.int 1, .int 5, .int 3, .int 6], .tup [.int 2, .int 0, .int 4, .int 1], .tup [.int 2, .int 1, .int 4, .int 2], .tup [.int 2, .int 2, .int 3, .int 4], .tup [.int 3, .int 2, .int 5, .int 3], .tup [.int 3, .int 3, .int 4, .int 5], .tup [.int 3, .int 5, .int 5, .int 6], .tup [.int 4, .int 0, .int 5, .int 2], .tup [.int 4, .int 3, .int 5, .int 5]])) (dCons (dV 0) (dCons (dV 1) dNil)))))))
    dSkip) dSkip)
    (dSeq (dIfS (dOrT (dB (dBin (gEq false) (dBin gMod (dV 1) (dC (.int 2))) (dC (.int 1)))) (dB (dBinL (gEq false) 1 (dC (.int 6))))) (dSeq (dRet (dCall C 89 1 (dCons (dFz (dCall C 92 2 (dCons (dV 1) (dCons (dV 0) dNil)))) dNil)))
    dSkip) dSkip)
    (dSeq (dRet (dCall C 93 5 (dCons (dC (.int 6)) (dCons (dC (.int 8)) (dCons (dC (.tup [.tup [.int 0, .int 0, .int 2, .int 1], .tup [.int 0, .int 1, .int 2, .int 2], .tup [.int 0, .int 2, .int 1, .int 4], .tup [.int 0, .int 4, .int 1, .int 6], .tup [.int 0, .int 6, .int 1, .int 8], .tup [.int 1, .int 2, .int 2, .int 4], .tup [.int 1, .int 4, .int 2, .int 6], .tup [.int 1, .int 6, .int 3, .int 7], .tup [.int 1, .int 7, .int 3, .int 8], .tup [.int 2, .int 0, .int 4, .int 1], .tup [.int 2, .int 1, .int 3, .int 3], .tup [.int 2, .int 3, .int 3, .int 5], .tup [.int 2, .int 5, .int 4, .int 6], .tup [.int 3, .int 1, .int 4, .int 3], .tup [.int 3, .int 3, .int 5, .int 4], .tup [.int 3, .int 4, .int 5, .int 5], .tup [.int 3, .int 6, .int 4, .int 8], .tup [.int 4, .int 0, .int 5, .int 2], .tup [.int 4, .int 2, .int 6, .int 3], .tup [.int 4, .int 5, .int 5, .int 7], .tup [.int 4, .int 7, .int 6, .int 8], .tup [.int 5, .int 0, .int 6, .int 2], .tup [.int 5, .int 3, .int 6, .int 5], .tup [.int 5, .int 5, .int 6, .int 7]])) (dCons (dV 0) (dCons (dV 1) dNil)))))))
    dSkip))))
/-- grown_to -/
def b93 (C : Cals) : DS :=
  (dSeq (whileD (dB (dBin gLt (dV 1) (dV 4))) (dSeq (dSet 2 (dCall C 90 3 (dCons (dV 0) (dCons (dV 1) (dCons (dV 2) dNil)))))
    (dSeq (dSet 1 (dBinM gAddL gAdd (dV 1) (dC (.int 2))))
    dSkip)) WF)
    (dSeq (dSet 2 (dCall C 89 1 (dCons (dV 2) dNil)))
    (dSeq (whileD (dB (dBin gLt (dV 0) (dV 3))) (dSeq (dSet 2 (dCall C 90 3 (dCons (dV 1) (dCons (dV 0) (dCons (dV 2) dNil)))))
    (dSeq (dSet 0 (dBinM gAddL gAdd (dV 0) (dC (.int 2))))
    dSkip)) WF)
    (dSeq (dRet (dCall C 89 1 (dCons (dV 2) dNil)))
    dSkip))))
/-- sure_brickwork -/
def b94 (C : Cals) : DS :=
  (dSeq (dSet 3 (dCall C 5 1 (dCons (dV 2) dNil)))
    (dSeq (dIfS (dNotT (dTru (dFz (dCall C 84 3 (dCons (dV 0) (dCons (dV 1) (dCons (dV 3) dNil))))))) (dSeq (dRaise 2)
    dSkip) dSkip)
    (dSeq (dRet (dMvZ 3))
    dSkip)))
/-- line_crossings -/
def b95 (C : Cals) : DS :=
  (dSeq (dSet 3 (dCall C 2 3 (dCons (dV 0) (dCons (dC (.int 1)) (dCons (dC (.int 40)) dNil)))))
    (dSeq (dSet 4 (dCall C 2 3 (dCons (dV 1) (dCons (dC (.int 1)) (dCons (dC (.int 40)) dNil)))))
    (dSeq (dSet 5 (dCall C 94 3 (dCons (dV 3) (dCons (dV 4) (dCons (dV 2) dNil)))))
    (dSeq (dRet (dZ (dFn gTupOf (dCons (dFz (dLc [6] (dSeqI (dFz (dCall C 85 2 (dCons (dV 3) (dCons (dV 4) dNil))))) (gNm 6) dYes (dFn gTuple (dCons (dV 6) (dCons (dFz (dCall C 86 2 (dCons (dV 6) (dCons (dV 5) dNil)))) dNil))))) dNil))))
    dSkip))))
/-- faults -/
def b96 (C : Cals) : DS :=
  (dSeq (dSet 3 (dCall C 2 3 (dCons (dV 0) (dCons (dC (.int 1)) (dCons (dC (.int 40)) dNil)))))
    (dSeq (dSet 4 (dCall C 2 3 (dCons (dV 1) (dCons (dC (.int 1)) (dCons (dC (.int 40)) dNil)))))
    (dSeq (dRet (dZ (dFn gTupOf (dCons (dFz (dCall C 87 3 (dCons (dV 3) (dCons (dV 4) (dCons (dFz (dCall C 94 3 (dCons (dV 3) (dCons (dV 4) (dCons (dV 2) dNil))))) dNil))))) dNil))))
    dSkip)))
/-- has_faultless -/
def b97 (C : Cals) : DS :=
  (dSeq (dSet 2 (dCall C 2 3 (dCons (dV 0) (dCons (dC (.int 1)) (dCons (dC (.int 40)) dNil)))))
    (dSeq (dRet (dCall C 91 2 (dCons (dV 2) (dCons (dFz (dCall C 2 3 (dCons (dV 1) (dCons (dC (.int 1)) (dCons (dC (.int 40)) dNil))))) dNil))))
    dSkip))
/-- faultless -/
def b98 (C : Cals) : DS :=
  (dSeq (dSet 2 (dCall C 2 3 (dCons (dV 0) (dCons (dC (.int 1)) (dCons (dC (.int 40)) dNil)))))
    (dSeq (dSet 3 (dCall C 2 3 (dCons (dV 1) (dCons (dC (.int 1)) (dCons (dC (.int 40)) dNil)))))
    (dSeq (dIfS (dNotT (dTru (dFz (dCall C 91 2 (dCons (dV 2) (dCons (dV 3) dNil)))))) (dSeq (dRaise 0)
    dSkip) dSkip)
    (dSeq (dRet (dCall C 92 2 (dCons (dV 2) (dCons (dV 3) dNil))))
    dSkip))))
/-- is_faultless -/
def b99 (C : Cals) : DS :=
  (dSeq (dSet 3 (dCall C 2 3 (dCons (dV 0) (dCons (dC (.int 1)) (dCons (dC (.int 40)) dNil)))))
    (dSeq (dSet 4 (dCall C 2 3 (dCons (dV 1) (dCons (dC (.int 1)) (dCons (dC (.int 40)) dNil)))))
    (dSeq (dIfS (dOrT (dNotT (dTru (dFz (dCall C 84 3 (dCons (dV 3) (dCons (dV 4) (dCons (dV 2) dNil))))))) (dNotT (dTru (dFn gAll (dCons (dFz (dLc [5] (dSeqI (dV 2)) (gNm 5) dYes (dFz (dCall C 88 1 (dCons (dV 5) dNil))))) dNil))))) (dSeq (dRet (dZ (dC (.bl false))))
    dSkip) dSkip)
    (dSeq (dRet (dZ (dBin (gEq false) (dFz (dCall C 87 3 (dCons (dV 3) (dCons (dV 4) (dCons (dV 2) dNil))))) (dFn gList dNil))))
    dSkip))))
/-- stretched_up -/
def b100 (C : Cals) : DS :=
  (dSeq (dSet 3 (dCall C 2 3 (dCons (dV 0) (dCons (dC (.int 1)) (dCons (dC (.int 40)) dNil)))))
    (dSeq (dSet 4 (dCall C 2 3 (dCons (dV 1) (dCons (dC (.int 1)) (dCons (dBin gSubI (dC (.int 40)) (dC (.int 2))) dNil)))))
    (dSeq (dSet 5 (dCall C 94 3 (dCons (dV 3) (dCons (dV 4) (dCons (dV 2) dNil)))))
    (dSeq (dIfS (dNotT (dTru (dFn gAll (dCons (dFz (dLc [6] (dSeqI (dV 5)) (gNm 6) dYes (dFz (dCall C 88 1 (dCons (dV 6) dNil))))) dNil)))) (dSeq (dRaise 0)
    dSkip) dSkip)
    (dSeq (dRet (dCall C 90 3 (dCons (dV 3) (dCons (dV 4) (dCons (dV 5) dNil)))))
    dSkip)))))
/-- is_root_in -/
def b101 (C : Cals) : DS :=
  (dSeq (dRet (dZ (dAndV (dFz (dCall C 3 2 (dCons (dV 0) (dCons (dC (.int 2)) dNil)))) (dFn gAll (dCons (dFz (dLc [1] (dSeqI (dV 0)) (gNm 1) dYes (dFz (dCall C 17 1 (dCons (dV 1) dNil))))) dNil)))))
    dSkip)
/-- is_near_root -/
def b102 (C : Cals) : DS :=
  (dSeq (dRet (dZ (dAndV (dFz (dCall C 101 1 (dCons (dV 0) dNil))) (dBin (gCmpI fun i j => decide (i ≤ j)) (dFn gMax (dCons (dFz (dLc2 [1, 2] [2] (dSeqI (dV 0)) (gNm 1) dYes (dSeqI (dV 1)) (gNm 2) dYes (dFn1 gAbs 2))) dNil)) (dC (.int 1000000))))))
    dSkip)
/-- sign_of -/
def b103 (C : Cals) : DS :=
  (dSeq (dAsg (dV 0) (gTp 2 (gsCons (gNm 1) (gsCons (gNm 2) gsNil))))
    (dSeq (dIfS (dOrT (dB (dBin (gEq false) (dIxV 1 (dC (.int 0))) (dC (.int 0)))) (dOrT (dB (dBin (gEq false) (dIxV 2 (dC (.int 0))) (dC (.int 0)))) (dB (dBin (gEq false) (dBin (gCmpI fun i j => decide (j < i)) (dIxV 1 (dC (.int 0))) (dC (.int 0))) (dBin (gCmpI fun i j => decide (j < i)) (dIxV 2 (dC (.int 0))) (dC (.int 0))))))) (dSeq (dSet 3 (dIfO (dB (dBin (gEq true) (dIxV 1 (dC (.int 0))) (dC (.int 0)))) (dZ (dIxV 1 (dC (.int 0)))) (dZ (dIxV 2 (dC (.int 0))))))
    (dSeq (dRet (dZ (dBin gSubI (dFn gInt (dCons (dBin (gCmpI fun i j => decide (j < i)) (dV 3) (dC (.int 0))) dNil)) (dFn gInt (dCons (dBin gLt (dV 3) (dC (.int 0))) dNil)))))
    dSkip)) dSkip)
    (dSeq (dSet 4 (dCall C 12 2 (dCons (dFz (dCall C 10 2 (dCons (dC (.tup [.int 2, .int 1])) (dCons (dFz (dCall C 10 2 (dCons (dV 2) (dCons (dV 2) dNil)))) dNil)))) (dCons (dFz (dCall C 10 2 (dCons (dV 1) (dCons (dV 1) dNil)))) dNil))))
    (dSeq (dRet (dBinM gMulL gMul (dBin gSubI (dFn gInt (dCons (dBin (gCmpI fun i j => decide (j < i)) (dIxV 1 (dC (.int 0))) (dC (.int 0))) dNil)) (dFn gInt (dCons (dBin gLt (dIxV 1 (dC (.int 0))) (dC (.int 0))) dNil))) (dIf (dTru (dV 4)) (dC (.int 1)) (dUn gNeg (dC (.int 1))))))
    dSkip))))
/-- root_plus -/
def b104 (C : Cals) : DS :=
  (dSeq (dRet (dZ (dFn gTuple (dCons (dFz (dCall C 8 2 (dCons (dIxV 0 (dC (.int 0))) (dCons (dIxV 1 (dC (.int 0))) dNil)))) (dCons (dFz (dCall C 8 2 (dCons (dIxV 0 (dC (.int 1))) (dCons (dIxV 1 (dC (.int 1))) dNil)))) dNil)))))
    dSkip)
/-- root_less -/
def b105 (C : Cals) : DS :=
  (dSeq (dRet (dZ (dFn gTuple (dCons (dFz (dCall C 9 2 (dCons (dIxV 0 (dC (.int 0))) (dCons (dIxV 1 (dC (.int 0))) dNil)))) (dCons (dFz (dCall C 9 2 (dCons (dIxV 0 (dC (.int 1))) (dCons (dIxV 1 (dC (.int 1))) dNil)))) dNil)))))
    dSkip)
/-- root_times -/
def b106 (C : Cals) : DS :=
  (dSeq (dSet 2 (dCall C 8 2 (dCons (dFz (dCall C 10 2 (dCons (dIxV 0 (dC (.int 0))) (dCons (dIxV 1 (dC (.int 0))) dNil)))) (dCons (dFz (dCall C 10 2 (dCons (dC (.tup [.int 2, .int 1])) (dCons (dFz (dCall C 10 2 (dCons (dIxV 0 (dC (.int 1))) (dCons (dIxV 1 (dC (.int 1))) dNil)))) dNil)))) dNil))))
    (dSeq (dRet (dZ (dFn gTuple (dCons (dV 2) (dCons (dFz (dCall C 8 2 (dCons (dFz (dCall C 10 2 (dCons (dIxV 0 (dC (.int 0))) (dCons (dIxV 1 (dC (.int 1))) dNil)))) (dCons (dFz (dCall C 10 2 (dCons (dIxV 0 (dC (.int 1))) (dCons (dIxV 1 (dC (.int 0))) dNil)))) dNil)))) dNil)))))
    dSkip))
/-- root_under -/
def b107 (C : Cals) : DS :=
  (dSeq (dRet (dZ (dBin (gEq false) (dFz (dCall C 103 1 (dCons (dFz (dCall C 105 2 (dCons (dV 0) (dCons (dV 1) dNil)))) dNil))) (dUn gNeg (dC (.int 1))))))
    dSkip)
/-- is_rooted_in -/
def b108 (C : Cals) : DS :=
  (dSeq (dIfS (dOrT (dNotT (dTru (dFz (dCall C 3 2 (dCons (dV 0) (dCons (dC (.int 4)) dNil)))))) (dNotT (dTru (dFn gAll (dCons (dFz (dLc [1] (dSeqI (dV 0)) (gNm 1) dYes (dFz (dCall C 101 1 (dCons (dV 1) dNil))))) dNil))))) (dSeq (dRet (dZ (dC (.bl false))))
    dSkip) dSkip)
    (dSeq (dRet (dZ (dAndV (dFz (dCall C 107 2 (dCons (dIxV 0 (dC (.int 0))) (dCons (dIxV 0 (dC (.int 2))) dNil)))) (dFz (dCall C 107 2 (dCons (dIxV 0 (dC (.int 1))) (dCons (dIxV 0 (dC (.int 3))) dNil)))))))
    dSkip))
/-- is_near_rooted -/
def b109 (C : Cals) : DS :=
  (dSeq (dRet (dZ (dAndV (dFz (dCall C 108 1 (dCons (dV 0) dNil))) (dFn gAll (dCons (dFz (dLc [1] (dSeqI (dV 0)) (gNm 1) dYes (dFz (dCall C 102 1 (dCons (dV 1) dNil))))) dNil)))))
    dSkip)
/-- sure_rooted -/
def b110 (C : Cals) : DS :=
  (dSeq (dSet 1 (dCall C 5 1 (dCons (dV 0) dNil)))
    (dSeq (dIfS (dNotT (dTru (dFz (dCall C 109 1 (dCons (dV 1) dNil))))) (dSeq (dRaise 2)
    dSkip) dSkip)
    (dSeq (dRet (dMvZ 1))
    dSkip)))
/-- are_near_rooted -/
def b111 (C : Cals) : DS :=
  (dSeq (dIfS (dOrT (dNotT (dTru (dIsi (dV 0) [.tup]))) (dNotT (dB (dChs (dC (.int 1)) ((gCmpI fun i j => decide (i ≤ j)), (dFn1 gLen 0)) [((gCmpI fun i j => decide (i ≤ j)), (dC (.int 30)))])))) (dSeq (dRet (dZ (dC (.bl false))))
    dSkip) dSkip)
    (dSeq (dRet (dZ (dFn gAll (dCons (dFz (dLc [1] (dSeqI (dV 0)) (gNm 1) dYes (dFz (dCall C 109 1 (dCons (dV 1) dNil))))) dNil))))
    dSkip))
/-- sure_many_rooted -/
def b112 (C : Cals) : DS :=
  (dSeq (dSet 1 (dCall C 5 1 (dCons (dV 0) dNil)))
    (dSeq (dIfS (dNotT (dTru (dFz (dCall C 111 1 (dCons (dV 1) dNil))))) (dSeq (dRaise 2)
    dSkip) dSkip)
    (dSeq (dRet (dMvZ 1))
    dSkip)))
/-- root_sides_in -/
def b113 (C : Cals) : DS :=
  (dSeq (dRet (dZ (dFn gTuple (dCons (dFz (dCall C 105 2 (dCons (dIxV 0 (dC (.int 2))) (dCons (dIxV 0 (dC (.int 0))) dNil)))) (dCons (dFz (dCall C 105 2 (dCons (dIxV 0 (dC (.int 3))) (dCons (dIxV 0 (dC (.int 1))) dNil)))) dNil)))))
    dSkip)
/-- lies_within -/
def b114 (C : Cals) : DS :=
  (dSeq (dSet 2 (dZ (dAndV (dNotV (dFz (dCall C 107 2 (dCons (dIxV 1 (dC (.int 0))) (dCons (dIxV 0 (dC (.int 0))) dNil))))) (dNotV (dFz (dCall C 107 2 (dCons (dIxV 1 (dC (.int 1))) (dCons (dIxV 0 (dC (.int 1))) dNil))))))))
    (dSeq (dRet (dZ (dAndV (dV 2) (dAndV (dNotV (dFz (dCall C 107 2 (dCons (dIxV 0 (dC (.int 2))) (dCons (dIxV 1 (dC (.int 2))) dNil))))) (dNotV (dFz (dCall C 107 2 (dCons (dIxV 0 (dC (.int 3))) (dCons (dIxV 1 (dC (.int 3))) dNil)))))))))
    dSkip))
/-- do_share -/
def b115 (C : Cals) : DS :=
  (dSeq (dSet 2 (dZ (dAndV (dFz (dCall C 107 2 (dCons (dIxV 0 (dC (.int 0))) (dCons (dIxV 1 (dC (.int 2))) dNil)))) (dFz (dCall C 107 2 (dCons (dIxV 1 (dC (.int 0))) (dCons (dIxV 0 (dC (.int 2))) dNil)))))))
    (dSeq (dRet (dZ (dAndV (dV 2) (dAndV (dFz (dCall C 107 2 (dCons (dIxV 0 (dC (.int 1))) (dCons (dIxV 1 (dC (.int 3))) dNil)))) (dFz (dCall C 107 2 (dCons (dIxV 1 (dC (.int 1))) (dCons (dIxV 0 (dC (.int 3))) dNil))))))))
    dSkip))
/-- area_of -/
def b116 (C : Cals) : DS :=
  (dSeq (dSet 1 (dZ (dFn gTuple (dCons (dC (.tup [.int 0, .int 1])) (dCons (dC (.tup [.int 0, .int 1])) dNil)))))
    (dSeq (dFor (dSeqI (dV 0)) (gNm 2) (dSeq (dAsg (dFz (dCall C 113 1 (dCons (dV 2) dNil))) (gTp 2 (gsCons (gNm 3) (gsCons (gNm 4) gsNil))))
    (dSeq (dSet 1 (dCall C 104 2 (dCons (dV 1) (dCons (dFz (dCall C 106 2 (dCons (dV 3) (dCons (dV 4) dNil)))) dNil))))
    dSkip)))
    (dSeq (dRet (dMvZ 1))
    dSkip)))
/-- is_root_laid -/
def b117 (C : Cals) : DS :=
  (dSeq (dIfS (dNotT (dTru (dFn gAll (dCons (dFz (dLc [3] (dSeqI (dV 1)) (gNm 3) dYes (dFz (dCall C 114 2 (dCons (dV 0) (dCons (dV 3) dNil)))))) dNil)))) (dSeq (dRet (dZ (dC (.bl false))))
    dSkip) dSkip)
    (dSeq (dSet 2 (dLc2 [4, 5] [5] (dIt gRange1 (dCons (dFn1 gLen 1) dNil)) (gNm 4) dYes (dIt gRange1 (dCons (dV 4) dNil)) (gNm 5) dYes (dFn gTuple (dCons (dV 5) (dCons (dV 4) dNil)))))
    (dSeq (dIfS (dTru (dFn gAny (dCons (dFz (dLc [5, 4] (dSeqI (dV 2)) (gTp 2 (gsCons (gNm 5) (gsCons (gNm 4) gsNil))) dYes (dFz (dCall C 115 2 (dCons (dIxV 1 (dV 5)) (dCons (dIxV 1 (dV 4)) dNil)))))) dNil))) (dSeq (dRet (dZ (dC (.bl false))))
    dSkip) dSkip)
    (dSeq (dRet (dZ (dBin (gEq false) (dFz (dCall C 116 1 (dCons (dV 1) dNil))) (dFz (dCall C 116 1 (dCons (dFn gTuple (dCons (dV 0) dNil)) dNil))))))
    dSkip))))
/-- sure_root_laying -/
def b118 (C : Cals) : DS :=
  (dSeq (dSet 2 (dCall C 110 1 (dCons (dV 0) dNil)))
    (dSeq (dSet 3 (dCall C 112 1 (dCons (dV 1) dNil)))
    (dSeq (dIfS (dNotT (dTru (dFz (dCall C 117 2 (dCons (dV 2) (dCons (dV 3) dNil)))))) (dSeq (dRaise 2)
    dSkip) dSkip)
    (dSeq (dRet (dZ (dFn gTuple (dCons (dV 2) (dCons (dV 3) dNil)))))
    dSkip))))
/-- twist_in -/
def b119 (C : Cals) : DS :=
  (dSeq (dAsg (dFz (dCall C 113 1 (dCons (dV 0) dNil))) (gTp 2 (gsCons (gNm 1) (gsCons (gNm 2) gsNil))))
    (dSeq (dRet (dCall C 9 2 (dCons (dFz (dCall C 10 2 (dCons (dIxV 1 (dC (.int 0))) (dCons (dIxV 2 (dC (.int 1))) dNil)))) (dCons (dFz (dCall C 10 2 (dCons (dIxV 1 (dC (.int 1))) (dCons (dIxV 2 (dC (.int 0))) dNil)))) dNil))))
    dSkip))
/-- twists_in -/
def b120 (C : Cals) : DS :=
  (dSeq (dSet 1 (dZ (dC (.tup [.int 0, .int 1]))))
    (dSeq (dFor (dSeqI (dV 0)) (gNm 2) (dSeq (dSet 1 (dCall C 8 2 (dCons (dV 1) (dCons (dFz (dCall C 119 1 (dCons (dV 2) dNil))) dNil))))
    dSkip))
    (dSeq (dRet (dMvZ 1))
    dSkip)))
/-- root_sign -/
def b121 (C : Cals) : DS :=
  (dSeq (dSet 1 (dCall C 5 1 (dCons (dV 0) dNil)))
    (dSeq (dIfS (dNotT (dTru (dFz (dCall C 102 1 (dCons (dV 1) dNil))))) (dSeq (dRaise 2)
    dSkip) dSkip)
    (dSeq (dRet (dCall C 103 1 (dCons (dV 1) dNil)))
    dSkip)))
/-- rooted_sides -/
def b122 (C : Cals) : DS :=
  (dSeq (dRet (dCall C 113 1 (dCons (dFz (dCall C 110 1 (dCons (dV 0) dNil))) dNil)))
    dSkip)
/-- rooted_area -/
def b123 (C : Cals) : DS :=
  (dSeq (dRet (dCall C 116 1 (dCons (dFn gTuple (dCons (dFz (dCall C 110 1 (dCons (dV 0) dNil))) dNil)) dNil)))
    dSkip)
/-- is_rooted_laying -/
def b124 (C : Cals) : DS :=
  (dSeq (dSet 2 (dCall C 110 1 (dCons (dV 0) dNil)))
    (dSeq (dRet (dCall C 117 2 (dCons (dV 2) (dCons (dFz (dCall C 112 1 (dCons (dV 1) dNil))) dNil))))
    dSkip))
/-- twist -/
def b125 (C : Cals) : DS :=
  (dSeq (dRet (dCall C 119 1 (dCons (dFz (dCall C 110 1 (dCons (dV 0) dNil))) dNil)))
    dSkip)
/-- twists -/
def b126 (C : Cals) : DS :=
  (dSeq (dRet (dCall C 120 1 (dCons (dFz (dCall C 112 1 (dCons (dV 0) dNil))) dNil)))
    dSkip)
/-- ratio_of -/
def b127 (C : Cals) : DS :=
  (dSeq (dAsg (dFz (dCall C 113 1 (dCons (dFz (dCall C 110 1 (dCons (dV 0) dNil))) dNil))) (gTp 2 (gsCons (gNm 1) (gsCons (gNm 2) gsNil))))
    (dSeq (dIfS (dB (dBin (gEq true) (dFz (dCall C 9 2 (dCons (dFz (dCall C 10 2 (dCons (dIxV 1 (dC (.int 0))) (dCons (dIxV 2 (dC (.int 1))) dNil)))) (dCons (dFz (dCall C 10 2 (dCons (dIxV 1 (dC (.int 1))) (dCons (dIxV 2 (dC (.int 0))) dNil)))) dNil)))) (dC (.tup [.int 0, .int 1])))) (dSeq (dRaise 0)
    dSkip) dSkip)
    (dSeq (dRet (dIfO (dB (dBin (gEq true) (dIx2 2 (.c 0) (.c 0)) (dC (.int 0)))) (dCall C 11 2 (dCons (dIxV 1 (dC (.int 0))) (dCons (dIxV 2 (dC (.int 0))) dNil))) (dCall C 11 2 (dCons (dIxV 1 (dC (.int 1))) (dCons (dIxV 2 (dC (.int 1))) dNil)))))
    dSkip)))
/-- first_twisted -/
def b128 (C : Cals) : DS :=
  (dSeq (dSet 2 (dZ (dBin gIx (dFz (dCall C 118 2 (dCons (dV 0) (dCons (dV 1) dNil)))) (dC (.int 1)))))
    (dSeq (dSet 3 (dLc [4, 5] (dIt gEnum (dCons (dV 2) dNil)) (gTp 2 (gsCons (gNm 4) (gsCons (gNm 5) gsNil))) (dB (dBin (gEq true) (dFz (dCall C 119 1 (dCons (dV 5) dNil))) (dC (.tup [.int 0, .int 1])))) (dV 4)))
    (dSeq (dIfS (dB (dBinL (gEq false) 3 (dFn gList dNil))) (dSeq (dRaise 0)
    dSkip) dSkip)
    (dSeq (dRet (dZ (dIxV 3 (dC (.int 0)))))
    dSkip))))
/-- as_rooted -/
def b129 (C : Cals) : DS :=
  (dSeq (dSet 3 (dCall C 5 1 (dCons (dV 0) dNil)))
    (dSeq (dIfS (dOrT (dNotT (dTru (dFz (dCall C 3 2 (dCons (dV 3) (dCons (dC (.int 4)) dNil)))))) (dNotT (dTru (dFn gAll (dCons (dFz (dLc [6] (dSeqI (dV 3)) (gNm 6) dYes (dFz (dCall C 17 1 (dCons (dV 6) dNil))))) dNil))))) (dSeq (dRaise 2)
    dSkip) dSkip)
    (dSeq (dSet 4 (dZ (dFn gTuple (dCons (dFz (dCall C 5 1 (dCons (dV 1) dNil))) (dCons (dFz (dCall C 5 1 (dCons (dV 2) dNil))) dNil)))))
    (dSeq (dIfS (dNotT (dTru (dFn gAll (dCons (dFz (dLc [6] (dSeqI (dV 4)) (gNm 6) dYes (dAndV (dFz (dCall C 102 1 (dCons (dV 6) dNil))) (dBin (gEq false) (dFz (dCall C 103 1 (dCons (dV 6) dNil))) (dC (.int 1)))))) dNil)))) (dSeq (dRaise 2)
    dSkip) dSkip)
    (dSeq (dSet 5 (dZ (dFn gTupOf (dCons (dFz (dLc [7, 8] (dIt gEnum (dCons (dV 3) dNil)) (gTp 2 (gsCons (gNm 7) (gsCons (gNm 8) gsNil))) dYes (dFz (dCall C 106 2 (dCons (dFn gTuple (dCons (dV 8) (dCons (dC (.tup [.int 0, .int 1])) dNil))) (dCons (dIxV 4 (dBin gMod (dV 7) (dC (.int 2)))) dNil)))))) dNil))))
    (dSeq (dIfS (dNotT (dTru (dFz (dCall C 109 1 (dCons (dV 5) dNil))))) (dSeq (dRaise 2)
    dSkip) dSkip)
    (dSeq (dRet (dMvZ 5))
    dSkip)))))))
/-- is_square_in -/
def b130 (C : Cals) : DS :=
  (dSeq (dRet (dZ (dBin (gEq false) (dFz (dCall C 9 2 (dCons (dIxV 0 (dC (.int 2))) (dCons (dIxV 0 (dC (.int 0))) dNil)))) (dFz (dCall C 9 2 (dCons (dIxV 0 (dC (.int 3))) (dCons (dIxV 0 (dC (.int 1))) dNil)))))))
    dSkip)
/-- is_code_in -/
def b131 (C : Cals) : DS :=
  (dSeq (dIfS (dOrT (dNotT (dTru (dIsi (dV 0) [.tup]))) (dB (dBinL (gEq false) 0 (dFn gTuple dNil)))) (dSeq (dRet (dZ (dC (.bl false))))
    dSkip) dSkip)
    (dSeq (dIfS (dNotT (dTru (dFn gAll (dCons (dFz (dLc [1] (dSeqI (dV 0)) (gNm 1) dYes (dAndV (dIsi (dV 1) [.tup]) (dBinL (gEq true) 1 (dFn gTuple dNil))))) dNil)))) (dSeq (dRet (dZ (dC (.bl false))))
    dSkip) dSkip)
    (dSeq (dRet (dZ (dFn gAll (dCons (dFz (dLc2 [1, 2] [2] (dSeqI (dV 0)) (gNm 1) dYes (dSeqI (dV 1)) (gNm 2) dYes (dFz (dCall C 1 3 (dCons (dV 2) (dCons (dC (.int 1)) (dCons (dC (.int 1000000)) dNil))))))) dNil))))
    dSkip)))
/-- sure_code -/
def b132 (C : Cals) : DS :=
  (dSeq (dSet 1 (dCall C 5 1 (dCons (dV 0) dNil)))
    (dSeq (dIfS (dOrT (dNotT (dTru (dFz (dCall C 131 1 (dCons (dV 1) dNil))))) (dB (dBin (gCmpI fun i j => decide (j < i)) (dFn gSum (dCons (dFz (dLc [2] (dSeqI (dV 1)) (gNm 2) dYes (dFn1 gLen 2))) dNil)) (dC (.int 60))))) (dSeq (dRaise 2)
    dSkip) dSkip)
    (dSeq (dRet (dMvZ 1))
    dSkip)))
/-- levels_joined -/
def b133 (C : Cals) : DS :=
  (dSeq (dSet 1 (dFnO gListO (dCons (dIxV 0 (dC (.int 0))) dNil)))
    (dSeq (dFor (dSeqI (dSl (dV 0) (dP (dC (.int 1))) dNoP)) (gNm 2) (dSeq (dIfS (dB (dBin (gEq false) (dIxV 2 (dC (.int 0))) (dBin gIx (dIxV 1 (dUn gNeg (dC (.int 1)))) (dC (.int 0))))) (dSeq (dSet 1 (dBinM gAddL gAdd (dSl (dV 1) dNoP (dP (dUn gNeg (dC (.int 1))))) (dFn gList (dCons (dFn gTuple (dCons (dIxV 2 (dC (.int 0))) (dCons (dBin gIx (dIxV 1 (dUn gNeg (dC (.int 1)))) (dC (.int 1))) (dCons (dIxV 2 (dC (.int 2))) dNil)))) dNil))))
    dSkip) (dSeq (dSet 1 (dBinM gAddL gAdd (dV 1) (dFn gList (dCons (dV 2) dNil))))
    dSkip))
    dSkip))
    (dSeq (dRet (dMvZ 1))
    dSkip)))
/-- lowest_level -/
def b134 (C : Cals) : DS :=
  (dSeq (dSet 1 (dLc [2] (dSeqI (dV 0)) (gNm 2) dYes (dIxV 2 (dC (.int 0)))))
    (dSeq (dRet (dZ (dMt 1 gIndex (dCons (dFn1 gMin 1) dNil))))
    dSkip))
/-- row_laid -/
def b135 (C : Cals) : DS :=
  (dSeq (dSet 2 (dCall C 134 1 (dCons (dV 0) dNil)))
    (dSeq (dAsg (dIxV 0 (dV 2)) (gTp 3 (gsCons (gNm 3) (gsCons (gNm 4) (gsCons (gNm 5) gsNil)))))
    (dSeq (dIfS (dB (dBin (gEq true) (dFn1 gSum 1) (dBin gSubI (dV 5) (dV 4)))) (dSeq (dRet (dZ (dC (.non))))
    dSkip) dSkip)
    (dSeq (dPar [6, 7, 8] (dConsO (dFnO gListO dNil) (dConsO (dFnO gListO dNil) (dConsO (dZ (dV 4)) dNilO))))
    (dSeq (dFor (dSeqI (dV 1)) (gNm 9) (dSeq (dEx (dMt 6 gAppend (dCons (dFn gTuple (dCons (dV 8) (dCons (dV 3) (dCons (dBin gAdd (dV 8) (dV 9)) (dCons (dBin gAdd (dV 3) (dV 9)) dNil))))) dNil)))
    (dSeq (dEx (dMt 7 gAppend (dCons (dFn gTuple (dCons (dBin gAdd (dV 3) (dV 9)) (dCons (dV 8) (dCons (dBin gAdd (dV 8) (dV 9)) dNil)))) dNil)))
    (dSeq (dAug 8 augAdd (dV 9))
    dSkip))))
    (dSeq (dRet (dZ (dFn gTuple (dCons (dV 6) (dCons (dFz (dCall C 133 1 (dCons (dBin gAdd (dBin gAdd (dSl (dV 0) dNoP (dP (dV 2))) (dV 7)) (dSl (dV 0) (dP (dBin gAdd (dV 2) (dC (.int 1)))) dNoP)) dNil))) dNil)))))
    dSkip))))))
/-- squares_by -/
def b136 (C : Cals) : DS :=
  (dSeq (dPar [2, 3] (dConsO (dFnO gListO (dCons (dFn gTuple (dCons (dC (.int 0)) (dCons (dC (.int 0)) (dCons (dV 0) dNil)))) dNil)) (dConsO (dFnO gListO dNil) dNilO)))
    (dSeq (dFor (dSeqI (dV 1)) (gNm 4) (dSeq (dSet 5 (dCall C 135 2 (dCons (dV 2) (dCons (dV 4) dNil))))
    (dSeq (dIfS (dB (dBin (gIsN false) (dV 5) (dC (.non)))) (dSeq (dRet (dZ (dC (.non))))
    dSkip) dSkip)
    (dSeq (dSet 3 (dBinM gAddL gAdd (dV 3) (dIxV 5 (dC (.int 0)))))
    (dSeq (dSet 2 (dZ (dIxV 5 (dC (.int 1)))))
    dSkip)))))
    (dSeq (dRet (dIfO (dB (dBin (gEq false) (dFn1 gLen 2) (dC (.int 1)))) (dZ (dFn gTuple (dCons (dIx2 2 (.c 0) (.c 0)) (dCons (dV 3) dNil)))) (dZ (dC (.non)))))
    dSkip)))
/-- as_rectangle -/
def b137 (C : Cals) : DS :=
  (dSeq (dRet (dZ (dFn gTupOf (dCons (dFz (dLc [1] (dSeqI (dV 0)) (gNm 1) dYes (dFn gTuple (dCons (dV 1) (dCons (dC (.int 1)) dNil))))) dNil))))
    dSkip)
/-- code_rows -/
def b138 (C : Cals) : DS :=
  (dSeq (dPar [2, 3, 4] (dConsO (dFnO gListO (dCons (dFn gTuple (dCons (dC (.int 0)) (dCons (dC (.int 0)) (dCons (dV 0) dNil)))) dNil)) (dConsO (dFnO gListOf (dCons (dV 1) dNil)) (dConsO (dFnO gListO dNil) dNilO))))
    (dSeq (whileD (dB (dBinL (gEq true) 3 (dFn gList dNil))) (dSeq (dAsg (dIxV 2 (dFz (dCall C 134 1 (dCons (dV 2) dNil)))) (gTp 3 (gsCons (gNm 5) (gsCons (gNm 6) (gsCons (gNm 7) gsNil)))))
    (dSeq (dSet 8 (dFnO gSortedX (dCons (dFz (dLc [10] (dSeqI (dV 3)) (gNm 10) (dAndT (dB (dBin (gEq false) (dIxV 10 (dC (.int 1))) (dV 5))) (dB (dChs (dV 6) ((gCmpI fun i j => decide (i ≤ j)), (dIxV 10 (dC (.int 0)))) [(gLt, (dV 7))]))) (dV 10))) dNil)))
    (dSeq (dSet 9 (dZ (dFn gTupOf (dCons (dFz (dLc [10] (dSeqI (dV 8)) (gNm 10) dYes (dBin gSubI (dIxV 10 (dC (.int 2))) (dIxV 10 (dC (.int 0)))))) dNil))))
    (dSeq (dEx (dMt 4 gAppend (dCons (dV 9) dNil)))
    (dSeq (dSet 2 (dZ (dBin gIx (dFz (dCall C 135 2 (dCons (dV 2) (dCons (dV 9) dNil)))) (dC (.int 1)))))
    (dSeq (dSet 3 (dLc [10] (dSeqI (dV 3)) (gNm 10) (dB (dBinR (gInX true) (dV 10) 8)) (dV 10)))
    dSkip)))))) WF)
    (dSeq (dRet (dZ (dFn gTupOf (dCons (dV 4) dNil))))
    dSkip)))
/-- greatest_first -/
def b139 (C : Cals) : DS :=
  (dSeq (dPar [2, 3, 4] (dConsO (dFnO gListO dNil) (dConsO (dZ (dC (.int 0))) (dConsO (dZ (dC (.int 0))) dNilO))))
    (dSeq (whileD (dAndT (dB (dBin gLt (dV 3) (dV 0))) (dB (dBin gLt (dV 4) (dV 1)))) (dSeq (dSet 5 (dZ (dFn gMin (dCons (dBin gSubI (dV 0) (dV 3)) (dCons (dBin gSubI (dV 1) (dV 4)) dNil)))))
    (dSeq (dEx (dMt 2 gAppend (dCons (dFn gTuple (dCons (dV 3) (dCons (dV 4) (dCons (dBin gAdd (dV 3) (dV 5)) (dCons (dBin gAdd (dV 4) (dV 5)) dNil))))) dNil)))
    (dSeq (dIfS (dB (dBin (gCmpI fun i j => decide (j ≤ i)) (dBin gSubI (dV 0) (dV 3)) (dBin gSubI (dV 1) (dV 4)))) (dSeq (dSet 3 (dBinM gAddL gAdd (dV 3) (dV 5)))
    dSkip) (dSeq (dSet 4 (dBinM gAddL gAdd (dV 4) (dV 5)))
    dSkip))
    dSkip))) WF)
    (dSeq (dRet (dMvZ 2))
    dSkip)))
/-- first_fit -/
def b140 (C : Cals) : DS :=
  (dSeq (dFor (dIt gEnum (dCons (dV 0) dNil)) (gTp 2 (gsCons (gNm 1) (gsCons (gNm 2) gsNil))) (dSeq (dFor (dIt gEnum (dCons (dV 2) dNil)) (gTp 2 (gsCons (gNm 3) (gsCons (gNm 4) gsNil))) (dSeq (dIfS (dB (dBinL (gEq false) 4 (dC (.int 0)))) (dSeq (dRet (dZ (dFn gTuple (dCons (dV 3) (dCons (dV 1) dNil)))))
    dSkip) dSkip)
    dSkip))
    dSkip))
    (dSeq (dRet (dZ (dC (.non))))
    dSkip))
/-- can_lie -/
def b141 (C : Cals) : DS :=
  (dSeq (dIfS (dOrT (dB (dBin (gCmpI fun i j => decide (j < i)) (dBin gAdd (dV 2) (dV 3)) (dFn1 gLen 0))) (dB (dBin (gCmpI fun i j => decide (j < i)) (dBin gAdd (dV 1) (dV 3)) (dFn gLen (dCons (dIxV 0 (dC (.int 0))) dNil))))) (dSeq (dRet (dZ (dC (.bl false))))
    dSkip) dSkip)
    (dSeq (dRet (dZ (dFn gAll (dCons (dFz (dLc2 [4, 5] [5] (dIt gRange1 (dCons (dV 3) dNil)) (gNm 4) dYes (dIt gRange1 (dCons (dV 3) dNil)) (gNm 5) dYes (dBin (gEq false) (dBin gIx (dIxV 0 (dBin gAdd (dV 2) (dV 4))) (dBin gAdd (dV 1) (dV 5))) (dC (.int 0))))) dNil))))
    dSkip))
/-- marked -/
def b142 (C : Cals) : DS :=
  (dSeq (dAsg (dV 1) (gTp 4 (gsCons (gNm 2) (gsCons (gNm 3) (gsCons (gNm 4) (gsCons (gNm 5) gsNil))))))
    (dSeq (dRet (dZ (dFn gTupOf (dCons (dFz (dLc [6, 7] (dIt gEnum (dCons (dV 0) dNil)) (gTp 2 (gsCons (gNm 6) (gsCons (gNm 7) gsNil))) dYes (dFn gTupOf (dCons (dFz (dLc [8, 9] (dIt gEnum (dCons (dV 7) dNil)) (gTp 2 (gsCons (gNm 8) (gsCons (gNm 9) gsNil))) dYes (dIf (dAndT (dB (dChs (dV 2) ((gCmpI fun i j => decide (i ≤ j)), (dV 8)) [(gLt, (dV 4))])) (dB (dChs (dV 3) ((gCmpI fun i j => decide (i ≤ j)), (dV 6)) [(gLt, (dV 5))]))) (dC (.int 1)) (dV 9)))) dNil)))) dNil))))
    dSkip))
/-- filled_by -/
def b143 (C : Cals) : DS :=
  (dSeq (dSet 2 (dCall C 140 1 (dCons (dV 0) dNil)))
    (dSeq (dIfS (dB (dBin (gIsN false) (dV 2) (dC (.non)))) (dSeq (dRet (dZ (dFn gTuple dNil)))
    dSkip) dSkip)
    (dSeq (dIfS (dB (dBinL (gEq false) 1 (dC (.int 0)))) (dSeq (dRet (dZ (dC (.non))))
    dSkip) dSkip)
    (dSeq (dAsg (dFn gTuple (dCons (dC (.non)) (dCons (dV 2) dNil))) (gTp 2 (gsCons (gNm 3) (gsCons (gTp 2 (gsCons (gNm 4) (gsCons (gNm 5) gsNil))) gsNil))))
    (dSeq (dFor (dIt gRange3 (dCons (dFn gMin (dCons (dFn1 gLen 0) (dCons (dFn gLen (dCons (dIxV 0 (dC (.int 0))) dNil)) dNil))) (dCons (dC (.int 0)) (dCons (dUn gNeg (dC (.int 1))) dNil)))) (gNm 6) (dSeq (dIfS (dTru (dFz (dCall C 141 4 (dCons (dV 0) (dCons (dV 4) (dCons (dV 5) (dCons (dV 6) dNil))))))) (dSeq (dSet 7 (dZ (dFn gTuple (dCons (dV 4) (dCons (dV 5) (dCons (dBin gAdd (dV 4) (dV 6)) (dCons (dBin gAdd (dV 5) (dV 6)) dNil)))))))
    (dSeq (dSet 8 (dCall C 143 2 (dCons (dFz (dCall C 142 2 (dCons (dV 0) (dCons (dV 7) dNil)))) (dCons (dIf (dB (dBin (gIsN false) (dV 3) (dC (.non)))) (dBin gSubI (dV 1) (dC (.int 1))) (dBin gSubI (dFn1 gLen 3) (dC (.int 2)))) dNil))))
    (dSeq (dIfS (dAndT (dB (dBin (gIsN true) (dV 8) (dC (.non)))) (dOrT (dB (dBin (gIsN false) (dV 3) (dC (.non)))) (dB (dBin gLt (dBin gAdd (dFn1 gLen 8) (dC (.int 1))) (dFn1 gLen 3))))) (dSeq (dSet 3 (dBinM gAddL gAdd (dFn gTuple (dCons (dV 7) dNil)) (dV 8)))
    dSkip) dSkip)
    dSkip))) dSkip)
    dSkip))
    (dSeq (dRet (dMvZ 3))
    dSkip))))))
/-- are_squares -/
def b144 (C : Cals) : DS :=
  (dSeq (dRet (dZ (dFn gAll (dCons (dFz (dLc [1] (dSeqI (dFz (dCall C 23 1 (dCons (dV 0) dNil)))) (gNm 1) dYes (dFz (dCall C 130 1 (dCons (dV 1) dNil))))) dNil))))
    dSkip)
/-- none_alike -/
def b145 (C : Cals) : DS :=
  (dSeq (dSet 1 (dLc [2] (dSeqI (dFz (dCall C 23 1 (dCons (dV 0) dNil)))) (gNm 2) dYes (dFn gTuple (dCons (dFz (dCall C 9 2 (dCons (dIxV 2 (dC (.int 2))) (dCons (dIxV 2 (dC (.int 0))) dNil)))) (dCons (dFz (dCall C 9 2 (dCons (dIxV 2 (dC (.int 3))) (dCons (dIxV 2 (dC (.int 1))) dNil)))) dNil)))))
    (dSeq (dRet (dZ (dBin (gEq false) (dLenSet (dV 1)) (dFn1 gLen 1))))
    dSkip))
/-- squares_of_code -/
def b146 (C : Cals) : DS :=
  (dSeq (dSet 2 (dCall C 2 3 (dCons (dV 0) (dCons (dC (.int 1)) (dCons (dC (.int 1000000)) dNil)))))
    (dSeq (dSet 3 (dCall C 136 2 (dCons (dV 2) (dCons (dFz (dCall C 132 1 (dCons (dV 1) dNil))) dNil))))
    (dSeq (dIfS (dB (dBin (gIsN false) (dV 3) (dC (.non)))) (dSeq (dRaise 0)
    dSkip) dSkip)
    (dSeq (dRet (dZ (dFn gTuple (dCons (dFz (dCall C 137 1 (dCons (dFn gTuple (dCons (dC (.int 0)) (dCons (dC (.int 0)) (dCons (dV 2) (dCons (dIxV 3 (dC (.int 0))) dNil))))) dNil))) (dCons (dFn gTupOf (dCons (dFz (dLc [4] (dSeqI (dIxV 3 (dC (.int 1)))) (gNm 4) dYes (dFz (dCall C 137 1 (dCons (dV 4) dNil))))) dNil)) dNil)))))
    dSkip))))
/-- code_of_squares -/
def b147 (C : Cals) : DS :=
  (dSeq (dAsg (dFz (dCall C 35 2 (dCons (dV 0) (dCons (dV 1) dNil)))) (gTp 2 (gsCons (gNm 2) (gsCons (gNm 3) gsNil))))
    (dSeq (dIfS (dOrT (dB (dBin (gEq true) (dSl (dV 2) dNoP (dP (dC (.int 2)))) (dFn gTuple (dCons (dFn gTuple (dCons (dC (.int 0)) (dCons (dC (.int 1)) dNil))) (dCons (dFn gTuple (dCons (dC (.int 0)) (dCons (dC (.int 1)) dNil))) dNil))))) (dNotT (dTru (dFn gAll (dCons (dFz (dLc [4] (dSeqI (dV 3)) (gNm 4) dYes (dFz (dCall C 130 1 (dCons (dV 4) dNil))))) dNil))))) (dSeq (dRaise 0)
    dSkip) dSkip)
    (dSeq (dIfS (dOrT (dNotT (dTru (dFn gAll (dCons (dFz (dLc2 [4, 5] [5] (dSeqI (dV 3)) (gNm 4) dYes (dSeqI (dV 4)) (gNm 5) dYes (dFz (dCall C 15 1 (dCons (dV 5) dNil))))) dNil)))) (dB (dBin (gCmpI fun i j => decide (j < i)) (dIx2 2 (.c 2) (.c 0)) (dC (.int 1000000))))) (dSeq (dRaise 0)
    dSkip) dSkip)
    (dSeq (dRet (dZ (dFn gTuple (dCons (dIx2 2 (.c 2) (.c 0)) (dCons (dFz (dCall C 138 2 (dCons (dIx2 2 (.c 2) (.c 0)) (dCons (dFz (dLc [4] (dSeqI (dV 3)) (gNm 4) dYes (dFn gTupOf (dCons (dFz (dLc [5] (dSeqI (dV 4)) (gNm 5) dYes (dIxV 5 (dC (.int 0))))) dNil)))) dNil)))) dNil)))))
    dSkip))))
/-- known_code -/
def b148 (C : Cals) : DS :=
  (dSeq (dRet (dZ (dBin gIx (dC (.tup [.tup [.int 33, .tup [.tup [.int 18, .int 15], .tup [.int 7, .int 8], .tup [.int 14, .int 4], .tup [.int 10, .int 1], .tup [.int 9]]], .tup [.int 69, .tup [.tup [.int 36, .int 33], .tup [.int 5, .int 28], .tup [.int 25, .int 9, .int 2], .tup [.int 7], .tup [.int 16]]], .tup [.int 112, .tup [.tup [.int 50, .int 35, .int 27], .tup [.int 8, .int 19], .tup [.int 15, .int 17, .int 11], .tup [.int 6, .int 24], .tup [.int 29, .int 25, .int 9, .int 2], .tup [.int 7, .int 18], .tup [.int 16], .tup [.int 42], .tup [.int 4, .int 37], .tup [.int 33]]]])) (dFz (dCall C 2 3 (dCons (dV 0) (dCons (dC (.int 0)) (dCons (dBin gSubI (dFn gLen (dCons (dC (.tup [.tup [.int 33, .tup [.tup [.int 18, .int 15], .tup [.int 7, .int 8], .tup [.int 14, .int 4], .tup [.int 10, .int 1], .tup [.int 9]]], .tup [.int 69, .tup [.tup [.int 36, .int 33], .tup [.int 5, .int 28], .tup [.int 25, .int 9, .int 2], .tup [.int 7], .tup [.int 16]]], .tup [.int 112, .tup [.tup [.int 50, .int 35, .int 27], .tup [.int 8, .int 19], .tup [.int 15, .int 17, .int 11], .tup [.int 6, .int 24], .tup [.int 29, .int 25, .int 9, .int 2], .tup [.int 7, .int 18], .tup [.int 16], .tup [.int 42], .tup [.int 4, .int 37], .tup [.int 33]]]])) dNil)) (dC (.int 1))) dNil))))))))
    dSkip)
/-- squares_by_greatest -/
def b149 (C : Cals) : DS :=
  (dSeq (dSet 2 (dCall C 2 3 (dCons (dV 0) (dCons (dC (.int 1)) (dCons (dC (.int 1000000)) dNil)))))
    (dSeq (dSet 3 (dCall C 2 3 (dCons (dV 1) (dCons (dC (.int 1)) (dCons (dC (.int 1000000)) dNil)))))
    (dSeq (dIfS (dB (dBin (gCmpI fun i j => decide (j < i)) (dFn gSum (dCons (dFz (dCall C 150 2 (dCons (dV 2) (dCons (dV 3) dNil)))) dNil)) (dC (.int 60)))) (dSeq (dRaise 1)
    dSkip) dSkip)
    (dSeq (dRet (dZ (dFn gTuple (dCons (dFz (dCall C 137 1 (dCons (dFn gTuple (dCons (dC (.int 0)) (dCons (dC (.int 0)) (dCons (dV 2) (dCons (dV 3) dNil))))) dNil))) (dCons (dFn gTupOf (dCons (dFz (dLc [4] (dSeqI (dFz (dCall C 139 2 (dCons (dV 2) (dCons (dV 3) dNil))))) (gNm 4) dYes (dFz (dCall C 137 1 (dCons (dV 4) dNil))))) dNil)) dNil)))))
    dSkip))))
/-- quotients -/
def b150 (C : Cals) : DS :=
  (dSeq (dSet 2 (dFnO gListO dNil))
    (dSeq (dPar [0, 1] (dConsO (dZ (dFn gMax (dCons (dV 0) (dCons (dV 1) dNil)))) (dConsO (dZ (dFn gMin (dCons (dV 0) (dCons (dV 1) dNil)))) dNilO)))
    (dSeq (whileD (dB (dBinL (gEq true) 1 (dC (.int 0)))) (dSeq (dEx (dMt 2 gAppend (dCons (dBin gFdiv (dV 0) (dV 1)) dNil)))
    (dSeq (dPar [0, 1] (dConsO (dZ (dV 1)) (dConsO (dZ (dBin gMod (dV 0) (dV 1))) dNilO)))
    dSkip)) WF)
    (dSeq (dRet (dMvZ 2))
    dSkip))))
/-- greatest_row -/
def b151 (C : Cals) : DS :=
  (dSeq (dSet 2 (dCall C 2 3 (dCons (dV 0) (dCons (dC (.int 1)) (dCons (dC (.int 1000000)) dNil)))))
    (dSeq (dRet (dZ (dFn gTupOf (dCons (dFz (dCall C 150 2 (dCons (dV 2) (dCons (dFz (dCall C 2 3 (dCons (dV 1) (dCons (dC (.int 1)) (dCons (dC (.int 1000000)) dNil))))) dNil)))) dNil))))
    dSkip))
/-- fewest_squares -/
def b152 (C : Cals) : DS :=
  (dSeq (dSet 2 (dCall C 2 3 (dCons (dV 0) (dCons (dC (.int 1)) (dCons (dC (.int 7)) dNil)))))
    (dSeq (dSet 3 (dCall C 2 3 (dCons (dV 1) (dCons (dC (.int 1)) (dCons (dC (.int 7)) dNil)))))
    (dSeq (dSet 4 (dZ (dFn gTupOf (dCons (dFz (dLc [5] (dIt gRange1 (dCons (dV 3) dNil)) (gNm 5) dYes (dBin gMul (dFn gTuple (dCons (dC (.int 0)) dNil)) (dV 2)))) dNil))))
    (dSeq (dRet (dZ (dFn gLen (dCons (dFz (dCall C 143 2 (dCons (dV 4) (dCons (dFn gLen (dCons (dFz (dCall C 139 2 (dCons (dV 2) (dCons (dV 3) dNil)))) dNil)) dNil)))) dNil))))
    dSkip))))
/-- fewest_laying -/
def b153 (C : Cals) : DS :=
  (dSeq (dSet 2 (dCall C 2 3 (dCons (dV 0) (dCons (dC (.int 1)) (dCons (dC (.int 7)) dNil)))))
    (dSeq (dSet 3 (dCall C 2 3 (dCons (dV 1) (dCons (dC (.int 1)) (dCons (dC (.int 7)) dNil)))))
    (dSeq (dSet 4 (dZ (dFn gTupOf (dCons (dFz (dLc [6] (dIt gRange1 (dCons (dV 3) dNil)) (gNm 6) dYes (dBin gMul (dFn gTuple (dCons (dC (.int 0)) dNil)) (dV 2)))) dNil))))
    (dSeq (dSet 5 (dCall C 143 2 (dCons (dV 4) (dCons (dFn gLen (dCons (dFz (dCall C 139 2 (dCons (dV 2) (dCons (dV 3) dNil)))) dNil)) dNil))))
    (dSeq (dRet (dZ (dFn gTuple (dCons (dFz (dCall C 137 1 (dCons (dFn gTuple (dCons (dC (.int 0)) (dCons (dC (.int 0)) (dCons (dV 2) (dCons (dV 3) dNil))))) dNil))) (dCons (dFn gTupOf (dCons (dFz (dLc [7] (dSeqI (dFz (dFnO gSortedX (dCons (dV 5) dNil)))) (gNm 7) dYes (dFz (dCall C 137 1 (dCons (dV 7) dNil))))) dNil)) dNil)))))
    dSkip)))))
/-- _law_box -/
def b154 (C : Cals) : DS :=
  (dSeq (dSet 2 (dIfO (dB (dBin gLt (dV 1) (dFn1 gLen 0))) (dZ (dIxV 0 (dV 1))) (dZ (dC (.int 0)))))
    (dSeq (dRet (dFnO gListO (dCons (dBin gMul (dFn1 gAbs 2) (dFn gInt (dCons (dBin (gCmpI fun i j => decide (j ≤ i)) (dFn1 gAbs 2) (dBin gPow (dC (.int 10)) (dC (.int 18)))) dNil))) (dCons (dBin gAdd (dBin gAdd (dBin gMod (dFn1 gInt 2) (dC (.int 2305843009213693951))) (dBin gMul (dC (.int 39373)) (dV 1))) (dC (.int 26297))) (dCons (dC (.int 0)) dNil)))))
    dSkip))
/-- _law_take -/
def b155 (C : Cals) : DS :=
  (dSeq (dIfS (dB (dBin (gCmpI fun i j => decide (j < i)) (dIxV 0 (dC (.int 0))) (dC (.int 0)))) (dSeq (dSet 2 (dZ (dBin gMod (dFn gInt (dCons (dIxV 0 (dC (.int 0))) dNil)) (dV 1))))
    (dSeq (dStX 0 (dC (.int 0)) (dBin gFdiv (dIxV 0 (dC (.int 0))) (dV 1)))
    (dSeq (dRet (dMvZ 2))
    dSkip))) dSkip)
    (dSeq (dStX 0 (dC (.int 2)) (dBin gAdd (dIxV 0 (dC (.int 2))) (dC (.int 1))))
    (dSeq (dSet 3 (dZ (dBin gMod (dFn gInt (dCons (dBin gMul (dBin gAdd (dIxV 0 (dC (.int 1))) (dBin gMul (dC (.int 48271)) (dIxV 0 (dC (.int 2))))) (dBin gAdd (dC (.int 39373)) (dIxV 0 (dC (.int 2))))) dNil)) (dC (.int 2147483647)))))
    (dSeq (dSet 4 (dBinM gAddL gAdd (dBin gMod (dFn1 gInt 3) (dC (.int 40009))) (dC (.int 7))))
    (dSeq (dSet 5 (dZ (dBin gMod (dFn gInt (dCons (dBin gMul (dBin gAdd (dBin gAdd (dV 3) (dIxV 0 (dC (.int 2)))) (dBin gFdiv (dIxV 0 (dC (.int 1))) (dC (.int 1000003)))) (dV 4)) dNil)) (dC (.int 2147483629)))))
    (dSeq (dRet (dZ (dBin gMod (dFn gInt (dCons (dBin gFdiv (dBin gMod (dFn gInt (dCons (dBin gAdd (dBin gMul (dV 5) (dC (.int 48271))) (dV 3)) dNil)) (dC (.int 2147483587))) (dC (.int 64))) dNil)) (dV 1))))
    dSkip))))))
/-- _law_cells -/
def b156 (C : Cals) : DS :=
  (dSeq (dSet 2 (dOrP (dFnO gListOf (dCons (dSl (dV 0) dNoP (dP (dV 1))) dNil)) (dFnO gListO (dCons (dC (.int 0)) dNil))))
    (dSeq (dFor (dIt gEnum (dCons (dSl (dV 0) (dP (dV 1)) (dP (dC (.int 63)))) dNil)) (gTp 2 (gsCons (gNm 3) (gsCons (gNm 4) gsNil))) (dSeq (dSet 5 (dZ (dBin gMod (dFn1 gInt 3) (dV 1))))
    (dSeq (dStX 2 (dV 5) (dBin gAdd (dIxV 2 (dV 5)) (dBin gMul (dV 4) (dBin gAdd (dV 3) (dC (.int 2))))))
    dSkip)))
    (dSeq (dRet (dMvZ 2))
    dSkip)))
/-- _law_pick -/
def b157 (C : Cals) : DS :=
  (dSeq (dPar [3, 4] (dConsO (dFnO gListOf (dCons (dV 1) dNil)) (dConsO (dFnO gListO dNil) dNilO)))
    (dSeq (dFor (dIt gRange1 (dCons (dFn gMin (dCons (dFn1 gInt 2) (dCons (dFn1 gLen 3) dNil))) dNil)) (gNm 5) (dSeq (dEx (dMt 4 gAppend (dCons (dMt 3 gPopAt (dCons (dFz (dCallL C 155 2 0 (dCons (dFn1 gLen 3) dNil))) dNil)) dNil)))
    dSkip))
    (dSeq (dRet (dMvZ 4))
    dSkip)))
/-- _law_call -/
def b158 (C : Cals) : DS :=
  (dSeq (dIfS (dB (dBin (gEq false) (dFn1 gLen 1) (dC (.int 1)))) (dSeq (dRet (dCallV C gt.fns 0 (dCons (dIxV 1 (dC (.int 0))) dNil)))
    dSkip) dSkip)
    (dSeq (dIfS (dB (dBin (gEq false) (dFn1 gLen 1) (dC (.int 2)))) (dSeq (dRet (dCallV C gt.fns 0 (dCons (dIxV 1 (dC (.int 0))) (dCons (dIxV 1 (dC (.int 1))) dNil))))
    dSkip) dSkip)
    (dSeq (dIfS (dB (dBin (gEq false) (dFn1 gLen 1) (dC (.int 3)))) (dSeq (dRet (dCallV C gt.fns 0 (dCons (dIxV 1 (dC (.int 0))) (dCons (dIxV 1 (dC (.int 1))) (dCons (dIxV 1 (dC (.int 2))) dNil)))))
    dSkip) dSkip)
    (dSeq (dIfS (dB (dBin (gEq false) (dFn1 gLen 1) (dC (.int 4)))) (dSeq (dRet (dCallV C gt.fns 0 (dCons (dIxV 1 (dC (.int 0))) (dCons (dIxV 1 (dC (.int 1))) (dCons (dIxV 1 (dC (.int 2))) (dCons (dIxV 1 (dC (.int 3))) dNil))))))
    dSkip) dSkip)
    (dSeq (dRet (dCallV C gt.fns 0 (dCons (dIxV 1 (dC (.int 0))) (dCons (dIxV 1 (dC (.int 1))) (dCons (dIxV 1 (dC (.int 2))) (dCons (dIxV 1 (dC (.int 3))) (dCons (dIxV 1 (dC (.int 4))) dNil)))))))
    dSkip)))))
/-- _law_slip -/
def b159 (C : Cals) : DS :=
  (dSeq (dTry 3 (dSeq (dEx (dFz (dCall C 158 2 (dCons (dV 0) (dCons (dV 1) dNil)))))
    dSkip) [(2, (some "unfit")), (0, (some "can not")), (1, (some "many")), (3, none)])
    (dSeq (dRet (dZ (dC (.str "told"))))
    dSkip))
/-- _law_as_rect -/
def b160 (C : Cals) : DS :=
  (dSeq (dRet (dZ (dFn gTupOf (dCons (dFz (dLc [1] (dSeqI (dV 0)) (gNm 1) dYes (dFn gTuple (dCons (dV 1) (dCons (dC (.int 1)) dNil))))) dNil))))
    dSkip)
/-- _law_are_all_unfit -/
def b161 (C : Cals) : DS :=
  (dSeq (dFor (dSeqI (dV 0)) (gNm 4) (dSeq (dFor (dSeqI (dV 2)) (gNm 5) (dSeq (dIfS (dB (dBin (gEq true) (dFz (dCall C 159 2 (dCons (dV 4) (dCons (dBin gAdd (dBin gAdd (dV 1) (dFn gList (dCons (dV 5) dNil))) (dV 3)) dNil)))) (dC (.str "unfit")))) (dSeq (dRet (dZ (dC (.bl false))))
    dSkip) dSkip)
    dSkip))
    dSkip))
    (dSeq (dRet (dZ (dC (.bl true))))
    dSkip))
/-- law: if not _law_are_all_unfi -/
def l33b0 (C : Cals) : DS :=
  (dIfS (dNotT (dTru (dFz (dCall C 161 4 (dCons (dV 16) (dCons (dV 17) (dCons (dFz (dCallL C 157 3 1 (dCons (dV 18) (dCons (dC (.int 5)) dNil)))) (dCons (dV 19) dNil)))))))) (dSeq (dRet (dZ (dC (.bl false))))
    dSkip) dSkip)
def l33B (C : Cals) : DS := (dSeq (l33b0 C) dSkip)
def l33L (C : Cals) : List DS := [l33b0 C]
/-- law: tin = _law_box(_law_cell -/
def l0 (C : Cals) : DS :=
  (dSet 1 (dCall C 154 2 (dCons (dFz (dCall C 156 2 (dCons (dV 0) (dCons (dC (.int 1)) dNil)))) (dCons (dC (.int 0)) dNil))))
/-- law: unit_so = _law_as_rect(( -/
def l1 (C : Cals) : DS :=
  (dSet 2 (dCall C 160 1 (dCons (dFn gTuple (dCons (dC (.int 0)) (dCons (dC (.int 0)) (dCons (dC (.int 1)) (dCons (dC (.int 1)) dNil))))) dNil)))
/-- law: two_so = (((0, 1), (0, 1 -/
def l2 (C : Cals) : DS :=
  (dSet 3 (dZ (dFn gTuple (dCons (dFn gTuple (dCons (dFn gTuple (dCons (dC (.int 0)) (dCons (dC (.int 1)) dNil))) (dCons (dFn gTuple (dCons (dC (.int 0)) (dCons (dC (.int 1)) dNil))) (dCons (dFn gTuple (dCons (dC (.int 1)) (dCons (dC (.int 2)) dNil))) (dCons (dFn gTuple (dCons (dC (.int 1)) (dCons (dC (.int 1)) dNil))) dNil))))) (dCons (dFn gTuple (dCons (dFn gTuple (dCons (dC (.int 1)) (dCons (dC (.int 2)) dNil))) (dCons (dFn gTuple (dCons (dC (.int 0)) (dCons (dC (.int 1)) dNil))) (dCons (dFn gTuple (dCons (dC (.int 1)) (dCons (dC (.int 1)) dNil))) (dCons (dFn gTuple (dCons (dC (.int 1)) (dCons (dC (.int 1)) dNil))) dNil))))) dNil)))))
/-- law: root_so = tuple([(own, ( -/
def l3 (C : Cals) : DS :=
  (dSet 4 (dZ (dFn gTupOf (dCons (dFz (dLc [22] (dSeqI (dV 2)) (gNm 22) dYes (dFn gTuple (dCons (dV 22) (dCons (dFn gTuple (dCons (dC (.int 0)) (dCons (dC (.int 1)) dNil))) dNil))))) dNil))))
/-- law: rects_so = [None, 5, (), -/
def l4 (C : Cals) : DS :=
  (dSet 5 (dFnO gListO (dCons (dC (.non)) (dCons (dC (.int 5)) (dCons (dFn gTuple dNil) (dCons (dSl (dV 2) dNoP (dP (dC (.int 3)))) (dCons (dFz (dCall C 160 1 (dCons (dFn gTuple (dCons (dC (.int 0)) (dCons (dC (.int 0)) (dCons (dC (.int 0)) (dCons (dC (.int 1)) dNil))))) dNil))) (dCons (dFz (dCall C 160 1 (dCons (dFn gTuple (dCons (dC (.int 1)) (dCons (dC (.int 0)) (dCons (dC (.int 0)) (dCons (dC (.int 1)) dNil))))) dNil))) (dCons (dFn gTuple (dCons (dFn gTuple (dCons (dC (.int 2)) (dCons (dC (.int 4)) dNil))) (dCons (dFn gTuple (dCons (dC (.int 0)) (dCons (dC (.int 1)) dNil))) (dCons (dFn gTuple (dCons (dC (.int 1)) (dCons (dC (.int 1)) dNil))) (dCons (dFn gTuple (dCons (dC (.int 1)) (dCons (dC (.int 1)) dNil))) dNil))))) dNil)))))))))
/-- law: rects_so = rects_so + [( -/
def l5 (C : Cals) : DS :=
  (dSet 5 (dBinM gAddL gAdd (dV 5) (dFn gList (dCons (dFn gTuple (dCons (dFn gTuple (dCons (dC (.bl true)) (dCons (dC (.int 1)) dNil))) (dCons (dFn gTuple (dCons (dC (.int 0)) (dCons (dC (.int 1)) dNil))) (dCons (dFn gTuple (dCons (dC (.int 2)) (dCons (dC (.int 1)) dNil))) (dCons (dFn gTuple (dCons (dC (.int 1)) (dCons (dC (.int 1)) dNil))) dNil))))) (dCons (dFz (dCall C 160 1 (dCons (dFn gTuple (dCons (dC (.int 0)) (dCons (dC (.int 0)) (dCons (dBin gAdd (dBin gPow (dC (.int 10)) (dC (.int 12))) (dC (.int 1))) (dCons (dC (.int 1)) dNil))))) dNil))) (dCons (dC (.str "unit")) dNil))))))
/-- law: parts_so = [None, 5, (), -/
def l6 (C : Cals) : DS :=
  (dSet 6 (dFnO gListO (dCons (dC (.non)) (dCons (dC (.int 5)) (dCons (dFn gTuple dNil) (dCons (dSl (dV 3) dNoP (dP (dC (.int 1)))) (dCons (dBin gAdd (dV 3) (dSl (dV 3) dNoP (dP (dC (.int 1))))) (dCons (dFn gTuple (dCons (dV 2) (dCons (dV 2) dNil))) (dCons (dFn gTuple (dCons (dV 2) (dCons (dC (.non)) dNil))) (dCons (dFn gTuple (dCons (dFn gTuple (dCons (dV 2) dNil)) dNil)) (dCons (dFn gTuple (dCons (dIxV 3 (dC (.int 0))) (dCons (dV 2) dNil))) (dCons (dBin gMul (dFn gTuple (dCons (dV 2) dNil)) (dC (.int 61))) dNil))))))))))))
/-- law: nets_so = [None, 5, (),  -/
def l7 (C : Cals) : DS :=
  (dSet 7 (dFnO gListO (dCons (dC (.non)) (dCons (dC (.int 5)) (dCons (dFn gTuple dNil) (dCons (dFn gTuple (dCons (dC (.int 2)) dNil)) (dCons (dFn gTuple (dCons (dC (.int 1)) (dCons (dFn gTuple (dCons (dFn gTuple (dCons (dC (.int 0)) (dCons (dC (.int 1)) dNil))) dNil)) dNil))) (dCons (dFn gTuple (dCons (dC (.int 2)) (dCons (dFn gTuple dNil) dNil))) (dCons (dFn gTuple (dCons (dC (.int 2)) (dCons (dFn gTuple (dCons (dFn gTuple (dCons (dC (.int 0)) (dCons (dC (.int 2)) dNil))) dNil)) dNil))) (dCons (dFn gTuple (dCons (dC (.int 2)) (dCons (dFn gTuple (dCons (dFn gTuple (dCons (dC (.int 1)) (dCons (dC (.int 0)) dNil))) dNil)) dNil))) (dCons (dFn gTuple (dCons (dC (.int 2)) (dCons (dFn gTuple (dCons (dFn gTuple (dCons (dC (.int 0)) (dCons (dC (.int 0)) dNil))) dNil)) dNil))) (dCons (dFn gTuple (dCons (dC (.int 2)) (dCons (dFn gTuple (dCons (dFn gTuple (dCons (dC (.int 0)) (dCons (dC (.int 1)) (dCons (dC (.int 1)) dNil)))) dNil)) dNil))) (dCons (dFn gTuple (dCons (dC (.int 31)) (dCons (dFn gTuple (dCons (dFn gTuple (dCons (dC (.int 0)) (dCons (dC (.int 1)) dNil))) dNil)) dNil))) dNil)))))))))))))
/-- law: nets_so = nets_so + [(2, -/
def l8 (C : Cals) : DS :=
  (dSet 7 (dBinM gAddL gAdd (dV 7) (dFn gList (dCons (dFn gTuple (dCons (dC (.int 2)) (dCons (dBin gMul (dFn gTuple (dCons (dFn gTuple (dCons (dC (.int 0)) (dCons (dC (.int 1)) dNil))) dNil)) (dC (.int 61))) dNil))) (dCons (dFn gTuple (dCons (dC (.bl true)) (dCons (dFn gTuple (dCons (dFn gTuple (dCons (dC (.int 0)) (dCons (dC (.int 1)) dNil))) dNil)) dNil))) (dCons (dFn gTuple (dCons (dC (.int 2)) (dCons (dFn gTuple (dCons (dFn gTuple (dCons (dC (.int 0)) (dCons (dC (.bl true)) dNil))) dNil)) dNil))) dNil))))))
/-- law: ratios_so = [None, 5, () -/
def l9 (C : Cals) : DS :=
  (dSet 8 (dFnO gListO (dCons (dC (.non)) (dCons (dC (.int 5)) (dCons (dFn gTuple dNil) (dCons (dFn gTuple (dCons (dFn gTuple (dCons (dC (.int 1)) (dCons (dC (.int 1)) dNil))) dNil)) (dCons (dFn gTuple (dCons (dFn gTuple (dCons (dC (.int 1)) (dCons (dC (.int 1)) dNil))) (dCons (dFn gTuple (dCons (dC (.int 0)) (dCons (dC (.int 1)) dNil))) dNil))) (dCons (dFn gTuple (dCons (dFn gTuple (dCons (dC (.int 1)) (dCons (dC (.int 1)) dNil))) (dCons (dFn gTuple (dCons (dUn gNeg (dC (.int 1))) (dCons (dC (.int 1)) dNil))) dNil))) (dCons (dFn gTuple (dCons (dFn gTuple (dCons (dC (.int 1)) (dCons (dC (.int 1)) dNil))) (dCons (dFn gTuple (dCons (dC (.int 2)) (dCons (dC (.int 2)) dNil))) dNil))) (dCons (dFn gTuple (dCons (dFn gTuple (dCons (dC (.int 1)) (dCons (dC (.int 1)) dNil))) (dCons (dC (.int 1)) dNil))) (dCons (dBin gMul (dFn gTuple (dCons (dFn gTuple (dCons (dC (.int 1)) (dCons (dC (.int 1)) dNil))) dNil)) (dC (.int 3))) (dCons (dFn gTuple (dCons (dFn gTuple (dCons (dC (.int 1)) (dCons (dC (.int 1)) dNil))) (dCons (dFn gTuple (dCons (dC (.bl true)) (dCons (dC (.int 1)) dNil))) dNil))) dNil))))))))))))
/-- law: ratios_so = ratios_so +  -/
def l10 (C : Cals) : DS :=
  (dSet 8 (dBinM gAddL gAdd (dV 8) (dFn gList (dCons (dFn gTuple (dCons (dFn gTuple (dCons (dC (.int 1)) (dCons (dC (.int 1)) dNil))) (dCons (dFn gTuple (dCons (dBin gAdd (dBin gPow (dC (.int 10)) (dC (.int 12))) (dC (.int 1))) (dCons (dC (.int 1)) dNil))) dNil))) dNil))))
/-- law: codes_so = [None, 5, (), -/
def l11 (C : Cals) : DS :=
  (dSet 9 (dFnO gListO (dCons (dC (.non)) (dCons (dC (.int 5)) (dCons (dFn gTuple dNil) (dCons (dFn gTuple (dCons (dFn gTuple dNil) dNil)) (dCons (dFn gTuple (dCons (dC (.int 1)) dNil)) (dCons (dFn gTuple (dCons (dFn gTuple (dCons (dC (.int 0)) dNil)) dNil)) (dCons (dFn gTuple (dCons (dFn gTuple (dCons (dC (.int 1)) (dCons (dUn gNeg (dC (.int 1))) dNil))) dNil)) (dCons (dFn gTuple (dCons (dFn gTuple (dCons (dC (.bl true)) dNil)) dNil)) (dCons (dFn gTuple (dCons (dBin gMul (dFn gTuple (dCons (dC (.int 1)) dNil)) (dC (.int 61))) dNil)) (dCons (dFn gTuple (dCons (dFn gTuple (dCons (dBin gAdd (dBin gPow (dC (.int 10)) (dC (.int 6))) (dC (.int 1))) dNil)) dNil)) dNil))))))))))))
/-- law: trees_so = [None, (), 1, -/
def l12 (C : Cals) : DS :=
  (dSet 10 (dFnO gListO (dCons (dC (.non)) (dCons (dFn gTuple dNil) (dCons (dC (.int 1)) (dCons (dC (.bl true)) (dCons (dFn gTuple (dCons (dC (.int 0)) (dCons (dFn gTuple (dCons (dC (.int 1)) (dCons (dC (.int 2)) dNil))) (dCons (dC (.int 0)) dNil)))) (dCons (dFn gTuple (dCons (dC (.int 2)) (dCons (dFn gTuple (dCons (dC (.int 1)) (dCons (dC (.int 2)) dNil))) (dCons (dC (.int 0)) (dCons (dC (.int 1)) dNil))))) (dCons (dFn gTuple (dCons (dC (.int 0)) (dCons (dFn gTuple (dCons (dC (.int 2)) (dCons (dC (.int 4)) dNil))) (dCons (dC (.int 0)) (dCons (dC (.int 1)) dNil))))) (dCons (dFn gTuple (dCons (dC (.int 0)) (dCons (dFn gTuple (dCons (dC (.int 1)) (dCons (dC (.int 2)) dNil))) (dCons (dC (.int 0)) (dCons (dC (.int 0)) dNil))))) (dCons (dFn gTuple (dCons (dC (.int 0)) (dCons (dFn gTuple (dCons (dC (.int 1)) (dCons (dC (.int 2)) dNil))) (dCons (dC (.int 1)) (dCons (dC (.int 2)) dNil))))) (dCons (dFn gTuple (dCons (dC (.int 0)) (dCons (dC (.int 1)) (dCons (dC (.int 0)) (dCons (dC (.int 1)) dNil))))) dNil))))))))))))
/-- law: roots_so = [None, 5, (), -/
def l13 (C : Cals) : DS :=
  (dSet 11 (dFnO gListO (dCons (dC (.non)) (dCons (dC (.int 5)) (dCons (dFn gTuple dNil) (dCons (dFn gTuple (dCons (dC (.int 1)) (dCons (dC (.int 1)) dNil))) (dCons (dFn gTuple (dCons (dFn gTuple (dCons (dC (.int 2)) (dCons (dC (.int 4)) dNil))) (dCons (dFn gTuple (dCons (dC (.int 0)) (dCons (dC (.int 1)) dNil))) dNil))) (dCons (dFn gTuple (dCons (dFn gTuple (dCons (dC (.int 0)) (dCons (dC (.int 1)) dNil))) dNil)) (dCons (dFn gTuple (dCons (dFn gTuple (dCons (dC (.bl true)) (dCons (dC (.int 1)) dNil))) (dCons (dFn gTuple (dCons (dC (.int 0)) (dCons (dC (.int 1)) dNil))) dNil))) (dCons (dFn gTuple (dCons (dFn gTuple (dCons (dBin gAdd (dBin gPow (dC (.int 10)) (dC (.int 6))) (dC (.int 1))) (dCons (dC (.int 1)) dNil))) (dCons (dFn gTuple (dCons (dC (.int 0)) (dCons (dC (.int 1)) dNil))) dNil))) dNil))))))))))
/-- law: rooteds_so = [None, 5, ( -/
def l14 (C : Cals) : DS :=
  (dSet 12 (dFnO gListO (dCons (dC (.non)) (dCons (dC (.int 5)) (dCons (dFn gTuple dNil) (dCons (dSl (dV 4) dNoP (dP (dC (.int 3)))) (dCons (dBin gAdd (dSl (dV 4) (dP (dC (.int 2))) dNoP) (dSl (dV 4) dNoP (dP (dC (.int 2))))) (dCons (dV 2) (dCons (dBin gAdd (dSl (dV 4) dNoP (dP (dC (.int 3)))) (dFn gTuple (dCons (dFn gTuple (dCons (dFn gTuple (dCons (dBin gAdd (dBin gPow (dC (.int 10)) (dC (.int 6))) (dC (.int 1))) (dCons (dC (.int 1)) dNil))) (dCons (dFn gTuple (dCons (dC (.int 0)) (dCons (dC (.int 1)) dNil))) dNil))) dNil))) dNil)))))))))
/-- law: net_so = (3, ((0, 1), (1 -/
def l15 (C : Cals) : DS :=
  (dSet 13 (dZ (dFn gTuple (dCons (dC (.int 3)) (dCons (dFn gTuple (dCons (dFn gTuple (dCons (dC (.int 0)) (dCons (dC (.int 1)) dNil))) (dCons (dFn gTuple (dCons (dC (.int 1)) (dCons (dC (.int 2)) dNil))) dNil))) dNil)))))
/-- law: flowing_so = [drops, flo -/
def l16 (C : Cals) : DS :=
  (dSet 14 (dFnO gListO (dCons (dC (.fn 62)) (dCons (dC (.fn 63)) (dCons (dC (.fn 64)) (dCons (dC (.fn 65)) (dCons (dC (.fn 66)) (dCons (dC (.fn 67)) dNil))))))))
/-- law: asked_so = [([level_ways -/
def l17 (C : Cals) : DS :=
  (dSet 15 (dFnO gListO (dCons (dFn gTuple (dCons (dFn gList (dCons (dC (.fn 58)) (dCons (dC (.fn 59)) (dCons (dC (.fn 60)) (dCons (dC (.fn 61)) (dCons (dC (.fn 75)) (dCons (dC (.fn 76)) (dCons (dC (.fn 147)) dNil)))))))) (dCons (dFn gList dNil) (dCons (dV 5) (dCons (dFn gList (dCons (dV 3) dNil)) dNil))))) dNil)))
/-- law: asked_so = asked_so + [( -/
def l18 (C : Cals) : DS :=
  (dSet 15 (dBinM gAddL gAdd (dV 15) (dFn gList (dCons (dFn gTuple (dCons (dFn gList (dCons (dC (.fn 58)) (dCons (dC (.fn 59)) (dCons (dC (.fn 60)) (dCons (dC (.fn 61)) (dCons (dC (.fn 75)) (dCons (dC (.fn 76)) (dCons (dC (.fn 147)) dNil)))))))) (dCons (dFn gList (dCons (dV 2) dNil)) (dCons (dV 6) (dCons (dFn gList dNil) dNil))))) dNil))))
/-- law: asked_so = asked_so + [( -/
def l19 (C : Cals) : DS :=
  (dSet 15 (dBinM gAddL gAdd (dV 15) (dFn gList (dCons (dFn gTuple (dCons (dV 14) (dCons (dFn gList dNil) (dCons (dV 7) (dCons (dFn gList (dCons (dFn gTuple (dCons (dFn gTuple (dCons (dC (.int 1)) (dCons (dC (.int 1)) dNil))) dNil)) dNil)) dNil))))) dNil))))
/-- law: asked_so = asked_so + [( -/
def l20 (C : Cals) : DS :=
  (dSet 15 (dBinM gAddL gAdd (dV 15) (dFn gList (dCons (dFn gTuple (dCons (dV 14) (dCons (dFn gList (dCons (dV 13) dNil)) (dCons (dV 8) (dCons (dFn gList dNil) dNil))))) (dCons (dFn gTuple (dCons (dFn gList (dCons (dC (.fn 68)) dNil)) (dCons (dFn gList dNil) (dCons (dV 7) (dCons (dFn gList dNil) dNil))))) dNil)))))
/-- law: asked_so = asked_so + [( -/
def l21 (C : Cals) : DS :=
  (dSet 15 (dBinM gAddL gAdd (dV 15) (dFn gList (dCons (dFn gTuple (dCons (dFn gList (dCons (dC (.fn 144)) (dCons (dC (.fn 145)) dNil))) (dCons (dFn gList dNil) (dCons (dFn gList (dCons (dC (.non)) (dCons (dC (.int 5)) (dCons (dFn gTuple dNil) (dCons (dFn gTuple (dCons (dC (.non)) dNil)) (dCons (dFn gTuple (dCons (dSl (dV 2) dNoP (dP (dC (.int 3)))) dNil)) (dCons (dBin gMul (dFn gTuple (dCons (dV 2) dNil)) (dC (.int 61))) dNil))))))) (dCons (dFn gList dNil) dNil))))) (dCons (dFn gTuple (dCons (dFn gList (dCons (dC (.fn 146)) dNil)) (dCons (dFn gList (dCons (dC (.int 3)) dNil)) (dCons (dV 9) (dCons (dFn gList dNil) dNil))))) dNil)))))
/-- law: asked_so = asked_so + [( -/
def l22 (C : Cals) : DS :=
  (dSet 15 (dBinM gAddL gAdd (dV 15) (dFn gList (dCons (dFn gTuple (dCons (dFn gList (dCons (dC (.fn 146)) dNil)) (dCons (dFn gList dNil) (dCons (dFn gList (dCons (dC (.non)) (dCons (dC (.int 0)) (dCons (dC (.bl true)) (dCons (dBin gAdd (dBin gPow (dC (.int 10)) (dC (.int 6))) (dC (.int 1))) dNil))))) (dCons (dFn gList (dCons (dFn gTuple (dCons (dFn gTuple (dCons (dC (.int 1)) dNil)) dNil)) dNil)) dNil))))) (dCons (dFn gTuple (dCons (dFn gList (dCons (dC (.fn 148)) dNil)) (dCons (dFn gList dNil) (dCons (dFn gList (dCons (dC (.non)) (dCons (dUn gNeg (dC (.int 1))) (dCons (dC (.int 3)) (dCons (dC (.bl true)) dNil))))) (dCons (dFn gList dNil) dNil))))) dNil)))))
/-- law: asked_so = asked_so + [( -/
def l23 (C : Cals) : DS :=
  (dSet 15 (dBinM gAddL gAdd (dV 15) (dFn gList (dCons (dFn gTuple (dCons (dFn gList (dCons (dC (.fn 151)) (dCons (dC (.fn 149)) (dCons (dC (.fn 152)) (dCons (dC (.fn 153)) dNil))))) (dCons (dFn gList dNil) (dCons (dFn gList (dCons (dC (.non)) (dCons (dC (.int 0)) (dCons (dUn gNeg (dC (.int 1))) (dCons (dC (.bl true)) (dCons (dBin gAdd (dBin gPow (dC (.int 10)) (dC (.int 6))) (dC (.int 1))) dNil)))))) (dCons (dFn gList (dCons (dC (.int 3)) dNil)) dNil))))) dNil))))
/-- law: asked_so = asked_so + [( -/
def l24 (C : Cals) : DS :=
  (dSet 15 (dBinM gAddL gAdd (dV 15) (dFn gList (dCons (dFn gTuple (dCons (dFn gList (dCons (dC (.fn 151)) (dCons (dC (.fn 149)) (dCons (dC (.fn 152)) (dCons (dC (.fn 153)) dNil))))) (dCons (dFn gList (dCons (dC (.int 3)) dNil)) (dCons (dFn gList (dCons (dC (.non)) (dCons (dC (.int 0)) (dCons (dUn gNeg (dC (.int 1))) (dCons (dC (.bl true)) (dCons (dBin gAdd (dBin gPow (dC (.int 10)) (dC (.int 6))) (dC (.int 1))) dNil)))))) (dCons (dFn gList dNil) dNil))))) dNil))))
/-- law: asked_so = asked_so + [( -/
def l25 (C : Cals) : DS :=
  (dSet 15 (dBinM gAddL gAdd (dV 15) (dFn gList (dCons (dFn gTuple (dCons (dFn gList (dCons (dC (.fn 152)) (dCons (dC (.fn 153)) dNil))) (dCons (dFn gList dNil) (dCons (dFn gList (dCons (dC (.int 8)) dNil)) (dCons (dFn gList (dCons (dC (.int 1)) dNil)) dNil))))) (dCons (dFn gTuple (dCons (dFn gList (dCons (dC (.fn 97)) (dCons (dC (.fn 98)) dNil))) (dCons (dFn gList dNil) (dCons (dFn gList (dCons (dC (.non)) (dCons (dC (.int 0)) (dCons (dC (.int 41)) (dCons (dC (.bl true)) dNil))))) (dCons (dFn gList (dCons (dC (.int 2)) dNil)) dNil))))) dNil)))))
/-- law: asked_so = asked_so + [( -/
def l26 (C : Cals) : DS :=
  (dSet 15 (dBinM gAddL gAdd (dV 15) (dFn gList (dCons (dFn gTuple (dCons (dFn gList (dCons (dC (.fn 97)) (dCons (dC (.fn 98)) dNil))) (dCons (dFn gList (dCons (dC (.int 2)) dNil)) (dCons (dFn gList (dCons (dC (.non)) (dCons (dC (.int 0)) (dCons (dC (.int 41)) (dCons (dC (.bl true)) dNil))))) (dCons (dFn gList dNil) dNil))))) dNil))))
/-- law: asked_so = asked_so + [( -/
def l27 (C : Cals) : DS :=
  (dSet 15 (dBinM gAddL gAdd (dV 15) (dFn gList (dCons (dFn gTuple (dCons (dFn gList (dCons (dC (.fn 96)) (dCons (dC (.fn 95)) (dCons (dC (.fn 100)) dNil)))) (dCons (dFn gList dNil) (dCons (dFn gList (dCons (dC (.non)) (dCons (dC (.int 0)) (dCons (dC (.int 41)) (dCons (dC (.bl true)) dNil))))) (dCons (dFn gList (dCons (dC (.int 1)) (dCons (dFn gTuple (dCons (dFn gTuple (dCons (dC (.int 0)) (dCons (dC (.int 0)) (dCons (dC (.int 2)) (dCons (dC (.int 1)) dNil))))) dNil)) dNil))) dNil))))) dNil))))
/-- law: asked_so = asked_so + [( -/
def l28 (C : Cals) : DS :=
  (dSet 15 (dBinM gAddL gAdd (dV 15) (dFn gList (dCons (dFn gTuple (dCons (dFn gList (dCons (dC (.fn 96)) (dCons (dC (.fn 95)) (dCons (dC (.fn 100)) dNil)))) (dCons (dFn gList (dCons (dC (.int 2)) (dCons (dC (.int 1)) dNil))) (dCons (dFn gList (dCons (dC (.non)) (dCons (dFn gTuple dNil) (dCons (dFn gTuple (dCons (dFn gTuple (dCons (dC (.int 0)) (dCons (dC (.int 0)) (dCons (dC (.int 1)) (dCons (dC (.int 1)) dNil))))) dNil)) (dCons (dBin gMul (dFn gTuple (dCons (dFn gTuple (dCons (dC (.int 0)) (dCons (dC (.int 0)) (dCons (dC (.int 2)) (dCons (dC (.int 1)) dNil))))) dNil)) (dC (.int 2))) dNil))))) (dCons (dFn gList dNil) dNil))))) dNil))))
/-- law: asked_so = asked_so + [( -/
def l29 (C : Cals) : DS :=
  (dSet 15 (dBinM gAddL gAdd (dV 15) (dFn gList (dCons (dFn gTuple (dCons (dFn gList (dCons (dC (.fn 100)) dNil)) (dCons (dFn gList (dCons (dC (.int 2)) dNil)) (dCons (dFn gList (dCons (dC (.int 39)) (dCons (dC (.int 40)) dNil))) (dCons (dFn gList (dCons (dFn gTuple (dCons (dFn gTuple (dCons (dC (.int 0)) (dCons (dC (.int 0)) (dCons (dC (.int 2)) (dCons (dC (.int 1)) dNil))))) dNil)) dNil)) dNil))))) (dCons (dFn gTuple (dCons (dFn gList (dCons (dC (.fn 79)) dNil)) (dCons (dFn gList dNil) (dCons (dV 5) (dCons (dFn gList (dCons (dC (.int 0)) dNil)) dNil))))) (dCons (dFn gTuple (dCons (dFn gList (dCons (dC (.fn 79)) dNil)) (dCons (dFn gList (dCons (dV 2) dNil)) (dCons (dV 10) (dCons (dFn gList dNil) dNil))))) dNil))))))
/-- law: asked_so = asked_so + [( -/
def l30 (C : Cals) : DS :=
  (dSet 15 (dBinM gAddL gAdd (dV 15) (dFn gList (dCons (dFn gTuple (dCons (dFn gList (dCons (dC (.fn 80)) (dCons (dC (.fn 81)) dNil))) (dCons (dFn gList dNil) (dCons (dV 10) (dCons (dFn gList dNil) dNil))))) (dCons (dFn gTuple (dCons (dFn gList (dCons (dC (.fn 121)) dNil)) (dCons (dFn gList dNil) (dCons (dV 11) (dCons (dFn gList dNil) dNil))))) (dCons (dFn gTuple (dCons (dFn gList (dCons (dC (.fn 129)) dNil)) (dCons (dFn gList (dCons (dV 2) dNil)) (dCons (dV 11) (dCons (dFn gList (dCons (dFn gTuple (dCons (dFn gTuple (dCons (dC (.int 1)) (dCons (dC (.int 1)) dNil))) (dCons (dFn gTuple (dCons (dC (.int 0)) (dCons (dC (.int 1)) dNil))) dNil))) dNil)) dNil))))) dNil))))))
/-- law: asked_so = asked_so + [( -/
def l31 (C : Cals) : DS :=
  (dSet 15 (dBinM gAddL gAdd (dV 15) (dFn gList (dCons (dFn gTuple (dCons (dFn gList (dCons (dC (.fn 122)) (dCons (dC (.fn 123)) (dCons (dC (.fn 125)) (dCons (dC (.fn 127)) dNil))))) (dCons (dFn gList dNil) (dCons (dV 12) (dCons (dFn gList dNil) dNil))))) (dCons (dFn gTuple (dCons (dFn gList (dCons (dC (.fn 124)) (dCons (dC (.fn 128)) dNil))) (dCons (dFn gList dNil) (dCons (dV 12) (dCons (dFn gList (dCons (dFn gTuple (dCons (dV 4) dNil)) dNil)) dNil))))) dNil)))))
/-- law: asked_so = asked_so + [( -/
def l32 (C : Cals) : DS :=
  (dSet 15 (dBinM gAddL gAdd (dV 15) (dFn gList (dCons (dFn gTuple (dCons (dFn gList (dCons (dC (.fn 124)) (dCons (dC (.fn 128)) dNil))) (dCons (dFn gList (dCons (dV 4) dNil)) (dCons (dFn gList (dCons (dC (.non)) (dCons (dFn gTuple dNil) (dCons (dFn gTuple (dCons (dC (.non)) dNil)) (dCons (dBin gMul (dFn gTuple (dCons (dV 4) dNil)) (dC (.int 31))) dNil))))) (dCons (dFn gList dNil) dNil))))) (dCons (dFn gTuple (dCons (dFn gList (dCons (dC (.fn 126)) dNil)) (dCons (dFn gList dNil) (dCons (dFn gList (dCons (dC (.non)) (dCons (dFn gTuple dNil) (dCons (dC (.int 5)) (dCons (dBin gMul (dFn gTuple (dCons (dV 4) dNil)) (dC (.int 31))) dNil))))) (dCons (dFn gList dNil) dNil))))) dNil)))))
/-- law: for doors_so, ahead_so,  -/
def l33 (C : Cals) : DS :=
  (dFor (dSeqI (dV 15)) (gTp 4 (gsCons (gNm 16) (gsCons (gNm 17) (gsCons (gNm 18) (gsCons (gNm 19) gsNil))))) (l33B C))
/-- law: three_so = (_law_slip(is -/
def l34 (C : Cals) : DS :=
  (dSet 20 (dZ (dFn gTuple (dCons (dFz (dCall C 159 2 (dCons (dC (.fn 77)) (dCons (dFn gList (dCons (dV 2) (dCons (dSl (dV 3) dNoP (dP (dC (.int 1)))) (dCons (dFn gTuple (dCons (dC (.int 0)) (dCons (dC (.int 1)) dNil))) dNil)))) dNil)))) (dCons (dFz (dCall C 159 2 (dCons (dC (.fn 99)) (dCons (dFn gList (dCons (dC (.int 41)) (dCons (dC (.int 2)) (dCons (dC (.non)) dNil)))) dNil)))) (dCons (dFz (dCall C 159 2 (dCons (dC (.fn 128)) (dCons (dFn gList (dCons (dV 4) (dCons (dFn gTuple (dCons (dV 4) (dCons (dV 4) dNil))) dNil))) dNil)))) dNil))))))
/-- law: cannot_so = [_law_slip(d -/
def l35 (C : Cals) : DS :=
  (dSet 21 (dLc [23] (dSeqI (dV 14)) (gNm 23) dYes (dFz (dCall C 159 2 (dCons (dV 23) (dCons (dFn gList (dCons (dFn gTuple (dCons (dC (.int 3)) (dCons (dFn gTuple (dCons (dFn gTuple (dCons (dC (.int 0)) (dCons (dC (.int 1)) dNil))) dNil)) dNil))) (dCons (dFn gTuple (dCons (dFn gTuple (dCons (dC (.int 1)) (dCons (dC (.int 1)) dNil))) dNil)) dNil))) dNil))))))
/-- law: cannot_so = cannot_so +  -/
def l36 (C : Cals) : DS :=
  (dSet 21 (dBinM gAddL gAdd (dV 21) (dFn gList (dCons (dFz (dCall C 159 2 (dCons (dC (.fn 76)) (dCons (dFn gList (dCons (dV 2) (dCons (dV 3) dNil))) dNil)))) (dCons (dFz (dCall C 159 2 (dCons (dC (.fn 147)) (dCons (dFn gList (dCons (dV 2) (dCons (dV 3) dNil))) dNil)))) (dCons (dFz (dCall C 159 2 (dCons (dC (.fn 146)) (dCons (dFn gList (dCons (dC (.int 3)) (dCons (dFn gTuple (dCons (dFn gTuple (dCons (dC (.int 2)) dNil)) dNil)) dNil))) dNil)))) dNil))))))
/-- law: cannot_so = cannot_so +  -/
def l37 (C : Cals) : DS :=
  (dSet 21 (dBinM gAddL gAdd (dV 21) (dFn gList (dCons (dFz (dCall C 159 2 (dCons (dC (.fn 98)) (dCons (dFn gList (dCons (dC (.int 6)) (dCons (dC (.int 6)) dNil))) dNil)))) dNil))))
/-- law: cannot_so = cannot_so +  -/
def l38 (C : Cals) : DS :=
  (dSet 21 (dBinM gAddL gAdd (dV 21) (dFn gList (dCons (dFz (dCall C 159 2 (dCons (dC (.fn 100)) (dCons (dFn gList (dCons (dC (.int 1)) (dCons (dC (.int 1)) (dCons (dFn gTuple (dCons (dFn gTuple (dCons (dC (.int 0)) (dCons (dC (.int 0)) (dCons (dC (.int 1)) (dCons (dC (.int 1)) dNil))))) dNil)) dNil)))) dNil)))) (dCons (dFz (dCall C 159 2 (dCons (dC (.fn 79)) (dCons (dFn gList (dCons (dV 2) (dCons (dFn gTuple (dCons (dC (.int 0)) (dCons (dFn gTuple (dCons (dC (.int 1)) (dCons (dC (.int 1)) dNil))) (dCons (dC (.int 0)) (dCons (dC (.int 1)) dNil))))) dNil))) dNil)))) dNil)))))
/-- law: cannot_so = cannot_so +  -/
def l39 (C : Cals) : DS :=
  (dSet 21 (dBinM gAddL gAdd (dV 21) (dFn gList (dCons (dFz (dCall C 159 2 (dCons (dC (.fn 128)) (dCons (dFn gList (dCons (dV 4) (dCons (dFn gTuple (dCons (dV 4) dNil)) dNil))) dNil)))) dNil))))
/-- law: return three_so == ('unf -/
def l40 (C : Cals) : DS :=
  (dRet (dZ (dAndV (dBinL (gEq false) 20 (dBin gMul (dFn gTuple (dCons (dC (.str "unfit")) dNil)) (dC (.int 3)))) (dAndV (dBinL (gEq false) 21 (dBin gMul (dFn gList (dCons (dC (.str "can not")) dNil)) (dC (.int 13)))) (dBin (gEq false) (dFz (dCall C 159 2 (dCons (dC (.fn 149)) (dCons (dFn gList (dCons (dC (.int 61)) (dCons (dC (.int 1)) dNil))) dNil)))) (dC (.str "many")))))))
def lawL (C : Cals) : List DS := [l0 C, l1 C, l2 C, l3 C, l4 C, l5 C, l6 C, l7 C, l8 C, l9 C, l10 C, l11 C, l12 C, l13 C, l14 C, l15 C, l16 C, l17 C, l18 C, l19 C, l20 C, l21 C, l22 C, l23 C, l24 C, l25 C, l26 C, l27 C, l28 C, l29 C, l30 C, l31 C, l32 C, l33 C, l34 C, l35 C, l36 C, l37 C, l38 C, l39 C, l40 C]
/-- law -/
def b162 (C : Cals) : DS :=
  (dSeq (l0 C) (dSeq (l1 C) (dSeq (l2 C) (dSeq (l3 C) (dSeq (l4 C) (dSeq (l5 C) (dSeq (l6 C) (dSeq (l7 C) (dSeq (l8 C) (dSeq (l9 C) (dSeq (l10 C) (dSeq (l11 C) (dSeq (l12 C) (dSeq (l13 C) (dSeq (l14 C) (dSeq (l15 C) (dSeq (l16 C) (dSeq (l17 C) (dSeq (l18 C) (dSeq (l19 C) (dSeq (l20 C) (dSeq (l21 C) (dSeq (l22 C) (dSeq (l23 C) (dSeq (l24 C) (dSeq (l25 C) (dSeq (l26 C) (dSeq (l27 C) (dSeq (l28 C) (dSeq (l29 C) (dSeq (l30 C) (dSeq (l31 C) (dSeq (l32 C) (dSeq (l33 C) (dSeq (l34 C) (dSeq (l35 C) (dSeq (l36 C) (dSeq (l37 C) (dSeq (l38 C) (dSeq (l39 C) (dSeq (l40 C) dSkip)))))))))))))))))))))))))))))))))))))))))
def tbl : List FnD := [⟨1, 1, false, b0⟩, ⟨3, 3, false, b1⟩, ⟨3, 3, false, b2⟩, ⟨2, 2, false, b3⟩, ⟨1, 2, false, b4⟩, ⟨1, 2, false, b5⟩, ⟨2, 2, false, b6⟩, ⟨2, 3, false, b7⟩, ⟨2, 2, false, b8⟩, ⟨2, 2, false, b9⟩, ⟨2, 2, false, b10⟩, ⟨2, 2, false, b11⟩, ⟨2, 2, false, b12⟩, ⟨2, 2, false, b13⟩, ⟨2, 2, false, b14⟩, ⟨1, 1, false, b15⟩, ⟨1, 5, false, b16⟩, ⟨1, 1, false, b17⟩, ⟨1, 1, false, b18⟩, ⟨1, 6, false, b19⟩, ⟨1, 2, false, b20⟩, ⟨1, 2, false, b21⟩, ⟨1, 2, false, b22⟩, ⟨1, 2, false, b23⟩, ⟨1, 5, false, b24⟩, ⟨1, 3, false, b25⟩, ⟨1, 6, false, b26⟩, ⟨2, 6, false, b27⟩, ⟨2, 2, false, b28⟩, ⟨2, 8, false, b29⟩, ⟨1, 3, false, b30⟩, ⟨2, 3, false, b31⟩, ⟨2, 10, false, b32⟩, ⟨2, 5, false, b33⟩, ⟨2, 2, false, b34⟩, ⟨2, 4, false, b35⟩, ⟨3, 4, false, b36⟩, ⟨2, 6, false, b37⟩, ⟨2, 2, false, b38⟩, ⟨1, 5, false, b39⟩, ⟨1, 8, false, b40⟩, ⟨3, 6, false, b41⟩, ⟨1, 4, false, b42⟩, ⟨1, 2, false, b43⟩, ⟨1, 2, false, b44⟩, ⟨2, 7, false, b45⟩, ⟨1, 2, false, b46⟩, ⟨2, 4, false, b47⟩, ⟨2, 10, false, b48⟩, ⟨2, 4, false, b49⟩, ⟨3, 5, false, b50⟩, ⟨1, 5, false, b51⟩, ⟨1, 6, false, b52⟩, ⟨2, 6, false, b53⟩, ⟨2, 8, false, b54⟩, ⟨2, 6, false, b55⟩, ⟨1, 10, false, b56⟩, ⟨2, 4, false, b57⟩, ⟨2, 2, false, b58⟩, ⟨2, 2, false, b59⟩, ⟨2, 2, false, b60⟩, ⟨2, 12, false, b61⟩, ⟨2, 4, false, b62⟩, ⟨2, 4, false, b63⟩, ⟨2, 8, false, b64⟩, ⟨2, 8, false, b65⟩, ⟨2, 4, false, b66⟩, ⟨2, 4, false, b67⟩, ⟨1, 2, false, b68⟩, ⟨3, 7, false, b69⟩, ⟨2, 9, false, b70⟩, ⟨1, 4, false, b71⟩, ⟨1, 4, false, b72⟩, ⟨2, 8, false, b73⟩, ⟨2, 7, false, b74⟩, ⟨2, 4, false, b75⟩, ⟨2, 4, false, b76⟩, ⟨3, 3, false, b77⟩, ⟨1, 2, false, b78⟩, ⟨2, 6, false, b79⟩, ⟨1, 6, false, b80⟩, ⟨1, 1, false, b81⟩, ⟨1, 1, false, b82⟩, ⟨1, 7, false, b83⟩, ⟨3, 7, false, b84⟩, ⟨2, 4, false, b85⟩, ⟨2, 5, false, b86⟩, ⟨3, 4, false, b87⟩, ⟨1, 1, false, b88⟩, ⟨1, 2, false, b89⟩, ⟨3, 8, false, b90⟩, ⟨2, 2, false, b91⟩, ⟨2, 2, false, b92⟩, ⟨5, 5, false, b93⟩, ⟨3, 4, false, b94⟩, ⟨3, 7, false, b95⟩, ⟨3, 5, false, b96⟩, ⟨2, 3, false, b97⟩, ⟨2, 4, false, b98⟩, ⟨3, 6, false, b99⟩, ⟨3, 7, false, b100⟩, ⟨1, 2, false, b101⟩, ⟨1, 3, false, b102⟩, ⟨1, 5, false, b103⟩, ⟨2, 2, false, b104⟩, ⟨2, 2, false, b105⟩, ⟨2, 3, false, b106⟩, ⟨2, 2, false, b107⟩, ⟨1, 2, false, b108⟩, ⟨1, 2, false, b109⟩, ⟨1, 2, false, b110⟩, ⟨1, 2, false, b111⟩, ⟨1, 2, false, b112⟩, ⟨1, 1, false, b113⟩, ⟨2, 3, false, b114⟩, ⟨2, 3, false, b115⟩, ⟨1, 5, false, b116⟩, ⟨2, 6, false, b117⟩, ⟨2, 4, false, b118⟩, ⟨1, 3, false, b119⟩, ⟨1, 3, false, b120⟩, ⟨1, 2, false, b121⟩, ⟨1, 1, false, b122⟩, ⟨1, 1, false, b123⟩, ⟨2, 3, false, b124⟩, ⟨1, 1, false, b125⟩, ⟨1, 1, false, b126⟩, ⟨1, 3, false, b127⟩, ⟨2, 6, false, b128⟩, ⟨3, 9, false, b129⟩, ⟨1, 1, false, b130⟩, ⟨1, 3, false, b131⟩, ⟨1, 3, false, b132⟩, ⟨1, 3, false, b133⟩, ⟨1, 3, false, b134⟩, ⟨2, 10, false, b135⟩, ⟨2, 6, false, b136⟩, ⟨1, 2, false, b137⟩, ⟨2, 11, false, b138⟩, ⟨2, 6, false, b139⟩, ⟨1, 5, false, b140⟩, ⟨4, 6, false, b141⟩, ⟨2, 10, false, b142⟩, ⟨2, 9, false, b143⟩, ⟨1, 2, false, b144⟩, ⟨1, 3, false, b145⟩, ⟨2, 5, false, b146⟩, ⟨2, 6, false, b147⟩, ⟨1, 1, false, b148⟩, ⟨2, 5, false, b149⟩, ⟨2, 3, false, b150⟩, ⟨2, 3, false, b151⟩, ⟨2, 6, false, b152⟩, ⟨2, 8, false, b153⟩, ⟨2, 3, false, b154⟩, ⟨2, 6, true, b155⟩, ⟨2, 6, false, b156⟩, ⟨3, 6, true, b157⟩, ⟨2, 2, false, b158⟩, ⟨2, 6, false, b159⟩, ⟨1, 2, false, b160⟩, ⟨4, 6, false, b161⟩, ⟨1, 24, false, b162⟩]
theorem s0 : DefS gt (dd 6 "is_number") ⟨1, 1, false, b0⟩ ⟨"is_number", 1, false⟩ :=
  ⟨rfl, rfl, rfl, rfl, rfl, rfl, rfl, by decide +kernel, ["thing"], ["thing"], scopeB_ok (by decide +kernel), rfl, rfl, by decide, by decide +kernel, fun _ _ _ _ _ _ us hl => match us, hl with | [_], _ => rfl, 60, fun C => by kernel_rfl⟩
theorem s1 : DefS gt (dd 7 "is_within") ⟨3, 3, false, b1⟩ ⟨"is_within", 3, false⟩ :=
  ⟨rfl, rfl, rfl, rfl, rfl, rfl, rfl, by decide +kernel, ["thing", "least", "most"], ["thing", "least", "most"], scopeB_ok (by decide +kernel), rfl, rfl, by decide, by decide +kernel, fun _ _ _ _ _ _ us hl => match us, hl with | [_, _, _], _ => rfl, 60, fun C => by kernel_rfl⟩
theorem s2 : DefS gt (dd 8 "sure_within") ⟨3, 3, false, b2⟩ ⟨"sure_within", 3, false⟩ :=
  ⟨rfl, rfl, rfl, rfl, rfl, rfl, rfl, by decide +kernel, ["thing", "least", "most"], ["thing", "least", "most"], scopeB_ok (by decide +kernel), rfl, rfl, by decide, by decide +kernel, fun _ _ _ _ _ _ us hl => match us, hl with | [_, _, _], _ => rfl, 60, fun C => by kernel_rfl⟩
theorem s3 : DefS gt (dd 9 "is_long") ⟨2, 2, false, b3⟩ ⟨"is_long", 2, false⟩ :=
  ⟨rfl, rfl, rfl, rfl, rfl, rfl, rfl, by decide +kernel, ["thing", "length"], ["thing", "length"], scopeB_ok (by decide +kernel), rfl, rfl, by decide, by decide +kernel, fun _ _ _ _ _ _ us hl => match us, hl with | [_, _], _ => rfl, 60, fun C => by kernel_rfl⟩
theorem s4 : DefS gt (dd 10 "are_numbers") ⟨1, 2, false, b4⟩ ⟨"are_numbers", 1, false⟩ :=
  ⟨rfl, rfl, rfl, rfl, rfl, rfl, rfl, by decide +kernel, ["thing", "own"], ["thing"], scopeB_ok (by decide +kernel), rfl, rfl, by decide, by decide +kernel, fun _ _ _ _ _ _ us hl => match us, hl with | [_], _ => rfl, 60, fun C => by kernel_rfl⟩
theorem s5 : DefS gt (dd 11 "tupled") ⟨1, 2, false, b5⟩ ⟨"tupled", 1, false⟩ :=
  ⟨rfl, rfl, rfl, rfl, rfl, rfl, rfl, by decide +kernel, ["value", "own"], ["value"], scopeB_ok (by decide +kernel), rfl, rfl, by decide, by decide +kernel, fun _ _ _ _ _ _ us hl => match us, hl with | [_], _ => rfl, 60, fun C => by kernel_rfl⟩
theorem s6 : DefS gt (dd 12 "common") ⟨2, 2, false, b6⟩ ⟨"common", 2, false⟩ :=
  ⟨rfl, rfl, rfl, rfl, rfl, rfl, rfl, by decide +kernel, ["one", "other"], ["one", "other"], scopeB_ok (by decide +kernel), rfl, rfl, by decide, by decide +kernel, fun _ _ _ _ _ _ us hl => match us, hl with | [_, _], _ => rfl, 60, fun C => by kernel_rfl⟩
theorem s7 : DefS gt (dd 17 "lowest") ⟨2, 3, false, b7⟩ ⟨"lowest", 2, false⟩ :=
  ⟨rfl, rfl, rfl, rfl, rfl, rfl, rfl, by decide +kernel, ["above", "below", "by"], ["above", "below"], scopeB_ok (by decide +kernel), rfl, rfl, by decide, by decide +kernel, fun _ _ _ _ _ _ us hl => match us, hl with | [_, _], _ => rfl, 60, fun C => by kernel_rfl⟩
theorem s8 : DefS gt (dd 18 "plus") ⟨2, 2, false, b8⟩ ⟨"plus", 2, false⟩ :=
  ⟨rfl, rfl, rfl, rfl, rfl, rfl, rfl, by decide +kernel, ["one", "other"], ["one", "other"], scopeB_ok (by decide +kernel), rfl, rfl, by decide, by decide +kernel, fun _ _ _ _ _ _ us hl => match us, hl with | [_, _], _ => rfl, 60, fun C => by kernel_rfl⟩
theorem s9 : DefS gt (dd 19 "less") ⟨2, 2, false, b9⟩ ⟨"less", 2, false⟩ :=
  ⟨rfl, rfl, rfl, rfl, rfl, rfl, rfl, by decide +kernel, ["one", "other"], ["one", "other"], scopeB_ok (by decide +kernel), rfl, rfl, by decide, by decide +kernel, fun _ _ _ _ _ _ us hl => match us, hl with | [_, _], _ => rfl, 60, fun C => by kernel_rfl⟩
theorem s10 : DefS gt (dd 20 "times") ⟨2, 2, false, b10⟩ ⟨"times", 2, false⟩ :=
  ⟨rfl, rfl, rfl, rfl, rfl, rfl, rfl, by decide +kernel, ["one", "other"], ["one", "other"], scopeB_ok (by decide +kernel), rfl, rfl, by decide, by decide +kernel, fun _ _ _ _ _ _ us hl => match us, hl with | [_, _], _ => rfl, 60, fun C => by kernel_rfl⟩
theorem s11 : DefS gt (dd 21 "over") ⟨2, 2, false, b11⟩ ⟨"over", 2, false⟩ :=
  ⟨rfl, rfl, rfl, rfl, rfl, rfl, rfl, by decide +kernel, ["one", "other"], ["one", "other"], scopeB_ok (by decide +kernel), rfl, rfl, by decide, by decide +kernel, fun _ _ _ _ _ _ us hl => match us, hl with | [_, _], _ => rfl, 60, fun C => by kernel_rfl⟩
theorem s12 : DefS gt (dd 22 "is_under") ⟨2, 2, false, b12⟩ ⟨"is_under", 2, false⟩ :=
  ⟨rfl, rfl, rfl, rfl, rfl, rfl, rfl, by decide +kernel, ["one", "other"], ["one", "other"], scopeB_ok (by decide +kernel), rfl, rfl, by decide, by decide +kernel, fun _ _ _ _ _ _ us hl => match us, hl with | [_, _], _ => rfl, 60, fun C => by kernel_rfl⟩
theorem s13 : DefS gt (dd 23 "lesser_of") ⟨2, 2, false, b13⟩ ⟨"lesser_of", 2, false⟩ :=
  ⟨rfl, rfl, rfl, rfl, rfl, rfl, rfl, by decide +kernel, ["one", "other"], ["one", "other"], scopeB_ok (by decide +kernel), rfl, rfl, by decide, by decide +kernel, fun _ _ _ _ _ _ us hl => match us, hl with | [_, _], _ => rfl, 60, fun C => by kernel_rfl⟩
theorem s14 : DefS gt (dd 24 "greater_of") ⟨2, 2, false, b14⟩ ⟨"greater_of", 2, false⟩ :=
  ⟨rfl, rfl, rfl, rfl, rfl, rfl, rfl, by decide +kernel, ["one", "other"], ["one", "other"], scopeB_ok (by decide +kernel), rfl, rfl, by decide, by decide +kernel, fun _ _ _ _ _ _ us hl => match us, hl with | [_, _], _ => rfl, 60, fun C => by kernel_rfl⟩
theorem s15 : DefS gt (dd 25 "is_whole_in") ⟨1, 1, false, b15⟩ ⟨"is_whole_in", 1, false⟩ :=
  ⟨rfl, rfl, rfl, rfl, rfl, rfl, rfl, by decide +kernel, ["own"], ["own"], scopeB_ok (by decide +kernel), rfl, rfl, by decide, by decide +kernel, fun _ _ _ _ _ _ us hl => match us, hl with | [_], _ => rfl, 60, fun C => by kernel_rfl⟩
theorem s16 : DefS gt (dd 26 "in_line") ⟨1, 5, false, b16⟩ ⟨"in_line", 1, false⟩ :=
  ⟨rfl, rfl, rfl, rfl, rfl, rfl, rfl, by decide +kernel, ["row", "found", "own", "ahead", "its"], ["row"], scopeB_ok (by decide +kernel), rfl, rfl, by decide, by decide +kernel, fun _ _ _ _ _ _ us hl => match us, hl with | [_], _ => rfl, 60, fun C => by kernel_rfl⟩
theorem s17 : DefS gt (dd 27 "is_fraction_in") ⟨1, 1, false, b17⟩ ⟨"is_fraction_in", 1, false⟩ :=
  ⟨rfl, rfl, rfl, rfl, rfl, rfl, rfl, by decide +kernel, ["thing"], ["thing"], scopeB_ok (by decide +kernel), rfl, rfl, by decide, by decide +kernel, fun _ _ _ _ _ _ us hl => match us, hl with | [_], _ => rfl, 60, fun C => by kernel_rfl⟩
theorem s18 : DefS gt (dd 28 "is_near_fraction") ⟨1, 1, false, b18⟩ ⟨"is_near_fraction", 1, false⟩ :=
  ⟨rfl, rfl, rfl, rfl, rfl, rfl, rfl, by decide +kernel, ["thing"], ["thing"], scopeB_ok (by decide +kernel), rfl, rfl, by decide, by decide +kernel, fun _ _ _ _ _ _ us hl => match us, hl with | [_], _ => rfl, 60, fun C => by kernel_rfl⟩
theorem s19 : DefS gt (dd 31 "is_rectangle_in") ⟨1, 6, false, b19⟩ ⟨"is_rectangle_in", 1, false⟩ :=
  ⟨rfl, rfl, rfl, rfl, rfl, rfl, rfl, by decide +kernel, ["thing", "left", "low", "right", "high", "own"], ["thing"], scopeB_ok (by decide +kernel), rfl, rfl, by decide, by decide +kernel, fun _ _ _ _ _ _ us hl => match us, hl with | [_], _ => rfl, 60, fun C => by kernel_rfl⟩
theorem s20 : DefS gt (dd 32 "is_near_rectangle") ⟨1, 2, false, b20⟩ ⟨"is_near_rectangle", 1, false⟩ :=
  ⟨rfl, rfl, rfl, rfl, rfl, rfl, rfl, by decide +kernel, ["thing", "own"], ["thing"], scopeB_ok (by decide +kernel), rfl, rfl, by decide, by decide +kernel, fun _ _ _ _ _ _ us hl => match us, hl with | [_], _ => rfl, 60, fun C => by kernel_rfl⟩
theorem s21 : DefS gt (dd 33 "sure_rectangle") ⟨1, 2, false, b21⟩ ⟨"sure_rectangle", 1, false⟩ :=
  ⟨rfl, rfl, rfl, rfl, rfl, rfl, rfl, by decide +kernel, ["value", "own"], ["value"], scopeB_ok (by decide +kernel), rfl, rfl, by decide, by decide +kernel, fun _ _ _ _ _ _ us hl => match us, hl with | [_], _ => rfl, 60, fun C => by kernel_rfl⟩
theorem s22 : DefS gt (dd 34 "are_near_parts") ⟨1, 2, false, b22⟩ ⟨"are_near_parts", 1, false⟩ :=
  ⟨rfl, rfl, rfl, rfl, rfl, rfl, rfl, by decide +kernel, ["thing", "own"], ["thing"], scopeB_ok (by decide +kernel), rfl, rfl, by decide, by decide +kernel, fun _ _ _ _ _ _ us hl => match us, hl with | [_], _ => rfl, 60, fun C => by kernel_rfl⟩
theorem s23 : DefS gt (dd 35 "sure_parts") ⟨1, 2, false, b23⟩ ⟨"sure_parts", 1, false⟩ :=
  ⟨rfl, rfl, rfl, rfl, rfl, rfl, rfl, by decide +kernel, ["value", "own"], ["value"], scopeB_ok (by decide +kernel), rfl, rfl, by decide, by decide +kernel, fun _ _ _ _ _ _ us hl => match us, hl with | [_], _ => rfl, 60, fun C => by kernel_rfl⟩
theorem s24 : DefS gt (dd 36 "sides_of") ⟨1, 5, false, b24⟩ ⟨"sides_of", 1, false⟩ :=
  ⟨rfl, rfl, rfl, rfl, rfl, rfl, rfl, by decide +kernel, ["rectangle", "left", "low", "right", "high"], ["rectangle"], scopeB_ok (by decide +kernel), rfl, rfl, by decide, by decide +kernel, fun _ _ _ _ _ _ us hl => match us, hl with | [_], _ => rfl, 60, fun C => by kernel_rfl⟩
theorem s25 : DefS gt (dd 37 "area_in") ⟨1, 3, false, b25⟩ ⟨"area_in", 1, false⟩ :=
  ⟨rfl, rfl, rfl, rfl, rfl, rfl, rfl, by decide +kernel, ["rectangle", "width", "height"], ["rectangle"], scopeB_ok (by decide +kernel), rfl, rfl, by decide, by decide +kernel, fun _ _ _ _ _ _ us hl => match us, hl with | [_], _ => rfl, 60, fun C => by kernel_rfl⟩
theorem s26 : DefS gt (dd 38 "around_in") ⟨1, 6, false, b26⟩ ⟨"around_in", 1, false⟩ :=
  ⟨rfl, rfl, rfl, rfl, rfl, rfl, rfl, by decide +kernel, ["parts", "left", "low", "right", "high", "own"], ["parts"], scopeB_ok (by decide +kernel), rfl, rfl, by decide, by decide +kernel, fun _ _ _ _ _ _ us hl => match us, hl with | [_], _ => rfl, 60, fun C => by kernel_rfl⟩
theorem s27 : DefS gt (dd 39 "shared_in") ⟨2, 6, false, b27⟩ ⟨"shared_in", 2, false⟩ :=
  ⟨rfl, rfl, rfl, rfl, rfl, rfl, rfl, by decide +kernel, ["one", "other", "left", "low", "right", "high"], ["one", "other"], scopeB_ok (by decide +kernel), rfl, rfl, by decide, by decide +kernel, fun _ _ _ _ _ _ us hl => match us, hl with | [_, _], _ => rfl, 60, fun C => by kernel_rfl⟩
theorem s28 : DefS gt (dd 40 "lies_in") ⟨2, 2, false, b28⟩ ⟨"lies_in", 2, false⟩ :=
  ⟨rfl, rfl, rfl, rfl, rfl, rfl, rfl, by decide +kernel, ["whole", "part"], ["whole", "part"], scopeB_ok (by decide +kernel), rfl, rfl, by decide, by decide +kernel, fun _ _ _ _ _ _ us hl => match us, hl with | [_, _], _ => rfl, 60, fun C => by kernel_rfl⟩
theorem s29 : DefS gt (dd 41 "has_point") ⟨2, 8, false, b29⟩ ⟨"has_point", 2, false⟩ :=
  ⟨rfl, rfl, rfl, rfl, rfl, rfl, rfl, by decide +kernel, ["rectangle", "point", "left", "low", "right", "high", "x", "y"], ["rectangle", "point"], scopeB_ok (by decide +kernel), rfl, rfl, by decide, by decide +kernel, fun _ _ _ _ _ _ us hl => match us, hl with | [_, _], _ => rfl, 60, fun C => by kernel_rfl⟩
theorem s30 : DefS gt (dd 43 "total_in") ⟨1, 3, false, b30⟩ ⟨"total_in", 1, false⟩ :=
  ⟨rfl, rfl, rfl, rfl, rfl, rfl, rfl, by decide +kernel, ["parts", "found", "own"], ["parts"], scopeB_ok (by decide +kernel), rfl, rfl, by decide, by decide +kernel, fun _ _ _ _ _ _ us hl => match us, hl with | [_], _ => rfl, 60, fun C => by kernel_rfl⟩
theorem s31 : DefS gt (dd 44 "middle") ⟨2, 3, false, b31⟩ ⟨"middle", 2, false⟩ :=
  ⟨rfl, rfl, rfl, rfl, rfl, rfl, rfl, by decide +kernel, ["one", "other", "own"], ["one", "other"], scopeB_ok (by decide +kernel), rfl, rfl, by decide, by decide +kernel, fun _ _ _ _ _ _ us hl => match us, hl with | [_, _], _ => rfl, 60, fun C => by kernel_rfl⟩
theorem s32 : DefS gt (dd 45 "gap_in") ⟨2, 10, false, b32⟩ ⟨"gap_in", 2, false⟩ :=
  ⟨rfl, rfl, rfl, rfl, rfl, rfl, rfl, by decide +kernel, ["whole", "parts", "columns", "rows", "left", "right", "low", "high", "point", "own"], ["whole", "parts"], scopeB_ok (by decide +kernel), rfl, rfl, by decide, by decide +kernel, fun _ _ _ _ _ _ us hl => match us, hl with | [_, _], _ => rfl, 60, fun C => by kernel_rfl⟩
theorem s33 : DefS gt (dd 46 "flaw_in") ⟨2, 5, false, b33⟩ ⟨"flaw_in", 2, false⟩ :=
  ⟨rfl, rfl, rfl, rfl, rfl, rfl, rfl, by decide +kernel, ["whole", "parts", "place", "own", "later"], ["whole", "parts"], scopeB_ok (by decide +kernel), rfl, rfl, by decide, by decide +kernel, fun _ _ _ _ _ _ us hl => match us, hl with | [_, _], _ => rfl, 60, fun C => by kernel_rfl⟩
theorem s34 : DefS gt (dd 47 "is_laying_in") ⟨2, 2, false, b34⟩ ⟨"is_laying_in", 2, false⟩ :=
  ⟨rfl, rfl, rfl, rfl, rfl, rfl, rfl, by decide +kernel, ["whole", "parts"], ["whole", "parts"], scopeB_ok (by decide +kernel), rfl, rfl, by decide, by decide +kernel, fun _ _ _ _ _ _ us hl => match us, hl with | [_, _], _ => rfl, 60, fun C => by kernel_rfl⟩
theorem s35 : DefS gt (dd 48 "sure_laying") ⟨2, 4, false, b35⟩ ⟨"sure_laying", 2, false⟩ :=
  ⟨rfl, rfl, rfl, rfl, rfl, rfl, rfl, by decide +kernel, ["whole", "parts", "near", "far"], ["whole", "parts"], scopeB_ok (by decide +kernel), rfl, rfl, by decide, by decide +kernel, fun _ _ _ _ _ _ us hl => match us, hl with | [_, _], _ => rfl, 60, fun C => by kernel_rfl⟩
theorem s36 : DefS gt (dd 49 "crossed") ⟨3, 4, false, b36⟩ ⟨"crossed", 3, false⟩ :=
  ⟨rfl, rfl, rfl, rfl, rfl, rfl, rfl, by decide +kernel, ["parts", "at", "number", "own"], ["parts", "at", "number"], scopeB_ok (by decide +kernel), rfl, rfl, by decide, by decide +kernel, fun _ _ _ _ _ _ us hl => match us, hl with | [_, _, _], _ => rfl, 60, fun C => by kernel_rfl⟩
theorem s37 : DefS gt (dd 50 "cut_at") ⟨2, 6, false, b37⟩ ⟨"cut_at", 2, false⟩ :=
  ⟨rfl, rfl, rfl, rfl, rfl, rfl, rfl, by decide +kernel, ["whole", "parts", "at", "lines", "own", "part"], ["whole", "parts"], scopeB_ok (by decide +kernel), rfl, rfl, by decide, by decide +kernel, fun _ _ _ _ _ _ us hl => match us, hl with | [_, _], _ => rfl, 60, fun C => by kernel_rfl⟩
theorem s38 : DefS gt (dd 55 "is_before") ⟨2, 2, false, b38⟩ ⟨"is_before", 2, false⟩ :=
  ⟨rfl, rfl, rfl, rfl, rfl, rfl, rfl, by decide +kernel, ["one", "other"], ["one", "other"], scopeB_ok (by decide +kernel), rfl, rfl, by decide, by decide +kernel, fun _ _ _ _ _ _ us hl => match us, hl with | [_, _], _ => rfl, 60, fun C => by kernel_rfl⟩
theorem s39 : DefS gt (dd 56 "in_order_of") ⟨1, 5, false, b39⟩ ⟨"in_order_of", 1, false⟩ :=
  ⟨rfl, rfl, rfl, rfl, rfl, rfl, rfl, by decide +kernel, ["rows", "found", "own", "ahead", "its"], ["rows"], scopeB_ok (by decide +kernel), rfl, rfl, by decide, by decide +kernel, fun _ _ _ _ _ _ us hl => match us, hl with | [_], _ => rfl, 60, fun C => by kernel_rfl⟩
theorem s40 : DefS gt (dd 57 "ways_in") ⟨1, 8, false, b40⟩ ⟨"ways_in", 1, false⟩ :=
  ⟨rfl, rfl, rfl, rfl, rfl, rfl, rfl, by decide +kernel, ["parts", "sides", "found", "height", "left", "right", "far", "own"], ["parts"], scopeB_ok (by decide +kernel), rfl, rfl, by decide, by decide +kernel, fun _ _ _ _ _ _ us hl => match us, hl with | [_], _ => rfl, 60, fun C => by kernel_rfl⟩
theorem s41 : DefS gt (dd 58 "way_of") ⟨3, 6, false, b41⟩ ⟨"way_of", 3, false⟩ :=
  ⟨rfl, rfl, rfl, rfl, rfl, rfl, rfl, by decide +kernel, ["ways", "height", "left", "goods", "place", "own"], ["ways", "height", "left"], scopeB_ok (by decide +kernel), rfl, rfl, by decide, by decide +kernel, fun _ _ _ _ _ _ us hl => match us, hl with | [_, _, _], _ => rfl, 60, fun C => by kernel_rfl⟩
theorem s42 : DefS gt (dd 59 "net_in") ⟨1, 4, false, b42⟩ ⟨"net_in", 1, false⟩ :=
  ⟨rfl, rfl, rfl, rfl, rfl, rfl, rfl, by decide +kernel, ["parts", "ways", "wires", "own"], ["parts"], scopeB_ok (by decide +kernel), rfl, rfl, by decide, by decide +kernel, fun _ _ _ _ _ _ us hl => match us, hl with | [_], _ => rfl, 60, fun C => by kernel_rfl⟩
theorem s43 : DefS gt (dd 60 "ratios_in") ⟨1, 2, false, b43⟩ ⟨"ratios_in", 1, false⟩ :=
  ⟨rfl, rfl, rfl, rfl, rfl, rfl, rfl, by decide +kernel, ["parts", "own"], ["parts"], scopeB_ok (by decide +kernel), rfl, rfl, by decide, by decide +kernel, fun _ _ _ _ _ _ us hl => match us, hl with | [_], _ => rfl, 60, fun C => by kernel_rfl⟩
theorem s44 : DefS gt (dd 61 "is_net_in") ⟨1, 2, false, b44⟩ ⟨"is_net_in", 1, false⟩ :=
  ⟨rfl, rfl, rfl, rfl, rfl, rfl, rfl, by decide +kernel, ["thing", "own"], ["thing"], scopeB_ok (by decide +kernel), rfl, rfl, by decide, by decide +kernel, fun _ _ _ _ _ _ us hl => match us, hl with | [_], _ => rfl, 60, fun C => by kernel_rfl⟩
theorem s45 : DefS gt (dd 62 "reached_in") ⟨2, 7, false, b45⟩ ⟨"reached_in", 2, false⟩ :=
  ⟨rfl, rfl, rfl, rfl, rfl, rfl, rfl, by decide +kernel, ["net", "start", "found", "line", "here", "low", "high"], ["net", "start"], scopeB_ok (by decide +kernel), rfl, rfl, by decide, by decide +kernel, fun _ _ _ _ _ _ us hl => match us, hl with | [_, _], _ => rfl, 60, fun C => by kernel_rfl⟩
theorem s46 : DefS gt (dd 63 "sure_net") ⟨1, 2, false, b46⟩ ⟨"sure_net", 1, false⟩ :=
  ⟨rfl, rfl, rfl, rfl, rfl, rfl, rfl, by decide +kernel, ["value", "own"], ["value"], scopeB_ok (by decide +kernel), rfl, rfl, by decide, by decide +kernel, fun _ _ _ _ _ _ us hl => match us, hl with | [_], _ => rfl, 60, fun C => by kernel_rfl⟩
theorem s47 : DefS gt (dd 64 "sure_ratios") ⟨2, 4, false, b47⟩ ⟨"sure_ratios", 2, false⟩ :=
  ⟨rfl, rfl, rfl, rfl, rfl, rfl, rfl, by decide +kernel, ["net", "value", "own", "its"], ["net", "value"], scopeB_ok (by decide +kernel), rfl, rfl, by decide, by decide +kernel, fun _ _ _ _ _ _ us hl => match us, hl with | [_, _], _ => rfl, 60, fun C => by kernel_rfl⟩
theorem s48 : DefS gt (dd 65 "table_of") ⟨2, 10, false, b48⟩ ⟨"table_of", 2, false⟩ :=
  ⟨rfl, rfl, rfl, rfl, rfl, rfl, rfl, by decide +kernel, ["net", "ratios", "many", "rows", "low", "high", "own", "one", "other", "place"], ["net", "ratios"], scopeB_ok (by decide +kernel), rfl, rfl, by decide, by decide +kernel, fun _ _ _ _ _ _ us hl => match us, hl with | [_, _], _ => rfl, 60, fun C => by kernel_rfl⟩
theorem s49 : DefS gt (dd 66 "cleared") ⟨2, 4, false, b49⟩ ⟨"cleared", 2, false⟩ :=
  ⟨rfl, rfl, rfl, rfl, rfl, rfl, rfl, by decide +kernel, ["rows", "place", "goods", "spot"], ["rows", "place"], scopeB_ok (by decide +kernel), rfl, rfl, by decide, by decide +kernel, fun _ _ _ _ _ _ us hl => match us, hl with | [_, _], _ => rfl, 60, fun C => by kernel_rfl⟩
theorem s50 : DefS gt (dd 67 "lowered") ⟨3, 5, false, b50⟩ ⟨"lowered", 3, false⟩ :=
  ⟨rfl, rfl, rfl, rfl, rfl, rfl, rfl, by decide +kernel, ["row", "by", "other", "own", "its"], ["row", "by", "other"], scopeB_ok (by decide +kernel), rfl, rfl, by decide, by decide +kernel, fun _ _ _ _ _ _ us hl => match us, hl with | [_, _, _], _ => rfl, 60, fun C => by kernel_rfl⟩
theorem s51 : DefS gt (dd 68 "determinant") ⟨1, 5, false, b51⟩ ⟨"determinant", 1, false⟩ :=
  ⟨rfl, rfl, rfl, rfl, rfl, rfl, rfl, by decide +kernel, ["rows", "found", "place", "head", "row"], ["rows"], scopeB_ok (by decide +kernel), rfl, rfl, by decide, by decide +kernel, fun _ _ _ _ _ _ us hl => match us, hl with | [_], _ => rfl, 60, fun C => by kernel_rfl⟩
theorem s52 : DefS gt (dd 69 "solved") ⟨1, 6, false, b52⟩ ⟨"solved", 1, false⟩ :=
  ⟨rfl, rfl, rfl, rfl, rfl, rfl, rfl, by decide +kernel, ["rows", "place", "head", "own", "spot", "row"], ["rows"], scopeB_ok (by decide +kernel), rfl, rfl, by decide, by decide +kernel, fun _ _ _ _ _ _ us hl => match us, hl with | [_], _ => rfl, 60, fun C => by kernel_rfl⟩
theorem s53 : DefS gt (dd 70 "without_nodes") ⟨2, 6, false, b53⟩ ⟨"without_nodes", 2, false⟩ :=
  ⟨rfl, rfl, rfl, rfl, rfl, rfl, rfl, by decide +kernel, ["rows", "nodes", "left", "place", "one", "other"], ["rows", "nodes"], scopeB_ok (by decide +kernel), rfl, rfl, by decide, by decide +kernel, fun _ _ _ _ _ _ us hl => match us, hl with | [_, _], _ => rfl, 60, fun C => by kernel_rfl⟩
theorem s54 : DefS gt (dd 71 "drops_in") ⟨2, 8, false, b54⟩ ⟨"drops_in", 2, false⟩ :=
  ⟨rfl, rfl, rfl, rfl, rfl, rfl, rfl, by decide +kernel, ["net", "ratios", "many", "table", "inner", "rows", "one", "other"], ["net", "ratios"], scopeB_ok (by decide +kernel), rfl, rfl, by decide, by decide +kernel, fun _ _ _ _ _ _ us hl => match us, hl with | [_, _], _ => rfl, 60, fun C => by kernel_rfl⟩
theorem s55 : DefS gt (dd 72 "flows_in") ⟨2, 6, false, b55⟩ ⟨"flows_in", 2, false⟩ :=
  ⟨rfl, rfl, rfl, rfl, rfl, rfl, rfl, by decide +kernel, ["net", "ratios", "drops", "low", "high", "own"], ["net", "ratios"], scopeB_ok (by decide +kernel), rfl, rfl, by decide, by decide +kernel, fun _ _ _ _ _ _ us hl => match us, hl with | [_, _], _ => rfl, 60, fun C => by kernel_rfl⟩
theorem s56 : DefS gt (dd 73 "trees_in") ⟨1, 10, false, b56⟩ ⟨"trees_in", 1, false⟩ :=
  ⟨rfl, rfl, rfl, rfl, rfl, rfl, rfl, by decide +kernel, ["net", "found", "line", "row", "lots", "place", "low", "high", "merged", "own"], ["net"], scopeB_ok (by decide +kernel), rfl, rfl, by decide, by decide +kernel, fun _ _ _ _ _ _ us hl => match us, hl with | [_], _ => rfl, 60, fun C => by kernel_rfl⟩
theorem s57 : DefS gt (dd 74 "sure_flowing") ⟨2, 4, false, b57⟩ ⟨"sure_flowing", 2, false⟩ :=
  ⟨rfl, rfl, rfl, rfl, rfl, rfl, rfl, by decide +kernel, ["net", "ratios", "near", "far"], ["net", "ratios"], scopeB_ok (by decide +kernel), rfl, rfl, by decide, by decide +kernel, fun _ _ _ _ _ _ us hl => match us, hl with | [_, _], _ => rfl, 60, fun C => by kernel_rfl⟩
theorem s58 : DefS gt (dd 75 "level_ways") ⟨2, 2, false, b58⟩ ⟨"level_ways", 2, false⟩ :=
  ⟨rfl, rfl, rfl, rfl, rfl, rfl, rfl, by decide +kernel, ["whole", "parts"], ["whole", "parts"], scopeB_ok (by decide +kernel), rfl, rfl, by decide, by decide +kernel, fun _ _ _ _ _ _ us hl => match us, hl with | [_, _], _ => rfl, 60, fun C => by kernel_rfl⟩
theorem s59 : DefS gt (dd 76 "net_of") ⟨2, 2, false, b59⟩ ⟨"net_of", 2, false⟩ :=
  ⟨rfl, rfl, rfl, rfl, rfl, rfl, rfl, by decide +kernel, ["whole", "parts"], ["whole", "parts"], scopeB_ok (by decide +kernel), rfl, rfl, by decide, by decide +kernel, fun _ _ _ _ _ _ us hl => match us, hl with | [_, _], _ => rfl, 60, fun C => by kernel_rfl⟩
theorem s60 : DefS gt (dd 77 "ratios_of") ⟨2, 2, false, b60⟩ ⟨"ratios_of", 2, false⟩ :=
  ⟨rfl, rfl, rfl, rfl, rfl, rfl, rfl, by decide +kernel, ["whole", "parts"], ["whole", "parts"], scopeB_ok (by decide +kernel), rfl, rfl, by decide, by decide +kernel, fun _ _ _ _ _ _ us hl => match us, hl with | [_, _], _ => rfl, 60, fun C => by kernel_rfl⟩
theorem s61 : DefS gt (dd 78 "widths_at") ⟨2, 12, false, b61⟩ ⟨"widths_at", 2, false⟩ :=
  ⟨rfl, rfl, rfl, rfl, rfl, rfl, rfl, by decide +kernel, ["whole", "parts", "own", "many", "wires", "found", "low", "high", "part", "width", "place", "row"], ["whole", "parts"], scopeB_ok (by decide +kernel), rfl, rfl, by decide, by decide +kernel, fun _ _ _ _ _ _ us hl => match us, hl with | [_, _], _ => rfl, 60, fun C => by kernel_rfl⟩
theorem s62 : DefS gt (dd 79 "drops") ⟨2, 4, false, b62⟩ ⟨"drops", 2, false⟩ :=
  ⟨rfl, rfl, rfl, rfl, rfl, rfl, rfl, by decide +kernel, ["net", "ratios", "near", "far"], ["net", "ratios"], scopeB_ok (by decide +kernel), rfl, rfl, by decide, by decide +kernel, fun _ _ _ _ _ _ us hl => match us, hl with | [_, _], _ => rfl, 60, fun C => by kernel_rfl⟩
theorem s63 : DefS gt (dd 80 "flows") ⟨2, 4, false, b63⟩ ⟨"flows", 2, false⟩ :=
  ⟨rfl, rfl, rfl, rfl, rfl, rfl, rfl, by decide +kernel, ["net", "ratios", "near", "far"], ["net", "ratios"], scopeB_ok (by decide +kernel), rfl, rfl, by decide, by decide +kernel, fun _ _ _ _ _ _ us hl => match us, hl with | [_, _], _ => rfl, 60, fun C => by kernel_rfl⟩
theorem s64 : DefS gt (dd 81 "whole_ratio") ⟨2, 8, false, b64⟩ ⟨"whole_ratio", 2, false⟩ :=
  ⟨rfl, rfl, rfl, rfl, rfl, rfl, rfl, by decide +kernel, ["net", "ratios", "near", "far", "found", "low", "high", "own"], ["net", "ratios"], scopeB_ok (by decide +kernel), rfl, rfl, by decide, by decide +kernel, fun _ _ _ _ _ _ us hl => match us, hl with | [_, _], _ => rfl, 60, fun C => by kernel_rfl⟩
theorem s65 : DefS gt (dd 82 "sides_told") ⟨2, 8, false, b65⟩ ⟨"sides_told", 2, false⟩ :=
  ⟨rfl, rfl, rfl, rfl, rfl, rfl, rfl, by decide +kernel, ["net", "ratios", "near", "far", "nodes", "low", "high", "own"], ["net", "ratios"], scopeB_ok (by decide +kernel), rfl, rfl, by decide, by decide +kernel, fun _ _ _ _ _ _ us hl => match us, hl with | [_, _], _ => rfl, 60, fun C => by kernel_rfl⟩
theorem s66 : DefS gt (dd 83 "tree_sum") ⟨2, 4, false, b66⟩ ⟨"tree_sum", 2, false⟩ :=
  ⟨rfl, rfl, rfl, rfl, rfl, rfl, rfl, by decide +kernel, ["net", "ratios", "near", "far"], ["net", "ratios"], scopeB_ok (by decide +kernel), rfl, rfl, by decide, by decide +kernel, fun _ _ _ _ _ _ us hl => match us, hl with | [_, _], _ => rfl, 60, fun C => by kernel_rfl⟩
theorem s67 : DefS gt (dd 84 "pair_sum") ⟨2, 4, false, b67⟩ ⟨"pair_sum", 2, false⟩ :=
  ⟨rfl, rfl, rfl, rfl, rfl, rfl, rfl, by decide +kernel, ["net", "ratios", "near", "far"], ["net", "ratios"], scopeB_ok (by decide +kernel), rfl, rfl, by decide, by decide +kernel, fun _ _ _ _ _ _ us hl => match us, hl with | [_, _], _ => rfl, 60, fun C => by kernel_rfl⟩
theorem s68 : DefS gt (dd 85 "net_trees") ⟨1, 2, false, b68⟩ ⟨"net_trees", 1, false⟩ :=
  ⟨rfl, rfl, rfl, rfl, rfl, rfl, rfl, by decide +kernel, ["net", "found"], ["net"], scopeB_ok (by decide +kernel), rfl, rfl, by decide, by decide +kernel, fun _ _ _ _ _ _ us hl => match us, hl with | [_], _ => rfl, 60, fun C => by kernel_rfl⟩
theorem s69 : DefS gt (dd 88 "both_sides") ⟨3, 7, false, b69⟩ ⟨"both_sides", 3, false⟩ :=
  ⟨rfl, rfl, rfl, rfl, rfl, rfl, rfl, by decide +kernel, ["parts", "numbers", "cut", "at", "line", "near", "own"], ["parts", "numbers", "cut"], scopeB_ok (by decide +kernel), rfl, rfl, by decide, by decide +kernel, fun _ _ _ _ _ _ us hl => match us, hl with | [_, _, _], _ => rfl, 60, fun C => by kernel_rfl⟩
theorem s70 : DefS gt (dd 89 "tree_or_core") ⟨2, 9, false, b70⟩ ⟨"tree_or_core", 2, false⟩ :=
  ⟨rfl, rfl, rfl, rfl, rfl, rfl, rfl, by decide +kernel, ["parts", "numbers", "some", "cut", "near", "far", "one", "other", "own"], ["parts", "numbers"], scopeB_ok (by decide +kernel), rfl, rfl, by decide, by decide +kernel, fun _ _ _ _ _ _ us hl => match us, hl with | [_, _], _ => rfl, 60, fun C => by kernel_rfl⟩
theorem s71 : DefS gt (dd 90 "numbers_in") ⟨1, 4, false, b71⟩ ⟨"numbers_in", 1, false⟩ :=
  ⟨rfl, rfl, rfl, rfl, rfl, rfl, rfl, by decide +kernel, ["tree", "line", "found", "here"], ["tree"], scopeB_ok (by decide +kernel), rfl, rfl, by decide, by decide +kernel, fun _ _ _ _ _ _ us hl => match us, hl with | [_], _ => rfl, 60, fun C => by kernel_rfl⟩
theorem s72 : DefS gt (dd 91 "is_tree_in") ⟨1, 4, false, b72⟩ ⟨"is_tree_in", 1, false⟩ :=
  ⟨rfl, rfl, rfl, rfl, rfl, rfl, rfl, by decide +kernel, ["thing", "line", "numbers", "here"], ["thing"], scopeB_ok (by decide +kernel), rfl, rfl, by decide, by decide +kernel, fun _ _ _ _ _ _ us hl => match us, hl with | [_], _ => rfl, 60, fun C => by kernel_rfl⟩
theorem s73 : DefS gt (dd 92 "laid_by") ⟨2, 8, false, b73⟩ ⟨"laid_by", 2, false⟩ :=
  ⟨rfl, rfl, rfl, rfl, rfl, rfl, rfl, by decide +kernel, ["whole", "tree", "line", "found", "here", "own", "at", "number"], ["whole", "tree"], scopeB_ok (by decide +kernel), rfl, rfl, by decide, by decide +kernel, fun _ _ _ _ _ _ us hl => match us, hl with | [_, _], _ => rfl, 60, fun C => by kernel_rfl⟩
theorem s74 : DefS gt (dd 93 "is_core_in") ⟨2, 7, false, b74⟩ ⟨"is_core_in", 2, false⟩ :=
  ⟨rfl, rfl, rfl, rfl, rfl, rfl, rfl, by decide +kernel, ["parts", "thing", "some", "whole", "own", "one", "other"], ["parts", "thing"], scopeB_ok (by decide +kernel), rfl, rfl, by decide, by decide +kernel, fun _ _ _ _ _ _ us hl => match us, hl with | [_, _], _ => rfl, 60, fun C => by kernel_rfl⟩
theorem s75 : DefS gt (dd 94 "cut_tree") ⟨2, 4, false, b75⟩ ⟨"cut_tree", 2, false⟩ :=
  ⟨rfl, rfl, rfl, rfl, rfl, rfl, rfl, by decide +kernel, ["whole", "parts", "word", "found"], ["whole", "parts"], scopeB_ok (by decide +kernel), rfl, rfl, by decide, by decide +kernel, fun _ _ _ _ _ _ us hl => match us, hl with | [_, _], _ => rfl, 60, fun C => by kernel_rfl⟩
theorem s76 : DefS gt (dd 95 "core_of") ⟨2, 4, false, b76⟩ ⟨"core_of", 2, false⟩ :=
  ⟨rfl, rfl, rfl, rfl, rfl, rfl, rfl, by decide +kernel, ["whole", "parts", "word", "found"], ["whole", "parts"], scopeB_ok (by decide +kernel), rfl, rfl, by decide, by decide +kernel, fun _ _ _ _ _ _ us hl => match us, hl with | [_, _], _ => rfl, 60, fun C => by kernel_rfl⟩
theorem s77 : DefS gt (dd 96 "is_core") ⟨3, 3, false, b77⟩ ⟨"is_core", 3, false⟩ :=
  ⟨rfl, rfl, rfl, rfl, rfl, rfl, rfl, by decide +kernel, ["whole", "parts", "thing"], ["whole", "parts", "thing"], scopeB_ok (by decide +kernel), rfl, rfl, by decide, by decide +kernel, fun _ _ _ _ _ _ us hl => match us, hl with | [_, _, _], _ => rfl, 60, fun C => by kernel_rfl⟩
theorem s78 : DefS gt (dd 97 "sure_tree") ⟨1, 2, false, b78⟩ ⟨"sure_tree", 1, false⟩ :=
  ⟨rfl, rfl, rfl, rfl, rfl, rfl, rfl, by decide +kernel, ["value", "own"], ["value"], scopeB_ok (by decide +kernel), rfl, rfl, by decide, by decide +kernel, fun _ _ _ _ _ _ us hl => match us, hl with | [_], _ => rfl, 60, fun C => by kernel_rfl⟩
theorem s79 : DefS gt (dd 98 "parts_of_tree") ⟨2, 6, false, b79⟩ ⟨"parts_of_tree", 2, false⟩ :=
  ⟨rfl, rfl, rfl, rfl, rfl, rfl, rfl, by decide +kernel, ["whole", "tree", "near", "found", "number", "own"], ["whole", "tree"], scopeB_ok (by decide +kernel), rfl, rfl, by decide, by decide +kernel, fun _ _ _ _ _ _ us hl => match us, hl with | [_, _], _ => rfl, 60, fun C => by kernel_rfl⟩
theorem s80 : DefS gt (dd 99 "tree_height") ⟨1, 6, false, b80⟩ ⟨"tree_height", 1, false⟩ :=
  ⟨rfl, rfl, rfl, rfl, rfl, rfl, rfl, by decide +kernel, ["tree", "own", "line", "most", "here", "deep"], ["tree"], scopeB_ok (by decide +kernel), rfl, rfl, by decide, by decide +kernel, fun _ _ _ _ _ _ us hl => match us, hl with | [_], _ => rfl, 60, fun C => by kernel_rfl⟩
theorem s81 : DefS gt (dd 100 "tree_numbers") ⟨1, 1, false, b81⟩ ⟨"tree_numbers", 1, false⟩ :=
  ⟨rfl, rfl, rfl, rfl, rfl, rfl, rfl, by decide +kernel, ["tree"], ["tree"], scopeB_ok (by decide +kernel), rfl, rfl, by decide, by decide +kernel, fun _ _ _ _ _ _ us hl => match us, hl with | [_], _ => rfl, 60, fun C => by kernel_rfl⟩
theorem s82 : DefS gt (dd 102 "is_tile") ⟨1, 1, false, b82⟩ ⟨"is_tile", 1, false⟩ :=
  ⟨rfl, rfl, rfl, rfl, rfl, rfl, rfl, by decide +kernel, ["thing"], ["thing"], scopeB_ok (by decide +kernel), rfl, rfl, by decide, by decide +kernel, fun _ _ _ _ _ _ us hl => match us, hl with | [_], _ => rfl, 60, fun C => by kernel_rfl⟩
theorem s83 : DefS gt (dd 103 "tile_cells") ⟨1, 7, false, b83⟩ ⟨"tile_cells", 1, false⟩ :=
  ⟨rfl, rfl, rfl, rfl, rfl, rfl, rfl, by decide +kernel, ["tile", "left", "low", "right", "high", "x", "y"], ["tile"], scopeB_ok (by decide +kernel), rfl, rfl, by decide, by decide +kernel, fun _ _ _ _ _ _ us hl => match us, hl with | [_], _ => rfl, 60, fun C => by kernel_rfl⟩
theorem s84 : DefS gt (dd 104 "is_brickwork_in") ⟨3, 7, false, b84⟩ ⟨"is_brickwork_in", 3, false⟩ :=
  ⟨rfl, rfl, rfl, rfl, rfl, rfl, rfl, by decide +kernel, ["width", "height", "thing", "own", "here", "later", "cell"], ["width", "height", "thing"], scopeB_ok (by decide +kernel), rfl, rfl, by decide, by decide +kernel, fun _ _ _ _ _ _ us hl => match us, hl with | [_, _, _], _ => rfl, 60, fun C => by kernel_rfl⟩
theorem s85 : DefS gt (dd 110 "inner_lines") ⟨2, 4, false, b85⟩ ⟨"inner_lines", 2, false⟩ :=
  ⟨rfl, rfl, rfl, rfl, rfl, rfl, rfl, by decide +kernel, ["width", "height", "x", "y"], ["width", "height"], scopeB_ok (by decide +kernel), rfl, rfl, by decide, by decide +kernel, fun _ _ _ _ _ _ us hl => match us, hl with | [_, _], _ => rfl, 60, fun C => by kernel_rfl⟩
theorem s86 : DefS gt (dd 111 "crossed_by") ⟨2, 5, false, b86⟩ ⟨"crossed_by", 2, false⟩ :=
  ⟨rfl, rfl, rfl, rfl, rfl, rfl, rfl, by decide +kernel, ["line", "tiles", "at", "number", "own"], ["line", "tiles"], scopeB_ok (by decide +kernel), rfl, rfl, by decide, by decide +kernel, fun _ _ _ _ _ _ us hl => match us, hl with | [_, _], _ => rfl, 60, fun C => by kernel_rfl⟩
theorem s87 : DefS gt (dd 112 "bare_lines") ⟨3, 4, false, b87⟩ ⟨"bare_lines", 3, false⟩ :=
  ⟨rfl, rfl, rfl, rfl, rfl, rfl, rfl, by decide +kernel, ["width", "height", "tiles", "own"], ["width", "height", "tiles"], scopeB_ok (by decide +kernel), rfl, rfl, by decide, by decide +kernel, fun _ _ _ _ _ _ us hl => match us, hl with | [_, _, _], _ => rfl, 60, fun C => by kernel_rfl⟩
theorem s88 : DefS gt (dd 113 "is_domino") ⟨1, 1, false, b88⟩ ⟨"is_domino", 1, false⟩ :=
  ⟨rfl, rfl, rfl, rfl, rfl, rfl, rfl, by decide +kernel, ["tile"], ["tile"], scopeB_ok (by decide +kernel), rfl, rfl, by decide, by decide +kernel, fun _ _ _ _ _ _ us hl => match us, hl with | [_], _ => rfl, 60, fun C => by kernel_rfl⟩
theorem s89 : DefS gt (dd 114 "lying") ⟨1, 2, false, b89⟩ ⟨"lying", 1, false⟩ :=
  ⟨rfl, rfl, rfl, rfl, rfl, rfl, rfl, by decide +kernel, ["tiles", "own"], ["tiles"], scopeB_ok (by decide +kernel), rfl, rfl, by decide, by decide +kernel, fun _ _ _ _ _ _ us hl => match us, hl with | [_], _ => rfl, 60, fun C => by kernel_rfl⟩
theorem s90 : DefS gt (dd 115 "grown_up") ⟨3, 8, false, b90⟩ ⟨"grown_up", 3, false⟩ :=
  ⟨rfl, rfl, rfl, rfl, rfl, rfl, rfl, by decide +kernel, ["width", "height", "tiles", "tops", "lifted", "below", "own", "x"], ["width", "height", "tiles"], scopeB_ok (by decide +kernel), rfl, rfl, by decide, by decide +kernel, fun _ _ _ _ _ _ us hl => match us, hl with | [_, _, _], _ => rfl, 60, fun C => by kernel_rfl⟩
theorem s91 : DefS gt (dd 116 "has_faultless_in") ⟨2, 2, false, b91⟩ ⟨"has_faultless_in", 2, false⟩ :=
  ⟨rfl, rfl, rfl, rfl, rfl, rfl, rfl, by decide +kernel, ["width", "height"], ["width", "height"], scopeB_ok (by decide +kernel), rfl, rfl, by decide, by decide +kernel, fun _ _ _ _ _ _ us hl => match us, hl with | [_, _], _ => rfl, 60, fun C => by kernel_rfl⟩
theorem s92 : DefS gt (dd 117 "faultless_in") ⟨2, 2, false, b92⟩ ⟨"faultless_in", 2, false⟩ :=
  ⟨rfl, rfl, rfl, rfl, rfl, rfl, rfl, by decide +kernel, ["width", "height"], ["width", "height"], scopeB_ok (by decide +kernel), rfl, rfl, by decide, by decide +kernel, fun _ _ _ _ _ _ us hl => match us, hl with | [_, _], _ => rfl, 60, fun C => by kernel_rfl⟩
theorem s93 : DefS gt (dd 118 "grown_to") ⟨5, 5, false, b93⟩ ⟨"grown_to", 5, false⟩ :=
  ⟨rfl, rfl, rfl, rfl, rfl, rfl, rfl, by decide +kernel, ["width", "height", "tiles", "wide", "high"], ["width", "height", "tiles", "wide", "high"], scopeB_ok (by decide +kernel), rfl, rfl, by decide, by decide +kernel, fun _ _ _ _ _ _ us hl => match us, hl with | [_, _, _, _, _], _ => rfl, 60, fun C => by kernel_rfl⟩
theorem s94 : DefS gt (dd 119 "sure_brickwork") ⟨3, 4, false, b94⟩ ⟨"sure_brickwork", 3, false⟩ :=
  ⟨rfl, rfl, rfl, rfl, rfl, rfl, rfl, by decide +kernel, ["width", "height", "thing", "own"], ["width", "height", "thing"], scopeB_ok (by decide +kernel), rfl, rfl, by decide, by decide +kernel, fun _ _ _ _ _ _ us hl => match us, hl with | [_, _, _], _ => rfl, 60, fun C => by kernel_rfl⟩
theorem s95 : DefS gt (dd 120 "line_crossings") ⟨3, 7, false, b95⟩ ⟨"line_crossings", 3, false⟩ :=
  ⟨rfl, rfl, rfl, rfl, rfl, rfl, rfl, by decide +kernel, ["width", "height", "tiles", "wide", "high", "own", "line"], ["width", "height", "tiles"], scopeB_ok (by decide +kernel), rfl, rfl, by decide, by decide +kernel, fun _ _ _ _ _ _ us hl => match us, hl with | [_, _, _], _ => rfl, 60, fun C => by kernel_rfl⟩
theorem s96 : DefS gt (dd 121 "faults") ⟨3, 5, false, b96⟩ ⟨"faults", 3, false⟩ :=
  ⟨rfl, rfl, rfl, rfl, rfl, rfl, rfl, by decide +kernel, ["width", "height", "tiles", "wide", "high"], ["width", "height", "tiles"], scopeB_ok (by decide +kernel), rfl, rfl, by decide, by decide +kernel, fun _ _ _ _ _ _ us hl => match us, hl with | [_, _, _], _ => rfl, 60, fun C => by kernel_rfl⟩
theorem s97 : DefS gt (dd 122 "has_faultless") ⟨2, 3, false, b97⟩ ⟨"has_faultless", 2, false⟩ :=
  ⟨rfl, rfl, rfl, rfl, rfl, rfl, rfl, by decide +kernel, ["width", "height", "wide"], ["width", "height"], scopeB_ok (by decide +kernel), rfl, rfl, by decide, by decide +kernel, fun _ _ _ _ _ _ us hl => match us, hl with | [_, _], _ => rfl, 60, fun C => by kernel_rfl⟩
theorem s98 : DefS gt (dd 123 "faultless") ⟨2, 4, false, b98⟩ ⟨"faultless", 2, false⟩ :=
  ⟨rfl, rfl, rfl, rfl, rfl, rfl, rfl, by decide +kernel, ["width", "height", "wide", "high"], ["width", "height"], scopeB_ok (by decide +kernel), rfl, rfl, by decide, by decide +kernel, fun _ _ _ _ _ _ us hl => match us, hl with | [_, _], _ => rfl, 60, fun C => by kernel_rfl⟩
theorem s99 : DefS gt (dd 124 "is_faultless") ⟨3, 6, false, b99⟩ ⟨"is_faultless", 3, false⟩ :=
  ⟨rfl, rfl, rfl, rfl, rfl, rfl, rfl, by decide +kernel, ["width", "height", "thing", "wide", "high", "own"], ["width", "height", "thing"], scopeB_ok (by decide +kernel), rfl, rfl, by decide, by decide +kernel, fun _ _ _ _ _ _ us hl => match us, hl with | [_, _, _], _ => rfl, 60, fun C => by kernel_rfl⟩
theorem s100 : DefS gt (dd 125 "stretched_up") ⟨3, 7, false, b100⟩ ⟨"stretched_up", 3, false⟩ :=
  ⟨rfl, rfl, rfl, rfl, rfl, rfl, rfl, by decide +kernel, ["width", "height", "tiles", "wide", "high", "own", "its"], ["width", "height", "tiles"], scopeB_ok (by decide +kernel), rfl, rfl, by decide, by decide +kernel, fun _ _ _ _ _ _ us hl => match us, hl with | [_, _, _], _ => rfl, 60, fun C => by kernel_rfl⟩
theorem s101 : DefS gt (dd 130 "is_root_in") ⟨1, 2, false, b101⟩ ⟨"is_root_in", 1, false⟩ :=
  ⟨rfl, rfl, rfl, rfl, rfl, rfl, rfl, by decide +kernel, ["thing", "own"], ["thing"], scopeB_ok (by decide +kernel), rfl, rfl, by decide, by decide +kernel, fun _ _ _ _ _ _ us hl => match us, hl with | [_], _ => rfl, 60, fun C => by kernel_rfl⟩
theorem s102 : DefS gt (dd 131 "is_near_root") ⟨1, 3, false, b102⟩ ⟨"is_near_root", 1, false⟩ :=
  ⟨rfl, rfl, rfl, rfl, rfl, rfl, rfl, by decide +kernel, ["thing", "own", "part"], ["thing"], scopeB_ok (by decide +kernel), rfl, rfl, by decide, by decide +kernel, fun _ _ _ _ _ _ us hl => match us, hl with | [_], _ => rfl, 60, fun C => by kernel_rfl⟩
theorem s103 : DefS gt (dd 132 "sign_of") ⟨1, 5, false, b103⟩ ⟨"sign_of", 1, false⟩ :=
  ⟨rfl, rfl, rfl, rfl, rfl, rfl, rfl, by decide +kernel, ["number", "plain", "rooted", "whole", "greater"], ["number"], scopeB_ok (by decide +kernel), rfl, rfl, by decide, by decide +kernel, fun _ _ _ _ _ _ us hl => match us, hl with | [_], _ => rfl, 60, fun C => by kernel_rfl⟩
theorem s104 : DefS gt (dd 133 "root_plus") ⟨2, 2, false, b104⟩ ⟨"root_plus", 2, false⟩ :=
  ⟨rfl, rfl, rfl, rfl, rfl, rfl, rfl, by decide +kernel, ["one", "other"], ["one", "other"], scopeB_ok (by decide +kernel), rfl, rfl, by decide, by decide +kernel, fun _ _ _ _ _ _ us hl => match us, hl with | [_, _], _ => rfl, 60, fun C => by kernel_rfl⟩
theorem s105 : DefS gt (dd 134 "root_less") ⟨2, 2, false, b105⟩ ⟨"root_less", 2, false⟩ :=
  ⟨rfl, rfl, rfl, rfl, rfl, rfl, rfl, by decide +kernel, ["one", "other"], ["one", "other"], scopeB_ok (by decide +kernel), rfl, rfl, by decide, by decide +kernel, fun _ _ _ _ _ _ us hl => match us, hl with | [_, _], _ => rfl, 60, fun C => by kernel_rfl⟩
theorem s106 : DefS gt (dd 135 "root_times") ⟨2, 3, false, b106⟩ ⟨"root_times", 2, false⟩ :=
  ⟨rfl, rfl, rfl, rfl, rfl, rfl, rfl, by decide +kernel, ["one", "other", "plain"], ["one", "other"], scopeB_ok (by decide +kernel), rfl, rfl, by decide, by decide +kernel, fun _ _ _ _ _ _ us hl => match us, hl with | [_, _], _ => rfl, 60, fun C => by kernel_rfl⟩
theorem s107 : DefS gt (dd 136 "root_under") ⟨2, 2, false, b107⟩ ⟨"root_under", 2, false⟩ :=
  ⟨rfl, rfl, rfl, rfl, rfl, rfl, rfl, by decide +kernel, ["one", "other"], ["one", "other"], scopeB_ok (by decide +kernel), rfl, rfl, by decide, by decide +kernel, fun _ _ _ _ _ _ us hl => match us, hl with | [_, _], _ => rfl, 60, fun C => by kernel_rfl⟩
theorem s108 : DefS gt (dd 137 "is_rooted_in") ⟨1, 2, false, b108⟩ ⟨"is_rooted_in", 1, false⟩ :=
  ⟨rfl, rfl, rfl, rfl, rfl, rfl, rfl, by decide +kernel, ["thing", "own"], ["thing"], scopeB_ok (by decide +kernel), rfl, rfl, by decide, by decide +kernel, fun _ _ _ _ _ _ us hl => match us, hl with | [_], _ => rfl, 60, fun C => by kernel_rfl⟩
theorem s109 : DefS gt (dd 138 "is_near_rooted") ⟨1, 2, false, b109⟩ ⟨"is_near_rooted", 1, false⟩ :=
  ⟨rfl, rfl, rfl, rfl, rfl, rfl, rfl, by decide +kernel, ["thing", "own"], ["thing"], scopeB_ok (by decide +kernel), rfl, rfl, by decide, by decide +kernel, fun _ _ _ _ _ _ us hl => match us, hl with | [_], _ => rfl, 60, fun C => by kernel_rfl⟩
theorem s110 : DefS gt (dd 139 "sure_rooted") ⟨1, 2, false, b110⟩ ⟨"sure_rooted", 1, false⟩ :=
  ⟨rfl, rfl, rfl, rfl, rfl, rfl, rfl, by decide +kernel, ["value", "own"], ["value"], scopeB_ok (by decide +kernel), rfl, rfl, by decide, by decide +kernel, fun _ _ _ _ _ _ us hl => match us, hl with | [_], _ => rfl, 60, fun C => by kernel_rfl⟩
theorem s111 : DefS gt (dd 140 "are_near_rooted") ⟨1, 2, false, b111⟩ ⟨"are_near_rooted", 1, false⟩ :=
  ⟨rfl, rfl, rfl, rfl, rfl, rfl, rfl, by decide +kernel, ["thing", "own"], ["thing"], scopeB_ok (by decide +kernel), rfl, rfl, by decide, by decide +kernel, fun _ _ _ _ _ _ us hl => match us, hl with | [_], _ => rfl, 60, fun C => by kernel_rfl⟩
theorem s112 : DefS gt (dd 141 "sure_many_rooted") ⟨1, 2, false, b112⟩ ⟨"sure_many_rooted", 1, false⟩ :=
  ⟨rfl, rfl, rfl, rfl, rfl, rfl, rfl, by decide +kernel, ["value", "own"], ["value"], scopeB_ok (by decide +kernel), rfl, rfl, by decide, by decide +kernel, fun _ _ _ _ _ _ us hl => match us, hl with | [_], _ => rfl, 60, fun C => by kernel_rfl⟩
theorem s113 : DefS gt (dd 142 "root_sides_in") ⟨1, 1, false, b113⟩ ⟨"root_sides_in", 1, false⟩ :=
  ⟨rfl, rfl, rfl, rfl, rfl, rfl, rfl, by decide +kernel, ["rectangle"], ["rectangle"], scopeB_ok (by decide +kernel), rfl, rfl, by decide, by decide +kernel, fun _ _ _ _ _ _ us hl => match us, hl with | [_], _ => rfl, 60, fun C => by kernel_rfl⟩
theorem s114 : DefS gt (dd 143 "lies_within") ⟨2, 3, false, b114⟩ ⟨"lies_within", 2, false⟩ :=
  ⟨rfl, rfl, rfl, rfl, rfl, rfl, rfl, by decide +kernel, ["whole", "part", "low"], ["whole", "part"], scopeB_ok (by decide +kernel), rfl, rfl, by decide, by decide +kernel, fun _ _ _ _ _ _ us hl => match us, hl with | [_, _], _ => rfl, 60, fun C => by kernel_rfl⟩
theorem s115 : DefS gt (dd 144 "do_share") ⟨2, 3, false, b115⟩ ⟨"do_share", 2, false⟩ :=
  ⟨rfl, rfl, rfl, rfl, rfl, rfl, rfl, by decide +kernel, ["one", "other", "across"], ["one", "other"], scopeB_ok (by decide +kernel), rfl, rfl, by decide, by decide +kernel, fun _ _ _ _ _ _ us hl => match us, hl with | [_, _], _ => rfl, 60, fun C => by kernel_rfl⟩
theorem s116 : DefS gt (dd 145 "area_of") ⟨1, 5, false, b116⟩ ⟨"area_of", 1, false⟩ :=
  ⟨rfl, rfl, rfl, rfl, rfl, rfl, rfl, by decide +kernel, ["parts", "found", "own", "width", "height"], ["parts"], scopeB_ok (by decide +kernel), rfl, rfl, by decide, by decide +kernel, fun _ _ _ _ _ _ us hl => match us, hl with | [_], _ => rfl, 60, fun C => by kernel_rfl⟩
theorem s117 : DefS gt (dd 146 "is_root_laid") ⟨2, 6, false, b117⟩ ⟨"is_root_laid", 2, false⟩ :=
  ⟨rfl, rfl, rfl, rfl, rfl, rfl, rfl, by decide +kernel, ["whole", "parts", "pairs", "own", "later", "place"], ["whole", "parts"], scopeB_ok (by decide +kernel), rfl, rfl, by decide, by decide +kernel, fun _ _ _ _ _ _ us hl => match us, hl with | [_, _], _ => rfl, 60, fun C => by kernel_rfl⟩
theorem s118 : DefS gt (dd 147 "sure_root_laying") ⟨2, 4, false, b118⟩ ⟨"sure_root_laying", 2, false⟩ :=
  ⟨rfl, rfl, rfl, rfl, rfl, rfl, rfl, by decide +kernel, ["whole", "parts", "near", "far"], ["whole", "parts"], scopeB_ok (by decide +kernel), rfl, rfl, by decide, by decide +kernel, fun _ _ _ _ _ _ us hl => match us, hl with | [_, _], _ => rfl, 60, fun C => by kernel_rfl⟩
theorem s119 : DefS gt (dd 148 "twist_in") ⟨1, 3, false, b119⟩ ⟨"twist_in", 1, false⟩ :=
  ⟨rfl, rfl, rfl, rfl, rfl, rfl, rfl, by decide +kernel, ["rectangle", "width", "height"], ["rectangle"], scopeB_ok (by decide +kernel), rfl, rfl, by decide, by decide +kernel, fun _ _ _ _ _ _ us hl => match us, hl with | [_], _ => rfl, 60, fun C => by kernel_rfl⟩
theorem s120 : DefS gt (dd 149 "twists_in") ⟨1, 3, false, b120⟩ ⟨"twists_in", 1, false⟩ :=
  ⟨rfl, rfl, rfl, rfl, rfl, rfl, rfl, by decide +kernel, ["parts", "found", "own"], ["parts"], scopeB_ok (by decide +kernel), rfl, rfl, by decide, by decide +kernel, fun _ _ _ _ _ _ us hl => match us, hl with | [_], _ => rfl, 60, fun C => by kernel_rfl⟩
theorem s121 : DefS gt (dd 150 "root_sign") ⟨1, 2, false, b121⟩ ⟨"root_sign", 1, false⟩ :=
  ⟨rfl, rfl, rfl, rfl, rfl, rfl, rfl, by decide +kernel, ["number", "own"], ["number"], scopeB_ok (by decide +kernel), rfl, rfl, by decide, by decide +kernel, fun _ _ _ _ _ _ us hl => match us, hl with | [_], _ => rfl, 60, fun C => by kernel_rfl⟩
theorem s122 : DefS gt (dd 151 "rooted_sides") ⟨1, 1, false, b122⟩ ⟨"rooted_sides", 1, false⟩ :=
  ⟨rfl, rfl, rfl, rfl, rfl, rfl, rfl, by decide +kernel, ["rectangle"], ["rectangle"], scopeB_ok (by decide +kernel), rfl, rfl, by decide, by decide +kernel, fun _ _ _ _ _ _ us hl => match us, hl with | [_], _ => rfl, 60, fun C => by kernel_rfl⟩
theorem s123 : DefS gt (dd 152 "rooted_area") ⟨1, 1, false, b123⟩ ⟨"rooted_area", 1, false⟩ :=
  ⟨rfl, rfl, rfl, rfl, rfl, rfl, rfl, by decide +kernel, ["rectangle"], ["rectangle"], scopeB_ok (by decide +kernel), rfl, rfl, by decide, by decide +kernel, fun _ _ _ _ _ _ us hl => match us, hl with | [_], _ => rfl, 60, fun C => by kernel_rfl⟩
theorem s124 : DefS gt (dd 153 "is_rooted_laying") ⟨2, 3, false, b124⟩ ⟨"is_rooted_laying", 2, false⟩ :=
  ⟨rfl, rfl, rfl, rfl, rfl, rfl, rfl, by decide +kernel, ["whole", "parts", "near"], ["whole", "parts"], scopeB_ok (by decide +kernel), rfl, rfl, by decide, by decide +kernel, fun _ _ _ _ _ _ us hl => match us, hl with | [_, _], _ => rfl, 60, fun C => by kernel_rfl⟩
theorem s125 : DefS gt (dd 154 "twist") ⟨1, 1, false, b125⟩ ⟨"twist", 1, false⟩ :=
  ⟨rfl, rfl, rfl, rfl, rfl, rfl, rfl, by decide +kernel, ["rectangle"], ["rectangle"], scopeB_ok (by decide +kernel), rfl, rfl, by decide, by decide +kernel, fun _ _ _ _ _ _ us hl => match us, hl with | [_], _ => rfl, 60, fun C => by kernel_rfl⟩
theorem s126 : DefS gt (dd 155 "twists") ⟨1, 1, false, b126⟩ ⟨"twists", 1, false⟩ :=
  ⟨rfl, rfl, rfl, rfl, rfl, rfl, rfl, by decide +kernel, ["parts"], ["parts"], scopeB_ok (by decide +kernel), rfl, rfl, by decide, by decide +kernel, fun _ _ _ _ _ _ us hl => match us, hl with | [_], _ => rfl, 60, fun C => by kernel_rfl⟩
theorem s127 : DefS gt (dd 156 "ratio_of") ⟨1, 3, false, b127⟩ ⟨"ratio_of", 1, false⟩ :=
  ⟨rfl, rfl, rfl, rfl, rfl, rfl, rfl, by decide +kernel, ["rectangle", "width", "height"], ["rectangle"], scopeB_ok (by decide +kernel), rfl, rfl, by decide, by decide +kernel, fun _ _ _ _ _ _ us hl => match us, hl with | [_], _ => rfl, 60, fun C => by kernel_rfl⟩
theorem s128 : DefS gt (dd 157 "first_twisted") ⟨2, 6, false, b128⟩ ⟨"first_twisted", 2, false⟩ :=
  ⟨rfl, rfl, rfl, rfl, rfl, rfl, rfl, by decide +kernel, ["whole", "parts", "own", "uneven", "place", "its"], ["whole", "parts"], scopeB_ok (by decide +kernel), rfl, rfl, by decide, by decide +kernel, fun _ _ _ _ _ _ us hl => match us, hl with | [_, _], _ => rfl, 60, fun C => by kernel_rfl⟩
theorem s129 : DefS gt (dd 158 "as_rooted") ⟨3, 9, false, b129⟩ ⟨"as_rooted", 3, false⟩ :=
  ⟨rfl, rfl, rfl, rfl, rfl, rfl, rfl, by decide +kernel, ["rectangle", "across", "up", "own", "by", "found", "its", "place", "side"], ["rectangle", "across", "up"], scopeB_ok (by decide +kernel), rfl, rfl, by decide, by decide +kernel, fun _ _ _ _ _ _ us hl => match us, hl with | [_, _, _], _ => rfl, 60, fun C => by kernel_rfl⟩
theorem s130 : DefS gt (dd 164 "is_square_in") ⟨1, 1, false, b130⟩ ⟨"is_square_in", 1, false⟩ :=
  ⟨rfl, rfl, rfl, rfl, rfl, rfl, rfl, by decide +kernel, ["part"], ["part"], scopeB_ok (by decide +kernel), rfl, rfl, by decide, by decide +kernel, fun _ _ _ _ _ _ us hl => match us, hl with | [_], _ => rfl, 60, fun C => by kernel_rfl⟩
theorem s131 : DefS gt (dd 165 "is_code_in") ⟨1, 3, false, b131⟩ ⟨"is_code_in", 1, false⟩ :=
  ⟨rfl, rfl, rfl, rfl, rfl, rfl, rfl, by decide +kernel, ["thing", "own", "side"], ["thing"], scopeB_ok (by decide +kernel), rfl, rfl, by decide, by decide +kernel, fun _ _ _ _ _ _ us hl => match us, hl with | [_], _ => rfl, 60, fun C => by kernel_rfl⟩
theorem s132 : DefS gt (dd 166 "sure_code") ⟨1, 3, false, b132⟩ ⟨"sure_code", 1, false⟩ :=
  ⟨rfl, rfl, rfl, rfl, rfl, rfl, rfl, by decide +kernel, ["value", "own", "row"], ["value"], scopeB_ok (by decide +kernel), rfl, rfl, by decide, by decide +kernel, fun _ _ _ _ _ _ us hl => match us, hl with | [_], _ => rfl, 60, fun C => by kernel_rfl⟩
theorem s133 : DefS gt (dd 167 "levels_joined") ⟨1, 3, false, b133⟩ ⟨"levels_joined", 1, false⟩ :=
  ⟨rfl, rfl, rfl, rfl, rfl, rfl, rfl, by decide +kernel, ["levels", "found", "own"], ["levels"], scopeB_ok (by decide +kernel), rfl, rfl, by decide, by decide +kernel, fun _ _ _ _ _ _ us hl => match us, hl with | [_], _ => rfl, 60, fun C => by kernel_rfl⟩
theorem s134 : DefS gt (dd 168 "lowest_level") ⟨1, 3, false, b134⟩ ⟨"lowest_level", 1, false⟩ :=
  ⟨rfl, rfl, rfl, rfl, rfl, rfl, rfl, by decide +kernel, ["levels", "heights", "own"], ["levels"], scopeB_ok (by decide +kernel), rfl, rfl, by decide, by decide +kernel, fun _ _ _ _ _ _ us hl => match us, hl with | [_], _ => rfl, 60, fun C => by kernel_rfl⟩
theorem s135 : DefS gt (dd 169 "row_laid") ⟨2, 10, false, b135⟩ ⟨"row_laid", 2, false⟩ :=
  ⟨rfl, rfl, rfl, rfl, rfl, rfl, rfl, by decide +kernel, ["levels", "row", "place", "height", "left", "right", "squares", "tops", "here", "side"], ["levels", "row"], scopeB_ok (by decide +kernel), rfl, rfl, by decide, by decide +kernel, fun _ _ _ _ _ _ us hl => match us, hl with | [_, _], _ => rfl, 60, fun C => by kernel_rfl⟩
theorem s136 : DefS gt (dd 170 "squares_by") ⟨2, 6, false, b136⟩ ⟨"squares_by", 2, false⟩ :=
  ⟨rfl, rfl, rfl, rfl, rfl, rfl, rfl, by decide +kernel, ["width", "code", "levels", "found", "row", "laid"], ["width", "code"], scopeB_ok (by decide +kernel), rfl, rfl, by decide, by decide +kernel, fun _ _ _ _ _ _ us hl => match us, hl with | [_, _], _ => rfl, 60, fun C => by kernel_rfl⟩
theorem s137 : DefS gt (dd 171 "as_rectangle") ⟨1, 2, false, b137⟩ ⟨"as_rectangle", 1, false⟩ :=
  ⟨rfl, rfl, rfl, rfl, rfl, rfl, rfl, by decide +kernel, ["row", "own"], ["row"], scopeB_ok (by decide +kernel), rfl, rfl, by decide, by decide +kernel, fun _ _ _ _ _ _ us hl => match us, hl with | [_], _ => rfl, 60, fun C => by kernel_rfl⟩
theorem s138 : DefS gt (dd 172 "code_rows") ⟨2, 11, false, b138⟩ ⟨"code_rows", 2, false⟩ :=
  ⟨rfl, rfl, rfl, rfl, rfl, rfl, rfl, by decide +kernel, ["width", "squares", "levels", "left", "found", "height", "start", "end", "here", "row", "own"], ["width", "squares"], scopeB_ok (by decide +kernel), rfl, rfl, by decide, by decide +kernel, fun _ _ _ _ _ _ us hl => match us, hl with | [_, _], _ => rfl, 60, fun C => by kernel_rfl⟩
theorem s139 : DefS gt (dd 173 "greatest_first") ⟨2, 6, false, b139⟩ ⟨"greatest_first", 2, false⟩ :=
  ⟨rfl, rfl, rfl, rfl, rfl, rfl, rfl, by decide +kernel, ["width", "height", "found", "left", "low", "side"], ["width", "height"], scopeB_ok (by decide +kernel), rfl, rfl, by decide, by decide +kernel, fun _ _ _ _ _ _ us hl => match us, hl with | [_, _], _ => rfl, 60, fun C => by kernel_rfl⟩
theorem s140 : DefS gt (dd 174 "first_fit") ⟨1, 5, false, b140⟩ ⟨"first_fit", 1, false⟩ :=
  ⟨rfl, rfl, rfl, rfl, rfl, rfl, rfl, by decide +kernel, ["cells", "y", "row", "x", "own"], ["cells"], scopeB_ok (by decide +kernel), rfl, rfl, by decide, by decide +kernel, fun _ _ _ _ _ _ us hl => match us, hl with | [_], _ => rfl, 60, fun C => by kernel_rfl⟩
theorem s141 : DefS gt (dd 175 "can_lie") ⟨4, 6, false, b141⟩ ⟨"can_lie", 4, false⟩ :=
  ⟨rfl, rfl, rfl, rfl, rfl, rfl, rfl, by decide +kernel, ["cells", "x", "y", "side", "up", "across"], ["cells", "x", "y", "side"], scopeB_ok (by decide +kernel), rfl, rfl, by decide, by decide +kernel, fun _ _ _ _ _ _ us hl => match us, hl with | [_, _, _, _], _ => rfl, 60, fun C => by kernel_rfl⟩
theorem s142 : DefS gt (dd 176 "marked") ⟨2, 10, false, b142⟩ ⟨"marked", 2, false⟩ :=
  ⟨rfl, rfl, rfl, rfl, rfl, rfl, rfl, by decide +kernel, ["cells", "square", "left", "low", "right", "high", "y", "row", "x", "own"], ["cells", "square"], scopeB_ok (by decide +kernel), rfl, rfl, by decide, by decide +kernel, fun _ _ _ _ _ _ us hl => match us, hl with | [_, _], _ => rfl, 60, fun C => by kernel_rfl⟩
theorem s143 : DefS gt (dd 177 "filled_by") ⟨2, 9, false, b143⟩ ⟨"filled_by", 2, false⟩ :=
  ⟨rfl, rfl, rfl, rfl, rfl, rfl, rfl, by decide +kernel, ["cells", "most", "spot", "best", "x", "y", "side", "square", "rest"], ["cells", "most"], scopeB_ok (by decide +kernel), rfl, rfl, by decide, by decide +kernel, fun _ _ _ _ _ _ us hl => match us, hl with | [_, _], _ => rfl, 60, fun C => by kernel_rfl⟩
theorem s144 : DefS gt (dd 178 "are_squares") ⟨1, 2, false, b144⟩ ⟨"are_squares", 1, false⟩ :=
  ⟨rfl, rfl, rfl, rfl, rfl, rfl, rfl, by decide +kernel, ["parts", "own"], ["parts"], scopeB_ok (by decide +kernel), rfl, rfl, by decide, by decide +kernel, fun _ _ _ _ _ _ us hl => match us, hl with | [_], _ => rfl, 60, fun C => by kernel_rfl⟩
theorem s145 : DefS gt (dd 179 "none_alike") ⟨1, 3, false, b145⟩ ⟨"none_alike", 1, false⟩ :=
  ⟨rfl, rfl, rfl, rfl, rfl, rfl, rfl, by decide +kernel, ["parts", "sides", "own"], ["parts"], scopeB_ok (by decide +kernel), rfl, rfl, by decide, by decide +kernel, fun _ _ _ _ _ _ us hl => match us, hl with | [_], _ => rfl, 60, fun C => by kernel_rfl⟩
theorem s146 : DefS gt (dd 180 "squares_of_code") ⟨2, 5, false, b146⟩ ⟨"squares_of_code", 2, false⟩ :=
  ⟨rfl, rfl, rfl, rfl, rfl, rfl, rfl, by decide +kernel, ["width", "code", "wide", "found", "own"], ["width", "code"], scopeB_ok (by decide +kernel), rfl, rfl, by decide, by decide +kernel, fun _ _ _ _ _ _ us hl => match us, hl with | [_, _], _ => rfl, 60, fun C => by kernel_rfl⟩
theorem s147 : DefS gt (dd 181 "code_of_squares") ⟨2, 6, false, b147⟩ ⟨"code_of_squares", 2, false⟩ :=
  ⟨rfl, rfl, rfl, rfl, rfl, rfl, rfl, by decide +kernel, ["whole", "parts", "near", "far", "own", "side"], ["whole", "parts"], scopeB_ok (by decide +kernel), rfl, rfl, by decide, by decide +kernel, fun _ _ _ _ _ _ us hl => match us, hl with | [_, _], _ => rfl, 60, fun C => by kernel_rfl⟩
theorem s148 : DefS gt (dd 182 "known_code") ⟨1, 1, false, b148⟩ ⟨"known_code", 1, false⟩ :=
  ⟨rfl, rfl, rfl, rfl, rfl, rfl, rfl, by decide +kernel, ["number"], ["number"], scopeB_ok (by decide +kernel), rfl, rfl, by decide, by decide +kernel, fun _ _ _ _ _ _ us hl => match us, hl with | [_], _ => rfl, 60, fun C => by kernel_rfl⟩
theorem s149 : DefS gt (dd 183 "squares_by_greatest") ⟨2, 5, false, b149⟩ ⟨"squares_by_greatest", 2, false⟩ :=
  ⟨rfl, rfl, rfl, rfl, rfl, rfl, rfl, by decide +kernel, ["width", "height", "wide", "high", "own"], ["width", "height"], scopeB_ok (by decide +kernel), rfl, rfl, by decide, by decide +kernel, fun _ _ _ _ _ _ us hl => match us, hl with | [_, _], _ => rfl, 60, fun C => by kernel_rfl⟩
theorem s150 : DefS gt (dd 184 "quotients") ⟨2, 3, false, b150⟩ ⟨"quotients", 2, false⟩ :=
  ⟨rfl, rfl, rfl, rfl, rfl, rfl, rfl, by decide +kernel, ["one", "other", "found"], ["one", "other"], scopeB_ok (by decide +kernel), rfl, rfl, by decide, by decide +kernel, fun _ _ _ _ _ _ us hl => match us, hl with | [_, _], _ => rfl, 60, fun C => by kernel_rfl⟩
theorem s151 : DefS gt (dd 185 "greatest_row") ⟨2, 3, false, b151⟩ ⟨"greatest_row", 2, false⟩ :=
  ⟨rfl, rfl, rfl, rfl, rfl, rfl, rfl, by decide +kernel, ["width", "height", "wide"], ["width", "height"], scopeB_ok (by decide +kernel), rfl, rfl, by decide, by decide +kernel, fun _ _ _ _ _ _ us hl => match us, hl with | [_, _], _ => rfl, 60, fun C => by kernel_rfl⟩
theorem s152 : DefS gt (dd 186 "fewest_squares") ⟨2, 6, false, b152⟩ ⟨"fewest_squares", 2, false⟩ :=
  ⟨rfl, rfl, rfl, rfl, rfl, rfl, rfl, by decide +kernel, ["width", "height", "wide", "high", "bare", "row"], ["width", "height"], scopeB_ok (by decide +kernel), rfl, rfl, by decide, by decide +kernel, fun _ _ _ _ _ _ us hl => match us, hl with | [_, _], _ => rfl, 60, fun C => by kernel_rfl⟩
theorem s153 : DefS gt (dd 187 "fewest_laying") ⟨2, 8, false, b153⟩ ⟨"fewest_laying", 2, false⟩ :=
  ⟨rfl, rfl, rfl, rfl, rfl, rfl, rfl, by decide +kernel, ["width", "height", "wide", "high", "bare", "found", "row", "own"], ["width", "height"], scopeB_ok (by decide +kernel), rfl, rfl, by decide, by decide +kernel, fun _ _ _ _ _ _ us hl => match us, hl with | [_, _], _ => rfl, 60, fun C => by kernel_rfl⟩
theorem s154 : DefS gt (dd 189 "_law_box") ⟨2, 3, false, b154⟩ ⟨"_law_box", 2, false⟩ :=
  ⟨rfl, rfl, rfl, rfl, rfl, rfl, rfl, by decide +kernel, ["script", "k", "bit_so"], ["script", "k"], scopeB_ok (by decide +kernel), rfl, rfl, by decide, by decide +kernel, fun _ _ _ _ _ _ us hl => match us, hl with | [_, _], _ => rfl, 60, fun C => by kernel_rfl⟩
theorem s155 : DefS gt (dd 190 "_law_take") ⟨2, 6, true, b155⟩ ⟨"_law_take", 2, true⟩ :=
  ⟨rfl, rfl, rfl, rfl, rfl, rfl, rfl, by decide +kernel, ["tin", "below_so", "drawn_so", "once_so", "wide_so", "twice_so"], ["tin", "below_so"], scopeB_ok (by decide +kernel), rfl, rfl, by decide, by decide +kernel, fun _ _ _ _ _ _ us hl => match us, hl with | [_, _], _ => rfl, 60, fun C => by kernel_rfl⟩
theorem s156 : DefS gt (dd 191 "_law_cells") ⟨2, 6, false, b156⟩ ⟨"_law_cells", 2, false⟩ :=
  ⟨rfl, rfl, rfl, rfl, rfl, rfl, rfl, by decide +kernel, ["script", "most_so", "cells_so", "k", "bit_so", "at_so"], ["script", "most_so"], scopeB_ok (by decide +kernel), rfl, rfl, by decide, by decide +kernel, fun _ _ _ _ _ _ us hl => match us, hl with | [_, _], _ => rfl, 60, fun C => by kernel_rfl⟩
theorem s157 : DefS gt (dd 192 "_law_pick") ⟨3, 6, true, b157⟩ ⟨"_law_pick", 3, true⟩ :=
  ⟨rfl, rfl, rfl, rfl, rfl, rfl, rfl, by decide +kernel, ["tin", "goods_so", "count_so", "pool_so", "found", "lap"], ["tin", "goods_so", "count_so"], scopeB_ok (by decide +kernel), rfl, rfl, by decide, by decide +kernel, fun _ _ _ _ _ _ us hl => match us, hl with | [_, _, _], _ => rfl, 60, fun C => by kernel_rfl⟩
theorem s158 : DefS gt (dd 193 "_law_call") ⟨2, 2, false, b158⟩ ⟨"_law_call", 2, false⟩ :=
  ⟨rfl, rfl, rfl, rfl, rfl, rfl, rfl, by decide +kernel, ["door_so", "goods_so"], ["door_so", "goods_so"], scopeB_ok (by decide +kernel), rfl, rfl, by decide, by decide +kernel, fun _ _ _ _ _ _ us hl => match us, hl with | [_, _], _ => rfl, 60, fun C => by kernel_rfl⟩
theorem s159 : DefS gt (dd 194 "_law_slip") ⟨2, 6, false, b159⟩ ⟨"_law_slip", 2, false⟩ :=
  ⟨rfl, rfl, rfl, rfl, rfl, rfl, rfl, by decide +kernel, ["door_so", "goods_so", "slip_so", "slip_c", "slip_m", "slip_b"], ["door_so", "goods_so"], scopeB_ok (by decide +kernel), rfl, rfl, by decide, by decide +kernel, fun _ _ _ _ _ _ us hl => match us, hl with | [_, _], _ => rfl, 60, fun C => by kernel_rfl⟩
theorem s160 : DefS gt (dd 195 "_law_as_rect") ⟨1, 2, false, b160⟩ ⟨"_law_as_rect", 1, false⟩ :=
  ⟨rfl, rfl, rfl, rfl, rfl, rfl, rfl, by decide +kernel, ["own", "k"], ["own"], scopeB_ok (by decide +kernel), rfl, rfl, by decide, by decide +kernel, fun _ _ _ _ _ _ us hl => match us, hl with | [_], _ => rfl, 60, fun C => by kernel_rfl⟩
theorem s161 : DefS gt (dd 196 "_law_are_all_unfit") ⟨4, 6, false, b161⟩ ⟨"_law_are_all_unfit", 4, false⟩ :=
  ⟨rfl, rfl, rfl, rfl, rfl, rfl, rfl, by decide +kernel, ["doors_so", "ahead_so", "wrongs_so", "behind_so", "door_so", "own"], ["doors_so", "ahead_so", "wrongs_so", "behind_so"], scopeB_ok (by decide +kernel), rfl, rfl, by decide, by decide +kernel, fun _ _ _ _ _ _ us hl => match us, hl with | [_, _, _, _], _ => rfl, 60, fun C => by kernel_rfl⟩
theorem s162 : DefS gt (dd 197 "law") ⟨1, 24, false, b162⟩ ⟨"law", 1, false⟩ :=
  ⟨rfl, rfl, rfl, rfl, rfl, rfl, rfl, by decide +kernel, ["script", "tin", "unit_so", "two_so", "root_so", "rects_so", "parts_so", "nets_so", "ratios_so", "codes_so", "trees_so", "roots_so", "rooteds_so", "net_so", "flowing_so", "asked_so", "doors_so", "ahead_so", "wrongs_so", "behind_so", "three_so", "cannot_so", "own", "door_so"], ["script"], scopeB_ok (by decide +kernel), rfl, rfl, by decide, by decide +kernel, fun _ _ _ _ _ _ us hl => match us, hl with | [_], _ => rfl, 60, fun C => by kernel_rfl⟩
theorem ds : DefsS gt gt.fns hd.fn tbl := (.cons s0 (.cons s1 (.cons s2 (.cons s3 (.cons s4 (.cons s5 (.cons s6 (.cons s7 (.cons s8 (.cons s9 (.cons s10 (.cons s11 (.cons s12 (.cons s13 (.cons s14 (.cons s15 (.cons s16 (.cons s17 (.cons s18 (.cons s19 (.cons s20 (.cons s21 (.cons s22 (.cons s23 (.cons s24 (.cons s25 (.cons s26 (.cons s27 (.cons s28 (.cons s29 (.cons s30 (.cons s31 (.cons s32 (.cons s33 (.cons s34 (.cons s35 (.cons s36 (.cons s37 (.cons s38 (.cons s39 (.cons s40 (.cons s41 (.cons s42 (.cons s43 (.cons s44 (.cons s45 (.cons s46 (.cons s47 (.cons s48 (.cons s49 (.cons s50 (.cons s51 (.cons s52 (.cons s53 (.cons s54 (.cons s55 (.cons s56 (.cons s57 (.cons s58 (.cons s59 (.cons s60 (.cons s61 (.cons s62 (.cons s63 (.cons s64 (.cons s65 (.cons s66 (.cons s67 (.cons s68 (.cons s69 (.cons s70 (.cons s71 (.cons s72 (.cons s73 (.cons s74 (.cons s75 (.cons s76 (.cons s77 (.cons s78 (.cons s79 (.cons s80 (.cons s81 (.cons s82 (.cons s83 (.cons s84 (.cons s85 (.cons s86 (.cons s87 (.cons s88 (.cons s89 (.cons s90 (.cons s91 (.cons s92 (.cons s93 (.cons s94 (.cons s95 (.cons s96 (.cons s97 (.cons s98 (.cons s99 (.cons s100 (.cons s101 (.cons s102 (.cons s103 (.cons s104 (.cons s105 (.cons s106 (.cons s107 (.cons s108 (.cons s109 (.cons s110 (.cons s111 (.cons s112 (.cons s113 (.cons s114 (.cons s115 (.cons s116 (.cons s117 (.cons s118 (.cons s119 (.cons s120 (.cons s121 (.cons s122 (.cons s123 (.cons s124 (.cons s125 (.cons s126 (.cons s127 (.cons s128 (.cons s129 (.cons s130 (.cons s131 (.cons s132 (.cons s133 (.cons s134 (.cons s135 (.cons s136 (.cons s137 (.cons s138 (.cons s139 (.cons s140 (.cons s141 (.cons s142 (.cons s143 (.cons s144 (.cons s145 (.cons s146 (.cons s147 (.cons s148 (.cons s149 (.cons s150 (.cons s151 (.cons s152 (.cons s153 (.cons s154 (.cons s155 (.cons s156 (.cons s157 (.cons s158 (.cons s159 (.cons s160 (.cons s161 (.cons s162 .nil)))))))))))))))))))))))))))))))))))))))))))))))))))))))))))))))))))))))))))))))))))))))))))))))))))))))))))))))))))))))))))))))))))))))))))))))))))))))))))))))))))
end KL

/-! DnU: the laws' own helpers: what is drawn. -/
namespace Dn
open PySem PySem.Spec PyProof.Rows L2
/-- _law_take -/
def bTake : DS :=
  (dSeq (dIfS (dB (dBin (gCmpI fun i j => decide (j < i)) (dIxV 0 (dC (.int 0))) (dC (.int 0)))) (dSeq (dSet 2 (dZ (dBin gMod (dFn gInt (dCons (dIxV 0 (dC (.int 0))) dNil)) (dV 1))))
    (dSeq (dStX 0 (dC (.int 0)) (dBin gFdiv (dIxV 0 (dC (.int 0))) (dV 1)))
    (dSeq (dRet (dMvZ 2))
    dSkip))) dSkip)
    (dSeq (dStX 0 (dC (.int 2)) (dBin gAdd (dIxV 0 (dC (.int 2))) (dC (.int 1))))
    (dSeq (dSet 3 (dZ (dBin gMod (dFn gInt (dCons (dBin gMul (dBin gAdd (dIxV 0 (dC (.int 1))) (dBin gMul (dC (.int 48271)) (dIxV 0 (dC (.int 2))))) (dBin gAdd (dC (.int 39373)) (dIxV 0 (dC (.int 2))))) dNil)) (dC (.int 2147483647)))))
    (dSeq (dSet 4 (dBinM gAddL gAdd (dBin gMod (dFn1 gInt 3) (dC (.int 40009))) (dC (.int 7))))
    (dSeq (dSet 5 (dZ (dBin gMod (dFn gInt (dCons (dBin gMul (dBin gAdd (dBin gAdd (dV 3) (dIxV 0 (dC (.int 2)))) (dBin gFdiv (dIxV 0 (dC (.int 1))) (dC (.int 1000003)))) (dV 4)) dNil)) (dC (.int 2147483629)))))
    (dSeq (dRet (dZ (dBin gMod (dFn gInt (dCons (dBin gFdiv (dBin gMod (dFn gInt (dCons (dBin gAdd (dBin gMul (dV 5) (dC (.int 48271))) (dV 3)) dNil)) (dC (.int 2147483587))) (dC (.int 64))) dNil)) (dV 1))))
    dSkip))))))
/-- the drawer: how often it was asked is at most m -/
def TinOk (m : Nat) (t : List PV) : Prop := ∃ x y z : Int, t = [.int x, .int y, .int z] ∧ 0 ≤ y ∧ y < 2 ^ 62 ∧ 0 ≤ z ∧ z ≤ m
theorem ix0 (a b c : PV) : atI [a, b, c] 0 = some a := rfl
theorem ix1 (a b c : PV) : atI [a, b, c] 1 = some b := rfl
theorem ix2 (a b c : PV) : atI [a, b, c] 2 = some c := rfl
theorem mul_small {i j : Int} (h : j.natAbs < 18446744073709551616) : mulOk i j = true := by simp [mulOk, h]
theorem take_ok {m : Nat} {t : List PV} {n : Int} (ht : TinOk m t) (hm : m < 2 ^ 40) (hn : 0 < n) (hn2 : n < 2 ^ 32) :
    ∃ (d : Int) (t' : List PV), 0 ≤ d ∧ d < n ∧ TinOk (m + 1) t' ∧ runFn 2 6 true bTake [.o t, .z (.int n)] = .ok (.z (.int d), some (.o t')) := by
  obtain ⟨x, y, z, rfl, hy, hy2, hz, hz2⟩ := ht
  have e0 : n ≠ 0 := by omega
  have dn : divOk n = true := by
    unfold divOk
    simp only [Bool.and_eq_true, decide_eq_true_eq]
    refine ⟨e0, ?_⟩
    have : n.natAbs.log2 < 40 := (Nat.log2_lt (by omega)).mpr (by omega)
    omega
  by_cases hx : 0 < x
  · refine ⟨x.fmod n, [.int (x.fdiv n), .int y, .int z], Int.fmod_nonneg_of_pos x hn, Int.fmod_lt_of_pos x hn, ⟨_, _, _, rfl, hy, hy2, hz, by omega⟩, ?_⟩
    simp [runFn, bTake, dSeq, dIfS, dB, dBin, dIxV, dC, svIx, gCmpI, ix0, hx, dSet, dZ, dFn, dCons, dNil, gInt, dV, gMod, e0, dStX, gFdiv, dn, ixN, dRet, dMvZ, dMv, seqIndex?, SV.fz]
  · have m1 : mulOk 48271 (z + 1) = true := mul_small (by omega)
    have m2 : mulOk (y + 48271 * (z + 1)) (39373 + (z + 1)) = true := mul_small (by omega)
    generalize eo : ((y + 48271 * (z + 1)) * (39373 + (z + 1))).fmod 2147483647 = o
    have o1 : 0 ≤ o := by rw [← eo]; exact Int.fmod_nonneg_of_pos _ (by omega)
    have o2 : o < 2147483647 := by rw [← eo]; exact Int.fmod_lt_of_pos _ (by omega)
    have w1 : 0 ≤ o.fmod 40009 := Int.fmod_nonneg_of_pos _ (by omega)
    have w2 : o.fmod 40009 < 40009 := Int.fmod_lt_of_pos _ (by omega)
    have m3 : mulOk (o + (z + 1) + y.fdiv 1000003) (o.fmod 40009 + 7) = true := mul_small (by omega)
    have m4 : mulOk (((o + (z + 1) + y.fdiv 1000003) * (o.fmod 40009 + 7)).fmod 2147483629) 48271 = true := mul_small (by decide)
    have d1 : divOk 64 = true := by decide
    have d2 : divOk 1000003 = true := by decide
    refine ⟨(((((o + (z + 1) + y.fdiv 1000003) * (o.fmod 40009 + 7)).fmod 2147483629 * 48271 + o).fmod 2147483587).fdiv 64).fmod n, [.int x, .int y, .int (z + 1)], Int.fmod_nonneg_of_pos _ hn, Int.fmod_lt_of_pos _ hn, ⟨_, _, _, rfl, hy, hy2, by omega, by omega⟩, ?_⟩
    simp [runFn, bTake, dSeq, dIfS, dB, dBin, dIxV, dC, svIx, gIx, gCmpI, ix0, ix1, ix2, hx, dSet, dZ, dFn, dFn1, pk, scal, dCons, dNil, gInt, dV, gMod, gMul, gAdd, e0, dStX, gFdiv, d1, d2, m1, m2, eo, m3, m4, ixN, dRet, dMvZ, dMv, dSkip, seqIndex?, SV.fz, dBinM, gAddL]
end Dn

/-! DnV: several things drawn from a pool. -/
namespace Dn
open PySem PySem.Spec PyProof.Rows L2
theorem seq_nx {a b : DS} {ρ ρ' : Env} (h : a ρ = .ok (.nx, ρ')) : dSeq a b ρ = b ρ' := by
  show (a ρ >>= _) = _
  rw [h]
  rfl
theorem seq_ret {a b : DS} {ρ ρ' : Env} {r : SV} (h : a ρ = .ok (.ret r, ρ')) : dSeq a b ρ = .ok (.ret r, ρ') := by
  show (a ρ >>= _) = _
  rw [h]
  rfl
theorem for_ok {di : DEs} {g : DG} {b : DS} {ρ ρ' : Env} {ps : List PV} (h : di ρ = .ok (ps, ρ')) : dFor di g b ρ = forD g b ps ρ' := by
  show (di ρ >>= _) = _
  rw [h]
  rfl
theorem run_ret {np n : Nat} {body : DS} {svs : List SV} {r : SV} {ρ' : Env} (hl : svs.length = np) (h : body (svs.map some ++ List.replicate (n - np) none) = .ok (.ret r, ρ')) : runFn np n false body svs = .ok (r, none) := by
  unfold runFn
  rw [if_pos hl, h]
  rfl
theorem run_retM {np n : Nat} {body : DS} {svs : List SV} {r b : SV} {ρ' : Env} (hl : svs.length = np) (h : body (svs.map some ++ List.replicate (n - np) none) = .ok (.ret r, ρ')) (hb : ρ'[0]? = some (some b)) : runFn np n true body svs = .ok (r, some b) := by
  unfold runFn
  rw [if_pos hl, h]
  show (match ρ'[0]? with
    | some (some b) => (.ok (r, some b) : Res (SV × Option SV))
    | _ => .bad) = _
  rw [hb]
/-- statements one behind the other -/
def seqL : List DS → DS
  | [] => dSkip
  | d :: ds => dSeq d (seqL ds)
theorem seqL_app : ∀ (xs : List DS) {ys : List DS} {ρ ρ' : Env}, seqL xs ρ = .ok (.nx, ρ') → seqL (xs ++ ys) ρ = seqL ys ρ'
  | [], ys, ρ, ρ', h => by cases h; rfl
  | d :: ds, ys, ρ, ρ', h => by
    show (d ρ >>= _) = _
    have h : (d ρ >>= fun a => match a.1 with
      | .nx => seqL ds a.2
      | _ => .ok a) = .ok (.nx, ρ') := h
    revert h
    cases e : d ρ with
    | bad => intro h; cases h
    | exc c => intro h; cases h
    | ok a =>
      obtain ⟨f, ρ1⟩ := a
      cases f with
      | nx =>
        intro h
        exact seqL_app ds (ρ := ρ1) h
      | brk => intro h; cases h
      | ct => intro h; cases h
      | ret r => intro h; cases h
/-- the drawer is asked by def number it -/
def Drawer (C : Cals) (it : Nat) : Prop := ∀ (m : Nat) (t : List PV) (n : Int), TinOk m t → m < 2 ^ 40 → 0 < n → n < 2 ^ 32 → ∃ (d : Int) (t' : List PV), 0 ≤ d ∧ d < n ∧ TinOk (m + 1) t' ∧ C it [.o t, .z (.int n)] = .ok (.z (.int d), some (.o t'))
def bPickT (C : Cals) (it : Nat) : DS := (dSeq (dEx (dMt 4 gAppend (dCons (dMt 3 gPopAt (dCons (dFz (dCallL C it 2 0 (dCons (dFn1 gLen 3) dNil))) dNil)) dNil)))
    dSkip)
def bPick (C : Cals) (it : Nat) : DS :=
  (dSeq (dPar [3, 4] (dConsO (dFnO gListOf (dCons (dV 1) dNil)) (dConsO (dFnO gListO dNil) dNilO)))
    (dSeq (dFor (dIt gRange1 (dCons (dFn gMin (dCons (dFn1 gInt 2) (dCons (dFn1 gLen 3) dNil))) dNil)) (gNm 5) (bPickT C it))
    (dSeq (dRet (dMvZ 4))
    dSkip)))
theorem pick_turn {C : Cals} {it m : Nat} {t pool found : List PV} {g cn l5 : SV} (D : Drawer C it) (ht : TinOk m t) (hm : m < 2 ^ 40) (h0 : 0 < pool.length) (hp : pool.length < 2 ^ 20) (hf : found.length < 2 ^ 20) :
    ∃ (t' : List PV) (j : Nat) (y : PV), TinOk (m + 1) t' ∧ pool[j]? = some y ∧ bPickT C it [some (.o t), some g, some cn, some (.o pool), some (.o found), some l5] = .ok (.nx, [some (.o t'), some g, some cn, some (.o (pool.eraseIdx j)), some (.o (found ++ [y])), some l5]) := by
  obtain ⟨d, t', d0, d1, ht', e⟩ := D m t pool.length ht hm (by omega) (by omega)
  have hj : d.toNat < pool.length := by omega
  refine ⟨t', d.toNat, pool[d.toNat], ht', List.getElem?_eq_getElem hj, ?_⟩
  have s1 : smallI d = true := by simp only [smallI, Bool.and_eq_true, decide_eq_true_eq]; omega
  have s2 : seqIndex? d pool.length = some d.toNat := by
    unfold seqIndex?
    simp only [show ¬ d < 0 by omega, if_false]
    simp [d0, hj]
    try omega
  have s3 : found.length < sizeLine := by rw [sizeLine_eq]; omega
  simp [bPickT, dSeq, dEx, dMt, isO, dCons, dNil, dFz, dCallL, dFn1, pk, SV.fz, gLen, scal, e, gPopAt, s1, s2, List.getElem?_eq_getElem hj, gAppend, s3, dSkip]
theorem mem_eraseIdx' {α : Type} {x : α} : ∀ {l : List α} {j : Nat}, x ∈ l.eraseIdx j → x ∈ l
  | [], _, h => by simp at h
  | a :: l, 0, h => List.mem_cons_of_mem _ h
  | a :: l, j + 1, h => by
    rw [List.eraseIdx_cons_succ] at h
    rcases List.mem_cons.mp h with rfl | h
    · exact List.mem_cons_self
    · exact List.mem_cons_of_mem _ (mem_eraseIdx' h)
theorem pick_loop {C : Cals} {it : Nat} {g cn : SV} {all : List PV} (D : Drawer C it) : ∀ (k : Nat) (i : Int) (m : Nat) (t pool found : List PV) (l5 : Option SV), TinOk m t → m + k < 2 ^ 40 → k ≤ pool.length → pool.length < 2 ^ 20 → found.length + k < 2 ^ 20 → (∀ y ∈ pool, y ∈ all) → (∀ y ∈ found, y ∈ all) →
    ∃ (t' pool' found' : List PV) (l5' : Option SV), TinOk (m + k) t' ∧ (∀ y ∈ found', y ∈ all) ∧ found'.length = found.length + k ∧ forD (gNm 5) (bPickT C it) (rangeF i k) [some (.o t), some g, some cn, some (.o pool), some (.o found), l5] = .ok (.nx, [some (.o t'), some g, some cn, some (.o pool'), some (.o found'), l5'])
  | 0, i, m, t, pool, found, l5, ht, _, _, _, _, _, hf => ⟨t, pool, found, l5, ht, hf, rfl, rfl⟩
  | k + 1, i, m, t, pool, found, l5, ht, hm, hk, hp, hfl, ha, hf => by
    obtain ⟨t1, j, y, ht1, hy, e⟩ := pick_turn (g := g) (cn := cn) (found := found) (l5 := .z (.int i)) D ht (by omega) (by omega) hp (by omega)
    have hyl : y ∈ pool := List.mem_of_getElem? hy
    have hj : j < pool.length := (List.getElem?_eq_some_iff.mp hy).1
    have hl : (pool.eraseIdx j).length = pool.length - 1 := List.length_eraseIdx_of_lt hj
    obtain ⟨t2, p2, f2, l2, h1, h2, h3, h4⟩ := pick_loop D k (i + 1) (m + 1) t1 (pool.eraseIdx j) (found ++ [y]) (some (.z (.int i))) ht1 (by omega) (by omega) (by omega) (by simp; omega) (fun z hz => ha z (mem_eraseIdx' hz)) (fun z hz => by
      rcases List.mem_append.mp hz with hz | hz
      · exact hf z hz
      · rw [List.mem_singleton] at hz; subst hz; exact ha _ hyl)
    refine ⟨t2, p2, f2, l2, by rw [show m + (k + 1) = m + 1 + k by omega]; exact h1, h2, by rw [h3]; simp; omega, ?_⟩
    simp only [rangeF, forD, gNm, List.set]
    rw [e]
    exact h4
theorem consO_ok {da : DO} {ds : DOs} {ρ ρ1 ρ2 : Env} {r : SV} {rs : List SV} (h1 : da ρ = .ok (r, ρ1)) (h2 : ds ρ1 = .ok (rs, ρ2)) : dConsO da ds ρ = .ok (r :: rs, ρ2) := by
  show (da ρ >>= _) = _
  rw [h1]
  show (ds ρ1 >>= _) = _
  rw [h2]
  rfl
theorem par_ok {is : List Nat} {ds : DOs} {ρ ρ1 ρ2 : Env} {rs : List SV} (h1 : ds ρ = .ok (rs, ρ1)) (h2 : puts is rs ρ1 = some ρ2) : dPar is ds ρ = .ok (.nx, ρ2) := by
  show (ds ρ >>= _) = _
  rw [h1]
  show (match puts is rs ρ1 with
    | some ρ' => (.ok (.nx, ρ') : Res (Flw × Env))
    | none => .bad) = _
  rw [h2]
theorem fnO_nil {g : List PV → Option (List PV)} {ρ : Env} {r : List PV} (h : g [] = some r) : dFnO g dNil ρ = .ok (.o r, ρ) := by
  show (match g [] with
    | some r => (.ok (.o r, ρ) : Res (SV × Env))
    | none => .bad) = _
  rw [h]
theorem glo_nil : gListO [] = some [] := if_pos (Nat.zero_le _)
theorem pick_e1 {t xs : List PV} {goods : PV} {cn : Int} (hg : seqItems goods = some xs) (gn : gListO [] = some []) : (dPar [3, 4] (dConsO (dFnO gListOf (dCons (dV 1) dNil)) (dConsO (dFnO gListO dNil) dNilO))) [some (.o t), some (.z goods), some (.z (.int cn)), none, none, none] = .ok (.nx, [some (.o t), some (.z goods), some (.z (.int cn)), some (.o xs), some (.o []), none]) := by
  have a1 : (dFnO gListOf (dCons (dV 1) dNil)) [some (.o t), some (.z goods), some (.z (.int cn)), none, none, none] = .ok (.o xs, [some (.o t), some (.z goods), some (.z (.int cn)), none, none, none]) := by
    show (match seqItems goods with
      | some r => (.ok (.o r, [some (.o t), some (.z goods), some (.z (.int cn)), none, none, none]) : Res (SV × Env))
      | none => .bad) = _
    rw [hg]
  exact par_ok (consO_ok a1 (consO_ok (fnO_nil gn) rfl)) rfl
theorem fn1_ok {g : List PV → Option PV} {i : Nat} {ρ : Env} {p r : PV} (h : pk ρ i = some p) (hg : g [p] = some r) (hs : scal r = true) : dFn1 g i ρ = .ok (r, ρ) := by
  unfold dFn1
  rw [h]
  dsimp only
  rw [hg]
  dsimp only
  rw [if_pos hs]
theorem fn_ok {g : List PV → Option PV} {ds : DEs} {ρ ρ1 : Env} {ps : List PV} {r : PV} (h : ds ρ = .ok (ps, ρ1)) (hg : g ps = some r) : dFn g ds ρ = .ok (r, ρ1) := by
  show (ds ρ >>= _) = _
  rw [h]
  show (match g ps with
    | some r => (.ok (r, ρ1) : Res (PV × Env))
    | none => .bad) = _
  rw [hg]
theorem it_ok {g : List PV → Option (List PV)} {ds : DEs} {ρ ρ1 : Env} {ps r : List PV} (h : ds ρ = .ok (ps, ρ1)) (hg : g ps = some r) : dIt g ds ρ = .ok (r, ρ1) := by
  show (ds ρ >>= _) = _
  rw [h]
  show (match g ps with
    | some r => (.ok (r, ρ1) : Res (List PV × Env))
    | none => .bad) = _
  rw [hg]
theorem cons_ok {da : DE} {ds : DEs} {ρ ρ1 ρ2 : Env} {r : PV} {rs : List PV} (h1 : da ρ = .ok (r, ρ1)) (h2 : ds ρ1 = .ok (rs, ρ2)) : dCons da ds ρ = .ok (r :: rs, ρ2) := by
  show (da ρ >>= _) = _
  rw [h1]
  show (ds ρ1 >>= _) = _
  rw [h2]
  rfl
theorem min_ok {xs : List PV} {cnt q : Nat} (hmin : (if xs.length < cnt then (xs.length : Int) else cnt) = (q : Int)) : gMin [.int cnt, .int xs.length] = some (.int q) := by
  show some (PV.int (if ((xs.length : Nat) : Int) < (cnt : Int) then ((xs.length : Nat) : Int) else (cnt : Int))) = _
  by_cases c : xs.length < cnt
  · rw [if_pos c] at hmin; rw [if_pos (by omega), hmin]
  · rw [if_neg c] at hmin; rw [if_neg (by omega), hmin]
theorem range_ok {q : Nat} (hs : smallI (q : Int) = true) : gRange1 [.int q] = some (rangeF 0 q) := by
  show (if smallI (q : Int) = true then some (rangeF 0 q) else none) = _
  rw [if_pos hs]
theorem pick_e2 {xs t : List PV} {goods : PV} {cnt q : Nat} (hmin : (if xs.length < cnt then (xs.length : Int) else cnt) = (q : Int)) (hs : smallI (q : Int) = true) : (dIt gRange1 (dCons (dFn gMin (dCons (dFn1 gInt 2) (dCons (dFn1 gLen 3) dNil))) dNil)) [some (.o t), some (.z goods), some (.z (.int cnt)), some (.o xs), some (.o []), none] = .ok (rangeF 0 q, [some (.o t), some (.z goods), some (.z (.int cnt)), some (.o xs), some (.o []), none]) :=
  it_ok (cons_ok (fn_ok (cons_ok (fn1_ok (p := .int cnt) rfl rfl rfl) (cons_ok (fn1_ok (p := .lst xs) rfl rfl rfl) rfl)) (min_ok hmin)) rfl) (range_ok hs)
theorem pick_ok {C : Cals} {it m : Nat} {t xs : List PV} {goods : PV} {cnt : Nat} (D : Drawer C it) (ht : TinOk m t) (hm : m + cnt < 2 ^ 40) (hg : seqItems goods = some xs) (hx : xs.length < 2 ^ 18) (hc : cnt < 2 ^ 18) :
    ∃ (ys t' : List PV), (∀ y ∈ ys, y ∈ xs) ∧ ys.length = min cnt xs.length ∧ TinOk (m + cnt) t' ∧ runFn 3 6 true (bPick C it) [.o t, .z goods, .z (.int cnt)] = .ok (.o ys, some (.o t')) := by
  have hk : min cnt xs.length ≤ xs.length := Nat.min_le_right _ _
  obtain ⟨t', p', f', l', h1, h2, h3, h4⟩ := pick_loop (g := .z goods) (cn := .z (.int cnt)) (all := xs) D (min cnt xs.length) 0 m t xs [] none ht (by omega) hk (by omega) (by simp; omega) (fun _ h => h) (fun _ h => by simp at h)
  have ht2 : TinOk (m + cnt) t' := by
    obtain ⟨x, y, z, a, b, c, d, e⟩ := h1
    exact ⟨x, y, z, a, b, c, d, by omega⟩
  refine ⟨f', t', h2, by rw [h3]; simp, ht2, ?_⟩
  clear ht2
  generalize hq : min cnt xs.length = q at h1 h3 h4
  have hmin : (if xs.length < cnt then (xs.length : Int) else cnt) = (q : Int) := by
    by_cases c : xs.length < cnt
    · rw [if_pos c]; omega
    · rw [if_neg c]; omega
  have hs : smallI (q : Int) = true := by
    simp only [smallI, Bool.and_eq_true, decide_eq_true_eq]
    omega
  have e1 := pick_e1 (t := t) (cn := cnt) hg glo_nil
  have e2 := pick_e2 (t := t) (goods := goods) hmin hs
  refine run_retM (ρ' := [some (.o t'), some (.z goods), some (.z (.int cnt)), some (.o p'), none, l']) rfl (b := .o t') ?_ rfl
  show bPick C it [some (.o t), some (.z goods), some (.z (.int cnt)), none, none, none] = _
  unfold bPick
  rw [seq_nx e1, seq_nx ((for_ok e2).trans h4)]
  rfl
end Dn

/-! DnW: the law's source of draws: cells, box. -/
namespace Dn
open PySem PySem.Spec PyProof.Rows L2
/-- _law_cells -/
def bCellsT : DS := (dSeq (dSet 5 (dZ (dBin gMod (dFn1 gInt 3) (dV 1))))
    (dSeq (dStX 2 (dV 5) (dBin gAdd (dIxV 2 (dV 5)) (dBin gMul (dV 4) (dBin gAdd (dV 3) (dC (.int 2))))))
    dSkip))
def bCells : DS :=
  (dSeq (dSet 2 (dOrP (dFnO gListOf (dCons (dSl (dV 0) dNoP (dP (dV 1))) dNil)) (dFnO gListO (dCons (dC (.int 0)) dNil))))
    (dSeq (dFor (dIt gEnum (dCons (dSl (dV 0) (dP (dV 1)) (dP (dC (.int 63)))) dNil)) (gTp 2 (gsCons (gNm 3) (gsCons (gNm 4) gsNil))) bCellsT)
    (dSeq (dRet (dMvZ 2))
    dSkip)))
theorem cells_turn {s : SV} {k b c : Int} {o5 : Option SV} (h0 : 0 ≤ k) (h1 : k < 2 ^ 40) :
    bCellsT [some s, some (.z (.int 1)), some (.o [.int c]), some (.z (.int k)), some (.z (.int b)), o5] = .ok (.nx, [some s, some (.z (.int 1)), some (.o [.int (c + b * (k + 2))]), some (.z (.int k)), some (.z (.int b)), some (.z (.int 0))]) := by
  have m : mulOk b (k + 2) = true := mul_small (by omega)
  have e : k.fmod 1 = 0 := by
    have a := Int.fmod_nonneg_of_pos k (b := 1) (by decide)
    have b := Int.fmod_lt_of_pos k (b := 1) (by decide)
    omega
  have a0 : atI [PV.int c] 0 = some (.int c) := rfl
  simp [bCellsT, dSeq, dSet, dZ, dBin, dFn1, pk, SV.fz, gInt, scal, dV, gMod, e, dStX, dIxV, svIx, a0, gMul, gAdd, dC, m, ixN, seqIndex?, dSkip]
theorem cells_loop {s : SV} : ∀ (bs : List Int) (k : Nat) (c : Int) (o3 o4 o5 : Option SV), k + bs.length < 2 ^ 30 →
    ∃ (c' : Int) (p3 p4 p5 : Option SV), forD (gTp 2 (gsCons (gNm 3) (gsCons (gNm 4) gsNil))) bCellsT (enumF k (bs.map .int)) [some s, some (.z (.int 1)), some (.o [.int c]), o3, o4, o5] = .ok (.nx, [some s, some (.z (.int 1)), some (.o [.int c']), p3, p4, p5])
  | [], k, c, o3, o4, o5, _ => ⟨c, o3, o4, o5, rfl⟩
  | b :: bs, k, c, o3, o4, o5, h => by
    simp only [List.length_cons] at h
    obtain ⟨c', p3, p4, p5, e⟩ := cells_loop (s := s) bs (k + 1) (c + b * (k + 2)) (some (.z (.int k))) (some (.z (.int b))) (some (.z (.int 0))) (by omega)
    refine ⟨c', p3, p4, p5, ?_⟩
    have t := cells_turn (s := s) (k := k) (b := b) (c := c) (o5 := o5) (by omega) (by omega)
    simp only [List.map_cons, enumF, forD, gTp, gsCons, gsNil, gNm, List.length_cons, List.length_nil, if_true, Option.bind, List.set]
    rw [t]
    exact e
theorem cut_ints (ns : List Int) (lo hi : Option Int) : ∃ ms : List Int, ms.length ≤ ns.length ∧ cutP (ns.map PV.int) lo hi = ms.map PV.int := by
  refine ⟨(ns.drop (HT.sIx ns.length 0 lo)).take (HT.sIx ns.length ns.length hi - HT.sIx ns.length 0 lo), ?_, ?_⟩
  · rw [List.length_take, List.length_drop]; omega
  · simp [cutP, List.map_take, List.map_drop]
theorem orP_t {da db : DO} {ρ ρ1 : Env} {r : SV} (h : da ρ = .ok (r, ρ1)) (ht : truS r = some true) : dOrP da db ρ = .ok (r, ρ1) := by
  show (da ρ >>= _) = _
  rw [h]
  show (match truS r with
    | some true => (.ok (r, ρ1) : Res (SV × Env))
    | some false => db ρ1
    | none => .bad) = _
  rw [ht]
theorem orP_f {da db : DO} {ρ ρ1 : Env} {r : SV} (h : da ρ = .ok (r, ρ1)) (ht : truS r = some false) : dOrP da db ρ = db ρ1 := by
  show (da ρ >>= _) = _
  rw [h]
  show (match truS r with
    | some true => (.ok (r, ρ1) : Res (SV × Env))
    | some false => db ρ1
    | none => .bad) = _
  rw [ht]
theorem set_ok {i : Nat} {d : DO} {ρ ρ1 : Env} {r : SV} (h : d ρ = .ok (r, ρ1)) : dSet i d ρ = .ok (.nx, ρ1.set i (some r)) := by
  show (d ρ >>= _) = _
  rw [h]
  rfl
theorem fnO_ok {g : List PV → Option (List PV)} {ds : DEs} {ρ ρ1 : Env} {ps r : List PV} (h : ds ρ = .ok (ps, ρ1)) (hg : g ps = some r) : dFnO g ds ρ = .ok (.o r, ρ1) := by
  show (ds ρ >>= _) = _
  rw [h]
  show (match g ps with
    | some r => (.ok (.o r, ρ1) : Res (SV × Env))
    | none => .bad) = _
  rw [hg]
theorem gListO_small {ps : List PV} (h : ps.length ≤ 1000) : gListO ps = some ps := by
  unfold gListO
  rw [if_pos (by rw [sizeLine_eq]; omega)]
theorem cells_first (ns : List Int) : ∃ x0 : Int, (dOrP (dFnO gListOf (dCons (dSl (dV 0) dNoP (dP (dV 1))) dNil)) (dFnO gListO (dCons (dC (.int 0)) dNil))) [some (.z (.scr (ns.map .int))), some (.z (.int 1)), none, none, none, none] = .ok (.o [.int x0], [some (.z (.scr (ns.map .int))), some (.z (.int 1)), none, none, none, none]) := by
  have e1 : (dFnO gListOf (dCons (dSl (dV 0) dNoP (dP (dV 1))) dNil)) [some (.z (.scr (ns.map .int))), some (.z (.int 1)), none, none, none, none] = .ok (.o (cutP (ns.map PV.int) none (some 1)), [some (.z (.scr (ns.map .int))), some (.z (.int 1)), none, none, none, none]) := rfl
  cases ns with
  | nil => exact ⟨0, (orP_f e1 rfl).trans (fnO_ok (ps := [.int 0]) rfl (gListO_small (by decide)))⟩
  | cons n ns =>
    have e : cutP ((n :: ns).map PV.int) none (some 1) = [.int n] := by
      have a : HT.sIx ((n :: ns).map PV.int).length 0 none = 0 := rfl
      have b : HT.sIx ((n :: ns).map PV.int).length ((n :: ns).map PV.int).length (some 1) = 1 := by
        simp [HT.sIx]
        try omega
      unfold cutP
      rw [a, b]
      simp
    rw [e] at e1
    exact ⟨n, orP_t e1 rfl⟩
theorem cells_ok (ns : List Int) (hn : ns.length ≤ 63) : ∃ x : Int, runFn 2 6 false bCells [.z (.scr (ns.map .int)), .z (.int 1)] = .ok (.o [.int x], none) := by
  obtain ⟨ms, hm, em⟩ := cut_ints ns (some 1) (some 63)
  obtain ⟨x0, h0⟩ := cells_first ns
  obtain ⟨c', p3, p4, p5, e⟩ := cells_loop (s := .z (.scr (ns.map .int))) ms 0 x0 none none none (by omega)
  refine ⟨c', run_ret (ρ' := [some (.z (.scr (ns.map .int))), some (.z (.int 1)), none, p3, p4, p5]) rfl ?_⟩
  show bCells [some (.z (.scr (ns.map .int))), some (.z (.int 1)), none, none, none, none] = _
  have e2 : (dIt gEnum (dCons (dSl (dV 0) (dP (dV 1)) (dP (dC (.int 63)))) dNil)) [some (.z (.scr (ns.map .int))), some (.z (.int 1)), some (.o [.int x0]), none, none, none] = .ok (enumF 0 (cutP (ns.map PV.int) (some 1) (some 63)), [some (.z (.scr (ns.map .int))), some (.z (.int 1)), some (.o [.int x0]), none, none, none]) := rfl
  rw [em] at e2
  unfold bCells
  rw [seq_nx (set_ok h0)]
  show dSeq _ _ [some (.z (.scr (ns.map .int))), some (.z (.int 1)), some (.o [.int x0]), none, none, none] = _
  rw [seq_nx ((for_ok e2).trans e)]
  rfl
/-- _law_box -/
def bBox : DS :=
  (dSeq (dSet 2 (dIfO (dB (dBin gLt (dV 1) (dFn1 gLen 0))) (dZ (dIxV 0 (dV 1))) (dZ (dC (.int 0)))))
    (dSeq (dRet (dFnO gListO (dCons (dBin gMul (dFn1 gAbs 2) (dFn gInt (dCons (dBin (gCmpI fun i j => decide (j ≤ i)) (dFn1 gAbs 2) (dBin gPow (dC (.int 10)) (dC (.int 18)))) dNil))) (dCons (dBin gAdd (dBin gAdd (dBin gMod (dFn1 gInt 2) (dC (.int 2305843009213693951))) (dBin gMul (dC (.int 39373)) (dV 1))) (dC (.int 26297))) (dCons (dC (.int 0)) dNil)))))
    dSkip))
theorem bin_ok {g : PV → PV → Option PV} {da db : DE} {ρ ρ1 ρ2 : Env} {a b r : PV} (h1 : da ρ = .ok (a, ρ1)) (h2 : db ρ1 = .ok (b, ρ2)) (hg : g a b = some r) : dBin g da db ρ = .ok (r, ρ2) := by
  show (da ρ >>= _) = _
  rw [h1]
  show (db ρ1 >>= _) = _
  rw [h2]
  show (match g a b with
    | some r => (.ok (r, ρ2) : Res (PV × Env))
    | none => .bad) = _
  rw [hg]
theorem ret_ok {d : DO} {ρ ρ1 : Env} {r : SV} (h : d ρ = .ok (r, ρ1)) : dRet d ρ = .ok (.ret r, ρ1) := by
  show (d ρ >>= _) = _
  rw [h]
  rfl
theorem gMul_ok {i j : Int} (h : mulOk i j = true) : gMul (.int i) (.int j) = some (.int (i * j)) := by
  show (if mulOk i j = true then some (PV.int (i * j)) else none) = _
  rw [if_pos h]
theorem gMod_ok {i j : Int} (h : j ≠ 0) : gMod (.int i) (.int j) = some (.int (i.fmod j)) := by
  show (if j = 0 then none else some (PV.int (i.fmod j))) = _
  rw [if_neg h]
def BoxE (x : Int) : Env := [some (.z (.lst [.int x])), some (.z (.int 0)), some (.z (.int x))]
theorem box_ok (x : Int) : ∃ t, TinOk 0 t ∧ runFn 2 3 false bBox [.z (.lst [.int x]), .z (.int 0)] = .ok (.o t, none) := by
  have h0 : gPow (.int 10) (.int 18) = some (.int 1000000000000000000) := rfl
  have e0 : (dIfO (dB (dBin gLt (dV 1) (dFn1 gLen 0))) (dZ (dIxV 0 (dV 1))) (dZ (dC (.int 0)))) [some (.z (.lst [.int x])), some (.z (.int 0)), none] = .ok (.z (.int x), [some (.z (.lst [.int x])), some (.z (.int 0)), none]) := rfl
  generalize ea : (if x < 0 then -x else x) = ax
  have f2 : (dFn1 gAbs 2) (BoxE x) = .ok (.int ax, BoxE x) := by rw [← ea]; rfl
  have f3 : (dBin (gCmpI fun i j => decide (j ≤ i)) (dFn1 gAbs 2) (dBin gPow (dC (.int 10)) (dC (.int 18)))) (BoxE x) = .ok (.bl (decide ((1000000000000000000 : Int) ≤ ax)), BoxE x) :=
    bin_ok f2 (bin_ok (a := .int 10) (b := .int 18) rfl rfl h0) rfl
  generalize eb : decide ((1000000000000000000 : Int) ≤ ax) = b at f3
  have f4 : (dFn gInt (dCons (dBin (gCmpI fun i j => decide (j ≤ i)) (dFn1 gAbs 2) (dBin gPow (dC (.int 10)) (dC (.int 18)))) dNil)) (BoxE x) = .ok (.int (if b then 1 else 0), BoxE x) := fn_ok (cons_ok f3 rfl) rfl
  have f5 := bin_ok f2 f4 (gMul_ok (i := ax) (j := if b then 1 else 0) (mul_small (by cases b <;> decide)))
  have f6 : (dFn1 gInt 2) (BoxE x) = .ok (.int x, BoxE x) := rfl
  have f7 := bin_ok (db := dC (.int 2305843009213693951)) f6 rfl (gMod_ok (i := x) (j := 2305843009213693951) (by decide))
  have f8 : (dBin gMul (dC (.int 39373)) (dV 1)) (BoxE x) = .ok (.int 0, BoxE x) := bin_ok (a := .int 39373) (b := .int 0) rfl rfl (gMul_ok (mul_small (by decide)))
  have f9 : (dBin gAdd (dBin gAdd (dBin gMod (dFn1 gInt 2) (dC (.int 2305843009213693951))) (dBin gMul (dC (.int 39373)) (dV 1))) (dC (.int 26297))) (BoxE x) = .ok (.int (x.fmod 2305843009213693951 + 0 + 26297), BoxE x) := bin_ok (b := .int 26297) (bin_ok f7 f8 rfl) rfl rfl
  refine ⟨[.int (ax * if b then 1 else 0), .int (x.fmod 2305843009213693951 + 0 + 26297), .int 0], ⟨_, _, _, rfl, ?_, ?_, by omega, by omega⟩, run_ret (ρ' := BoxE x) rfl ?_⟩
  · have := Int.fmod_nonneg_of_pos x (b := 2305843009213693951) (by omega); omega
  · have := Int.fmod_lt_of_pos x (b := 2305843009213693951) (by omega); omega
  · show bBox [some (.z (.lst [.int x])), some (.z (.int 0)), none] = _
    unfold bBox
    rw [seq_nx (set_ok e0)]
    exact seq_ret (ret_ok (fnO_ok (cons_ok f5 (cons_ok f9 (cons_ok (r := .int 0) rfl rfl))) (gListO_small (by simp))))
end Dn

/-! DnX: the law's own def over every base. -/
namespace Dn
open PySem PySem.Spec PyProof.Rows L2
theorem facts_fun {h : HdX} {K : PySem.W.Frag} {i : Nat} {dd : He.DefD} {x : Str} (c : obsX h K = valX h) (hi : h.fn[i]? = some dd) (hat : dd.at_ = (x, none)) (hnm : dd.name = x) (hql : dd.qual = x) (d1 : dd.dfl = []) (d2 : dd.kwd = []) :
    ∃ fd, FunD K x x dd.params dd.body dd.scope [] [] (He.ga K x) fd := by
  have c1 : okX h K = true := congrArg (fun z : He.AlD => z.1) c
  have c2 : h.fn.map (fun d => He.fnW K d.at_) = h.fn.map He.DefD.val := congrArg (fun z : He.AlD => z.2) c
  simp only [okX, Bool.and_eq_true, List.all_eq_true] at c1
  obtain ⟨k1, ⟨k2, k5, k6⟩, k3, k4⟩ := c1
  obtain ⟨g1, g2⟩ := k4 dd (List.mem_of_getElem? hi)
  have e2 : (h.fn.map fun d => He.fnW K d.at_)[i]? = (h.fn.map He.DefD.val)[i]? := by rw [c2]
  rw [List.getElem?_map, List.getElem?_map, hi] at e2
  obtain ⟨fd, F⟩ := He.DefD.funD (Option.some.inj e2) g2
  have ead : He.fAd K dd.at_ = He.ga K x := by rw [hat]; rfl
  have e1 : He.DefD.dvs K dd = [] := by unfold He.DefD.dvs; rw [d1]; rfl
  have e3 : He.DefD.kws K dd = [] := by unfold He.DefD.kws; rw [d2]; rfl
  rw [e1, e3, ead, hnm, hql] at F
  exact ⟨fd, F⟩
section
variable {T : Tb} {gt : GT} {tbl : List FnD} {P : Program} {w : World} {mg : Str → Option Value}
theorem law_fn (Fc : Facts T gt tbl mg) {k i m : Nat} {d : FnD} {x : Str} {params : Arguments} {body : List Stmt} {scope : Scope} {N ps : List Str} {f : Addr} {fd : FuncData} (F : FunD T.K x x params body scope [] [] f fd) (S : FnScope N ps scope)
    (hd : tbl[i]? = some d) (l1 : ps.length = d.np) (l2 : N.length = d.n) (hnm : nmB N = true) (hm : ∀ C : Cals, cSs (cmp C m) ⟨gt, N, scope, none, fun j => d.mu && Nat.beq j 0⟩ body = some (d.body C)) (base : Heap) :
    FnOk P w T.K mg base (L2.CX P w) (k + 1) f fd ps (spG T (callN tbl (k + 1)) i d.np) := by
  have hnm := nmB_ok hnm
  refine FunD.ok F S (fun vs H Q E h => by rw [h.1, l1]) fun cdv A outer s H vs Q E hr h => ?_
  obtain ⟨hl, F0, svs, A0, s0, q⟩ := h
  have e0 : callN tbl (k + 1) i svs = runFn d.np d.n d.mu (d.body (callN tbl k)) svs := by
    show (match tbl[i]? with
      | some d => runFn d.np d.n d.mu (d.body (callN tbl k)) svs
      | none => .bad) = _
    rw [hd]
  rw [e0] at q
  have hpl : ps.length ≤ N.length := by have := congrArg List.length S.pre; rw [List.length_take] at this; omega
  have gok : GOk T (callN tbl k) gt P w T.K mg base (A.deeper (envOfC x scope s.heap.objs.size f cdv)) := by
    refine ⟨fun j g hg => ?_, Fc.free, Fc.con, Fc.exc, Fc.exm⟩
    obtain ⟨h1, h2, _⟩ := Fc.df j g hg
    obtain ⟨fd', ps', F', kp', b', _, _⟩ := defs_ok Fc k j g hg
    exact ⟨h1, fd', ps', k, F', hr, h2, kp', b'⟩
  have tk : Takes (cxOf (L2.CX P w) P w T.K mg base N x scope f cdv A outer s H E) (fun cls d _ H => E cls d H) := takes_of rfl rfl rfl rfl
  have cok : CxOk T E (callN tbl k) ⟨gt, N, scope, none, fun j => d.mu && Nat.beq j 0⟩ (cxOf (L2.CX P w) P w T.K mg base N x scope f cdv A outer s H E) :=
    ⟨rfl, rfl, S.nd, hnm, rfl, rfl, fun _ => rfl, by have := hr.un; show (A.deeper _).units + 65 < cLine; omega, gok, passes_call tk fun _ _ _ _ h => h⟩
  have sok : StOk T E (cxOf (L2.CX P w) P w T.K mg base N x scope f cdv A outer s H E) := ⟨passes_of rfl, tk, S.kind, rfl, rfl⟩
  refine ⟨_, cSs_ok (cmp_snd T (callN tbl k) m) cok sok (hm _), ?_⟩
  have efx : fxP ⟨gt, N, scope, none, fun j => d.mu && Nat.beq j 0⟩ = fun j => d.mu = true ∧ j = 0 := by
    funext j
    show ((d.mu && Nat.beq j 0) = true) = _
    rw [Bool.and_eq_true]
    apply propext
    constructor
    · rintro ⟨a, b⟩; exact ⟨a, Nat.eq_of_beq_eq_true b⟩
    · rintro ⟨a, rfl⟩; exact ⟨a, rfl⟩
  rw [efx]
  exact body_ok (N := N) (np := d.np) (m := N.length - d.np) (by omega) (by rw [hl]) s0 (by rw [l2]; exact q)
end
end Dn

namespace KL
open PySem PySem.Spec PyProof.Rows L2 Dn
theorem c154 (k : Nat) (svs : List SV) : callN tbl (k + 1) 154 svs = runFn 2 3 false bBox svs := rfl
theorem c155 (k : Nat) (svs : List SV) : callN tbl (k + 1) 155 svs = runFn 2 6 true bTake svs := rfl
theorem c156 (k : Nat) (svs : List SV) : callN tbl (k + 1) 156 svs = runFn 2 6 false bCells svs := rfl
theorem c157 (k : Nat) (svs : List SV) : callN tbl (k + 2) 157 svs = runFn 3 6 true (bPick (callN tbl (k + 1)) 155) svs := rfl
theorem c161 (k : Nat) (svs : List SV) : callN tbl (k + 1) 161 svs = runFn 4 6 false (b161 (callN tbl k)) svs := rfl
theorem drawer (k : Nat) : Drawer (callN tbl (k + 1)) 155 := fun m t n ht hm h0 h1 => take_ok ht hm h0 h1
/-- all are unfit -/
def Unf (C : Cals) (d w ah bh : PV) : Prop := ∃ xs ys, ah = .lst xs ∧ bh = .lst ys ∧ xs.length + ys.length < 1000 ∧ C 159 [.z d, .z (.lst (xs ++ [w] ++ ys))] = .ok (.z (.str "unfit"), none)
theorem gl1 {x : PV} : gList [x] = some (.lst [x]) := by
  unfold gList
  rw [if_pos (by rw [sizeLine_eq]; simp)]
theorem gadd {xs ys : List PV} (h : xs.length + ys.length ≤ 1002) : gAdd (.lst xs) (.lst ys) = some (.lst (xs ++ ys)) := by
  show (if xs.length + ys.length ≤ sizeLine then some (PV.lst (xs ++ ys)) else none) = _
  rw [if_pos (by rw [sizeLine_eq]; omega)]
def inT (C : Cals) : DS := (dSeq (dIfS (dB (dBin (gEq true) (dFz (dCall C 159 2 (dCons (dV 4) (dCons (dBin gAdd (dBin gAdd (dV 1) (dFn gList (dCons (dV 5) dNil))) (dV 3)) dNil)))) (dC (.str "unfit")))) (dSeq (dRet (dZ (dC (.bl false))))
    dSkip) dSkip)
    dSkip)
theorem call_ok {C : Cals} {f np : Nat} {ds : DEs} {ρ ρ1 : Dn.Env} {ps : List PV} {r : SV} (h : ds ρ = .ok (ps, ρ1)) (hl : ps.length = np) (hc : C f (ps.map .z) = .ok (r, none)) : dCall C f np ds ρ = .ok (r, ρ1) := by
  show (ds ρ >>= _) = _
  rw [h]
  show (if ps.length = np then (match C f (ps.map SV.z) with
    | .ok (r, none) => (.ok (r, ρ1) : Res (SV × Dn.Env))
    | .ok (_, some _) => .bad
    | .exc c => .exc c
    | .bad => .bad) else .bad) = _
  rw [if_pos hl, hc]
theorem fz_ok {d : DO} {ρ ρ1 : Dn.Env} {r : SV} (h : d ρ = .ok (r, ρ1)) : dFz d ρ = .ok (r.fz, ρ1) := by
  show (d ρ >>= _) = _
  rw [h]
  rfl
theorem b_ok {d : DE} {ρ ρ1 : Dn.Env} {b : Bool} (h : d ρ = .ok (.bl b, ρ1)) : dB d ρ = .ok (b, ρ1) := by
  show (d ρ >>= _) = _
  rw [h]
  rfl
theorem ifS_ok {dc : DT} {da db : DS} {ρ ρ1 : Dn.Env} {b : Bool} (h : dc ρ = .ok (b, ρ1)) : dIfS dc da db ρ = if b then da ρ1 else db ρ1 := by
  show (dc ρ >>= _) = _
  rw [h]
  rfl
theorem in_ok {C : Cals} {ds ah ws bh d w : PV} (h : Unf C d w ah bh) :
    inT C [some (.z ds), some (.z ah), some (.z ws), some (.z bh), some (.z d), some (.z w)] = .ok (.nx, [some (.z ds), some (.z ah), some (.z ws), some (.z bh), some (.z d), some (.z w)]) := by
  obtain ⟨xs, ys, rfl, rfl, hl, e⟩ := h
  have f1 : (dCons (dV 4) (dCons (dBin gAdd (dBin gAdd (dV 1) (dFn gList (dCons (dV 5) dNil))) (dV 3)) dNil)) [some (.z ds), some (.z (.lst xs)), some (.z ws), some (.z (.lst ys)), some (.z d), some (.z w)] = .ok ([d, .lst (xs ++ [w] ++ ys)], [some (.z ds), some (.z (.lst xs)), some (.z ws), some (.z (.lst ys)), some (.z d), some (.z w)]) :=
    cons_ok rfl (cons_ok (bin_ok (bin_ok (a := .lst xs) (b := .lst [w]) rfl (fn_ok (ps := [w]) rfl gl1) (gadd (by simp; omega))) (b := .lst ys) rfl (gadd (by simp; omega))) rfl)
  have g0 : gEq true (SV.z (PV.str "unfit")).fz (.str "unfit") = some (.bl false) := by kernel_rfl
  have f2 := b_ok (bin_ok (g := gEq true) (db := dC (.str "unfit")) (fz_ok (call_ok f1 rfl e)) rfl g0)
  exact seq_nx ((ifS_ok f2).trans rfl)
theorem in_loop {C : Cals} {ds ah W bh d : PV} : ∀ (ws : List PV) (l5 : Option SV), (∀ w ∈ ws, Unf C d w ah bh) →
    ∃ l', forD (gNm 5) (inT C) ws [some (.z ds), some (.z ah), some (.z W), some (.z bh), some (.z d), l5] = .ok (.nx, [some (.z ds), some (.z ah), some (.z W), some (.z bh), some (.z d), l'])
  | [], l5, _ => ⟨l5, rfl⟩
  | w :: ws, l5, h => by
    obtain ⟨l', e⟩ := in_loop (ds := ds) (W := W) (d := d) ws (some (.z w)) fun x hx => h x (List.mem_cons_of_mem _ hx)
    refine ⟨l', ?_⟩
    show (inT C [some (.z ds), some (.z ah), some (.z W), some (.z bh), some (.z d), some (.z w)] >>= _) = _
    rw [in_ok (h w List.mem_cons_self)]
    exact e
def outT (C : Cals) : DS := (dSeq (dFor (dSeqI (dV 2)) (gNm 5) (inT C)) dSkip)
theorem out_loop {C : Cals} {D ah bh : PV} {ws : List PV} : ∀ (ds : List PV) (l4 l5 : Option SV), (∀ d ∈ ds, ∀ w ∈ ws, Unf C d w ah bh) →
    ∃ l4' l5', forD (gNm 4) (outT C) ds [some (.z D), some (.z ah), some (.z (.lst ws)), some (.z bh), l4, l5] = .ok (.nx, [some (.z D), some (.z ah), some (.z (.lst ws)), some (.z bh), l4', l5'])
  | [], l4, l5, _ => ⟨l4, l5, rfl⟩
  | d :: ds, l4, l5, h => by
    obtain ⟨l', e⟩ := in_loop (C := C) (ds := D) (ah := ah) (W := .lst ws) (bh := bh) (d := d) ws l5 (h d List.mem_cons_self)
    obtain ⟨l4', l5', e2⟩ := out_loop (D := D) (ah := ah) (bh := bh) (ws := ws) ds (some (.z d)) l' fun x hx => h x (List.mem_cons_of_mem _ hx)
    refine ⟨l4', l5', ?_⟩
    show (outT C [some (.z D), some (.z ah), some (.z (.lst ws)), some (.z bh), some (.z d), l5] >>= _) = _
    have t : outT C [some (.z D), some (.z ah), some (.z (.lst ws)), some (.z bh), some (.z d), l5] = .ok (.nx, [some (.z D), some (.z ah), some (.z (.lst ws)), some (.z bh), some (.z d), l']) := by
      unfold outT
      have e0 : dSeqI (dV 2) [some (.z D), some (.z ah), some (.z (.lst ws)), some (.z bh), some (.z d), l5] = .ok (ws, [some (.z D), some (.z ah), some (.z (.lst ws)), some (.z bh), some (.z d), l5]) := rfl
      rw [seq_nx ((for_ok e0).trans e)]
      rfl
    rw [t]
    exact e2
theorem all_ok {C : Cals} {ah bh : PV} {ds ws : List PV} (h : ∀ d ∈ ds, ∀ w ∈ ws, Unf C d w ah bh) :
    runFn 4 6 false (b161 C) [.z (.lst ds), .z ah, .z (.lst ws), .z bh] = .ok (.z (.bl true), none) := by
  obtain ⟨l4, l5, e⟩ := out_loop (C := C) (D := .lst ds) (ah := ah) (bh := bh) (ws := ws) ds none none h
  refine run_ret (ρ' := [some (.z (.lst ds)), some (.z ah), some (.z (.lst ws)), some (.z bh), l4, l5]) rfl ?_
  show dSeq (dFor (dSeqI (dV 0)) (gNm 4) (outT C)) (dSeq (dRet (dZ (dC (.bl true)))) dSkip) [some (.z (.lst ds)), some (.z ah), some (.z (.lst ws)), some (.z bh), none, none] = _
  have e0 : dSeqI (dV 0) [some (.z (.lst ds)), some (.z ah), some (.z (.lst ws)), some (.z bh), none, none] = .ok (ds, [some (.z (.lst ds)), some (.z ah), some (.z (.lst ws)), some (.z bh), none, none]) := rfl
  rw [seq_nx ((for_ok e0).trans e)]
  rfl
/-! ### the law -/
/-- the level at which the law's statements call -/
abbrev CL : Cals := callN tbl 33
def preL : List DS := [l1 CL, l2 CL, l3 CL, l4 CL, l5 CL, l6 CL, l7 CL, l8 CL, l9 CL, l10 CL, l11 CL, l12 CL, l13 CL, l14 CL, l15 CL, l16 CL, l17 CL, l18 CL, l19 CL, l20 CL, l21 CL, l22 CL, l23 CL, l24 CL, l25 CL, l26 CL, l27 CL, l28 CL, l29 CL, l30 CL, l31 CL, l32 CL]
def postL : List DS := [l34 CL, l35 CL, l36 CL, l37 CL, l38 CL, l39 CL, l40 CL]
def envD : Dn.Env := match seqL preL [some (.z .non), some (.z .non), none, none, none, none, none, none, none, none, none, none, none, none, none, none, none, none, none, none, none, none, none, none] with
  | .ok (_, ρ) => ρ
  | _ => []
def vs (i : Nat) : Option SV := match envD[i]? with
  | some o => o
  | none => none
theorem pre_ok (s t : Option SV) : seqL preL [s, t, none, none, none, none, none, none, none, none, none, none, none, none, none, none, none, none, none, none, none, none, none, none] = .ok (.nx, [s, t, vs 2, vs 3, vs 4, vs 5, vs 6, vs 7, vs 8, vs 9, vs 10, vs 11, vs 12, vs 13, vs 14, vs 15, none, none, none, none, none, none, none, none]) := by
  kernel_rfl
def asked : List PV := match vs 15 with
  | some (.o xs) => xs
  | _ => []
theorem vs15 : vs 15 = some (.o asked) := by kernel_rfl
/-- the level at which a slip is asked -/
abbrev CS : Cals := callN tbl 32
def isU : Res (SV × Option SV) → Bool
  | .ok (.z (.str x), none) => decide (x = "unfit")
  | _ => false
theorem isU_ok {r : Res (SV × Option SV)} (h : isU r = true) : r = .ok (.z (.str "unfit"), none) := by
  unfold isU at h
  split at h
  · rw [of_decide_eq_true h]
  · cases h
def goodB (p : PV) : Bool := match p with
  | .tup [.lst ds, .lst xs, .lst ws, .lst ys] => decide (ws.length < 1000) && (decide (xs.length + ys.length < 1000) && ds.all fun d => ws.all fun w => isU (CS 159 [.z d, .z (.lst (xs ++ [w] ++ ys))]))
  | _ => false
end KL

namespace KL
open PySem PySem.Spec PyProof.Rows L2 Dn
def it (i : Nat) : PV := match asked[i]? with
  | some p => p
  | none => .non
theorem asked_eq : asked = [it 0, it 1, it 2, it 3, it 4, it 5, it 6, it 7, it 8, it 9, it 10, it 11, it 12, it 13, it 14, it 15, it 16, it 17, it 18, it 19, it 20, it 21, it 22, it 23, it 24, it 25] := by kernel_rfl
def goodD (j : Nat) (p : PV) : Bool := match p with
  | .tup [.lst ds, .lst xs, .lst ws, .lst ys] => decide (ds.length ≤ 8) && (decide (ws.length < 1000) && (decide (xs.length + ys.length < 1000) && ((ds.drop j).take 1).all fun d => ws.all fun w => isU (CS 159 [.z d, .z (.lst (xs ++ [w] ++ ys))])))
  | _ => false
theorem all_parts {α : Type} {f : α → Bool} {l : List α} {n : Nat} (hn : l.length ≤ n) (h : ∀ j, j < n → ((l.drop j).take 1).all f = true) : l.all f = true := by
  rw [List.all_eq_true]
  intro x hx
  obtain ⟨j, hj, rfl⟩ := List.getElem_of_mem hx
  exact List.all_eq_true.mp (h j (by omega)) _ (by
    have e : (l.drop j).take 1 = [l[j]] := by rw [List.drop_eq_getElem_cons hj]; rfl
    rw [e]
    exact List.mem_singleton.mpr rfl)
theorem goodD_ok {p : PV} (h : ∀ j, j < 8 → goodD j p = true) : goodB p = true := by
  have h0 := h 0 (by omega)
  unfold goodD at h0
  split at h0
  · rename_i ds xs ws ys
    simp only [Bool.and_eq_true, decide_eq_true_eq] at h0
    unfold goodB
    simp only [Bool.and_eq_true, decide_eq_true_eq]
    refine ⟨h0.2.1, h0.2.2.1, all_parts h0.1 fun j hj => ?_⟩
    have h1 := h j hj
    simp only [goodD, Bool.and_eq_true] at h1
    exact h1.2.2.2
  · cases h0
theorem good0_0 : goodD 0 (it 0) = true := by kernel_rfl
theorem good0_1 : goodD 1 (it 0) = true := by kernel_rfl
theorem good0_2 : goodD 2 (it 0) = true := by kernel_rfl
theorem good0_3 : goodD 3 (it 0) = true := by kernel_rfl
theorem good0_4 : goodD 4 (it 0) = true := by kernel_rfl
theorem good0_5 : goodD 5 (it 0) = true := by kernel_rfl
theorem good0_6 : goodD 6 (it 0) = true := by kernel_rfl
theorem good0_7 : goodD 7 (it 0) = true := by kernel_rfl
theorem good0 : goodB (it 0) = true := goodD_ok fun j hj => match j, hj with
  | 0, _ => good0_0
  | 1, _ => good0_1
  | 2, _ => good0_2
  | 3, _ => good0_3
  | 4, _ => good0_4
  | 5, _ => good0_5
  | 6, _ => good0_6
  | 7, _ => good0_7
  | j + 8, h => absurd h (by omega)
theorem good1_0 : goodD 0 (it 1) = true := by kernel_rfl
theorem good1_1 : goodD 1 (it 1) = true := by kernel_rfl
theorem good1_2 : goodD 2 (it 1) = true := by kernel_rfl
theorem good1_3 : goodD 3 (it 1) = true := by kernel_rfl
theorem good1_4 : goodD 4 (it 1) = true := by kernel_rfl
theorem good1_5 : goodD 5 (it 1) = true := by kernel_rfl
theorem good1_6 : goodD 6 (it 1) = true := by kernel_rfl
theorem good1_7 : goodD 7 (it 1) = true := by kernel_rfl
theorem good1 : goodB (it 1) = true := goodD_ok fun j hj => match j, hj with
  | 0, _ => good1_0
  | 1, _ => good1_1
  | 2, _ => good1_2
  | 3, _ => good1_3
  | 4, _ => good1_4
  | 5, _ => good1_5
  | 6, _ => good1_6
  | 7, _ => good1_7
  | j + 8, h => absurd h (by omega)
theorem good2_0 : goodD 0 (it 2) = true := by kernel_rfl
theorem good2_1 : goodD 1 (it 2) = true := by kernel_rfl
theorem good2_2 : goodD 2 (it 2) = true := by kernel_rfl
theorem good2_3 : goodD 3 (it 2) = true := by kernel_rfl
theorem good2_4 : goodD 4 (it 2) = true := by kernel_rfl
theorem good2_5 : goodD 5 (it 2) = true := by kernel_rfl
theorem good2_6 : goodD 6 (it 2) = true := by kernel_rfl
theorem good2_7 : goodD 7 (it 2) = true := by kernel_rfl
theorem good2 : goodB (it 2) = true := goodD_ok fun j hj => match j, hj with
  | 0, _ => good2_0
  | 1, _ => good2_1
  | 2, _ => good2_2
  | 3, _ => good2_3
  | 4, _ => good2_4
  | 5, _ => good2_5
  | 6, _ => good2_6
  | 7, _ => good2_7
  | j + 8, h => absurd h (by omega)
theorem good3_0 : goodD 0 (it 3) = true := by kernel_rfl
theorem good3_1 : goodD 1 (it 3) = true := by kernel_rfl
theorem good3_2 : goodD 2 (it 3) = true := by kernel_rfl
theorem good3_3 : goodD 3 (it 3) = true := by kernel_rfl
theorem good3_4 : goodD 4 (it 3) = true := by kernel_rfl
theorem good3_5 : goodD 5 (it 3) = true := by kernel_rfl
theorem good3_6 : goodD 6 (it 3) = true := by kernel_rfl
theorem good3_7 : goodD 7 (it 3) = true := by kernel_rfl
theorem good3 : goodB (it 3) = true := goodD_ok fun j hj => match j, hj with
  | 0, _ => good3_0
  | 1, _ => good3_1
  | 2, _ => good3_2
  | 3, _ => good3_3
  | 4, _ => good3_4
  | 5, _ => good3_5
  | 6, _ => good3_6
  | 7, _ => good3_7
  | j + 8, h => absurd h (by omega)
theorem good4_0 : goodD 0 (it 4) = true := by kernel_rfl
theorem good4_1 : goodD 1 (it 4) = true := by kernel_rfl
theorem good4_2 : goodD 2 (it 4) = true := by kernel_rfl
theorem good4_3 : goodD 3 (it 4) = true := by kernel_rfl
theorem good4_4 : goodD 4 (it 4) = true := by kernel_rfl
theorem good4_5 : goodD 5 (it 4) = true := by kernel_rfl
theorem good4_6 : goodD 6 (it 4) = true := by kernel_rfl
theorem good4_7 : goodD 7 (it 4) = true := by kernel_rfl
theorem good4 : goodB (it 4) = true := goodD_ok fun j hj => match j, hj with
  | 0, _ => good4_0
  | 1, _ => good4_1
  | 2, _ => good4_2
  | 3, _ => good4_3
  | 4, _ => good4_4
  | 5, _ => good4_5
  | 6, _ => good4_6
  | 7, _ => good4_7
  | j + 8, h => absurd h (by omega)
theorem good5 : goodB (it 5) = true := by kernel_rfl
theorem good6 : goodB (it 6) = true := by kernel_rfl
theorem good7_0 : goodD 0 (it 7) = true := by kernel_rfl
theorem good7_1 : goodD 1 (it 7) = true := by kernel_rfl
theorem good7_2 : goodD 2 (it 7) = true := by kernel_rfl
theorem good7_3 : goodD 3 (it 7) = true := by kernel_rfl
theorem good7_4 : goodD 4 (it 7) = true := by kernel_rfl
theorem good7_5 : goodD 5 (it 7) = true := by kernel_rfl
theorem good7_6 : goodD 6 (it 7) = true := by kernel_rfl
theorem good7_7 : goodD 7 (it 7) = true := by kernel_rfl
theorem good7 : goodB (it 7) = true := goodD_ok fun j hj => match j, hj with
  | 0, _ => good7_0
  | 1, _ => good7_1
  | 2, _ => good7_2
  | 3, _ => good7_3
  | 4, _ => good7_4
  | 5, _ => good7_5
  | 6, _ => good7_6
  | 7, _ => good7_7
  | j + 8, h => absurd h (by omega)
theorem good8 : goodB (it 8) = true := by kernel_rfl
theorem good9 : goodB (it 9) = true := by kernel_rfl
theorem good10 : goodB (it 10) = true := by kernel_rfl
theorem good11 : goodB (it 11) = true := by kernel_rfl
theorem good12 : goodB (it 12) = true := by kernel_rfl
theorem good13 : goodB (it 13) = true := by kernel_rfl
theorem good14 : goodB (it 14) = true := by kernel_rfl
theorem good15 : goodB (it 15) = true := by kernel_rfl
theorem good16 : goodB (it 16) = true := by kernel_rfl
theorem good17 : goodB (it 17) = true := by kernel_rfl
theorem good18 : goodB (it 18) = true := by kernel_rfl
theorem good19 : goodB (it 19) = true := by kernel_rfl
theorem good20 : goodB (it 20) = true := by kernel_rfl
theorem good21 : goodB (it 21) = true := by kernel_rfl
theorem good22 : goodB (it 22) = true := by kernel_rfl
theorem good23 : goodB (it 23) = true := by kernel_rfl
theorem good24 : goodB (it 24) = true := by kernel_rfl
theorem good25 : goodB (it 25) = true := by kernel_rfl
theorem goodA : asked.all goodB = true := by
  rw [asked_eq]
  rw [List.all_cons, good0, Bool.true_and, List.all_cons, good1, Bool.true_and, List.all_cons, good2, Bool.true_and, List.all_cons, good3, Bool.true_and, List.all_cons, good4, Bool.true_and, List.all_cons, good5, Bool.true_and, List.all_cons, good6, Bool.true_and, List.all_cons, good7, Bool.true_and, List.all_cons, good8, Bool.true_and, List.all_cons, good9, Bool.true_and, List.all_cons, good10, Bool.true_and, List.all_cons, good11, Bool.true_and, List.all_cons, good12, Bool.true_and, List.all_cons, good13, Bool.true_and, List.all_cons, good14, Bool.true_and, List.all_cons, good15, Bool.true_and, List.all_cons, good16, Bool.true_and, List.all_cons, good17, Bool.true_and, List.all_cons, good18, Bool.true_and, List.all_cons, good19, Bool.true_and, List.all_cons, good20, Bool.true_and, List.all_cons, good21, Bool.true_and, List.all_cons, good22, Bool.true_and, List.all_cons, good23, Bool.true_and, List.all_cons, good24, Bool.true_and, List.all_cons, good25, Bool.true_and]
  rfl
theorem good : ∀ p ∈ asked, goodB p = true := List.all_eq_true.mp goodA
end KL

namespace KL
open PySem PySem.Spec PyProof.Rows L2 Dn
theorem callL_ok {C : Cals} {f np i : Nat} {ds : DEs} {ρ ρ1 : Dn.Env} {ps xs : List PV} {r b : SV} (h0 : isO ρ i = true) (h : ds ρ = .ok (ps, ρ1)) (hl : ps.length + 1 = np) (hx : ρ1[i]? = some (some (.o xs))) (hc : C f (.o xs :: ps.map .z) = .ok (r, some b)) : dCallL C f np i ds ρ = .ok (r, ρ1.set i (some b)) := by
  unfold dCallL
  rw [if_pos h0]
  show (ds ρ >>= _) = _
  rw [h]
  show (if ps.length + 1 = np then (match ρ1[i]? with
    | some (some (.o xs)) => (match C f (.o xs :: ps.map SV.z) with
      | .ok (r, some b) => (.ok (r, ρ1.set i (some b)) : Res (SV × Dn.Env))
      | .ok (_, none) => .bad
      | .exc c => .exc c
      | .bad => .bad)
    | _ => .bad) else .bad) = _
  rw [if_pos hl, hx]
  show (match C f (.o xs :: ps.map SV.z) with
      | .ok (r, some b) => (.ok (r, ρ1.set i (some b)) : Res (SV × Dn.Env))
      | .ok (_, none) => .bad
      | .exc c => .exc c
      | .bad => .bad) = _
  rw [hc]
theorem tru_ok {d : DE} {ρ ρ1 : Dn.Env} {p : PV} {b : Bool} (h : d ρ = .ok (p, ρ1)) (ht : tru p = some b) : dTru d ρ = .ok (b, ρ1) := by
  show (d ρ >>= _) = _
  rw [h]
  show (match tru p with
    | some b => (.ok (b, ρ1) : Res (Bool × Dn.Env))
    | none => .bad) = _
  rw [ht]
theorem notT_ok {d : DT} {ρ ρ1 : Dn.Env} {b : Bool} (h : d ρ = .ok (b, ρ1)) : dNotT d ρ = .ok (!b, ρ1) := by
  show (d ρ >>= _) = _
  rw [h]
  rfl
def bodyT : DS := (dSeq (dIfS (dNotT (dTru (dFz (dCall CL 161 4 (dCons (dV 16) (dCons (dV 17) (dCons (dFz (dCallL CL 157 3 1 (dCons (dV 18) (dCons (dC (.int 5)) dNil)))) (dCons (dV 19) dNil)))))))) (dSeq (dRet (dZ (dC (.bl false))))
    dSkip) dSkip)
    dSkip)
def tgT : DG := (gTp 4 (gsCons (gNm 16) (gsCons (gNm 17) (gsCons (gNm 18) (gsCons (gNm 19) gsNil)))))
/-- the law's names while the loop runs -/
def EE (s t m15 a b c d : Option SV) : Dn.Env := [s, t, vs 2, vs 3, vs 4, vs 5, vs 6, vs 7, vs 8, vs 9, vs 10, vs 11, vs 12, vs 13, vs 14, m15, a, b, c, d, none, none, none, none]
theorem turn {s m15 a b c d : Option SV} {m : Nat} {t : List PV} {p : PV} (ht : TinOk m t) (hm : m < 2 ^ 39) (hp : goodB p = true) :
    ∃ (t' : List PV) (a' b' c' d' : Option SV), TinOk (m + 5) t' ∧ (match tgT p (EE s (some (.o t)) m15 a b c d) with
      | none => (.bad : Res (Flw × Dn.Env))
      | some ρ => bodyT ρ) = .ok (.nx, EE s (some (.o t')) m15 a' b' c' d') := by
  unfold goodB at hp
  split at hp
  case h_2 => cases hp
  rename_i ds xs ws ys
  simp only [Bool.and_eq_true, decide_eq_true_eq, List.all_eq_true] at hp
  obtain ⟨hl, hx, hu⟩ := hp
  obtain ⟨zs, t', h1, h2, h3, h4⟩ := pick_ok (goods := .lst ws) (xs := ws) (cnt := 5) (drawer 31) ht (by omega) rfl (by omega) (by omega)
  refine ⟨t', some (.z (.lst ds)), some (.z (.lst xs)), some (.z (.lst ws)), some (.z (.lst ys)), h3, ?_⟩
  have e4 : CL 157 (.o t :: [PV.lst ws, PV.int 5].map .z) = .ok (.o zs, some (.o t')) := by
    rw [← h4]
    exact c157 31 _
  have f1 : dFz (dCallL CL 157 3 1 (dCons (dV 18) (dCons (dC (.int 5)) dNil))) (EE s (some (.o t)) m15 (some (.z (.lst ds))) (some (.z (.lst xs))) (some (.z (.lst ws))) (some (.z (.lst ys)))) = .ok (.lst zs, EE s (some (.o t')) m15 (some (.z (.lst ds))) (some (.z (.lst xs))) (some (.z (.lst ws))) (some (.z (.lst ys)))) :=
    fz_ok (r := .o zs) (callL_ok (ρ1 := EE s (some (.o t)) m15 (some (.z (.lst ds))) (some (.z (.lst xs))) (some (.z (.lst ws))) (some (.z (.lst ys)))) rfl rfl rfl rfl e4)
  have hall : CL 161 ([PV.lst ds, .lst xs, .lst zs, .lst ys].map .z) = .ok (.z (.bl true), none) := by
    refine (c161 32 _).trans (all_ok fun d hd w hw => ⟨xs, ys, rfl, rfl, hx, isU_ok (hu d hd w (h1 w hw))⟩)
  have f2 : (dCons (dV 16) (dCons (dV 17) (dCons (dFz (dCallL CL 157 3 1 (dCons (dV 18) (dCons (dC (.int 5)) dNil)))) (dCons (dV 19) dNil)))) (EE s (some (.o t)) m15 (some (.z (.lst ds))) (some (.z (.lst xs))) (some (.z (.lst ws))) (some (.z (.lst ys)))) = .ok ([PV.lst ds, .lst xs, .lst zs, .lst ys], EE s (some (.o t')) m15 (some (.z (.lst ds))) (some (.z (.lst xs))) (some (.z (.lst ws))) (some (.z (.lst ys)))) :=
    cons_ok rfl (cons_ok rfl (cons_ok f1 (cons_ok rfl rfl)))
  have f3 := notT_ok (tru_ok (b := true) (fz_ok (call_ok f2 rfl hall)) rfl)
  show bodyT (EE s (some (.o t)) m15 (some (.z (.lst ds))) (some (.z (.lst xs))) (some (.z (.lst ws))) (some (.z (.lst ys)))) = _
  exact seq_nx ((ifS_ok f3).trans rfl)
theorem loop {s m15 : Option SV} : ∀ (ps : List PV) (m : Nat) (t : List PV) (a b c d : Option SV), TinOk m t → m + 5 * ps.length < 2 ^ 39 → (∀ p ∈ ps, goodB p = true) →
    ∃ (t' : List PV) (a' b' c' d' : Option SV), forD tgT bodyT ps (EE s (some (.o t)) m15 a b c d) = .ok (.nx, EE s (some (.o t')) m15 a' b' c' d')
  | [], m, t, a, b, c, d, _, _, _ => ⟨t, a, b, c, d, rfl⟩
  | p :: ps, m, t, a, b, c, d, ht, hm, hp => by
    simp only [List.length_cons] at hm
    obtain ⟨t1, a1, b1, c1, d1, ht1, e1⟩ := turn (s := s) (m15 := m15) (a := a) (b := b) (c := c) (d := d) ht (by omega) (hp p List.mem_cons_self)
    obtain ⟨t2, a2, b2, c2, d2, e2⟩ := loop (s := s) (m15 := m15) ps (m + 5) t1 a1 b1 c1 d1 ht1 (by omega) fun x hx => hp x (List.mem_cons_of_mem _ hx)
    refine ⟨t2, a2, b2, c2, d2, ?_⟩
    unfold forD
    revert e1
    cases tgT p (EE s (some (.o t)) m15 a b c d) with
    | none => intro e1; cases e1
    | some ρ =>
      intro e1
      have e1 : bodyT ρ = _ := e1
      show (bodyT ρ >>= _) = _
      rw [e1]
      exact e2
def okT : Res (Flw × Dn.Env) → Bool
  | .ok (.ret (.z (.bl true)), _) => true
  | _ => false
theorem okT_ok {r : Res (Flw × Dn.Env)} (h : okT r = true) : ∃ ρ, r = .ok (.ret (.z (.bl true)), ρ) := by
  unfold okT at h
  split at h
  · exact ⟨_, rfl⟩
  · cases h
theorem post_ok (s t m15 a b c d : Option SV) (h : m15 = some (.z (.lst asked))) : okT (seqL postL (EE s t m15 a b c d)) = true := by
  subst h
  kernel_rfl
end KL

namespace KL
open PySem PySem.Spec PyProof.Rows L2 Dn
theorem b162_eq (C : Cals) : b162 C = seqL (lawL C) := rfl
def R0 (s : Option SV) : Dn.Env := [s, none, none, none, none, none, none, none, none, none, none, none, none, none, none, none, none, none, none, none, none, none, none, none]
theorem law_true (ns : List Int) (hn : ns.length ≤ 63) : callN tbl 34 162 [.z (.scr (ns.map .int))] = .ok (.z (.bl true), none) := by
  obtain ⟨x, hx⟩ := cells_ok ns hn
  obtain ⟨t, ht, hb⟩ := box_ok x
  have f1 : (dCons (dV 0) (dCons (dC (.int 1)) dNil)) (R0 (some (.z (.scr (ns.map .int))))) = .ok ([.scr (ns.map .int), .int 1], R0 (some (.z (.scr (ns.map .int))))) := rfl
  have f2 := fz_ok (call_ok (C := CL) (f := 156) (np := 2) f1 rfl hx)
  have f3 := call_ok (C := CL) (f := 154) (np := 2) (cons_ok f2 (rfl : dCons (dC (.int 0)) dNil (R0 (some (.z (.scr (ns.map .int))))) = .ok ([.int 0], R0 (some (.z (.scr (ns.map .int))))))) rfl hb
  have e0 := set_ok (i := 1) f3
  have e1 := pre_ok (some (.z (.scr (ns.map .int)))) (some (.o t))
  obtain ⟨t', a', b', c', d', e2⟩ := loop (s := some (.z (.scr (ns.map .int)))) (m15 := some (.z (.lst asked))) asked 0 t none none none none ht (by rw [asked_eq]; decide) good
  have e3 : l33 CL (EE (some (.z (.scr (ns.map .int)))) (some (.o t)) (some (.o asked)) none none none none) = .ok (.nx, EE (some (.z (.scr (ns.map .int)))) (some (.o t')) (some (.z (.lst asked))) a' b' c' d') := by
    have e4 : dSeqI (dV 15) (EE (some (.z (.scr (ns.map .int)))) (some (.o t)) (some (.o asked)) none none none none) = .ok (asked, EE (some (.z (.scr (ns.map .int)))) (some (.o t)) (some (.z (.lst asked))) none none none none) := rfl
    exact (for_ok (g := tgT) (b := bodyT) e4).trans e2
  obtain ⟨ρ, e5⟩ := okT_ok (post_ok (some (.z (.scr (ns.map .int)))) (some (.o t')) _ a' b' c' d' rfl)
  refine (rfl : callN tbl 34 162 [.z (.scr (ns.map .int))] = runFn 1 24 false (b162 CL) [.z (.scr (ns.map .int))]).trans ?_
  refine run_ret (ρ' := ρ) rfl ?_
  show b162 CL [some (.z (.scr (ns.map .int))), none, none, none, none, none, none, none, none, none, none, none, none, none, none, none, none, none, none, none, none, none, none, none] = _
  rw [b162_eq]
  refine (seq_nx (a := l0 CL) (b := seqL (preL ++ ([l33 CL] ++ postL))) e0).trans ?_
  refine (seqL_app preL e1).trans ?_
  rw [vs15]
  show dSeq (l33 CL) (seqL postL) (EE (some (.z (.scr (ns.map .int)))) (some (.o t)) (some (.o asked)) none none none none) = _
  rw [seq_nx e3]
  exact e5
end KL

namespace KL
open PySem PySem.Spec PyProof.Rows L2 Dn
abbrev dLaw : He.DefD := dd 197 "law"
theorem scLaw : FnScope ["script", "tin", "unit_so", "two_so", "root_so", "rects_so", "parts_so", "nets_so", "ratios_so", "codes_so", "trees_so", "roots_so", "rooteds_so", "net_so", "flowing_so", "asked_so", "doors_so", "ahead_so", "wrongs_so", "behind_so", "three_so", "cannot_so", "own", "door_so"] ["script"] dLaw.scope := scopeB_ok (by decide +kernel)
theorem cmLaw : ∀ C : Cals, cSs (cmp C 60) ⟨gt, ["script", "tin", "unit_so", "two_so", "root_so", "rects_so", "parts_so", "nets_so", "ratios_so", "codes_so", "trees_so", "roots_so", "rooteds_so", "net_so", "flowing_so", "asked_so", "doors_so", "ahead_so", "wrongs_so", "behind_so", "three_so", "cannot_so", "own", "door_so"], dLaw.scope, none, fun j => false && Nat.beq j 0⟩ dLaw.body = some (b162 C) := fun C => by kernel_rfl
theorem facts {w : World} {K : PySem.W.Frag} {h : Heap} {mg : Str → Option Value} {f : Addr} (X : K.In h) (G : h.Ns mainGlobals mg) (hfa : mg ("law" : Str) = some (.ref f)) (c : obsX hd K = valX hd) :
    ∃ (fd : FuncData), (∀ (s : Shared) (u : Value), BindsTo s fd ⟨[u], []⟩ [("script", u)]) ∧
        ∀ base : Heap, FnOk (PySem.W.OpenLaw.prog PySem.Challenge.rw_onesidewhole_k47_whole_what_is_refused_f) w K mg base CX0 34 f fd ["script"] (fun vs H Q _ => spG (tbOf K gt) (callN tbl 34) 162 1 vs H Q E0) := by
  have Fc : Facts (tbOf K gt) gt tbl mg := facts_of X G c rfl rfl rfl rfl (by decide +kernel) ds
  have hfn : gt.fns[162]? = some ⟨"law", 1, false⟩ := by kernel_rfl
  have hmg : mg ("law" : Str) = some (.ref ((tbOf K gt).fa 162)) := (Fc.df 162 _ hfn).2.1
  have efa : (tbOf K gt).fa 162 = He.ga K "law" := by
    show (match gt.fns[162]? with
      | some f => He.ga K f.name
      | none => 0) = _
    rw [hfn]
  have ef : f = He.ga K "law" := by
    rw [hfa, efa] at hmg
    exact Value.ref.inj (Option.some.inj hmg)
  subst ef
  obtain ⟨fd, F⟩ := facts_fun (i := 162) (dd := dLaw) (x := "law") c (by kernel_rfl) rfl rfl rfl rfl rfl
  have b := FunD.bindsA (ps := ["script"]) F fun _ _ _ _ _ _ us hl => match us, hl with | [_], _ => rfl
  refine ⟨fd, fun s u => b s [u] rfl, fun base => fn_shut ?_⟩
  exact law_fn (T := tbOf K gt) (d := ⟨1, 24, false, b162⟩) Fc F scLaw (by kernel_rfl) rfl rfl (by decide +kernel) cmLaw base
end KL
open PySem PySem.W PySem.Calls PyProof.Rows
set_option maxRecDepth 100000 in
set_option maxHeartbeats 0 in
theorem PySem.Challenge.cw_onesidewhole_k47_whole_what_is_refused_f_holds : PySem.Challenge.rw_onesidewhole_k47_whole_what_is_refused_f.Holds := by
  w_on; o_law
  refine HandSHeadRun.head_any (r := OpenLaw.row PySem.Challenge.rw_onesidewhole_k47_whole_what_is_refused_f) (q := view (OpenLaw.row PySem.Challenge.rw_onesidewhole_k47_whole_what_is_refused_f).prog [197]) (H := KL.hk) (ob := KL.ob) (M := 7000) (loose := KL.nms) (d := HandSHeadRun.topDef (OpenLaw.row PySem.Challenge.rw_onesidewhole_k47_whole_what_is_refused_f).prog 197) (kwd := []) KL.ob_eq
    (by kernel_rfl) (fun s => by kernel_rfl) KL.run (by kernel_rfl) (by kernel_rfl) (by kernel_rfl) (by rfl) (by first | assumption | decide +kernel) (by decide +kernel) ⟨rfl, rfl, rfl, rfl, rfl, by decide +kernel⟩ ?hw ?hc
  case hw => w_witness2
  case hc =>
    refine L2.walk_ofE (l := PySem.Challenge.rw_onesidewhole_k47_whole_what_is_refused_f) (n := 63) (k := 34) (x := "script") (CX := L2.CX0) rfl (by decide) (by kernel_rfl) ⟨rfl, by decide, by decide⟩ ?F (fun _ _ _ _ z => z)
    intro w mg fa h Y G hmg0
    obtain ⟨K, KX, c⟩ := Y
    have hmg : mg ("law" : PySem.Str) = some (.ref fa) := by
      have e : (HandSHeadRun.topDef (OpenLaw.row PySem.Challenge.rw_onesidewhole_k47_whole_what_is_refused_f).prog 197).name = ("law" : PySem.Str) := by kernel_rfl
      rw [← e]
      exact hmg0
    obtain ⟨fd, hb, hF⟩ := KL.facts (w := w) KX G hmg c
    exact ⟨K, fd, fun vs H Q _ => Dn.spG (Dn.tbOf K KL.gt) (Dn.callN KL.tbl 34) 162 1 vs H Q L2.E0, KX, hb, fun H a ns hl _ hS => Dn.law_sp hS (KL.law_true ns hl), fun base _ _ => hF base⟩
