import PyProof.Rows.All
import Wide.All
import OpenK.AllK
import Wide.FinOn
import PySem.Challenge.RW_wholecorners_k80_least_bad_and_greatest
import HandS.ForMost
import HandS.ForExc
import HandS.Lambda
import HandS.Nested
import HandS.Deep
import HandS.TupAny
import HandS.TupMul
import HandS.List
import HandS.IsInst
import KE.SortData
import KE.DataMinMax
import HandS.Defaults
import PyProof.TupleOfSeq
import HandS.Conv
import HandS.Zip
import HandS.Iter
import HandS.Comp
import PyProof.Draws
import KE.GoesZip
import KE.GoesMore
import KE.KDictDisplayH
import HandS.ExcInit
import HandS.TryMany
import HandS.ExcField
import HandS.ExcOwn
import KE.KExcPX
import HandS.EndTab
import HandS.HeadHook4
import HandS.CallRecv
import HandS.Head0
import HandS.Head1
import HandS.Head2
import HandS.HeadEnd
set_option Elab.async false
section
/-! ZLAW: the law's program. -/
namespace Z
abbrev prog : PySem.Program := PySem.Challenge.pw_wholecorners_k80_least_bad_and_greatest
end Z
end
section
set_option linter.all false
set_option maxRecDepth 100000
/-! Z0: the law's own lambdas. -/
namespace Z
open PySem PySem.Spec PyProof.Rows L2 LamX NdefX

def topS (i : Nat) : Stmt := prog.main.body.getD i (.Pass ⟨0, 0, 0, 0⟩)
abbrev LamW := Arguments × Expr × Scope
/-- the lambdas of an expression, from the left -/
def lamsE : Nat → Expr → List LamW
  | 0, _ => []
  | n + 1, e => match e with
    | .Lambda p b s _ => [(p, b, s)]
    | .List es _ => es.flatMap (lamsE n)
    | .Tuple es _ _ => es.flatMap (lamsE n)
    | .Call _ es _ _ => es.flatMap (lamsE n)
    | .Compare l _ cs _ => lamsE n l ++ cs.flatMap (lamsE n)
    | .UnaryOp _ x _ => lamsE n x
    | .BoolOp _ es _ => es.flatMap (lamsE n)
    | .BinOp a _ b _ => lamsE n a ++ lamsE n b
    | _ => []
def lamsS : Nat → Stmt → List LamW
  | 0, _ => []
  | n + 1, s => match s with
    | .Assign _ v _ => lamsE 20 v
    | .Expr v _ => lamsE 20 v
    | .Return (some v) _ => lamsE 20 v
    | .If t b o _ => lamsE 20 t ++ (b.flatMap (lamsS n) ++ o.flatMap (lamsS n))
    | .For _ _ b o _ => b.flatMap (lamsS n) ++ o.flatMap (lamsS n)
    | .While t b o _ => lamsE 20 t ++ (b.flatMap (lamsS n) ++ o.flatMap (lamsS n))
    | _ => []
/-- the law is the text's last statement -/
def lawSt : Stmt := topS (prog.main.body.length - 1)
def lawLams : List LamW := (defBody lawSt).flatMap (lamsS 20)
def lawNames : List (PySem.Str × NameKind) := (defScope lawSt).names
/-- a lambda's words, the cells it captured, its code object -/
structure LO where
  qual : PySem.Str
  params : Arguments
  body : Expr
  scope : Scope
  cl : List (PySem.Str × Addr)
  c : Addr
abbrev LO.obj (F : LO) (pm ctv : Value) : Obj := PySem.W.kla_obj "<lambda>" F.qual F.params F.body F.scope F.cl pm F.c ctv
/-- the object at f is that lambda -/
def LamO (f : Addr) (F : LO) : HO := .ext fun h => ∃ pm ctv, h.get? f = some (F.obj pm ctv)
def lamQ : PySem.Str := "law.<locals>.<lambda>"
/-- L is the law's k-th lambda, made in the frame whose first own address is n -/
def LamIs (k n : Nat) (L : LO) : Prop := lawLams[k]? = some (L.params, L.body, L.scope) ∧ L.qual = lamQ ∧ L.cl = cloFrom (cellsFrom (n + 1) lawNames []) L.scope.names []
/-- a closure as data -/
def cloKs (k n : Nat) : List (PyData × PyData) := [(.none, .int (k : Int)), (.none, .int (n : Int))]
def CloAt (F : Hp) (kvs : List (PyData × PyData)) (a : Addr) : Prop := ∃ (k n : Nat) (L : LO), kvs = cloKs k n ∧ F a = some (LamO a L) ∧ F L.c = some (CodeO L.c L.qual) ∧ LamIs k n L
theorem CloAt.mono {F F' : Hp} (s : Same F F') {kvs : List (PyData × PyData)} {a : Addr} (h : CloAt F kvs a) : CloAt F' kvs a := by
  obtain ⟨k, n, L, h1, h2, h3, h4⟩ := h
  exact ⟨k, n, L, h1, s _ _ h2, s _ _ h3, h4⟩
end Z
end
section
set_option linter.all false
set_option maxRecDepth 100000
/-! ZA: a mirror of Python as plain functions over data trees; how the mirror's states lie in the heap. -/
namespace Z
open PySem PySem.Spec PyProof.Rows L2

abbrev D := PyData
/-- a key as data -/
def kD : Key → D
  | .inl i => .int i
  | .inr x => .str x

/-- what a slot holds: settled data; the pen; a list or a dict that this slot alone holds; a raw value -/
inductive Sl where
  | val (d : D) | pen | ol (xs : List D) | ok (kvs : List (Key × D)) | ot (kvs : List (List Key × D)) | raw (v : V) | tb (a : Addr)
def Sl.own : Sl → Bool
  | .ol _ => true
  | .ok _ => true
  | .ot _ => true
  | .tb _ => true
  | _ => false
abbrev Env := List (Option Sl)

structure Pen where
  cells : List Int
  at_ : Nat
  digits : Int
  count : Nat
  fold : Int

/-- an exception: its class's name, its fields -/
structure Xc where
  name : Str
  fields : List (Str × D)

inductive Res (α : Type) where
  | ok (a : α) (env : Env) (g : Pen)
  | exc (x : Xc) (g : Pen)
  | bad
abbrev Mir (α : Type) := Env → Pen → Res α
def ret {α : Type} (a : α) : Mir α := fun env g => .ok a env g
def bad {α : Type} : Mir α := fun _ _ => .bad
def bnd {α β : Type} (m : Mir α) (f : α → Mir β) : Mir β := fun env g => match m env g with
  | .ok a env' g' => f a env' g'
  | .exc x g' => .exc x g'
  | .bad => .bad

/-! ### data in the heap -/
mutual
def Rep (K : PySem.W.Frag) (F : Hp) : D → V → Prop
  | .none, v => v = .non
  | .bool b, v => v = .bl b
  | .int i, v => v = .int i
  | .str x, v => v = .str x
  | .list ds, v => ∃ a vs, v = .ref a ∧ F a = some (.lst vs) ∧ Reps K F ds vs
  | .tuple ds, v => ∃ a vs, v = .ref a ∧ F a = some (.tup vs) ∧ Reps K F ds vs
  | .dict kvs, v => ∃ a o, v = .ref a ∧ ((∃ ks, F a = some (.frz o (.dK ks)) ∧ RepK K F kvs ks) ∨ (∃ ks, F a = some (.frz o (.dT ks)) ∧ RepT K F kvs ks) ∨ CloAt F kvs a)
def Reps (K : PySem.W.Frag) (F : Hp) : List D → List V → Prop
  | [], vs => vs = []
  | d :: ds, vs => ∃ v r, vs = v :: r ∧ Rep K F d v ∧ Reps K F ds r
def RepK (K : PySem.W.Frag) (F : Hp) : List (D × D) → List (Key × V) → Prop
  | [], ks => ks = []
  | (k, d) :: r, ks => ∃ key v r', ks = (key, v) :: r' ∧ k = kD key ∧ Rep K F d v ∧ RepK K F r r'
def RepT (K : PySem.W.Frag) (F : Hp) : List (D × D) → List (List Key × V) → Prop
  | [], ks => ks = []
  | (k, d) :: r, ks => ∃ key v r', ks = (key, v) :: r' ∧ k = .tuple (key.map kD) ∧ Rep K F d v ∧ RepT K F r r'
end
theorem sqt {K : PySem.W.Frag} {F H : Hp} {a : Addr} {xs : List V} (s : Same F H) (h : F a = some (.tup xs)) : SqT K H a xs := .inl (.inl (s _ _ h))
theorem sql {K : PySem.W.Frag} {F H : Hp} {a : Addr} {xs : List V} (s : Same F H) (h : F a = some (.lst xs)) : SqL K H a xs := .inl (.inl (s _ _ h))
mutual
theorem Rep.mono {K : PySem.W.Frag} {F F' : Hp} (s : Same F F') : ∀ {d : D} {v : V}, Rep K F d v → Rep K F' d v
  | .none, _, h => by simpa [Rep] using h
  | .bool _, _, h => by simpa [Rep] using h
  | .int _, _, h => by simpa [Rep] using h
  | .str _, _, h => by simpa [Rep] using h
  | .list ds, v, h => by
    simp only [Rep] at h ⊢
    obtain ⟨a, vs, e, q, r⟩ := h
    exact ⟨a, vs, e, s _ _ q, Reps.mono s r⟩
  | .tuple ds, v, h => by
    simp only [Rep] at h ⊢
    obtain ⟨a, vs, e, q, r⟩ := h
    exact ⟨a, vs, e, s _ _ q, Reps.mono s r⟩
  | .dict kvs, v, h => by
    simp only [Rep] at h ⊢
    obtain ⟨a, o, e, ⟨ks, q, r⟩ | ⟨ks, q, r⟩ | c⟩ := h
    · exact ⟨a, o, e, .inl ⟨ks, s _ _ q, RepK.mono s r⟩⟩
    · exact ⟨a, o, e, .inr (.inl ⟨ks, s _ _ q, RepT.mono s r⟩)⟩
    · exact ⟨a, o, e, .inr (.inr (c.mono s))⟩
theorem Reps.mono {K : PySem.W.Frag} {F F' : Hp} (s : Same F F') : ∀ {ds : List D} {vs : List V}, Reps K F ds vs → Reps K F' ds vs
  | [], _, h => by simpa [Reps] using h
  | d :: ds, vs, h => by
    simp only [Reps] at h ⊢
    obtain ⟨v, r, e, h1, h2⟩ := h
    exact ⟨v, r, e, Rep.mono s h1, Reps.mono s h2⟩
theorem RepK.mono {K : PySem.W.Frag} {F F' : Hp} (s : Same F F') : ∀ {ds : List (D × D)} {vs : List (Key × V)}, RepK K F ds vs → RepK K F' ds vs
  | [], _, h => by simpa [RepK] using h
  | (k, d) :: ds, vs, h => by
    simp only [RepK] at h ⊢
    obtain ⟨key, v, r, e, e2, h1, h2⟩ := h
    exact ⟨key, v, r, e, e2, Rep.mono s h1, RepK.mono s h2⟩
theorem RepT.mono {K : PySem.W.Frag} {F F' : Hp} (s : Same F F') : ∀ {ds : List (D × D)} {vs : List (List Key × V)}, RepT K F ds vs → RepT K F' ds vs
  | [], _, h => by simpa [RepT] using h
  | (k, d) :: ds, vs, h => by
    simp only [RepT] at h ⊢
    obtain ⟨key, v, r, e, e2, h1, h2⟩ := h
    exact ⟨key, v, r, e, e2, Rep.mono s h1, RepT.mono s h2⟩
end

/-! ### the settled part of the heap -/
/-- where the pen is; what the callers own, and the heap in which they left it -/
structure Bs where
  a : Addr
  hid : List Addr
  h0 : Hp
def mask (pa : Bs) (O : List Addr) (H : Hp) : Hp := fun a => if a = pa.a ∨ a ∈ O then none else H a
theorem mask_some {pa : Bs} {O : List Addr} {H : Hp} {a : Addr} {o : HO} (h : mask pa O H a = some o) : a ≠ pa.a ∧ a ∉ O ∧ H a = some o := by
  unfold mask at h
  by_cases c : a = pa.a ∨ a ∈ O
  · rw [if_pos c] at h; cases h
  · rw [if_neg c] at h
    exact ⟨fun e => c (.inl e), fun e => c (.inr e), h⟩
theorem mask_of {pa : Bs} {O : List Addr} {H : Hp} {a : Addr} {o : HO} (h1 : a ≠ pa.a) (h2 : a ∉ O) (h : H a = some o) : mask pa O H a = some o := by
  unfold mask
  rw [if_neg (fun c => c.elim h1 h2)]
  exact h
theorem mask_le {pa : Bs} {O : List Addr} {H : Hp} : Same (mask pa O H) H := fun _ _ h => (mask_some h).2.2
theorem mask_less {pa : Bs} {O O' : List Addr} {H : Hp} (h : ∀ a ∈ O', a ∈ O) : Same (mask pa O H) (mask pa O' H) := fun _ _ e =>
  let ⟨h1, h2, h3⟩ := mask_some e
  mask_of h1 (fun z => h2 (h _ z)) h3

/-! ### slots in the heap -/
/-- a table of code objects, all of them the law's lambdas' -/
def TblOk (F : Hp) (ps : Array Value) : Prop := TriplesOk ps.toList ∧ ∀ (pos : Pos) (cv : Value), codeAmong pos ps.toList = some cv → ∃ c, cv = .ref c ∧ F c = some (LamX.CodeO c lamQ)
theorem TblOk.mono {F F' : Hp} (s : Same F F') {ps : Array Value} (h : TblOk F ps) : TblOk F' ps := ⟨h.1, fun pos cv e => let ⟨c, e1, e2⟩ := h.2 pos cv e; ⟨c, e1, s _ _ e2⟩⟩
def SlRep (K : PySem.W.Frag) (pa : Bs) (O : List Addr) (H : Hp) : Sl → V → Prop
  | .val d, v => Rep K (mask pa O H) d v
  | .pen, v => v = .ref pa.a
  | .ol xs, v => ∃ a vs, v = .ref a ∧ a ∈ O ∧ H a = some (.lst vs) ∧ Reps K (mask pa O H) xs vs
  | .ok kvs, v => ∃ a ks, v = .ref a ∧ a ∈ O ∧ H a = some (.dK ks) ∧ RepK K (mask pa O H) (kvs.map fun q => (kD q.1, q.2)) ks
  | .ot kvs, v => ∃ a ks, v = .ref a ∧ a ∈ O ∧ H a = some (.dT ks) ∧ RepT K (mask pa O H) (kvs.map fun q => (.tuple (q.1.map kD), q.2)) ks
  | .raw u, v => v = u
  | .tb P, v => ∃ a ps, v = .ref a ∧ a ∈ O ∧ H a = some (.tbl ps) ∧ TblOk (mask pa O H) ps ∧ a = P
def penK (g : Pen) (ca : Addr) : List (Key × V) :=
  [(.inr "cells", .ref ca), (.inr "at", .int g.at_), (.inr "digits", .int g.digits), (.inr "count", .int g.count), (.inr "fold", .int g.fold)]
def PenAt (pa : Bs) (F H : Hp) (g : Pen) : Prop := ∃ ca, H pa.a = some (.dK (penK g ca)) ∧ F ca = some (.lst (g.cells.map V.int))
theorem PenAt.mono {pa : Bs} {F F' H H' : Hp} {g : Pen} (h : PenAt pa F H g) (s : Same F F') (e : H' pa.a = H pa.a) : PenAt pa F' H' g :=
  let ⟨ca, h1, h2⟩ := h
  ⟨ca, e.trans h1, s _ _ h2⟩

/-- a list or a dict that may be written -/
def Muts : Option HO → Bool
  | some (.lst _) => true
  | some (.dK _) => true
  | some (.dT _) => true
  | some (.tbl _) => true
  | _ => false
theorem Muts.some' {o : Option HO} (h : Muts o = true) : o.isSome = true := by
  cases o with
  | none => cases h
  | some o => rfl
/-- what is owned, the pen -/
structure Bas (pa : Bs) (O : List Addr) (H : Hp) (g : Pen) : Prop where
  nopa : pa.a ∉ O
  dom : ∀ a ∈ O, Muts (H a) = true
  hid : ∀ a ∈ pa.hid, a ∈ O ∧ H a = pa.h0 a
  pen : PenAt pa (mask pa O H) H g
/-- the frame's slots and the pen, as they lie -/
structure Rel (K : PySem.W.Frag) (pa : Bs) (O : List Addr) (H : Hp) (σ : L2.St) (env : Env) (g : Pen) : Prop where
  len : env.length = σ.length
  bas : Bas pa O H g
  slot : ∀ (i : Nat) (sl : Sl), env[i]? = some (some sl) → ∃ v, σ[i]? = some (some v) ∧ SlRep K pa O H sl v
  apart : ∀ (i j : Nat) (sl sl' : Sl) (v : V), env[i]? = some (some sl) → env[j]? = some (some sl') → σ[i]? = some (some v) → σ[j]? = some (some v) → sl.own = true → sl'.own = true → i = j
  nohid : ∀ (i : Nat) (sl : Sl) (a : Addr), env[i]? = some (some sl) → sl.own = true → a ∈ pa.hid → σ[i]? ≠ some (some (.ref a))
theorem Rel.nopa {K : PySem.W.Frag} {pa : Bs} {O : List Addr} {H : Hp} {σ : L2.St} {env : Env} {g : Pen} (R : Rel K pa O H σ env g) : pa.a ∉ O := R.bas.nopa
theorem Rel.dom {K : PySem.W.Frag} {pa : Bs} {O : List Addr} {H : Hp} {σ : L2.St} {env : Env} {g : Pen} (R : Rel K pa O H σ env g) : ∀ a ∈ O, (H a).isSome = true := fun a ha => Muts.some' (R.bas.dom a ha)
theorem Rel.pen {K : PySem.W.Frag} {pa : Bs} {O : List Addr} {H : Hp} {σ : L2.St} {env : Env} {g : Pen} (R : Rel K pa O H σ env g) : PenAt pa (mask pa O H) H g := R.bas.pen

section
variable {K : PySem.W.Frag} {pa : Bs} {O O' : List Addr} {H H' : Hp} {σ : L2.St} {env : Env} {g g' : Pen}
/-- a slot's content in a later heap: what it owns stands as it was -/
theorem SlRep.step {sl : Sl} {v : V} (h : SlRep K pa O H sl v) (s : Same (mask pa O H) (mask pa O' H')) (ho : ∀ a ∈ O, a ∈ O' ∧ H' a = H a) : SlRep K pa O' H' sl v := by
  cases sl with
  | val d => exact Rep.mono s h
  | pen => exact h
  | raw u => exact h
  | ol xs =>
    obtain ⟨a, vs, e, hm, ha, r⟩ := h
    exact ⟨a, vs, e, (ho a hm).1, (ho a hm).2.trans ha, Reps.mono s r⟩
  | ok xs =>
    obtain ⟨a, vs, e, hm, ha, r⟩ := h
    exact ⟨a, vs, e, (ho a hm).1, (ho a hm).2.trans ha, RepK.mono s r⟩
  | ot xs =>
    obtain ⟨a, vs, e, hm, ha, r⟩ := h
    exact ⟨a, vs, e, (ho a hm).1, (ho a hm).2.trans ha, RepT.mono s r⟩
  | tb =>
    obtain ⟨a, vs, e, hm, ha, r⟩ := h
    exact ⟨a, vs, e, (ho a hm).1, (ho a hm).2.trans ha, r.1.mono s, r.2⟩
theorem SlRep.later {sl : Sl} {v : V} (h : SlRep K pa O H sl v) (n : sl.own = false) (s : Same (mask pa O H) (mask pa O' H')) : SlRep K pa O' H' sl v := by
  cases sl with
  | val d => exact Rep.mono s h
  | pen => exact h
  | raw u => exact h
  | ol xs => cases n
  | ok xs => cases n
  | ot xs => cases n
  | tb => cases n
/-- .. what a slot owns is among O -/
theorem SlRep.owned {sl : Sl} {v : V} (h : SlRep K pa O H sl v) (o : sl.own = true) : ∃ a, v = .ref a ∧ a ∈ O := by
  cases sl with
  | val d => cases o
  | pen => cases o
  | raw u => cases o
  | ol xs => obtain ⟨a, vs, e, hm, _⟩ := h; exact ⟨a, e, hm⟩
  | ok xs => obtain ⟨a, vs, e, hm, _⟩ := h; exact ⟨a, e, hm⟩
  | ot xs => obtain ⟨a, vs, e, hm, _⟩ := h; exact ⟨a, e, hm⟩
  | tb => obtain ⟨a, vs, e, hm, _⟩ := h; exact ⟨a, e, hm⟩
theorem Bas.step (R : Bas pa O H g) (ho : ∀ a ∈ O, a ∈ O' ∧ H' a = H a) (np : pa.a ∉ O') (dm : ∀ a ∈ O', Muts (H' a) = true) (p : PenAt pa (mask pa O' H') H' g') : Bas pa O' H' g' :=
  ⟨np, dm, fun a ha => let ⟨h1, h2⟩ := R.hid a ha; ⟨(ho a h1).1, (ho a h1).2.trans h2⟩, p⟩
theorem Rel.step (R : Rel K pa O H σ env g) (s : Same (mask pa O H) (mask pa O' H')) (ho : ∀ a ∈ O, a ∈ O' ∧ H' a = H a) (np : pa.a ∉ O') (dm : ∀ a ∈ O', Muts (H' a) = true) (p : PenAt pa (mask pa O' H') H' g') : Rel K pa O' H' σ env g' :=
  ⟨R.len, R.bas.step ho np dm p, fun i sl e => let ⟨v, e1, r⟩ := R.slot i sl e; ⟨v, e1, r.step s ho⟩, R.apart, R.nohid⟩
theorem Rel.paS (R : Rel K pa O H σ env g) : (H pa.a).isSome = true := by
  obtain ⟨ca, h, _⟩ := R.pen
  rw [h]; rfl
theorem mask_new {p : Addr} {o : HO} (hp : H p = none) : Same (mask pa O H) (mask pa O (upd H p o)) := fun a u e => by
  obtain ⟨h1, h2, h3⟩ := mask_some e
  refine mask_of h1 h2 ?_
  rw [upd_ne (ne_of_none h3 hp)]
  exact h3
theorem upd_some {p a : Addr} {o : HO} (h : (H a).isSome = true) : (upd H p o a).isSome = true := by
  unfold upd
  split
  · rfl
  · exact h
theorem isSome_ne {p a : Addr} (h : (H a).isSome = true) (hp : H p = none) : a ≠ p := fun e => by
  rw [e, hp] at h; cases h
/-- a new settled object -/
theorem Rel.new (R : Rel K pa O H σ env g) {p : Addr} {o : HO} (hp : H p = none) : Rel K pa O (upd H p o) σ env g ∧ Same (mask pa O H) (mask pa O (upd H p o)) ∧ mask pa O (upd H p o) p = some o := by
  have s : Same (mask pa O H) (mask pa O (upd H p o)) := mask_new hp
  refine ⟨R.step s (fun a ha => ⟨ha, upd_ne (isSome_ne (R.dom a ha) hp)⟩) R.nopa (fun a ha => by rw [upd_ne (isSome_ne (R.dom a ha) hp)]; exact R.bas.dom a ha) (R.pen.mono s (upd_ne (isSome_ne R.paS hp))), s, ?_⟩
  exact mask_of (fun e => isSome_ne R.paS hp e.symm) (fun e => isSome_ne (R.dom p e) hp rfl) upd_same
/-- a new object of one's own -/
theorem Rel.newOwn (R : Rel K pa O H σ env g) {p : Addr} {o : HO} (hp : H p = none) (ho : Muts (some o) = true := by rfl) : Rel K pa (p :: O) (upd H p o) σ env g ∧ Same (mask pa O H) (mask pa (p :: O) (upd H p o)) := by
  have s : Same (mask pa O H) (mask pa (p :: O) (upd H p o)) := fun a u e => by
    obtain ⟨h1, h2, h3⟩ := mask_some e
    have ne := ne_of_none h3 hp
    refine mask_of h1 (fun z => ?_) ?_
    · rcases List.mem_cons.mp z with z | z
      · exact ne z
      · exact h2 z
    · rw [upd_ne ne]
      exact h3
  refine ⟨R.step s (fun a ha => ⟨List.mem_cons_of_mem _ ha, upd_ne (isSome_ne (R.dom a ha) hp)⟩) (fun z => ?_) (fun a ha => ?_) (R.pen.mono s (upd_ne (isSome_ne R.paS hp))), s⟩
  · rcases List.mem_cons.mp z with z | z
    · exact isSome_ne R.paS hp z
    · exact R.nopa z
  · rcases List.mem_cons.mp ha with z | z
    · rw [z, upd_same]; exact ho
    · rw [upd_ne (isSome_ne (R.dom a z) hp)]; exact R.bas.dom a z
end

/-! ### what is wanted behind -/
/-- a value that an expression gives: apart from the slots, where it is of one's own -/
def Out (K : PySem.W.Frag) (pa : Bs) (O : List Addr) (H : Hp) (σ : L2.St) (env : Env) (sl : Sl) (v : V) : Prop :=
  SlRep K pa O H sl v ∧ (sl.own = true → (∀ a ∈ pa.hid, v ≠ .ref a) ∧ ∀ (i : Nat) (sl' : Sl), env[i]? = some (some sl') → sl'.own = true → σ[i]? ≠ some (some v))
/-- an exception, as it lies: its class by the global name, its own dict -/
def XRep (K : PySem.W.Frag) (pa : Bs) (ca : Str → Addr) (H : Hp) (x : Xc) (cls : Value) (dd : Option Addr) : Prop :=
  cls = .ref (ca x.name) ∧ ∃ d fs, dd = some d ∧ H d = some (.xd fs) ∧ fs.map (·.1) = x.fields.map (·.1) ∧ Reps K (mask pa pa.hid H) (x.fields.map (·.2)) (fs.map (·.2))
abbrev Wx := (Str → Addr) × XK
def PostE (K : PySem.W.Frag) (pa : Bs) (O : List Addr) (H : Hp) (E : Wx) (x : Xc) (g' : Pen) : Prop :=
  ∀ cls dd H', Same (mask pa O H) (mask pa pa.hid H') → Bas pa pa.hid H' g' → XRep K pa E.1 H' x cls dd → E.2 cls dd H'
/-- behind a part of an expression: the same slots, the heap grown -/
def PostG {α : Type} (K : PySem.W.Frag) (pa : Bs) (O : List Addr) (H : Hp) (σ : L2.St) (E : Wx) (r : Res α) (S : α → Env → Pen → List Addr → Hp → Prop) : Prop := match r with
  | .ok a env' g' => ∀ O' H', Same (mask pa O H) (mask pa O' H') → Rel K pa O' H' σ env' g' → S a env' g' O' H'
  | .exc x g' => PostE K pa O H E x g'
  | .bad => False
abbrev PostX (K : PySem.W.Frag) (pa : Bs) (O : List Addr) (H : Hp) (σ : L2.St) (E : Wx) (r : Res Sl) (Q : VK) : Prop :=
  PostG K pa O H σ E r fun sl env' _ O' H' => ∀ v, Out K pa O' H' σ env' sl v → Q v H'
abbrev PostB (K : PySem.W.Frag) (pa : Bs) (O : List Addr) (H : Hp) (σ : L2.St) (E : Wx) (r : Res Bool) (Q : Bool → Hp → Prop) : Prop :=
  PostG K pa O H σ E r fun b _ _ _ H' => Q b H'
def SlReps (K : PySem.W.Frag) (pa : Bs) (O : List Addr) (H : Hp) : List Sl → List V → Prop := Paired fun sl v => sl.own = false ∧ SlRep K pa O H sl v
abbrev PostA (K : PySem.W.Frag) (pa : Bs) (O : List Addr) (H : Hp) (σ : L2.St) (E : Wx) (r : Res (List Sl)) (Q : List V → Hp → Prop) : Prop :=
  PostG K pa O H σ E r fun l _ _ O' H' => ∀ vs, SlReps K pa O' H' l vs → Q vs H'
/-- a statement's end -/
inductive Ctl where
  | nx | bk | ct
  | rt (sl : Sl)
def PostC (K : PySem.W.Frag) (pa : Bs) (O : List Addr) (H : Hp) (E : Wx) (r : Res Ctl) (D : Ends) : Prop := match r with
  | .ok .nx env' g' => ∀ σ' O' H', Same (mask pa O H) (mask pa O' H') → Rel K pa O' H' σ' env' g' → D.nx σ' H'
  | .ok .bk env' g' => ∀ σ' O' H', Same (mask pa O H) (mask pa O' H') → Rel K pa O' H' σ' env' g' → D.bk σ' H'
  | .ok .ct env' g' => ∀ σ' O' H', Same (mask pa O H) (mask pa O' H') → Rel K pa O' H' σ' env' g' → D.ct σ' H'
  | .ok (.rt sl) env' g' => ∀ v O' H', Same (mask pa O H) (mask pa O' H') → Bas pa O' H' g' → SlRep K pa O' H' sl v → (sl.own = true → ∀ a ∈ pa.hid, v ≠ .ref a) → D.rt v H'
  | .exc x g' => PostE K pa O H E x g'
  | .bad => False
section
variable {K : PySem.W.Frag} {pa : Bs} {O O' : List Addr} {H H' : Hp} {σ : L2.St} {E : Wx}
theorem PostE.from_ {x : Xc} {g : Pen} (h : PostE K pa O H E x g) (s : Same (mask pa O H) (mask pa O' H')) : PostE K pa O' H' E x g := fun cls dd H2 s2 => h cls dd H2 (s.trans s2)
theorem PostG.from_ {α : Type} {r : Res α} {S : α → Env → Pen → List Addr → Hp → Prop} (h : PostG K pa O H σ E r S) (s : Same (mask pa O H) (mask pa O' H')) : PostG K pa O' H' σ E r S := by
  cases r with
  | ok sl e g => exact fun O2 H2 s2 => h O2 H2 (s.trans s2)
  | exc x g => exact PostE.from_ h s
  | bad => exact h
theorem PostC.from_ {r : Res Ctl} {D : Ends} (h : PostC K pa O H E r D) (s : Same (mask pa O H) (mask pa O' H')) : PostC K pa O' H' E r D := by
  cases r with
  | ok c e g =>
    cases c with
    | nx => exact fun σ O2 H2 s2 => h σ O2 H2 (s.trans s2)
    | bk => exact fun σ O2 H2 s2 => h σ O2 H2 (s.trans s2)
    | ct => exact fun σ O2 H2 s2 => h σ O2 H2 (s.trans s2)
    | rt sl => exact fun v O2 H2 s2 => h v O2 H2 (s.trans s2)
  | exc x g => exact PostE.from_ h s
  | bad => exact h
end

/-! ### readings by the mirror -/
def zE (K : PySem.W.Frag) (E : Wx) (m : Mir Sl) : TE := fun σ H Q => ∃ pa O env g, Rel K pa O H σ env g ∧ PostX K pa O H σ E (m env g) Q
def zB (K : PySem.W.Frag) (E : Wx) (m : Mir Bool) : TT := fun σ H Q => ∃ pa O env g, Rel K pa O H σ env g ∧ PostB K pa O H σ E (m env g) Q
def zA (K : PySem.W.Frag) (E : Wx) (m : Mir (List Sl)) : TA := fun σ H Q => ∃ pa O env g, Rel K pa O H σ env g ∧ PostA K pa O H σ E (m env g) Q
def zS (K : PySem.W.Frag) (E : Wx) (m : Mir Ctl) : TS := fun D σ H => ∃ pa O env g, Rel K pa O H σ env g ∧ PostC K pa O H E (m env g) D
section
variable {K : PySem.W.Frag} {pa : Bs} {O O' : List Addr} {H H' : Hp} {σ : L2.St} {E : Wx} {env : Env} {g : Pen}
/-- the first of two: its value, then the rest -/
theorem postG_bnd {α β : Type} {m : Mir α} {f : α → Mir β} {S : β → Env → Pen → List Addr → Hp → Prop} {S' : α → Env → Pen → List Addr → Hp → Prop} (h : PostG K pa O H σ E (bnd m f env g) S)
    (k : ∀ a env' g' O' H', m env g = .ok a env' g' → Same (mask pa O H) (mask pa O' H') → Rel K pa O' H' σ env' g' → PostG K pa O' H' σ E (f a env' g') S → S' a env' g' O' H') : PostG K pa O H σ E (m env g) S' := by
  unfold bnd at h
  cases e : m env g with
  | ok sl env' g' =>
    rw [e] at h
    exact fun O' H' s R => k sl env' g' O' H' e s R (PostG.from_ h s)
  | exc x g' => rw [e] at h; exact h
  | bad => rw [e] at h; exact h
theorem postX_bnd {β : Type} {m : Mir Sl} {f : Sl → Mir β} {S : β → Env → Pen → List Addr → Hp → Prop} {Q' : VK} (h : PostG K pa O H σ E (bnd m f env g) S)
    (k : ∀ sl env' g' v O' H', m env g = .ok sl env' g' → Same (mask pa O H) (mask pa O' H') → Rel K pa O' H' σ env' g' → Out K pa O' H' σ env' sl v → PostG K pa O' H' σ E (f sl env' g') S → Q' v H') : PostX K pa O H σ E (m env g) Q' :=
  postG_bnd h fun sl env' g' O' H' e s R q v o => k sl env' g' v O' H' e s R o q
end
section
variable {X : Cx}
theorem pe_weak {e : Expr} {t t' : TE} (h : PE X e t) (w : ∀ σ H Q, t' σ H Q → t σ H Q) : PE X e t' := ⟨fun pins s σ H Q I q => h.run pins s σ H Q I (w σ H Q q)⟩
theorem pt_weak {e : Expr} {t t' : TT} (h : PT X e t) (w : ∀ σ H Q, t' σ H Q → t σ H Q) : PT X e t' := ⟨fun pins s σ H Q I q => h.run pins s σ H Q I (w σ H Q q)⟩
theorem pa_weak {e : List Expr} {t t' : TA} (h : PA X e t) (w : ∀ σ H Q, t' σ H Q → t σ H Q) : PA X e t' := ⟨fun pos pins s σ H Q I q => h.run pos pins s σ H Q I (w σ H Q q)⟩
theorem ps_weak {e : Stmt} {t t' : TS} (h : PS X e t) (w : ∀ D σ H, t' D σ H → t D σ H) : PS X e t' := ⟨fun pins s σ H D I q => h.run pins s σ H D I (w D σ H q)⟩
theorem pss_weak {e : List Stmt} {t t' : TS} (h : PSs X e t) (w : ∀ D σ H, t' D σ H → t D σ H) : PSs X e t' := ⟨fun pins s σ H D I q => h.run pins s σ H D I (w D σ H q)⟩
end
end Z
end
section
set_option linter.all false
set_option maxRecDepth 100000
/-! ZB: rules for expressions. -/
namespace Z
open PySem PySem.Spec PyProof.Rows L2

/-! ### names -/
def kvD (kvs : List (Key × D)) : D := .dict (kvs.map fun q => (kD q.1, q.2))
def ktD (kvs : List (List Key × D)) : D := .dict (kvs.map fun q => (.tuple (q.1.map kD), q.2))
/-- what it is as settled data -/
def Sl.fz : Sl → Sl
  | .ol xs => .val (.list xs)
  | .ok kvs => .val (kvD kvs)
  | .ot kvs => .val (ktD kvs)
  | sl => sl
def Sl.isTb : Sl → Bool
  | .tb _ => true
  | _ => false
theorem Sl.fz_own (sl : Sl) (h : sl.isTb = false) : sl.fz.own = false := by cases sl <;> first | rfl | cases h
theorem Sl.fz_id {sl : Sl} (h : sl.own = false) : sl.fz = sl := by cases sl <;> first | rfl | cases h
/-- reading a name settles what it holds -/
def mVar (i : Nat) : Mir Sl := fun env g => match env[i]? with
  | some (some sl) => if sl.isTb = true then .bad else .ok sl.fz (if sl.own then env.set i (some sl.fz) else env) g
  | _ => .bad
def mFz (m : Mir Sl) : Mir Sl := bnd m fun sl => if sl.isTb = true then bad else ret sl.fz
def mC (d : D) : Mir Sl := ret (.val d)

section
variable {X : Cx} {pins : List (Addr × Obj)} {σ : L2.St} {H : Hp} {s : Shared}
/-- a dict is known to be just the object that it is -/
def Fzd : HO → Bool
  | .dK _ => true
  | .dT _ => true
  | _ => false
theorem fzd_mut {u : HO} (hu : Fzd u = true) : Mut (some u) := by
  cases u with
  | dK _ => exact True.intro
  | dT _ => exact True.intro
  | _ => cases hu
theorem inv_frz (I : Inv X pins σ H s) {a : Addr} {u : HO} (h : H a = some u) (hu : Fzd u = true) : ∃ o, Inv X pins σ (upd H a (.frz o u)) s := I.lock h (fzd_mut hu)
/-- behind an expression: a dict may be known as its object -/
def tKn (te : TE) : TE := fun σ H Q => te σ H fun v H1 => Q v H1 ∨ ∃ a u, v = .ref a ∧ H1 a = some u ∧ Fzd u = true ∧ ∀ o, Q v (upd H1 a (.frz o u))
theorem pe_known {e : Expr} {te : TE} (he : PE X e te) : PE X e (tKn te) := ⟨fun pins s σ H Q I h => thn (he.run pins s σ H _ I h) fun v s1 ⟨x, H1, I1, r1, q1⟩ => by
  rcases q1 with q1 | ⟨a, u, rfl, ha, hu, q⟩
  · exact ⟨x, H1, I1, r1, q1⟩
  · obtain ⟨o, I2⟩ := inv_frz I1 ha hu
    exact ⟨.ref a, _, I2, r1, q o⟩⟩
end

section
variable {K : PySem.W.Frag} {pa : Bs} {O O' : List Addr} {H H' : Hp} {σ : L2.St} {E : Wx} {env : Env} {g g' : Pen}
/-- what a is let go of: settled from here on -/
theorem Rel.settle (R : Rel K pa O H σ env g) {a : Addr} {H' : Hp} (hs : ∀ b, b ≠ a → H' b = H b) (ha : (H' a).isSome = true) (hO : a ∈ O) (hno : ∀ (i : Nat) (sl : Sl), env[i]? = some (some sl) → sl.own = true → σ[i]? ≠ some (some (.ref a))) (hh : a ∉ pa.hid) :
    Rel K pa (O.filter fun b => decide (b ≠ a)) H' σ env g ∧ Same (mask pa O H) (mask pa (O.filter fun b => decide (b ≠ a)) H') := by
  have s : Same (mask pa O H) (mask pa (O.filter fun b => decide (b ≠ a)) H') := fun b u e => by
    obtain ⟨h1, h2, h3⟩ := mask_some e
    refine mask_of h1 (fun z => h2 (List.mem_filter.mp z).1) ?_
    rw [hs b (fun z => h2 (z ▸ hO))]
    exact h3
  have npa : pa.a ≠ a := fun z => R.nopa (z ▸ hO)
  refine ⟨⟨R.len, ⟨fun z => R.nopa (List.mem_filter.mp z).1, fun b hb => ?_, fun b hb => ?_, R.pen.mono s (hs pa.a npa)⟩, fun i sl e => ?_, R.apart, R.nohid⟩, s⟩
  · obtain ⟨h1, h2⟩ := List.mem_filter.mp hb
    rw [hs b (of_decide_eq_true h2)]
    exact R.bas.dom b h1
  · obtain ⟨h1, h2⟩ := R.bas.hid b hb
    have hne : b ≠ a := fun z => hh (z ▸ hb)
    exact ⟨List.mem_filter.mpr ⟨h1, decide_eq_true hne⟩, (hs b hne).trans h2⟩
  · obtain ⟨v, e1, r⟩ := R.slot i sl e
    refine ⟨v, e1, ?_⟩
    by_cases ho : sl.own = true
    · obtain ⟨b, rfl, hb⟩ := r.owned ho
      have hne : b ≠ a := fun z => hno i sl e ho (z ▸ e1)
      have hb' : b ∈ O.filter fun b => decide (b ≠ a) := List.mem_filter.mpr ⟨hb, decide_eq_true hne⟩
      cases sl with
      | val d => cases ho
      | pen => cases ho
      | raw u => cases ho
      | ol xs =>
        obtain ⟨c, vs, ec, _, hc, rr⟩ := r
        cases ec
        exact ⟨b, vs, rfl, hb', (hs b hne).trans hc, Reps.mono s rr⟩
      | ok xs =>
        obtain ⟨c, vs, ec, _, hc, rr⟩ := r
        cases ec
        exact ⟨b, vs, rfl, hb', (hs b hne).trans hc, RepK.mono s rr⟩
      | ot xs =>
        obtain ⟨c, vs, ec, _, hc, rr⟩ := r
        cases ec
        exact ⟨b, vs, rfl, hb', (hs b hne).trans hc, RepT.mono s rr⟩
      | tb =>
        obtain ⟨c, vs, ec, _, hc, rr⟩ := r
        cases ec
        exact ⟨b, vs, rfl, hb', (hs b hne).trans hc, rr.1.mono s, rr.2⟩
    · exact r.later (by cases e : sl.own <;> simp_all) s
theorem not_mem_filter {a : Addr} {O : List Addr} : a ∉ O.filter fun b => decide (b ≠ a) := fun z => of_decide_eq_true (List.mem_filter.mp z).2 rfl
/-- .. a value of one's own becomes settled data -/
theorem Rel.fz (R : Rel K pa O H σ env g) {sl : Sl} {v : V} (r : SlRep K pa O H sl v) (ht : sl.isTb = false) (ho : sl.own = true) (hno : (∀ a ∈ pa.hid, v ≠ .ref a) ∧ ∀ (i : Nat) (sl' : Sl), env[i]? = some (some sl') → sl'.own = true → σ[i]? ≠ some (some v)) :
    ∃ a u, v = .ref a ∧ a ∈ O ∧ H a = some u ∧
      ((Fzd u = true ∧ ∀ o, ∃ O', Same (mask pa O H) (mask pa O' (upd H a (.frz o u))) ∧ Rel K pa O' (upd H a (.frz o u)) σ env g ∧ SlRep K pa O' (upd H a (.frz o u)) sl.fz v) ∨
       (∃ O', Same (mask pa O H) (mask pa O' H) ∧ Rel K pa O' H σ env g ∧ SlRep K pa O' H sl.fz v)) := by
  have npa : ∀ a ∈ O, a ≠ pa.a := fun a ha z => R.nopa (z ▸ ha)
  cases sl with
  | val d => cases ho
  | pen => cases ho
  | raw u => cases ho
  | tb => cases ht
  | ol xs =>
    obtain ⟨a, vs, rfl, hm, ha, rr⟩ := r
    refine ⟨a, _, rfl, hm, ha, .inr ?_⟩
    obtain ⟨R', s⟩ := R.settle (H' := H) (fun _ _ => rfl) (by rw [ha]; rfl) hm (fun i sl e o => hno.2 i sl e o) (fun z => hno.1 a z rfl)
    refine ⟨_, s, R', ?_⟩
    show Rep K _ (.list xs) (.ref a)
    simp only [Rep]
    exact ⟨a, vs, rfl, mask_of (npa a hm) not_mem_filter ha, Reps.mono s rr⟩
  | ok kvs =>
    obtain ⟨a, ks, rfl, hm, ha, rr⟩ := r
    refine ⟨a, _, rfl, hm, ha, .inl ⟨rfl, fun o => ?_⟩⟩
    obtain ⟨R', s⟩ := R.settle (H' := upd H a (.frz o (.dK ks))) (fun b hb => upd_ne hb) (by rw [upd_same]; rfl) hm (fun i sl e o => hno.2 i sl e o) (fun z => hno.1 a z rfl)
    refine ⟨_, s, R', ?_⟩
    show Rep K _ (.dict _) (.ref a)
    simp only [Rep]
    exact ⟨a, o, rfl, .inl ⟨ks, mask_of (npa a hm) not_mem_filter upd_same, RepK.mono s rr⟩⟩
  | ot kvs =>
    obtain ⟨a, ks, rfl, hm, ha, rr⟩ := r
    refine ⟨a, _, rfl, hm, ha, .inl ⟨rfl, fun o => ?_⟩⟩
    obtain ⟨R', s⟩ := R.settle (H' := upd H a (.frz o (.dT ks))) (fun b hb => upd_ne hb) (by rw [upd_same]; rfl) hm (fun i sl e o => hno.2 i sl e o) (fun z => hno.1 a z rfl)
    refine ⟨_, s, R', ?_⟩
    show Rep K _ (.dict _) (.ref a)
    simp only [Rep]
    exact ⟨a, o, rfl, .inr (.inl ⟨ks, mask_of (npa a hm) not_mem_filter upd_same, RepT.mono s rr⟩)⟩
/-- a slot's content replaced by what is not one's own -/
theorem Rel.put (R : Rel K pa O H σ env g) {i : Nat} {sl : Sl} {v : V} (hv : σ[i]? = some (some v)) (r : SlRep K pa O H sl v) (ho : sl.own = false) : Rel K pa O H σ (env.set i (some sl)) g := by
  have hkeep : ∀ {j : Nat} {sl' : Sl}, (env.set i (some sl))[j]? = some (some sl') → sl'.own = true → env[j]? = some (some sl') := fun {j sl'} e o => by
    by_cases hj : i = j
    · subst hj
      by_cases hl : i < env.length
      · rw [List.getElem?_set_self hl] at e
        cases e
        rw [ho] at o; cases o
      · rw [List.getElem?_eq_none (by rw [List.length_set]; omega)] at e
        cases e
    · rw [List.getElem?_set_ne hj] at e
      exact e
  refine ⟨by rw [List.length_set]; exact R.len, R.bas, fun j sl' e => ?_, fun j k sl1 sl2 w e1 e2 e3 e4 o1 o2 => ?_, fun j sl' a e o => R.nohid j sl' a (hkeep e o) o⟩
  · by_cases hj : i = j
    · subst hj
      by_cases hl : i < env.length
      · rw [List.getElem?_set_self hl] at e
        cases e
        exact ⟨v, hv, r⟩
      · rw [List.getElem?_eq_none (by rw [List.length_set]; omega)] at e
        cases e
    · rw [List.getElem?_set_ne hj] at e
      exact R.slot j sl' e
  · exact R.apart j k sl1 sl2 w (hkeep e1 o1) (hkeep e2 o2) e3 e4 o1 o2
theorem Out.plain {sl : Sl} {v : V} (r : SlRep K pa O H sl v) (ho : sl.own = false) : Out K pa O H σ env sl v := ⟨r, fun z => by rw [ho] at z; cases z⟩
/-- the end of an expression whose value may be of one's own, settled -/
theorem fz_end {sl : Sl} {v : V} {Q : VK} (ht : sl.isTb = false) (R : Rel K pa O H σ env g) (o : Out K pa O H σ env sl v) (h : PostX K pa O H σ E (.ok sl.fz env g) Q) : Q v H ∨ ∃ a u, v = .ref a ∧ H a = some u ∧ Fzd u = true ∧ ∀ o, Q v (upd H a (.frz o u)) := by
  cases ho : sl.own with
  | false =>
    rw [Sl.fz_id ho] at h
    exact .inl (h O H (Same.refl _) R v o)
  | true =>
    obtain ⟨a, u, rfl, hm, ha, ⟨hu, k⟩ | ⟨O', s, R', r'⟩⟩ := R.fz o.1 ht ho (o.2 ho)
    · refine .inr ⟨a, u, rfl, ha, hu, fun ob => ?_⟩
      obtain ⟨O', s, R', r'⟩ := k ob
      exact h O' _ s R' _ (Out.plain r' (sl.fz_own ht))
    · exact .inl (h O' _ s R' _ (Out.plain r' (sl.fz_own ht)))
end

section
variable {X : Cx} {E : Wx}
theorem zx_fz {e : Expr} {m : Mir Sl} (he : PE X e (zE X.K E m)) : PE X e (zE X.K E (mFz m)) := by
  refine pe_weak (pe_known he) fun σ H Q h => ?_
  obtain ⟨pa, O, env, g, R, h⟩ := h
  exact ⟨pa, O, env, g, R, postX_bnd h fun sl env' g' v O' H' e s R' o q => by
    cases ht : sl.isTb with
    | true => rw [if_pos ht] at q; exact q.elim
    | false =>
      rw [if_neg (by rw [ht]; exact Bool.false_ne_true)] at q
      exact fz_end ht R' o q⟩
theorem zx_var (i : Nat) {x : PySem.Str} {pos : Pos} (hN : X.N[i]? = some x := by rfl) (hv : Vis X.env.scope x := by first | exact Or.inl rfl | exact Or.inr (Or.inl rfl) | exact Or.inr (Or.inr rfl)) (hd : (x == ("__debug__" : PySem.Str)) = false := by decide)
    (hcd : (x == ("__classdict__" : PySem.Str)) = false := by decide) : PE X (.Name x pos) (zE X.K E (mVar i)) := by
  refine pe_weak (pe_known (pe_var hN hv hd hcd)) fun σ H Q h => ?_
  obtain ⟨pa, O, env, g, R, h⟩ := h
  cases e : env[i]? with
  | none =>
    simp only [mVar, e] at h
    exact h.elim
  | some o =>
    cases o with
    | none =>
      simp only [mVar, e] at h
      exact h.elim
    | some sl =>
      simp only [mVar, e] at h
      cases ht : sl.isTb with
      | true => rw [if_pos ht] at h; exact h.elim
      | false =>
      rw [if_neg (by rw [ht]; exact Bool.false_ne_true)] at h
      obtain ⟨v, hv, r⟩ := R.slot i sl e
      refine ⟨v, hv, ?_⟩
      have il : i < env.length := (List.getElem?_eq_some_iff.mp e).1
      cases ho : sl.own with
      | false =>
        rw [ho, Sl.fz_id ho] at h
        exact .inl (h O H (Same.refl _) R v (Out.plain r ho))
      | true =>
        rw [ho] at h
        -- the slot is emptied first, then the value settled
        have R0 : Rel X.K pa O H σ (env.set i none) g := by
          refine ⟨by rw [List.length_set]; exact R.len, R.bas, fun j sl' ej => ?_, fun j k sl1 sl2 w e1 e2 => ?_, fun j sl' a ej o => ?_⟩
          · by_cases hj : i = j
            · subst hj
              rw [List.getElem?_set_self il] at ej; cases ej
            · rw [List.getElem?_set_ne hj] at ej
              exact R.slot j sl' ej
          · by_cases hj : i = j
            · subst hj
              rw [List.getElem?_set_self il] at e1; cases e1
            · by_cases hk : i = k
              · subst hk
                rw [List.getElem?_set_self il] at e2; cases e2
              · rw [List.getElem?_set_ne hj] at e1
                rw [List.getElem?_set_ne hk] at e2
                exact R.apart j k sl1 sl2 w e1 e2
          · by_cases hj : i = j
            · subst hj
              rw [List.getElem?_set_self il] at ej; cases ej
            · rw [List.getElem?_set_ne hj] at ej
              exact R.nohid j sl' a ej o
        have ap : (∀ a ∈ pa.hid, v ≠ .ref a) ∧ ∀ (j : Nat) (sl' : Sl), (env.set i none)[j]? = some (some sl') → sl'.own = true → σ[j]? ≠ some (some v) := ⟨fun a ha ev => R.nohid i sl a e ho ha (ev ▸ hv), fun j sl' ej o' ev => by
          by_cases hj : i = j
          · subst hj
            rw [List.getElem?_set_self il] at ej; cases ej
          · rw [List.getElem?_set_ne hj] at ej
            exact hj (R.apart i j sl sl' v e ej hv ev ho o')⟩
        have es : (env.set i none).set i (some sl.fz) = env.set i (some sl.fz) := List.set_set ..
        obtain ⟨a, u, rfl, hm, ha, ⟨hu, k⟩ | ⟨O', s, R', r'⟩⟩ := R0.fz r ht ho ap
        · refine .inr ⟨a, u, rfl, ha, hu, fun ob => ?_⟩
          obtain ⟨O', s, R', r'⟩ := k ob
          have R2 := R'.put hv r' (sl.fz_own ht)
          rw [es] at R2
          exact h O' _ s R2 _ (Out.plain r' (sl.fz_own ht))
        · have R2 := R'.put hv r' (sl.fz_own ht)
          rw [es] at R2
          exact .inl (h O' _ s R2 _ (Out.plain r' (sl.fz_own ht)))
theorem zx_c {e : Expr} {v : V} {d : D} (h : PE X e (L2.tC v)) (r : ∀ F, Rep X.K F d v) : PE X e (zE X.K E (mC d)) := by
  refine pe_weak h fun σ H Q h => ?_
  obtain ⟨pa, O, env, g, R, h⟩ := h
  exact h O H (Same.refl _) R v (Out.plain (r _) rfl)
theorem zx_int {i j pos} : PE X (.Constant (.int i) j pos) (zE X.K E (mC (.int i))) := zx_c pe_int fun _ => by simp only [Rep]
theorem zx_bool {b j pos} : PE X (.Constant (.bool b) j pos) (zE X.K E (mC (.bool b))) := zx_c pe_bl fun _ => by simp only [Rep]
theorem zx_none {j pos} : PE X (.Constant .none j pos) (zE X.K E (mC .none)) := zx_c pe_non fun _ => by simp only [Rep]
theorem zx_str {x j pos} : PE X (.Constant (.str x) j pos) (zE X.K E (mC (.str x))) := zx_c pe_str fun _ => by simp only [Rep]
end
end Z
end
section
set_option linter.all false
set_option maxRecDepth 100000
/-! ZC: arguments, displays, operators. -/
namespace Z
open PySem PySem.Spec PyProof.Rows L2

theorem if_own {sl : Sl} {P : Prop} (h : sl.own = true → P) (h2 : sl.own = false → P) : P := by
  cases e : sl.own with
  | true => exact h e
  | false => exact h2 e

/-! ### arguments -/
def mNil : Mir (List Sl) := ret []
def mCons (m : Mir Sl) (ms : Mir (List Sl)) : Mir (List Sl) := bnd m fun sl => if sl.own = true then bad else bnd ms fun l => ret (sl :: l)
def valsOf : List Sl → Option (List D)
  | [] => some []
  | .val d :: r => match valsOf r with
    | some ds => some (d :: ds)
    | none => none
  | _ => none
section
variable {K : PySem.W.Frag} {pa : Bs} {O O' : List Addr} {H H' : Hp} {σ : L2.St} {E : Wx} {env : Env} {g g' : Pen}
theorem SlReps.later {l : List Sl} {vs : List V} (h : SlReps K pa O H l vs) (s : Same (mask pa O H) (mask pa O' H')) : SlReps K pa O' H' l vs := Paired.mapP h fun _ _ ⟨n, r⟩ => ⟨n, r.later n s⟩
theorem SlReps.vals : ∀ {l : List Sl} {vs : List V} {ds : List D}, SlReps K pa O H l vs → valsOf l = some ds → Reps K (mask pa O H) ds vs
  | [], _, ds, .nil, e => by
    have e : ([] : List D) = ds := Option.some.inj e
    subst e
    simp only [Reps]
  | .val d :: l, _, ds, .cons ⟨_, r⟩ t, e => by
    unfold valsOf at e
    cases q : valsOf l with
    | none => rw [q] at e; cases e
    | some ds' =>
      rw [q] at e
      have e := Option.some.inj e
      subst e
      simp only [Reps]
      exact ⟨_, _, rfl, r, SlReps.vals t q⟩
  | .pen :: l, _, ds, .cons _ _, e => by cases e
  | .raw _ :: l, _, ds, .cons _ _, e => by cases e
  | .ol _ :: l, _, ds, .cons _ _, e => by cases e
  | .ok _ :: l, _, ds, .cons _ _, e => by cases e
  | .ot _ :: l, _, ds, .cons _ _, e => by cases e
theorem Reps.length : ∀ {ds : List D} {vs : List V}, Reps K H ds vs → ds.length = vs.length
  | [], _, h => by simp only [Reps] at h; rw [h]; rfl
  | d :: ds, _, h => by
    simp only [Reps] at h
    obtain ⟨v, r, rfl, _, h⟩ := h
    rw [List.length_cons, List.length_cons, Reps.length h]
end
section
variable {X : Cx} {E : Wx} {e a b : Expr} {es : List Expr} {pos : Pos} {m ma mb : Mir Sl} {ms : Mir (List Sl)}
theorem za_nil : PA X [] (zA X.K E mNil) := pa_weak pa_nil fun σ H Q ⟨pa, O, env, g, R, h⟩ => h O H (Same.refl _) R [] .nil
theorem za_cons (he : PE X e (zE X.K E m)) (hs : PA X es (zA X.K E ms)) (hst : starEach (e :: es) X.env = (false, eval e X.env) :: starEach es X.env := by rfl) : PA X (e :: es) (zA X.K E (mCons m ms)) := by
  refine pa_weak (pa_cons he hs hst) fun σ H Q ⟨pa, O, env, g, R, h⟩ => ?_
  refine ⟨pa, O, env, g, R, postX_bnd h fun sl env' g' v O' H' e s R' o q => ?_⟩
  cases hown : sl.own with
  | true => rw [if_pos hown] at q; exact q.elim
  | false =>
    rw [if_neg (by rw [hown]; exact Bool.false_ne_true)] at q
    refine ⟨pa, O', env', g', R', postG_bnd q fun l env2 g2 O2 H2 e2 s2 R2 q2 vs hvs => ?_⟩
    exact q2 O2 H2 (Same.refl _) R2 (v :: vs) (.cons ⟨hown, o.1.later hown s2⟩ hvs)

/-! ### displays -/
def mTup (ms : Mir (List Sl)) : Mir Sl := bnd ms fun l => match valsOf l with
  | some ds => if ds.length ≤ 1000 then ret (.val (.tuple ds)) else bad
  | none => bad
def mLst (ms : Mir (List Sl)) : Mir Sl := bnd ms fun l => match valsOf l with
  | some ds => if ds.length ≤ 1000 then ret (.ol ds) else bad
  | none => bad
theorem zx_tup {x1} (h : PA X es (zA X.K E ms)) : PE X (.Tuple es x1 pos) (zE X.K E (mTup ms)) := by
  refine pe_weak (pe_tup h) fun σ H Q ⟨pa, O, env, g, R, h⟩ => ?_
  refine ⟨pa, O, env, g, R, postG_bnd h fun l env' g' O' H' e s R' q vs hvs => ?_⟩
  cases hv : valsOf l with
  | none => simp only [hv] at q; exact q.elim
  | some ds =>
    simp only [hv] at q
    by_cases hl : ds.length ≤ 1000
    · rw [if_pos hl] at q
      have hr := hvs.vals hv
      refine ⟨by rw [← hr.length]; exact Nat.le_of_lt (small1000 hl), fun p hp => ?_⟩
      obtain ⟨R2, s2, hm⟩ := R'.new (o := .tup vs) hp
      refine q O' _ s2 R2 (.ref p) (Out.plain ?_ rfl)
      show Rep _ _ (.tuple ds) (.ref p)
      simp only [Rep]
      exact ⟨p, vs, rfl, hm, hr.mono s2⟩
    · rw [if_neg hl] at q; exact q.elim
/-- a new list of one's own -/
theorem Rel.newList {K : PySem.W.Frag} {pa : Bs} {O : List Addr} {H : Hp} {σ : L2.St} {env : Env} {g : Pen} (R : Rel K pa O H σ env g) {vs : List V} {ds : List D} {p : Addr} (hr : Reps K (mask pa O H) ds vs) (hp : H p = none) :
    Same (mask pa O H) (mask pa (p :: O) (upd H p (.lst vs))) ∧ Rel K pa (p :: O) (upd H p (.lst vs)) σ env g ∧ Out K pa (p :: O) (upd H p (.lst vs)) σ env (.ol ds) (.ref p) := by
  obtain ⟨R2, s2⟩ := R.newOwn (o := .lst vs) hp
  refine ⟨s2, R2, ⟨p, vs, rfl, List.mem_cons_self, upd_same, hr.mono s2⟩, fun _ => ⟨fun a ha ev => ?_, fun i sl' e o ev => ?_⟩⟩
  · cases ev
    exact isSome_ne (R.dom p (R.bas.hid p ha).1) hp rfl
  obtain ⟨v, e1, r⟩ := R.slot i sl' e
  rw [ev] at e1
  cases e1
  obtain ⟨a, ea, hm⟩ := r.owned o
  cases ea
  exact isSome_ne (R.dom p hm) hp rfl
theorem zx_lst (h : PA X es (zA X.K E ms)) : PE X (.List es pos) (zE X.K E (mLst ms)) := by
  refine pe_weak (pe_lst h) fun σ H Q ⟨pa, O, env, g, R, h⟩ => ?_
  refine ⟨pa, O, env, g, R, postG_bnd h fun l env' g' O' H' e s R' q vs hvs => ?_⟩
  cases hv : valsOf l with
  | none => simp only [hv] at q; exact q.elim
  | some ds =>
    simp only [hv] at q
    by_cases hl : ds.length ≤ 1000
    · rw [if_pos hl] at q
      have hr := hvs.vals hv
      refine ⟨by rw [← hr.length]; exact Nat.le_of_lt (small1000 hl), fun p hp => ?_⟩
      obtain ⟨s2, R2, o2⟩ := R'.newList hr hp
      exact q _ _ s2 R2 _ o2
    · rw [if_neg hl] at q; exact q.elim

/-! ### operators -/
def mOp (F : Sl → Sl → Mir Sl) (ma mb : Mir Sl) : Mir Sl := bnd ma fun x => if x.own = true then bad else bnd mb fun y => if y.own = true then bad else F x y
/-- what a rule by values has to serve -/
def zR2 (K : PySem.W.Frag) (E : Wx) (F : Sl → Sl → Mir Sl) : R2 := fun x y H Q => ∃ pa O σ env g sx sy, Rel K pa O H σ env g ∧ sx.own = false ∧ SlRep K pa O H sx x ∧ sy.own = false ∧ SlRep K pa O H sy y ∧ PostX K pa O H σ E (F sx sy env g) Q
theorem zop_core {F : Sl → Sl → Mir Sl} {r : R2} (w : ∀ x y H Q, zR2 X.K E F x y H Q → r x y H Q) : ∀ σ H Q, zE X.K E (mOp F ma mb) σ H Q → tOp r (zE X.K E ma) (zE X.K E mb) σ H Q := fun σ H Q ⟨pa, O, env, g, R, h⟩ => by
  refine ⟨pa, O, env, g, R, postX_bnd h fun sx env' g' x O' H' e s R' o q => ?_⟩
  cases hx : sx.own with
  | true => rw [if_pos hx] at q; exact q.elim
  | false =>
    rw [if_neg (by rw [hx]; exact Bool.false_ne_true)] at q
    refine ⟨pa, O', env', g', R', postX_bnd q fun sy env2 g2 y O2 H2 e2 s2 R2 o2 q2 => ?_⟩
    cases hy : sy.own with
    | true => rw [if_pos hy] at q2; exact q2.elim
    | false =>
      rw [if_neg (by rw [hy]; exact Bool.false_ne_true)] at q2
      exact w x y H2 Q ⟨pa, O2, σ, env2, g2, sx, sy, R2, hx, o.1.later hx s2, hy, o2.1, q2⟩
theorem zx_op {op : Operator} {F : Sl → Sl → Mir Sl} {r : R2} (ho : OpR X (binaryOp op) r) (w : ∀ x y H Q, zR2 X.K E F x y H Q → r x y H Q) (ha : PE X a (zE X.K E ma)) (hb : PE X b (zE X.K E mb)) : PE X (.BinOp a op b pos) (zE X.K E (mOp F ma mb)) :=
  pe_weak (pe_op ho ha hb) (zop_core w)
theorem zx_cmp {op : CmpOp} {F : Sl → Sl → Mir Sl} {r : R2} (ho : OpR X (compareOp op) r) (w : ∀ x y H Q, zR2 X.K E F x y H Q → r x y H Q) (ha : PE X a (zE X.K E ma)) (hb : PE X b (zE X.K E mb)) (hm : behindInMarks op b = false) : PE X (.Compare a [op] [b] pos) (zE X.K E (mOp F ma mb)) :=
  pe_weak (pe_cmpR ho ha hb hm) (zop_core w)
/-- a result that is a flat value -/
theorem post_flat {K : PySem.W.Frag} {pa : Bs} {O : List Addr} {H : Hp} {σ : L2.St} {env : Env} {g : Pen} {d : D} {v : V} {Q : VK} (R : Rel K pa O H σ env g) (h : PostX K pa O H σ E (ret (.val d) env g) Q) (r : Rep K (mask pa O H) d v) : Q v H :=
  h O H (Same.refl _) R v (Out.plain r rfl)

def fAdd (x y : Sl) : Mir Sl := match x, y with
  | .val (.int i), .val (.int j) => ret (.val (.int (i + j)))
  | .val (.tuple a), .val (.tuple b) => if a.length + b.length ≤ 1000000 then ret (.val (.tuple (a ++ b))) else bad
  | .val (.list a), .val (.list b) => if a.length + b.length ≤ 1000000 then ret (.ol (a ++ b)) else bad
  | _, _ => bad
theorem Reps.append {K : PySem.W.Frag} {F : Hp} : ∀ {a b : List D} {vs ws : List V}, Reps K F a vs → Reps K F b ws → Reps K F (a ++ b) (vs ++ ws)
  | [], b, vs, ws, h, h2 => by
    simp only [Reps] at h
    subst h
    exact h2
  | d :: a, b, vs, ws, h, h2 => by
    simp only [Reps] at h
    obtain ⟨v, r, rfl, h1, h3⟩ := h
    show Reps K F (d :: (a ++ b)) (v :: (r ++ ws))
    simp only [Reps]
    exact ⟨v, _, rfl, h1, Reps.append h3 h2⟩
theorem le_line {n : Nat} (h : n ≤ 1000000) : n ≤ sizeLine := Nat.le_trans h (by rw [sizeLine_eq]; decide)
theorem w_add : ∀ x y H Q, zR2 X.K E fAdd x y H Q → ((∃ i j, x = .int i ∧ y = .int j ∧ Q (.int (i + j)) H) ∨ rCatA X.K x y H Q) ∨ rCat x y H Q := fun x y H Q ⟨pa, O, σ, env, g, sx, sy, R, ox, rx, oy, ry, h⟩ => by
  unfold fAdd at h
  split at h
  · rename_i i j
    have rx : Rep X.K (mask pa O H) _ x := rx
    have ry : Rep X.K (mask pa O H) _ y := ry
    simp only [Rep] at rx ry
    exact .inl (.inl ⟨i, j, rx, ry, post_flat R h (by simp only [Rep])⟩)
  · rename_i a b
    by_cases hl : a.length + b.length ≤ 1000000
    · rw [if_pos hl] at h
      have rx : Rep X.K (mask pa O H) _ x := rx
      have ry : Rep X.K (mask pa O H) _ y := ry
      simp only [Rep] at rx ry
      obtain ⟨p, vs, rfl, hp, hv⟩ := rx
      obtain ⟨q, ws, rfl, hq, hw⟩ := ry
      refine .inl (.inr ⟨p, q, vs, ws, rfl, rfl, sqt mask_le hp, sqt mask_le hq, by rw [← hv.length, ← hw.length]; exact le_line hl, fun e => ?_, fun e e2 => ?_, fun e1 e2 t ht => ?_⟩)
      · subst e
        have hv0 := hv.length
        have e : a = [] := List.eq_nil_of_length_eq_zero hv0
        subst e
        exact h O H (Same.refl _) R _ (Out.plain (by show Rep _ _ (.tuple ([] ++ b)) _; simp only [Rep, List.nil_append]; exact ⟨q, ws, rfl, hq, hw⟩) rfl)
      · subst e2
        have hv0 := hw.length
        have e : b = [] := List.eq_nil_of_length_eq_zero hv0
        subst e
        exact h O H (Same.refl _) R _ (Out.plain (by show Rep _ _ (.tuple (a ++ [])) _; simp only [Rep, List.append_nil]; exact ⟨p, vs, rfl, hp, hv⟩) rfl)
      · obtain ⟨R2, s2, hm⟩ := R.new (o := .tup (vs ++ ws)) ht
        refine h O _ s2 R2 _ (Out.plain ?_ rfl)
        show Rep _ _ (.tuple (a ++ b)) _
        simp only [Rep]
        exact ⟨t, _, rfl, hm, (hv.append hw).mono s2⟩
    · rw [if_neg hl] at h; exact h.elim
  · rename_i a b
    by_cases hl : a.length + b.length ≤ 1000000
    · rw [if_pos hl] at h
      have rx : Rep X.K (mask pa O H) _ x := rx
      have ry : Rep X.K (mask pa O H) _ y := ry
      simp only [Rep] at rx ry
      obtain ⟨p, vs, rfl, hp, hv⟩ := rx
      obtain ⟨q, ws, rfl, hq, hw⟩ := ry
      refine .inr ⟨p, q, vs, ws, rfl, rfl, mask_le _ _ hp, mask_le _ _ hq, by rw [← hv.length, ← hw.length]; exact le_line hl, fun t ht => ?_⟩
      obtain ⟨s2, R2, o2⟩ := R.newList (hv.append hw) ht
      exact h _ _ s2 R2 _ o2
    · rw [if_neg hl] at h; exact h.elim
  · exact h.elim
theorem zx_add (ha : PE X a (zE X.K E ma)) (hb : PE X b (zE X.K E mb)) : PE X (.BinOp a .Add b pos) (zE X.K E (mOp fAdd ma mb)) := zx_op ((op_add.or op_catA).or op_cat) w_add ha hb
/-- an operator of two ints under a condition -/
def fInt (C : Int → Int → Prop) [∀ i j, Decidable (C i j)] (f : Int → Int → D) (x y : Sl) : Mir Sl := match x, y with
  | .val (.int i), .val (.int j) => if C i j then ret (.val (f i j)) else bad
  | _, _ => bad
theorem w_int {C : Int → Int → Prop} [∀ i j, Decidable (C i j)] {f : Int → Int → D} {v : Int → Int → V} (hf : ∀ F i j, Rep X.K F (f i j) (v i j)) : ∀ x y H Q, zR2 X.K E (fInt C f) x y H Q → rI C v x y H Q := fun x y H Q ⟨pa, O, σ, env, g, sx, sy, R, ox, rx, oy, ry, h⟩ => by
  unfold fInt at h
  split at h
  · rename_i i j
    by_cases c : C i j
    · rw [if_pos c] at h
      have rx : Rep X.K (mask pa O H) _ x := rx
      have ry : Rep X.K (mask pa O H) _ y := ry
      simp only [Rep] at rx ry
      exact ⟨i, j, rx, ry, c, post_flat R h (hf _ i j)⟩
    · rw [if_neg c] at h; exact h.elim
  · exact h.elim
instance (i j : Int) : Decidable (CMul i j) := by unfold CMul; infer_instance
instance (i j : Int) : Decidable (CDiv i j) := by unfold CDiv; infer_instance
instance (i j : Int) : Decidable (CPow i j) := by unfold CPow; infer_instance
theorem op0 {f : Value → Value → Sem Value} {v : Int → Int → V} (h : OpR X f (rI0 v)) : OpR X f (rI (fun _ _ => True) v) := by
  intro pins s σ H x y a b Q I ra rb ⟨i, j, e1, e2, _, q⟩
  exact h pins s σ H x y a b Q I ra rb ⟨i, j, e1, e2, q⟩
abbrev fSub := fInt (fun _ _ => True) fun i j => .int (i - j)
abbrev fMod := fInt (fun _ j => 0 < j) fun i j => .int (i % j)
abbrev fDiv := fInt CDiv fun i j => .int (i / j)
abbrev fPow := fInt CPow fun i j => .int (i ^ j.toNat)
abbrev fLt := fInt (fun _ _ => True) fun i j => .bool (decide (i < j))
abbrev fLe := fInt (fun _ _ => True) fun i j => .bool (decide (i ≤ j))
abbrev fGt := fInt (fun _ _ => True) fun i j => .bool (decide (j < i))
abbrev fGe := fInt (fun _ _ => True) fun i j => .bool (decide (j ≤ i))
theorem zx_sub (ha : PE X a (zE X.K E ma)) (hb : PE X b (zE X.K E mb)) : PE X (.BinOp a .Sub b pos) (zE X.K E (mOp fSub ma mb)) := zx_op (op0 op_sub) (w_int fun _ _ _ => by simp only [Rep]) ha hb
theorem zx_mod (ha : PE X a (zE X.K E ma)) (hb : PE X b (zE X.K E mb)) : PE X (.BinOp a .Mod b pos) (zE X.K E (mOp fMod ma mb)) := zx_op op_mod (w_int fun _ _ _ => by simp only [Rep]) ha hb
theorem zx_div (ha : PE X a (zE X.K E ma)) (hb : PE X b (zE X.K E mb)) : PE X (.BinOp a .FloorDiv b pos) (zE X.K E (mOp fDiv ma mb)) := zx_op op_fdiv (w_int fun _ _ _ => by simp only [Rep]) ha hb
theorem zx_pow (ha : PE X a (zE X.K E ma)) (hb : PE X b (zE X.K E mb)) : PE X (.BinOp a .Pow b pos) (zE X.K E (mOp fPow ma mb)) := zx_op op_pow (w_int fun _ _ _ => by simp only [Rep]) ha hb
theorem zx_lt (ha : PE X a (zE X.K E ma)) (hb : PE X b (zE X.K E mb)) : PE X (.Compare a [.Lt] [b] pos) (zE X.K E (mOp fLt ma mb)) := zx_cmp (op0 op_lt) (w_int fun _ _ _ => by simp only [Rep]) ha hb (nomark _)
theorem zx_le (ha : PE X a (zE X.K E ma)) (hb : PE X b (zE X.K E mb)) : PE X (.Compare a [.LtE] [b] pos) (zE X.K E (mOp fLe ma mb)) := zx_cmp (op0 op_le) (w_int fun _ _ _ => by simp only [Rep]) ha hb (nomark _)
theorem zx_gt (ha : PE X a (zE X.K E ma)) (hb : PE X b (zE X.K E mb)) : PE X (.Compare a [.Gt] [b] pos) (zE X.K E (mOp fGt ma mb)) := zx_cmp (op0 op_gt) (w_int fun _ _ _ => by simp only [Rep]) ha hb (nomark _)
theorem zx_ge (ha : PE X a (zE X.K E ma)) (hb : PE X b (zE X.K E mb)) : PE X (.Compare a [.GtE] [b] pos) (zE X.K E (mOp fGe ma mb)) := zx_cmp (op0 op_ge) (w_int fun _ _ _ => by simp only [Rep]) ha hb (nomark _)
/-! ### * -/
def fMul (x y : Sl) : Mir Sl := match x, y with
  | .val (.int i), .val (.int j) => if CMul i j then ret (.val (.int (i * j))) else bad
  | .val (.tuple a), .val (.int k) => if a.length ≤ 1000 ∧ 1 ≤ k ∧ k ≤ 1000 ∧ a ≠ [] then ret (.val (.tuple (List.replicate k.toNat a).flatten)) else bad
  | .val (.list a), .val (.int k) => if a.length ≤ 1000 ∧ 0 ≤ k ∧ k ≤ 1000 then ret (.ol (List.replicate k.toNat a).flatten) else bad
  | _, _ => bad
end
end Z
end
section
set_option linter.all false
set_option maxRecDepth 100000
set_option maxHeartbeats 1000000
/-! ZD: * of tuples and lists, ==, in, is, and, or, not, if. -/
namespace Z
open PySem PySem.Spec PyProof.Rows L2

theorem tuple_mul1 (l : Addr) (items : Array Value) (n : Nat) (dd : Option Addr) (sl : Array (Option Value)) (x : Int) (u : Tok) (c0 : (decide (x < -(2 ^ 63)) || decide (x ≥ 2 ^ 63)) = false) (c1 : (items.isEmpty || x == 1) = true) :
    Meets (Builtin.«tuple.__mul__» ⟨[.ref l, .int x u], []⟩) (fun _ R s => s.heap.get? l = some { cls := .type "tuple", dict := dd, data := .seq items n, slots := sl } ∧ R (.ok (.ret (Value.ref l))) s) :=
  .of_wp (by
    rintro prog w A R ⟨heap, gens, drawn, toks, os⟩ ⟨at_, done⟩
    have asIx := AutoSeq1.idx_int
    wp_walk using wpAny_loadPart' at_
    refine wpAny_ite_false (by simpa using c0) ?_
    wp_walk using wpAny_loadPart' at_
    exact ⟨_, rfl, done⟩)
section
variable {X : Cx} {E : Wx} {e a b : Expr} {es : List Expr} {pos : Pos} {m ma mb : Mir Sl} {ms : Mir (List Sl)}
theorem op_rep1 : OpR X (binaryOp .Mult) (fun x y H Q => ∃ l xs, x = .ref l ∧ y = .int 1 ∧ SqT X.K H l xs ∧ Q (.ref l) H) := by
  intro pins s σ H x y v u Q I rx ry h
  obtain ⟨l, xs, rfl, rfl, hT, q⟩ := h
  cases rx
  obtain ⟨t, rfl⟩ := ry
  obtain ⟨its, r, ⟨⟨cls, dd, data, sl⟩, ho, hc, n, hd⟩, hs⟩ := I.tuple hT
  simp only at hc hd
  subst hc hd
  exact wpAny_binaryOp_repeat_ref (T := "tuple") (U := "int") (by decide) ⟨_, ho, rfl⟩ (fun s' => typeIs_int s' 1 t) noFill_tuple_mul F.fills_int_mul F.slot_int_rmul repeat_tuple F.slot_int_index.lookup
    (call_meets F.slot_int_rmul (typeIs_int s 1 t) F.entry_int_rmul (F.args_int_rmul_2 _ _) (int_rmul_tuple 1 t l its.toArray n dd sl)
      ⟨ho, rfl, ⟨_, ho, rfl⟩, call_meets F.slot_tuple_mul ⟨_, ho, rfl⟩ F.entry_tuple_mul (F.args_tuple_mul_2 _ _) (tuple_mul1 l its.toArray n dd sl 1 t (by decide) (by simp)) ⟨ho, ⟨.ref l, H, I, rfl, q⟩⟩⟩)
theorem Reps.rep {K : PySem.W.Frag} {F : Hp} {a : List D} {vs : List V} (h : Reps K F a vs) : ∀ n : Nat, Reps K F (List.replicate n a).flatten (List.replicate n vs).flatten
  | 0 => by simp [Reps]
  | n + 1 => by
    rw [List.replicate_succ, List.flatten_cons, List.replicate_succ, List.flatten_cons]
    exact h.append (Reps.rep h n)
theorem w_mul : ∀ x y H Q, zR2 X.K E fMul x y H Q → ((rI CMul (fun i j => .int (i * j)) x y H Q ∨ rRepT X.K x y H Q) ∨ (∃ l xs, x = .ref l ∧ y = .int 1 ∧ SqT X.K H l xs ∧ Q (.ref l) H)) ∨ rRep x y H Q := fun x y H Q ⟨pa, O, σ, env, g, sx, sy, R, ox, rx, oy, ry, h⟩ => by
  unfold fMul at h
  split at h
  · rename_i i j
    by_cases c : CMul i j
    · rw [if_pos c] at h
      have rx : Rep X.K (mask pa O H) _ x := rx
      have ry : Rep X.K (mask pa O H) _ y := ry
      simp only [Rep] at rx ry
      exact .inl (.inl (.inl ⟨i, j, rx, ry, c, post_flat R h (by simp only [Rep])⟩))
    · rw [if_neg c] at h; exact h.elim
  · rename_i a k
    by_cases c : a.length ≤ 1000 ∧ 1 ≤ k ∧ k ≤ 1000 ∧ a ≠ []
    · rw [if_pos c] at h
      obtain ⟨c1, c2, c3, c4⟩ := c
      have rx : Rep X.K (mask pa O H) _ x := rx
      have ry : Rep X.K (mask pa O H) _ y := ry
      simp only [Rep] at rx ry
      obtain ⟨p, vs, rfl, hp, hv⟩ := rx
      subst ry
      by_cases k1 : k = 1
      · subst k1
        refine .inl (.inr ⟨p, vs, rfl, rfl, sqt mask_le hp, ?_⟩)
        refine h O H (Same.refl _) R _ (Out.plain ?_ rfl)
        show Rep _ _ (.tuple _) _
        have e : (List.replicate (1 : Int).toNat a).flatten = a := by simp
        rw [e]
        simp only [Rep]
        exact ⟨p, vs, rfl, hp, hv⟩
      · refine .inl (.inl (.inr ⟨p, k, vs, rfl, rfl, sqt mask_le hp, fun z => c4 ?_, by omega, c3, by rw [← hv.length]; exact c1, fun t ht => ?_⟩))
        · subst z
          exact List.eq_nil_of_length_eq_zero hv.length
        · obtain ⟨R2, s2, hm⟩ := R.new (o := .tup (List.replicate k.toNat vs).flatten) ht
          refine h O _ s2 R2 _ (Out.plain ?_ rfl)
          show Rep _ _ (.tuple _) _
          simp only [Rep]
          exact ⟨t, _, rfl, hm, (hv.rep _).mono s2⟩
    · rw [if_neg c] at h; exact h.elim
  · rename_i a k
    by_cases c : a.length ≤ 1000 ∧ 0 ≤ k ∧ k ≤ 1000
    · rw [if_pos c] at h
      obtain ⟨c1, c2, c3⟩ := c
      have rx : Rep X.K (mask pa O H) _ x := rx
      have ry : Rep X.K (mask pa O H) _ y := ry
      simp only [Rep] at rx ry
      obtain ⟨p, vs, rfl, hp, hv⟩ := rx
      subst ry
      refine .inr ⟨p, k, vs, rfl, rfl, mask_le _ _ hp, by omega, by omega, ?_, fun t ht => ?_⟩
      · rw [← hv.length]
        have h1 : a.length * k.toNat ≤ 1000 * 1000 := Nat.mul_le_mul c1 (by omega)
        exact le_line (by omega)
      · obtain ⟨s2, R2, o2⟩ := R.newList (hv.rep k.toNat) ht
        exact h _ _ s2 R2 _ o2
    · rw [if_neg c] at h; exact h.elim
  · exact h.elim
theorem zx_mul (ha : PE X a (zE X.K E ma)) (hb : PE X b (zE X.K E mb)) : PE X (.BinOp a .Mult b pos) (zE X.K E (mOp fMul ma mb)) := zx_op (((op_mul.or op_repT).or op_rep1).or op_rep) w_mul ha hb

/-! ### == -/
mutual
theorem Rep.dp {K : PySem.W.Frag} {F H : Hp} (s : Same F H) : ∀ {d : D} {v : V}, Rep K F d v → d.canLay0 = true → Dp K H v d
  | .none, v, h, _ => by simp only [Rep] at h; subst h; exact .non
  | .bool b, v, h, _ => by simp only [Rep] at h; subst h; exact .bl b
  | .int b, v, h, _ => by simp only [Rep] at h; subst h; exact .int b
  | .str b, v, h, _ => by simp only [Rep] at h; subst h; exact .str b
  | .list ds, v, h, c => by
    simp only [Rep] at h
    obtain ⟨a, vs, rfl, h1, h2⟩ := h
    exact .lst (sql s h1) (Reps.dp s h2 (by simpa [PyData.canLay0] using c))
  | .tuple ds, v, h, c => by
    simp only [Rep] at h
    obtain ⟨a, vs, rfl, h1, h2⟩ := h
    exact .tup (sqt s h1) (Reps.dp s h2 (by simpa [PyData.canLay0] using c))
  | .dict _, v, h, c => by simp [PyData.canLay0] at c
theorem Reps.dp {K : PySem.W.Frag} {F H : Hp} (s : Same F H) : ∀ {ds : List D} {vs : List V}, Reps K F ds vs → PyData.canLayAll0 ds = true → DpAll K H vs ds
  | [], vs, h, _ => by simp only [Reps] at h; subst h; exact .nil
  | d :: ds, vs, h, c => by
    simp only [Reps] at h
    obtain ⟨v, r, rfl, h1, h2⟩ := h
    have c' : d.canLay0 = true ∧ PyData.canLayAll0 ds = true := by simpa [PyData.canLayAll0] using c
    exact .cons (Rep.dp s h1 c'.1) (Reps.dp s h2 c'.2)
end
theorem lay_of {d : D} (h : SeqAt.shaped d = true) : d.canLay0 = true := SeqAt.canLay_of_shaped h
def fEq (neg : Bool) (x y : Sl) : Mir Sl := match x, y with
  | .val d, .val e => if SeqAt.shaped d = true ∧ SeqAt.shaped e = true then ret (.val (.bool (if neg then !PyData.eqv d e else PyData.eqv d e))) else bad
  | _, _ => bad
theorem w_eq {neg : Bool} : ∀ x y H Q, zR2 X.K E (fEq neg) x y H Q → ∃ d e, Dp X.K H x d ∧ Dp X.K H y e ∧ SeqAt.shaped d = true ∧ SeqAt.shaped e = true ∧ Q (.bl (if neg then !PyData.eqv d e else PyData.eqv d e)) H := fun x y H Q ⟨pa, O, σ, env, g, sx, sy, R, ox, rx, oy, ry, h⟩ => by
  unfold fEq at h
  split at h
  · rename_i d e
    by_cases c : SeqAt.shaped d = true ∧ SeqAt.shaped e = true
    · rw [if_pos c] at h
      exact ⟨d, e, Rep.dp mask_le rx (lay_of c.1), Rep.dp mask_le ry (lay_of c.2), c.1, c.2, post_flat R h (by simp only [Rep])⟩
    · rw [if_neg c] at h; exact h.elim
  · exact h.elim
theorem zx_eq (hu : X.A.units + 64 < cLine) (ha : PE X a (zE X.K E ma)) (hb : PE X b (zE X.K E mb)) : PE X (.Compare a [.Eq] [b] pos) (zE X.K E (mOp (fEq false) ma mb)) := zx_cmp (op_eqD hu) (w_eq (neg := false)) ha hb (nomark _)
theorem zx_ne (hu : X.A.units + 64 < cLine) (ha : PE X a (zE X.K E ma)) (hb : PE X b (zE X.K E mb)) : PE X (.Compare a [.NotEq] [b] pos) (zE X.K E (mOp (fEq true) ma mb)) := zx_cmp (op_neD hu) (w_eq (neg := true)) ha hb (nomark _)
/-! ### in -/
def rInDT (K : PySem.W.Frag) (neg : Bool) : R2 := fun x y H Q => ∃ d ds, Dp K H x d ∧ (Dp K H y (.list ds) ∨ Dp K H y (.tuple ds)) ∧ SeqAt.shaped d = true ∧ SeqAt.shaped (.list ds) = true ∧ Q (.bl (if neg then !ds.any fun z => PyData.eqv z d else ds.any fun z => PyData.eqv z d)) H
theorem op_inDT (hu : X.A.units + 65 < cLine) : OpR X (compareOp .In) (rInDT X.K false) := fun pins s σ H x y v u Q I rx ry ⟨d, ds, item, whole, sd, sw, q⟩ =>
  have ⟨_, ri⟩ := Dp.reads I d x v item rx
  whole.elim (fun l => have ⟨_, rl⟩ := Dp.reads I _ y u l ry
      SeqAt.in_list_reads rl ri (SeqAt.canLay_of_shaped sw) (SeqAt.canLay_of_shaped sd) (room_in_shaped sd hu) ⟨.bl _, H, I, rfl, q⟩)
    fun t => have ⟨_, rt⟩ := Dp.reads I _ y u t ry
      SeqAt.in_tuple_reads rt ri (SeqAt.canLay_of_shaped sw) (SeqAt.canLay_of_shaped sd) (room_in_shaped sd hu) ⟨.bl _, H, I, rfl, q⟩
theorem op_notInDT (hu : X.A.units + 65 < cLine) : OpR X (compareOp .NotIn) (rInDT X.K true) := fun pins s σ H x y v u Q I rx ry ⟨d, ds, item, whole, sd, sw, q⟩ =>
  have ⟨_, ri⟩ := Dp.reads I d x v item rx
  whole.elim (fun l => have ⟨_, rl⟩ := Dp.reads I _ y u l ry
      SeqAt.notIn_list_reads rl ri (SeqAt.canLay_of_shaped sw) (SeqAt.canLay_of_shaped sd) (room_in_shaped sd hu) ⟨.bl _, H, I, rfl, q⟩)
    fun t => have ⟨_, rt⟩ := Dp.reads I _ y u t ry
      SeqAt.notIn_tuple_reads rt ri (SeqAt.canLay_of_shaped sw) (SeqAt.canLay_of_shaped sd) (room_in_shaped sd hu) ⟨.bl _, H, I, rfl, q⟩
def dIn (neg : Bool) (d : D) (ds : List D) : Option D := if SeqAt.shaped d = true ∧ SeqAt.shaped (.list ds) = true then some (.bool (if neg then !ds.any fun z => PyData.eqv z d else ds.any fun z => PyData.eqv z d)) else none
def ofO (o : Option D) : Mir Sl := match o with
  | some d => ret (.val d)
  | none => bad
def fIn (neg : Bool) (x y : Sl) : Mir Sl := match x, y with
  | .val d, .val (.list ds) => ofO (dIn neg d ds)
  | .val d, .val (.tuple ds) => ofO (dIn neg d ds)
  | _, _ => bad
theorem w_in {neg : Bool} : ∀ x y H Q, zR2 X.K E (fIn neg) x y H Q → rInDT X.K neg x y H Q := fun x y H Q ⟨pa, O, σ, env, g, sx, sy, R, ox, rx, oy, ry, h⟩ => by
  unfold fIn at h
  split at h
  · rename_i d ds
    unfold dIn at h
    by_cases c : SeqAt.shaped d = true ∧ SeqAt.shaped (.list ds) = true
    · rw [if_pos c] at h
      exact ⟨d, ds, Rep.dp mask_le rx (lay_of c.1), .inl (Rep.dp mask_le ry (lay_of c.2)), c.1, c.2, post_flat R h (by simp only [Rep])⟩
    · rw [if_neg c] at h; exact h.elim
  · rename_i d ds
    unfold dIn at h
    by_cases c : SeqAt.shaped d = true ∧ SeqAt.shaped (.list ds) = true
    · rw [if_pos c] at h
      have c2 : (PyData.tuple ds).canLay0 = true := by
        have := lay_of c.2
        simpa [PyData.canLay0] using this
      exact ⟨d, ds, Rep.dp mask_le rx (lay_of c.1), .inr (Rep.dp mask_le ry c2), c.1, c.2, post_flat R h (by simp only [Rep])⟩
    · rw [if_neg c] at h; exact h.elim
  · exact h.elim
theorem zx_in (hu : X.A.units + 65 < cLine) (ha : PE X a (zE X.K E ma)) (hb : PE X b (zE X.K E mb)) (hm : behindInMarks .In b = false := by rfl) : PE X (.Compare a [.In] [b] pos) (zE X.K E (mOp (fIn false) ma mb)) := zx_cmp (op_inDT hu) (w_in (neg := false)) ha hb hm
theorem zx_notIn (hu : X.A.units + 65 < cLine) (ha : PE X a (zE X.K E ma)) (hb : PE X b (zE X.K E mb)) (hm : behindInMarks .NotIn b = false := by rfl) : PE X (.Compare a [.NotIn] [b] pos) (zE X.K E (mOp (fIn true) ma mb)) := zx_cmp (op_notInDT hu) (w_in (neg := true)) ha hb hm
/-! ### is None -/
def isNoneD : D → Bool
  | .none => true
  | _ => false
def fIs (neg : Bool) (x y : Sl) : Mir Sl := match x, y with
  | .val d, .val .none => ret (.val (.bool (if neg then !isNoneD d else isNoneD d)))
  | _, _ => bad
theorem rep_none {K : PySem.W.Frag} {F : Hp} {d : D} {x : V} (h : Rep K F d x) : decide (x = .non) = isNoneD d := by
  cases d with
  | none => simp only [Rep] at h; subst h; rfl
  | bool b => simp only [Rep] at h; subst h; rfl
  | int b => simp only [Rep] at h; subst h; rfl
  | str b => simp only [Rep] at h; subst h; rfl
  | list b => simp only [Rep] at h; obtain ⟨a, vs, rfl, _⟩ := h; rfl
  | tuple b => simp only [Rep] at h; obtain ⟨a, vs, rfl, _⟩ := h; rfl
  | dict b => simp only [Rep] at h; obtain ⟨a, vs, rfl, _⟩ := h; rfl
theorem w_is {neg : Bool} : ∀ x y H Q, zR2 X.K E (fIs neg) x y H Q → y = .non ∧ Q (.bl (if neg then !decide (x = .non) else decide (x = .non))) H := fun x y H Q ⟨pa, O, σ, env, g, sx, sy, R, ox, rx, oy, ry, h⟩ => by
  unfold fIs at h
  split at h
  · rename_i d
    have ry : Rep X.K (mask pa O H) _ y := ry
    simp only [Rep] at ry
    refine ⟨ry, post_flat R h ?_⟩
    rw [rep_none rx]
    simp only [Rep]
  · exact h.elim
theorem zx_is (ha : PE X a (zE X.K E ma)) (hb : PE X b (zE X.K E mb)) : PE X (.Compare a [.Is] [b] pos) (zE X.K E (mOp (fIs false) ma mb)) := zx_cmp op_isN (w_is (neg := false)) ha hb (nomark _)
theorem zx_isNot (ha : PE X a (zE X.K E ma)) (hb : PE X b (zE X.K E mb)) : PE X (.Compare a [.IsNot] [b] pos) (zE X.K E (mOp (fIs true) ma mb)) := zx_cmp op_notN (w_is (neg := true)) ha hb (nomark _)

/-! ### and, or, not, if: bools -/
def boolOf : Sl → Option Bool
  | .val (.bool b) => some b
  | _ => none
def mBo (sl : Sl) (f : Bool → Mir Sl) : Mir Sl := match boolOf sl with
  | some b => f b
  | none => bad
def mAnd (ma mb : Mir Sl) : Mir Sl := bnd ma fun x => mBo x fun b => if b = true then mb else ret (.val (.bool false))
def mOr (ma mb : Mir Sl) : Mir Sl := bnd ma fun x => mBo x fun b => if b = true then ret (.val (.bool true)) else mb
def mNot (ma : Mir Sl) : Mir Sl := bnd ma fun x => mBo x fun b => ret (.val (.bool (!b)))
def mTest (ma : Mir Sl) : Mir Bool := bnd ma fun x => match boolOf x with
  | some b => ret b
  | none => bad
def mIfx (mt : Mir Bool) (ma mb : Mir Sl) : Mir Sl := bnd mt fun b => if b = true then ma else mb
def mAndB (ma mb : Mir Bool) : Mir Bool := bnd ma fun b => if b = true then mb else ret false
def mOrB (ma mb : Mir Bool) : Mir Bool := bnd ma fun b => if b = true then ret true else mb
def mNotB (ma : Mir Bool) : Mir Bool := bnd ma fun b => ret (!b)
theorem out_bool {K : PySem.W.Frag} {pa : Bs} {O : List Addr} {H : Hp} {σ : L2.St} {env : Env} {sl : Sl} {v : V} {b : Bool} (o : Out K pa O H σ env sl v) (h : boolOf sl = some b) : v = .bl b := by
  unfold boolOf at h
  split at h
  · cases h
    have r : Rep K (mask pa O H) _ v := o.1
    simp only [Rep] at r
    exact r
  · cases h
theorem bo_cases {S : Sl → Env → Pen → List Addr → Hp → Prop} {K : PySem.W.Frag} {pa : Bs} {O : List Addr} {H : Hp} {σ : L2.St} {env : Env} {g : Pen} {sl : Sl} {f : Bool → Mir Sl} (h : PostG K pa O H σ E (mBo sl f env g) S) : ∃ b, boolOf sl = some b ∧ PostG K pa O H σ E (f b env g) S := by
  unfold mBo at h
  cases e : boolOf sl with
  | none => rw [e] at h; exact h.elim
  | some b => rw [e] at h; exact ⟨b, rfl, h⟩
variable {rest : List Expr}
theorem zx_one {op} (h : PE X a (zE X.K E m)) : PE X (.BoolOp op [a] pos) (zE X.K E m) := pe_one h
theorem zx_and (ha : PE X a (zE X.K E ma)) (hb : PE X (.BoolOp .And (b :: rest) pos) (zE X.K E mb)) : PE X (.BoolOp .And (a :: b :: rest) pos) (zE X.K E (mAnd ma mb)) := by
  refine pe_weak (pe_and ha hb) fun σ H Q ⟨pa, O, env, g, R, h⟩ => ?_
  refine ⟨pa, O, env, g, R, postX_bnd h fun sl env' g' v O' H' e s R' o q => ?_⟩
  obtain ⟨c, hc, q⟩ := bo_cases q
  refine ⟨c, out_bool o hc, ?_⟩
  cases c with
  | true => exact ⟨pa, O', env', g', R', q⟩
  | false => exact post_flat R' q (by simp only [Rep])
theorem zx_or (ha : PE X a (zE X.K E ma)) (hb : PE X (.BoolOp .Or (b :: rest) pos) (zE X.K E mb)) : PE X (.BoolOp .Or (a :: b :: rest) pos) (zE X.K E (mOr ma mb)) := by
  refine pe_weak (pe_or ha hb) fun σ H Q ⟨pa, O, env, g, R, h⟩ => ?_
  refine ⟨pa, O, env, g, R, postX_bnd h fun sl env' g' v O' H' e s R' o q => ?_⟩
  obtain ⟨c, hc, q⟩ := bo_cases q
  refine ⟨c, out_bool o hc, ?_⟩
  cases c with
  | false => exact ⟨pa, O', env', g', R', q⟩
  | true => exact post_flat R' q (by simp only [Rep])
theorem zx_not (ha : PE X a (zE X.K E ma)) : PE X (.UnaryOp .Not a pos) (zE X.K E (mNot ma)) := by
  refine pe_weak (pe_not ha) fun σ H Q ⟨pa, O, env, g, R, h⟩ => ?_
  refine ⟨pa, O, env, g, R, postX_bnd h fun sl env' g' v O' H' e s R' o q => ?_⟩
  obtain ⟨c, hc, q⟩ := bo_cases q
  exact ⟨c, out_bool o hc, post_flat R' q (by simp only [Rep])⟩
/-- a value that is a bool, as a test -/
theorem zt_core {t : TE} (w : ∀ σ H Q, zE X.K E m σ H Q → t σ H Q) : ∀ σ H Q, zB X.K E (mTest m) σ H Q → (t σ H fun x H1 => ∃ c, x = .bl c ∧ Q c H1) := fun σ H Q ⟨pa, O, env, g, R, h⟩ => by
  refine w _ _ _ ⟨pa, O, env, g, R, postX_bnd h fun sl env' g' v O' H' e s R' o q => ?_⟩
  cases hb : boolOf sl with
  | none => simp only [hb] at q; exact q.elim
  | some c =>
    simp only [hb] at q
    exact ⟨c, out_bool o hb, q O' H' (Same.refl _) R'⟩
theorem zt_val (h : PE X e (zE X.K E m)) (he : ∀ whole, isTrue e X.env whole = (do let v ← whole; standAt e.pos; holding [v] (truthy v)) := by intro _; rfl) : PT X e (zB X.K E (mTest m)) :=
  pt_weak (pt_val h he) fun σ H Q q => zt_core (fun _ _ _ z => z) σ H Q q
variable {op : CmpOp}
/-- a comparison as a test -/
theorem zt_cmp {F : Sl → Sl → Mir Sl} {r : R2} (ho : OpR X (compareOp op) r) (w : ∀ x y H Q, zR2 X.K E F x y H Q → r x y H Q) (ha : PE X a (zE X.K E ma)) (hb : PE X b (zE X.K E mb)) (hm : behindInMarks op b = false) : PT X (.Compare a [op] [b] pos) (zB X.K E (mTest (mOp F ma mb))) :=
  pt_weak (pt_cmpR ho ha hb hm) fun σ H Q q => zt_core (zop_core w) σ H Q q
theorem zt_lt (ha : PE X a (zE X.K E ma)) (hb : PE X b (zE X.K E mb)) : PT X (.Compare a [.Lt] [b] pos) (zB X.K E (mTest (mOp fLt ma mb))) := zt_cmp (op0 op_lt) (w_int fun _ _ _ => by simp only [Rep]) ha hb (nomark _)
theorem zt_le (ha : PE X a (zE X.K E ma)) (hb : PE X b (zE X.K E mb)) : PT X (.Compare a [.LtE] [b] pos) (zB X.K E (mTest (mOp fLe ma mb))) := zt_cmp (op0 op_le) (w_int fun _ _ _ => by simp only [Rep]) ha hb (nomark _)
theorem zt_gt (ha : PE X a (zE X.K E ma)) (hb : PE X b (zE X.K E mb)) : PT X (.Compare a [.Gt] [b] pos) (zB X.K E (mTest (mOp fGt ma mb))) := zt_cmp (op0 op_gt) (w_int fun _ _ _ => by simp only [Rep]) ha hb (nomark _)
theorem zt_ge (ha : PE X a (zE X.K E ma)) (hb : PE X b (zE X.K E mb)) : PT X (.Compare a [.GtE] [b] pos) (zB X.K E (mTest (mOp fGe ma mb))) := zt_cmp (op0 op_ge) (w_int fun _ _ _ => by simp only [Rep]) ha hb (nomark _)
theorem zt_eq (hu : X.A.units + 64 < cLine) (ha : PE X a (zE X.K E ma)) (hb : PE X b (zE X.K E mb)) : PT X (.Compare a [.Eq] [b] pos) (zB X.K E (mTest (mOp (fEq false) ma mb))) := zt_cmp (op_eqD hu) (w_eq (neg := false)) ha hb (nomark _)
theorem zt_ne (hu : X.A.units + 64 < cLine) (ha : PE X a (zE X.K E ma)) (hb : PE X b (zE X.K E mb)) : PT X (.Compare a [.NotEq] [b] pos) (zB X.K E (mTest (mOp (fEq true) ma mb))) := zt_cmp (op_neD hu) (w_eq (neg := true)) ha hb (nomark _)
theorem zt_in (hu : X.A.units + 65 < cLine) (ha : PE X a (zE X.K E ma)) (hb : PE X b (zE X.K E mb)) (hm : behindInMarks .In b = false := by rfl) : PT X (.Compare a [.In] [b] pos) (zB X.K E (mTest (mOp (fIn false) ma mb))) := zt_cmp (op_inDT hu) (w_in (neg := false)) ha hb hm
theorem zt_notIn (hu : X.A.units + 65 < cLine) (ha : PE X a (zE X.K E ma)) (hb : PE X b (zE X.K E mb)) (hm : behindInMarks .NotIn b = false := by rfl) : PT X (.Compare a [.NotIn] [b] pos) (zB X.K E (mTest (mOp (fIn true) ma mb))) := zt_cmp (op_notInDT hu) (w_in (neg := true)) ha hb hm
theorem zt_is (ha : PE X a (zE X.K E ma)) (hb : PE X b (zE X.K E mb)) : PT X (.Compare a [.Is] [b] pos) (zB X.K E (mTest (mOp (fIs false) ma mb))) := zt_cmp op_isN (w_is (neg := false)) ha hb (nomark _)
theorem zt_isNot (ha : PE X a (zE X.K E ma)) (hb : PE X b (zE X.K E mb)) : PT X (.Compare a [.IsNot] [b] pos) (zB X.K E (mTest (mOp (fIs true) ma mb))) := zt_cmp op_notN (w_is (neg := true)) ha hb (nomark _)
variable {pa pb : Mir Bool}
theorem zw_and1 (h : PT X a (zB X.K E pa)) : PW X (.BoolOp .And [a] pos) (zB X.K E pa) := by
  refine ⟨fun wh pins s σ H Q I h' => ?_⟩
  exact isTrue_and (thn (h.run pins s σ H Q I h') fun c s1 e => by
    cases c with
    | true => exact isTrue_and_nil e
    | false => exact e)
theorem zw_or1 (h : PT X a (zB X.K E pa)) : PW X (.BoolOp .Or [a] pos) (zB X.K E pa) := pw_or1 h
theorem pw_weak {e : Expr} {t t' : TT} (h : PW X e t) (w : ∀ σ H Q, t' σ H Q → t σ H Q) : PW X e t' := ⟨fun wh pins s σ H Q I q => h.run wh pins s σ H Q I (w σ H Q q)⟩
theorem zw_and (ha : PT X a (zB X.K E pa)) (hb : PW X (.BoolOp .And (b :: rest) pos) (zB X.K E pb)) : PW X (.BoolOp .And (a :: b :: rest) pos) (zB X.K E (mAndB pa pb)) := by
  refine pw_weak (pw_and ha hb) fun σ H Q ⟨pa', O, env, g, R, h⟩ => ?_
  refine ⟨pa', O, env, g, R, postG_bnd h fun c env' g' O' H' e s R' q => ?_⟩
  cases c with
  | true => exact ⟨pa', O', env', g', R', q⟩
  | false => exact q O' H' (Same.refl _) R'
theorem zw_or (ha : PT X a (zB X.K E pa)) (hb : PW X (.BoolOp .Or (b :: rest) pos) (zB X.K E pb)) : PW X (.BoolOp .Or (a :: b :: rest) pos) (zB X.K E (mOrB pa pb)) := by
  refine pw_weak (pw_or ha hb) fun σ H Q ⟨pa', O, env, g, R, h⟩ => ?_
  refine ⟨pa', O, env, g, R, postG_bnd h fun c env' g' O' H' e s R' q => ?_⟩
  cases c with
  | false => exact ⟨pa', O', env', g', R', q⟩
  | true => exact q O' H' (Same.refl _) R'
theorem zt_not (ha : PT X a (zB X.K E pa)) : PT X (.UnaryOp .Not a pos) (zB X.K E (mNotB pa)) := by
  refine pt_weak (pt_not ha) fun σ H Q ⟨pa', O, env, g, R, h⟩ => ?_
  exact ⟨pa', O, env, g, R, postG_bnd h fun c env' g' O' H' e s R' q => q O' H' (Same.refl _) R'⟩
theorem zx_if {c : Expr} (hc : PT X c (zB X.K E pa)) (ha : PE X a (zE X.K E ma)) (hb : PE X b (zE X.K E mb)) : PE X (.IfExp c a b pos) (zE X.K E (mIfx pa ma mb)) := by
  refine pe_weak (pe_ifExp hc ha hb) fun σ H Q ⟨pa', O, env, g, R, h⟩ => ?_
  refine ⟨pa', O, env, g, R, postG_bnd h fun c env' g' O' H' e s R' q => ?_⟩
  cases c with
  | true => exact ⟨pa', O', env', g', R', q⟩
  | false => exact ⟨pa', O', env', g', R', q⟩
def mNeg (ma : Mir Sl) : Mir Sl := bnd ma fun x => match x with
  | .val (.int i) => ret (.val (.int (-i)))
  | _ => bad
theorem zx_neg (ha : PE X a (zE X.K E ma)) : PE X (.UnaryOp .USub a pos) (zE X.K E (mNeg ma)) := by
  refine pe_weak (pe_un un_neg ha) fun σ H Q ⟨pa', O, env, g, R, h⟩ => ?_
  refine ⟨pa', O, env, g, R, postX_bnd h fun sl env' g' v O' H' e s R' o q => ?_⟩
  split at q
  · rename_i i
    have r : Rep X.K (mask pa' O' H') _ v := o.1
    simp only [Rep] at r
    exact ⟨i, r, post_flat R' q (by simp only [Rep])⟩
  · exact q.elim
end
end Z
end
section
set_option linter.all false
set_option maxRecDepth 100000
set_option maxHeartbeats 1000000
/-! ZE: subscripts, slices, dicts that are read, calls of built-ins. -/
namespace Z
open PySem PySem.Spec PyProof.Rows L2

section
variable {X : Cx} {E : Wx} {e a b : Expr} {es : List Expr} {pos p : Pos} {m ma mb : Mir Sl} {ms : Mir (List Sl)}
/-! ### a place -/
theorem Reps.at_ {K : PySem.W.Frag} {F : Hp} : ∀ {ds : List D} {vs : List V} {j : Nat} {d : D}, Reps K F ds vs → ds[j]? = some d → ∃ v, vs[j]? = some v ∧ Rep K F d v
  | [], _, _, _, _, e => by simp at e
  | d :: ds, _, 0, _, h, e => by
    simp only [Reps] at h
    obtain ⟨v, r, rfl, h1, _⟩ := h
    have e := Option.some.inj e
    subst e
    exact ⟨v, rfl, h1⟩
  | d :: ds, _, j + 1, _, h, e => by
    simp only [Reps] at h
    obtain ⟨v, r, rfl, _, h2⟩ := h
    exact Reps.at_ (j := j) h2 e
theorem Reps.atI {K : PySem.W.Frag} {F : Hp} {ds : List D} {vs : List V} {i : Int} {d : D} (h : Reps K F ds vs) (e : L2.atI ds i = some d) : ∃ v, L2.atI vs i = some v ∧ Rep K F d v := by
  unfold L2.atI at e ⊢
  rw [← h.length]
  cases q : ixN ds.length i with
  | none => rw [q] at e; cases e
  | some j =>
    rw [q] at e
    exact h.at_ (j := j) e
def fIx (x y : Sl) : Mir Sl := match x, y with
  | .val (.list xs), .val (.int i) => ofO (L2.atI xs i)
  | .val (.tuple xs), .val (.int i) => ofO (L2.atI xs i)
  | .ol xs, .val (.int i) => ofO (L2.atI xs i)
  | _, _ => bad
theorem post_ofO {K : PySem.W.Frag} {pa : Bs} {O : List Addr} {H : Hp} {σ : L2.St} {env : Env} {g : Pen} {o : Option D} {Q : VK} (h : PostX K pa O H σ E (ofO o env g) Q) : ∃ d, o = some d ∧ PostX K pa O H σ E (ret (.val d) env g) Q := by
  unfold ofO at h
  cases o with
  | none => exact h.elim
  | some d => exact ⟨d, rfl, h⟩
theorem w_ix : ∀ x y H Q, zR2 X.K E fIx x y H Q → rIxL X.K x y H Q ∨ rIxT X.K x y H Q := fun x y H Q ⟨pa, O, σ, env, g, sx, sy, R, ox, rx, oy, ry, h⟩ => by
  unfold fIx at h
  split at h
  · obtain ⟨d, e, h⟩ := post_ofO h
    have rx : Rep X.K (mask pa O H) _ x := rx
    have ry : Rep X.K (mask pa O H) _ y := ry
    simp only [Rep] at rx ry
    obtain ⟨p, vs, rfl, hp, hv⟩ := rx
    obtain ⟨v, e2, r⟩ := hv.atI e
    exact .inl ⟨p, vs, _, v, rfl, ry, sql mask_le hp, e2, post_flat R h r⟩
  · obtain ⟨d, e, h⟩ := post_ofO h
    have rx : Rep X.K (mask pa O H) _ x := rx
    have ry : Rep X.K (mask pa O H) _ y := ry
    simp only [Rep] at rx ry
    obtain ⟨p, vs, rfl, hp, hv⟩ := rx
    obtain ⟨v, e2, r⟩ := hv.atI e
    exact .inr ⟨p, vs, _, v, rfl, ry, sqt mask_le hp, e2, post_flat R h r⟩
  · cases ox
  · exact h.elim
theorem zx_ix (ha : PE X a (zE X.K E ma)) (hb : PE X b (zE X.K E mb)) (hs : PlainIx b := by exact fun _ _ => rfl) : PE X (.Subscript a b pos) (zE X.K E (mOp fIx ma mb)) := pe_weak (pe_ix (IxR.or ix_list ix_tup) ha hb hs) (zop_core w_ix)

/-! ### what a slot owns, read without letting it go -/
/-- the slot i holds something of its own -/
def isOwn (env : Env) (i : Nat) : Bool := match env[i]? with
  | some (some sl) => sl.own
  | _ => false
/-- the left operand: the slot i as it is -/
def mOwn (F : Sl → Sl → Mir Sl) (i : Nat) (mb : Mir Sl) : Mir Sl := fun env g => if isOwn env i = true then bnd mb (fun y => if y.own = true then bad else fun env g => match env[i]? with
  | some (some sl) => if sl.own = true then F sl y env g else .bad
  | _ => .bad) env g else .bad
/-- the right operand: the slot i as it is -/
def mOwnR (F : Sl → Sl → Mir Sl) (ma : Mir Sl) (i : Nat) : Mir Sl := bnd ma fun x => if x.own = true then bad else fun env g => match env[i]? with
  | some (some sl) => if sl.own = true then F x sl env g else .bad
  | _ => .bad
def zR2o (K : PySem.W.Frag) (E : Wx) (F : Sl → Sl → Mir Sl) : R2 := fun x y H Q => ∃ pa O σ env g sx sy, Rel K pa O H σ env g ∧ SlRep K pa O H sx x ∧ SlRep K pa O H sy y ∧ (sx.own = true ∨ sy.own = true) ∧ PostX K pa O H σ E (F sx sy env g) Q
theorem own_cases {S : Sl → Env → Pen → List Addr → Hp → Prop} {K : PySem.W.Frag} {pa : Bs} {O : List Addr} {H : Hp} {σ : L2.St} {env : Env} {g : Pen} {i : Nat} {F : Sl → Mir Sl} (R : Rel K pa O H σ env g)
    (h : PostG K pa O H σ E ((fun env g => match env[i]? with
      | some (some sl) => if sl.own = true then F sl env g else .bad
      | _ => .bad : Mir Sl) env g) S) : ∃ sl v, σ[i]? = some (some v) ∧ sl.own = true ∧ SlRep K pa O H sl v ∧ PostG K pa O H σ E (F sl env g) S := by
  cases e : env[i]? with
  | none => simp only [e] at h; exact h.elim
  | some o =>
    cases o with
    | none => simp only [e] at h; exact h.elim
    | some sl =>
      simp only [e] at h
      obtain ⟨v, hv, r⟩ := R.slot i sl e
      by_cases ho : sl.own = true
      · rw [if_pos ho] at h
        exact ⟨sl, v, hv, ho, r, h⟩
      · rw [if_neg ho] at h; exact h.elim
theorem zown_core {F : Sl → Sl → Mir Sl} {r : R2} {i : Nat} (w : ∀ x y H Q, zR2o X.K E F x y H Q → r x y H Q) : ∀ σ H Q, zE X.K E (mOwn F i mb) σ H Q → tOp r (tVar i) (zE X.K E mb) σ H Q := fun σ H Q ⟨pa, O, env, g, R, h⟩ => by
  unfold mOwn at h
  by_cases hi : isOwn env i = true
  · rw [if_pos hi] at h
    obtain ⟨v, hv⟩ : ∃ v, σ[i]? = some (some v) := by
      unfold isOwn at hi
      split at hi
      · rename_i sl e
        obtain ⟨v, hv, _⟩ := R.slot i sl e
        exact ⟨v, hv⟩
      · cases hi
    refine ⟨v, hv, ⟨pa, O, env, g, R, postX_bnd h fun sy env2 g2 y O2 H2 e2 s2 R2 o2 q2 => ?_⟩⟩
    cases hy : sy.own with
    | true => rw [if_pos hy] at q2; exact q2.elim
    | false =>
      rw [if_neg (by rw [hy]; exact Bool.false_ne_true)] at q2
      obtain ⟨sl, v', hv', ho, r', q3⟩ := own_cases (F := fun sl => F sl sy) R2 q2
      rw [hv] at hv'
      cases hv'
      exact w v y H2 Q ⟨pa, O2, σ, env2, g2, sl, sy, R2, r', o2.1, .inl ho, q3⟩
  · rw [if_neg hi] at h; exact h.elim
theorem zownR_core {F : Sl → Sl → Mir Sl} {r : R2} {i : Nat} (w : ∀ x y H Q, zR2o X.K E F x y H Q → r x y H Q) : ∀ σ H Q, zE X.K E (mOwnR F ma i) σ H Q → tOp r (zE X.K E ma) (tVar i) σ H Q := fun σ H Q ⟨pa, O, env, g, R, h⟩ => by
  refine ⟨pa, O, env, g, R, postX_bnd h fun sy env2 g2 y O2 H2 e2 s2 R2 o2 q2 => ?_⟩
  cases hy : sy.own with
  | true => rw [if_pos hy] at q2; exact q2.elim
  | false =>
    rw [if_neg (by rw [hy]; exact Bool.false_ne_true)] at q2
    obtain ⟨sl, v', hv', ho, r', q3⟩ := own_cases (F := fun sl => F sy sl) R2 q2
    exact ⟨v', hv', w y v' H2 Q ⟨pa, O2, σ, env2, g2, sy, sl, R2, o2.1, r', .inr ho, q3⟩⟩
theorem w_ixO : ∀ x y H Q, zR2o X.K E fIx x y H Q → rIxL X.K x y H Q ∨ rIxT X.K x y H Q := fun x y H Q ⟨pa, O, σ, env, g, sx, sy, R, rx, ry, ho, h⟩ => by
  unfold fIx at h
  split at h
  · rcases ho with z | z <;> cases z
  · rcases ho with z | z <;> cases z
  · obtain ⟨d, e, h⟩ := post_ofO h
    obtain ⟨p, vs, rfl, _, hp, hv⟩ := rx
    have ry : Rep X.K (mask pa O H) _ y := ry
    simp only [Rep] at ry
    obtain ⟨v, e2, r⟩ := hv.atI e
    exact .inl ⟨p, vs, _, v, rfl, ry, .inl (.inl hp), e2, post_flat R h r⟩
  · exact h.elim
/-- x[e], x a list of the slot's own -/
theorem zx_ixO (i : Nat) {x : PySem.Str} (hb : PE X b (zE X.K E mb)) (hs : PlainIx b := by exact fun _ _ => rfl) (hN : X.N[i]? = some x := by rfl) (hv : Vis X.env.scope x := by first | exact Or.inl rfl | exact Or.inr (Or.inl rfl) | exact Or.inr (Or.inr rfl)) (hd : (x == ("__debug__" : PySem.Str)) = false := by decide)
    (hcd : (x == ("__classdict__" : PySem.Str)) = false := by decide) : PE X (.Subscript (.Name x p) b pos) (zE X.K E (mOwn fIx i mb)) := pe_weak (pe_ix (IxR.or ix_list ix_tup) (pe_var hN hv hd hcd) hb hs) (zown_core w_ixO)
def fInO (neg : Bool) (x y : Sl) : Mir Sl := match x, y with
  | .val d, .ol ds => ofO (dIn neg d ds)
  | _, _ => bad
theorem w_inO {neg : Bool} : ∀ x y H Q, zR2o X.K E (fInO neg) x y H Q → rInDT X.K neg x y H Q := fun x y H Q ⟨pa, O, σ, env, g, sx, sy, R, rx, ry, ho, h⟩ => by
  unfold fInO at h
  split at h
  · rename_i d ds
    obtain ⟨d', e, h⟩ := post_ofO h
    unfold dIn at e
    by_cases c : SeqAt.shaped d = true ∧ SeqAt.shaped (.list ds) = true
    · rw [if_pos c] at e
      cases e
      obtain ⟨p, vs, rfl, _, hp, hv⟩ := ry
      have hl := lay_of c.2
      exact ⟨d, ds, Rep.dp mask_le rx (lay_of c.1), .inl (.lst (.inl (.inl hp)) (Reps.dp mask_le hv (by simpa [PyData.canLay0] using hl))), c.1, c.2, post_flat R h (by simp only [Rep])⟩
    · rw [if_neg c] at e; cases e
  · exact h.elim
variable {x : PySem.Str}
theorem zx_inO (i : Nat) (hu : X.A.units + 65 < cLine) (ha : PE X a (zE X.K E ma)) (hN : X.N[i]? = some x := by rfl) (hv : Vis X.env.scope x := by first | exact Or.inl rfl | exact Or.inr (Or.inl rfl) | exact Or.inr (Or.inr rfl)) (hd : (x == ("__debug__" : PySem.Str)) = false := by decide)
    (hcd : (x == ("__classdict__" : PySem.Str)) = false := by decide) : PE X (.Compare a [.In] [.Name x p] pos) (zE X.K E (mOwnR (fInO false) ma i)) := pe_weak (pe_cmpR (op_inDT hu) ha (pe_var hN hv hd hcd) rfl) (zownR_core (w_inO (neg := false)))
theorem zx_notInO (i : Nat) (hu : X.A.units + 65 < cLine) (ha : PE X a (zE X.K E ma)) (hN : X.N[i]? = some x := by rfl) (hv : Vis X.env.scope x := by first | exact Or.inl rfl | exact Or.inr (Or.inl rfl) | exact Or.inr (Or.inr rfl)) (hd : (x == ("__debug__" : PySem.Str)) = false := by decide)
    (hcd : (x == ("__classdict__" : PySem.Str)) = false := by decide) : PE X (.Compare a [.NotIn] [.Name x p] pos) (zE X.K E (mOwnR (fInO true) ma i)) := pe_weak (pe_cmpR (op_notInDT hu) ha (pe_var hN hv hd hcd) rfl) (zownR_core (w_inO (neg := true)))
theorem zt_of {t : TE} {e : Expr} (h : PE X e t) (w : ∀ σ H Q, zE X.K E m σ H Q → t σ H Q) (he : ∀ whole, isTrue e X.env whole = (do let v ← whole; standAt e.pos; holding [v] (truthy v)) := by intro _; rfl) : PT X e (zB X.K E (mTest m)) :=
  pt_weak (pt_val h he) fun σ H Q q => zt_core w σ H Q q
theorem zt_cmpT {op : CmpOp} {r : R2} {ta tb : TE} (ho : OpR X (compareOp op) r) (ha : PE X a ta) (hb : PE X b tb) (hm : behindInMarks op b = false) (w : ∀ σ H Q, zE X.K E m σ H Q → tOp r ta tb σ H Q) : PT X (.Compare a [op] [b] pos) (zB X.K E (mTest m)) :=
  pt_weak (pt_cmpR ho ha hb hm) fun σ H Q q => zt_core w σ H Q q
theorem zt_inO (i : Nat) (hu : X.A.units + 65 < cLine) (ha : PE X a (zE X.K E ma)) (hN : X.N[i]? = some x := by rfl) (hv : Vis X.env.scope x := by first | exact Or.inl rfl | exact Or.inr (Or.inl rfl) | exact Or.inr (Or.inr rfl)) (hd : (x == ("__debug__" : PySem.Str)) = false := by decide)
    (hcd : (x == ("__classdict__" : PySem.Str)) = false := by decide) : PT X (.Compare a [.In] [.Name x p] pos) (zB X.K E (mTest (mOwnR (fInO false) ma i))) := zt_cmpT (op_inDT hu) ha (pe_var hN hv hd hcd) rfl (zownR_core (w_inO (neg := false)))
theorem zt_notInO (i : Nat) (hu : X.A.units + 65 < cLine) (ha : PE X a (zE X.K E ma)) (hN : X.N[i]? = some x := by rfl) (hv : Vis X.env.scope x := by first | exact Or.inl rfl | exact Or.inr (Or.inl rfl) | exact Or.inr (Or.inr rfl)) (hd : (x == ("__debug__" : PySem.Str)) = false := by decide)
    (hcd : (x == ("__classdict__" : PySem.Str)) = false := by decide) : PT X (.Compare a [.NotIn] [.Name x p] pos) (zB X.K E (mTest (mOwnR (fInO true) ma i))) := zt_cmpT (op_notInDT hu) ha (pe_var hN hv hd hcd) rfl (zownR_core (w_inO (neg := true)))

def onS {α β : Type} (o : Option α) (f : α → Mir β) : Mir β := match o with
  | some a => f a
  | none => bad
theorem post_onS {α β : Type} {K : PySem.W.Frag} {pa : Bs} {O : List Addr} {H : Hp} {σ : L2.St} {env : Env} {g : Pen} {o : Option α} {f : α → Mir β} {S : β → Env → Pen → List Addr → Hp → Prop} (h : PostG K pa O H σ E (onS o f env g) S) : ∃ a, o = some a ∧ PostG K pa O H σ E (f a env g) S := by
  unfold onS at h
  cases o with
  | none => exact h.elim
  | some d => exact ⟨d, rfl, h⟩
/-! ### dicts that are read -/
def keyOf : D → Option Key
  | .int i => some (.inl i)
  | .str x => some (.inr x)
  | _ => none
def keysOf : List D → Option (List Key)
  | [] => some []
  | d :: r => match keyOf d, keysOf r with
    | some k, some ks => some (k :: ks)
    | _, _ => none
theorem keyOf_rep {K : PySem.W.Frag} {F : Hp} {d : D} {k : Key} {v : V} (h : keyOf d = some k) (r : Rep K F d v) : v = kV k ∧ d = kD k := by
  unfold keyOf at h
  split at h
  · cases h; simp only [Rep] at r; exact ⟨r, rfl⟩
  · cases h; simp only [Rep] at r; exact ⟨r, rfl⟩
  · cases h
theorem keysOf_rep {K : PySem.W.Frag} {F : Hp} : ∀ {ds : List D} {ks : List Key} {vs : List V}, keysOf ds = some ks → Reps K F ds vs → vs = ks.map kV ∧ ds = ks.map kD
  | [], ks, vs, h, r => by
    have h := Option.some.inj h
    subst h
    simp only [Reps] at r
    subst r
    exact ⟨rfl, rfl⟩
  | d :: ds, ks, vs, h, r => by
    simp only [Reps] at r
    obtain ⟨v, w, rfl, r1, r2⟩ := r
    unfold keysOf at h
    split at h
    · rename_i k ks' e1 e2
      cases h
      obtain ⟨h1, h2⟩ := keyOf_rep e1 r1
      obtain ⟨h3, h4⟩ := keysOf_rep e2 r2
      rw [h1, h2, h3, h4]
      exact ⟨rfl, rfl⟩
    · cases h
theorem keyOf_kD (k : Key) : keyOf (kD k) = some k := by cases k <;> rfl
theorem keysOf_kD : ∀ ks : List Key, keysOf (ks.map kD) = some ks
  | [] => rfl
  | k :: ks => by
    show (match keyOf (kD k), keysOf (ks.map kD) with
      | some k, some ks => some (k :: ks)
      | _, _ => none) = _
    rw [keyOf_kD, keysOf_kD ks]
/-- what a dict holds at a key (flat, or a tuple of flat ones) -/
def valD {κ : Type} [DecidableEq κ] (kvs : List (κ × D)) (k : κ) : Option D := (kvs.find? fun kv => decide (kv.1 = k)).map (·.2)
def fkeyK (kvs : List (D × D)) (k : Key) : Option D := (kvs.find? fun kv => decide (keyOf kv.1 = some k)).map (·.2)
def fkeyT (kvs : List (D × D)) (ks : List Key) : Option D := (kvs.find? fun kv => match kv.1 with
  | .tuple ds => decide (keysOf ds = some ks)
  | _ => false).map (·.2)
theorem RepK.val {K : PySem.W.Frag} {F : Hp} {k : Key} : ∀ {kvs : List (D × D)} {ks : List (Key × V)} {d : D}, RepK K F kvs ks → fkeyK kvs k = some d → ∃ v, valV ks k = some v ∧ Rep K F d v
  | [], _, _, _, e => by cases e
  | (q, x) :: kvs, ks, d, h, e => by
    simp only [RepK] at h
    obtain ⟨key, v, r, rfl, rfl, h1, h2⟩ := h
    unfold fkeyK at e
    rw [List.find?_cons] at e
    by_cases c : key = k
    · subst c
      rw [decide_eq_true (keyOf_kD key)] at e
      cases e
      exact ⟨v, valV_pos rfl, h1⟩
    · rw [decide_eq_false (by rw [keyOf_kD]; exact fun z => c (Option.some.inj z))] at e
      obtain ⟨v', e1, e2⟩ := RepK.val (k := k) h2 e
      exact ⟨v', by rw [valV_neg c]; exact e1, e2⟩
theorem RepT.val {K : PySem.W.Frag} {F : Hp} {k : List Key} : ∀ {kvs : List (D × D)} {ks : List (List Key × V)} {d : D}, RepT K F kvs ks → fkeyT kvs k = some d → ∃ v, valV ks k = some v ∧ Rep K F d v
  | [], _, _, _, e => by cases e
  | (q, x) :: kvs, ks, d, h, e => by
    simp only [RepT] at h
    obtain ⟨key, v, r, rfl, rfl, h1, h2⟩ := h
    unfold fkeyT at e
    rw [List.find?_cons] at e
    by_cases c : key = k
    · subst c
      simp only [keysOf_kD, decide_true] at e
      cases e
      exact ⟨v, valV_pos rfl, h1⟩
    · have c' : ¬ keysOf (key.map kD) = some k := by rw [keysOf_kD]; exact fun z => c (Option.some.inj z)
      simp only [c', decide_false] at e
      obtain ⟨v', e1, e2⟩ := RepT.val (k := k) h2 e
      exact ⟨v', by rw [valV_neg c]; exact e1, e2⟩
theorem RepT.noK {K : PySem.W.Frag} {F : Hp} {k : Key} {d : D} : ∀ {kvs : List (D × D)} {ks : List (List Key × V)}, RepT K F kvs ks → fkeyK kvs k ≠ some d
  | [], _, _, e => by cases e
  | (q, x) :: kvs, ks, h, e => by
    simp only [RepT] at h
    obtain ⟨key, v, r, rfl, rfl, h1, h2⟩ := h
    unfold fkeyK at e
    rw [List.find?_cons, decide_eq_false (fun z => by cases z)] at e
    exact RepT.noK h2 e
theorem RepK.noT {K : PySem.W.Frag} {F : Hp} {k : List Key} {d : D} : ∀ {kvs : List (D × D)} {ks : List (Key × V)}, RepK K F kvs ks → fkeyT kvs k ≠ some d
  | [], _, _, e => by cases e
  | (q, x) :: kvs, ks, h, e => by
    simp only [RepK] at h
    obtain ⟨key, v, r, rfl, rfl, h1, h2⟩ := h
    unfold fkeyT at e
    rw [List.find?_cons] at e
    cases key <;> exact RepK.noT h2 e
/-- d[k], the dict settled -/
def fDg (x y : Sl) : Mir Sl := match x, y with
  | .val (.dict kvs), .val (.tuple ds) => onS (keysOf ds) fun ks => ofO (fkeyT kvs ks)
  | .val (.dict kvs), .val k => onS (keyOf k) fun k => ofO (fkeyK kvs k)
  | .ok kvs, .val k => onS (keyOf k) fun k => ofO (valD kvs k)
  | .ot kvs, .val (.tuple ds) => onS (keysOf ds) fun ks => ofO (valD kvs ks)
  | _, _ => bad
def rDg : R2 := fun x y H Q => ∃ a v, x = .ref a ∧ DGet H a y (some v) ∧ Q v H
theorem fkeyK_map (kvs : List (Key × D)) (k : Key) : fkeyK (kvs.map fun q => (kD q.1, q.2)) k = valD kvs k := by
  induction kvs with
  | nil => rfl
  | cons p r ih =>
    unfold fkeyK valD at ih ⊢
    rw [List.map_cons, List.find?_cons, List.find?_cons]
    by_cases c : p.1 = k
    · rw [decide_eq_true (show keyOf (kD p.1) = some k by rw [keyOf_kD, c]), decide_eq_true c]
      rfl
    · rw [decide_eq_false (show ¬ keyOf (kD p.1) = some k by rw [keyOf_kD]; exact fun z => c (Option.some.inj z)), decide_eq_false c]
      exact ih
theorem fkeyT_map (kvs : List (List Key × D)) (k : List Key) : fkeyT (kvs.map fun q => (.tuple (q.1.map kD), q.2)) k = valD kvs k := by
  induction kvs with
  | nil => rfl
  | cons p r ih =>
    unfold fkeyT valD at ih ⊢
    rw [List.map_cons, List.find?_cons, List.find?_cons]
    by_cases c : p.1 = k
    · simp only [keysOf_kD, c, decide_true]
      rfl
    · have c' : ¬ keysOf (p.1.map kD) = some k := by rw [keysOf_kD]; exact fun z => c (Option.some.inj z)
      simp only [c', decide_false, c]
      exact ih
theorem CloAt.noT {F : Hp} {kvs : List (D × D)} {a : Addr} {ks : List Key} {d : D} (h : CloAt F kvs a) : fkeyT kvs ks ≠ some d := by
  obtain ⟨k, n, L, rfl, _⟩ := h
  intro e
  cases e
theorem CloAt.noK {F : Hp} {kvs : List (D × D)} {a : Addr} {ks : Key} {d : D} (h : CloAt F kvs a) : fkeyK kvs ks ≠ some d := by
  obtain ⟨k, n, L, rfl, _⟩ := h
  intro e
  cases e
theorem w_dg : ∀ x y H Q, zR2 X.K E fDg x y H Q → rDg x y H Q := fun x y H Q ⟨pa, O, σ, env, g, sx, sy, R, ox, rx, oy, ry, h⟩ => by
  unfold fDg at h
  split at h
  · obtain ⟨ks, hk, h⟩ := post_onS h
    obtain ⟨d, e, h⟩ := post_ofO h
    have rx : Rep X.K (mask pa O H) _ x := rx
    have ry : Rep X.K (mask pa O H) _ y := ry
    simp only [Rep] at rx ry
    obtain ⟨b, us, rfl, hb, hv⟩ := ry
    obtain ⟨h1, _⟩ := keysOf_rep hk hv
    subst h1
    obtain ⟨q, o, rfl, ⟨ks', hq, hr⟩ | ⟨ks', hq, hr⟩ | hr⟩ := rx
    · exact absurd e hr.noT
    · obtain ⟨v, e1, e2⟩ := hr.val e
      exact ⟨q, v, rfl, .inr ⟨ks', ks, b, .inr ⟨o, mask_le _ _ hq⟩, rfl, mask_le _ _ hb, e1.symm⟩, post_flat R h e2⟩
    · exact absurd e hr.noT
  · obtain ⟨k, hk, h⟩ := post_onS h
    obtain ⟨d, e, h⟩ := post_ofO h
    have rx : Rep X.K (mask pa O H) _ x := rx
    simp only [Rep] at rx
    obtain ⟨h1, _⟩ := keyOf_rep hk ry
    subst h1
    obtain ⟨q, o, rfl, ⟨ks', hq, hr⟩ | ⟨ks', hq, hr⟩ | hr⟩ := rx
    · obtain ⟨v, e1, e2⟩ := hr.val e
      exact ⟨q, v, rfl, .inl ⟨ks', k, .inr ⟨o, mask_le _ _ hq⟩, rfl, e1.symm⟩, post_flat R h e2⟩
    · exact absurd e hr.noK
    · exact absurd e hr.noK
  · cases ox
  · cases ox
  · exact h.elim
theorem w_dgO : ∀ x y H Q, zR2o X.K E fDg x y H Q → rDg x y H Q := fun x y H Q ⟨pa, O, σ, env, g, sx, sy, R, rx, ry, ho, h⟩ => by
  unfold fDg at h
  split at h
  · rcases ho with z | z <;> cases z
  · rcases ho with z | z <;> cases z
  · obtain ⟨k, hk, h⟩ := post_onS h
    obtain ⟨d, e, h⟩ := post_ofO h
    obtain ⟨h1, _⟩ := keyOf_rep hk ry
    subst h1
    obtain ⟨q, ks', rfl, _, hq, hr⟩ := rx
    obtain ⟨v, e1, e2⟩ := hr.val (by rw [fkeyK_map]; exact e)
    exact ⟨q, v, rfl, .inl ⟨ks', k, .inl hq, rfl, e1.symm⟩, post_flat R h e2⟩
  · obtain ⟨ks, hk, h⟩ := post_onS h
    obtain ⟨d, e, h⟩ := post_ofO h
    have ry : Rep X.K (mask pa O H) _ y := ry
    simp only [Rep] at ry
    obtain ⟨b, us, rfl, hb, hv⟩ := ry
    obtain ⟨h1, _⟩ := keysOf_rep hk hv
    subst h1
    obtain ⟨q, ks', rfl, _, hq, hr⟩ := rx
    obtain ⟨v, e1, e2⟩ := hr.val (by rw [fkeyT_map]; exact e)
    exact ⟨q, v, rfl, .inr ⟨ks', ks, b, .inl hq, rfl, mask_le _ _ hb, e1.symm⟩, post_flat R h e2⟩
  · exact h.elim
theorem zx_dg (hu : X.A.units + 1 < cLine) (ha : PE X a (zE X.K E ma)) (hb : PE X b (zE X.K E mb)) (hs : NoSl b := by exact fun _ _ => rfl) : PE X (.Subscript a b pos) (zE X.K E (mOp fDg ma mb)) := pe_weak (pe_dget hu ha hb hs) (zop_core w_dg)
theorem zx_dgO (i : Nat) (hu : X.A.units + 1 < cLine) (hb : PE X b (zE X.K E mb)) (hs : NoSl b := by exact fun _ _ => rfl) (hN : X.N[i]? = some x := by rfl) (hv : Vis X.env.scope x := by first | exact Or.inl rfl | exact Or.inr (Or.inl rfl) | exact Or.inr (Or.inr rfl)) (hd : (x == ("__debug__" : PySem.Str)) = false := by decide)
    (hcd : (x == ("__classdict__" : PySem.Str)) = false := by decide) : PE X (.Subscript (.Name x p) b pos) (zE X.K E (mOwn fDg i mb)) := pe_weak (pe_dget hu (pe_var hN hv hd hcd) hb hs) (zown_core w_dgO)
/-- k in d, d of the slot's own -/
def fDin (neg : Bool) (x y : Sl) : Mir Sl := match x, y with
  | .val k, .ok kvs => onS (keyOf k) fun k => ret (.val (.bool (if neg then !(valD kvs k).isSome else (valD kvs k).isSome)))
  | .val (.tuple ds), .ot kvs => onS (keysOf ds) fun ks => ret (.val (.bool (if neg then !(valD kvs ks).isSome else (valD kvs ks).isSome)))
  | _, _ => bad
theorem RepK.valO {K : PySem.W.Frag} {F : Hp} {k : Key} : ∀ {kvs : List (Key × D)} {ks : List (Key × V)}, RepK K F (kvs.map fun q => (kD q.1, q.2)) ks → (valV ks k).isSome = (valD kvs k).isSome
  | [], ks, h => by simp only [List.map_nil, RepK] at h; subst h; rfl
  | p :: kvs, ks, h => by
    rw [List.map_cons] at h
    simp only [RepK] at h
    obtain ⟨key, v, r, rfl, hk, h1, h2⟩ := h
    have hk : p.1 = key := by
      have := congrArg keyOf hk
      rw [keyOf_kD, keyOf_kD] at this
      exact Option.some.inj this
    unfold valD
    rw [List.find?_cons]
    by_cases c : p.1 = k
    · rw [decide_eq_true c, valV_pos (by rw [← hk]; exact c)]
      rfl
    · rw [decide_eq_false c, valV_neg (by rw [← hk]; exact c)]
      exact RepK.valO h2
theorem RepT.valO {K : PySem.W.Frag} {F : Hp} {k : List Key} : ∀ {kvs : List (List Key × D)} {ks : List (List Key × V)}, RepT K F (kvs.map fun q => (.tuple (q.1.map kD), q.2)) ks → (valV ks k).isSome = (valD kvs k).isSome
  | [], ks, h => by simp only [List.map_nil, RepT] at h; subst h; rfl
  | p :: kvs, ks, h => by
    rw [List.map_cons] at h
    simp only [RepT] at h
    obtain ⟨key, v, r, rfl, hk, h1, h2⟩ := h
    have hk : p.1 = key := by
      have hk := PyData.tuple.inj hk
      have := congrArg keysOf hk
      rw [keysOf_kD, keysOf_kD] at this
      exact Option.some.inj this
    unfold valD
    rw [List.find?_cons]
    by_cases c : p.1 = k
    · rw [decide_eq_true c, valV_pos (by rw [← hk]; exact c)]
      rfl
    · rw [decide_eq_false c, valV_neg (by rw [← hk]; exact c)]
      exact RepT.valO h2
def rDin (neg : Bool) : R2 := fun y x H Q => ∃ a o, x = .ref a ∧ DGet H a y o ∧ Q (.bl (if neg then !o.isSome else o.isSome)) H
theorem w_din {neg : Bool} : ∀ x y H Q, zR2o X.K E (fDin neg) x y H Q → rDin neg x y H Q := fun x y H Q ⟨pa, O, σ, env, g, sx, sy, R, rx, ry, ho, h⟩ => by
  unfold fDin at h
  split at h
  · obtain ⟨k, hk, h⟩ := post_onS h
    obtain ⟨h1, _⟩ := keyOf_rep hk rx
    subst h1
    obtain ⟨q, ks', rfl, _, hq, hr⟩ := ry
    refine ⟨q, valV ks' k, rfl, .inl ⟨ks', k, .inl hq, rfl, rfl⟩, post_flat R h ?_⟩
    rw [hr.valO]
    simp only [Rep]
  · obtain ⟨ks, hk, h⟩ := post_onS h
    have rx : Rep X.K (mask pa O H) _ x := rx
    simp only [Rep] at rx
    obtain ⟨b, us, rfl, hb, hv⟩ := rx
    obtain ⟨h1, _⟩ := keysOf_rep hk hv
    subst h1
    obtain ⟨q, ks', rfl, _, hq, hr⟩ := ry
    refine ⟨q, valV ks' ks, rfl, .inr ⟨ks', ks, b, .inl hq, rfl, mask_le _ _ hb, rfl⟩, post_flat R h ?_⟩
    rw [hr.valO]
    simp only [Rep]
  · exact h.elim
theorem zx_din (i : Nat) (hu : X.A.units + 1 < cLine) (ha : PE X a (zE X.K E ma)) (hN : X.N[i]? = some x := by rfl) (hv : Vis X.env.scope x := by first | exact Or.inl rfl | exact Or.inr (Or.inl rfl) | exact Or.inr (Or.inr rfl)) (hd : (x == ("__debug__" : PySem.Str)) = false := by decide)
    (hcd : (x == ("__classdict__" : PySem.Str)) = false := by decide) : PE X (.Compare a [.In] [.Name x p] pos) (zE X.K E (mOwnR (fDin false) ma i)) := pe_weak (pe_cmp (pc_din hu ha (pe_var hN hv hd hcd)) rfl) (zownR_core (r := rDin false) w_din)
theorem zx_dnotin (i : Nat) (hu : X.A.units + 1 < cLine) (ha : PE X a (zE X.K E ma)) (hN : X.N[i]? = some x := by rfl) (hv : Vis X.env.scope x := by first | exact Or.inl rfl | exact Or.inr (Or.inl rfl) | exact Or.inr (Or.inr rfl)) (hd : (x == ("__debug__" : PySem.Str)) = false := by decide)
    (hcd : (x == ("__classdict__" : PySem.Str)) = false := by decide) : PE X (.Compare a [.NotIn] [.Name x p] pos) (zE X.K E (mOwnR (fDin true) ma i)) := pe_weak (pe_cmp (pc_dnotin hu ha (pe_var hN hv hd hcd)) rfl) (zownR_core (r := rDin true) w_din)
theorem zt_din (i : Nat) (hu : X.A.units + 1 < cLine) (ha : PE X a (zE X.K E ma)) (hN : X.N[i]? = some x := by rfl) (hv : Vis X.env.scope x := by first | exact Or.inl rfl | exact Or.inr (Or.inl rfl) | exact Or.inr (Or.inr rfl)) (hd : (x == ("__debug__" : PySem.Str)) = false := by decide)
    (hcd : (x == ("__classdict__" : PySem.Str)) = false := by decide) : PT X (.Compare a [.In] [.Name x p] pos) (zB X.K E (mTest (mOwnR (fDin false) ma i))) :=
  pt_weak (pt_cmp (pc_din hu ha (pe_var hN hv hd hcd)) rfl) fun σ H Q q => zt_core (zownR_core (r := rDin false) w_din) σ H Q q
theorem zt_dnotin (i : Nat) (hu : X.A.units + 1 < cLine) (ha : PE X a (zE X.K E ma)) (hN : X.N[i]? = some x := by rfl) (hv : Vis X.env.scope x := by first | exact Or.inl rfl | exact Or.inr (Or.inl rfl) | exact Or.inr (Or.inr rfl)) (hd : (x == ("__debug__" : PySem.Str)) = false := by decide)
    (hcd : (x == ("__classdict__" : PySem.Str)) = false := by decide) : PT X (.Compare a [.NotIn] [.Name x p] pos) (zB X.K E (mTest (mOwnR (fDin true) ma i))) :=
  pt_weak (pt_cmp (pc_dnotin hu ha (pe_var hN hv hd hcd)) rfl) fun σ H Q q => zt_core (zownR_core (r := rDin true) w_din) σ H Q q
/-! ### slices -/
def intOf : Sl → Option Int
  | .val (.int i) => some i
  | _ => none
abbrev OMir := Option (Mir Sl)
/-- a part of a slice -/
def mPart (m : OMir) : Mir (Option Int) := match m with
  | none => ret none
  | some m => bnd m fun sl => onS (intOf sl) fun i => ret (some i)
def cutD (xs : List D) (lo hi : Option Int) : List D := (xs.drop (HT.sIx xs.length 0 lo)).take (HT.sIx xs.length xs.length hi - HT.sIx xs.length 0 lo)
def fSl (x : Sl) (lo hi : Option Int) : Mir Sl := match x with
  | .val (.tuple xs) => ret (.val (.tuple (cutD xs lo hi)))
  | .val (.list xs) => ret (.ol (cutD xs lo hi))
  | _ => bad
def mSl (m : Mir Sl) (lo hi : OMir) : Mir Sl := bnd m fun x => if x.own = true then bad else bnd (mPart lo) fun l => bnd (mPart hi) fun u => fSl x l u
/-- the reading of a part -/
inductive PartR (X : Cx) (E : Wx) : Option Expr → OMir → TO → Prop where
  | no : PartR X E none none tNoPart
  | yes {e : Expr} {m : Mir Sl} : PE X e (zE X.K E m) → PartR X E (some e) (some m) (tPart (zE X.K E m))
theorem PartR.po {o : Option Expr} {m : OMir} {t : TO} (h : PartR X E o m t) : PO X o t := by
  cases h with
  | no => exact po_none
  | yes h => exact po_some h
theorem bnd_assoc {α β γ : Type} (m : Mir α) (f : α → Mir β) (k : β → Mir γ) (env : Env) (g : Pen) : bnd (bnd m f) k env g = bnd m (fun a => bnd (f a) k) env g := by
  unfold bnd
  cases m env g <;> rfl
theorem PartR.run {o : Option Expr} {mm : OMir} {t : TO} (hp : PartR X E o mm t) {pa : Bs} {O : List Addr} {H : Hp} {σ : L2.St} {env : Env} {g : Pen} {β : Type} {f : Option Int → Mir β} {S : β → Env → Pen → List Addr → Hp → Prop} {Q : Option Int → Hp → Prop}
    (R : Rel X.K pa O H σ env g) (h : PostG X.K pa O H σ E (bnd (mPart mm) f env g) S)
    (k : ∀ (l : Option Int) env' g' O' H', Same (mask pa O H) (mask pa O' H') → Rel X.K pa O' H' σ env' g' → PostG X.K pa O' H' σ E (f l env' g') S → Q l H') : t σ H Q := by
  cases hp with
  | no => exact k Option.none env g O H (Same.refl _) R h
  | yes he =>
    rename_i e m
    have h : PostG X.K pa O H σ E (bnd (bnd m fun sl => onS (intOf sl) fun i => ret (Option.some i)) f env g) S := h
    rw [bnd_assoc] at h
    refine ⟨pa, O, env, g, R, postX_bnd h fun sl env' g' v O' H' e s R' o q => ?_⟩
    cases hi : intOf sl with
    | none => simp only [hi] at q; exact q.elim
    | some i =>
      simp only [hi] at q
      have hv : v = .int i := by
        unfold intOf at hi
        split at hi
        · cases hi
          have r : Rep X.K (mask pa O' H') _ v := o.1
          simp only [Rep] at r
          exact r
        · cases hi
      exact ⟨i, hv, k (Option.some i) env' g' O' H' s R' q⟩
theorem Reps.take {K : PySem.W.Frag} {F : Hp} : ∀ {ds : List D} {vs : List V} (n : Nat), Reps K F ds vs → Reps K F (ds.take n) (vs.take n)
  | _, _, 0, _ => by simp [Reps]
  | [], vs, n + 1, h => by
    have h : vs = [] := by simpa [Reps] using h
    subst h
    simp [Reps]
  | d :: ds, vs, n + 1, h => by
    simp only [Reps] at h
    obtain ⟨v, r, rfl, h1, h2⟩ := h
    rw [List.take_succ_cons, List.take_succ_cons]
    simp only [Reps]
    exact ⟨v, _, rfl, h1, Reps.take n h2⟩
theorem Reps.drop {K : PySem.W.Frag} {F : Hp} : ∀ {ds : List D} {vs : List V} (n : Nat), Reps K F ds vs → Reps K F (ds.drop n) (vs.drop n)
  | _, _, 0, h => h
  | [], vs, n + 1, h => by
    have h : vs = [] := by simpa [Reps] using h
    subst h
    simp [Reps]
  | d :: ds, vs, n + 1, h => by
    simp only [Reps] at h
    obtain ⟨v, r, rfl, h1, h2⟩ := h
    exact Reps.drop n h2
theorem Reps.cut {K : PySem.W.Frag} {F : Hp} {ds : List D} {vs : List V} (h : Reps K F ds vs) (lo hi : Option Int) : Reps K F (cutD ds lo hi) (cutV vs lo hi) := by
  unfold cutD cutV
  rw [h.length]
  exact (h.drop _).take _
theorem cutD_whole {ds : List D} {lo hi : Option Int} (h1 : HT.sIx ds.length 0 lo = 0) (h2 : HT.sIx ds.length ds.length hi = ds.length) : cutD ds lo hi = ds := by
  unfold cutD
  rw [h1, h2]
  simp
theorem zx_sl {lo hi : Option Expr} {ml mh : OMir} {tl th : TO} {p2 : Pos} (ha : PE X a (zE X.K E ma)) (hl : PartR X E lo ml tl) (hh : PartR X E hi mh th) : PE X (.Subscript a (.Slice lo hi none p2) pos) (zE X.K E (mSl ma ml mh)) := by
  refine pe_weak (pe_slice (sl_list.or sl_tupA) ha hl.po hh.po) fun σ H Q ⟨pa, O, env, g, R, h⟩ => ?_
  refine ⟨pa, O, env, g, R, postX_bnd h fun sx env' g' x O' H' e s R' o q => ?_⟩
  cases hx : sx.own with
  | true => rw [if_pos hx] at q; exact q.elim
  | false =>
    rw [if_neg (by rw [hx]; exact Bool.false_ne_true)] at q
    refine hl.run R' q fun l env2 g2 O2 H2 s2 R2 q2 => hh.run R2 q2 fun u env3 g3 O3 H3 s3 R3 q3 => ?_
    have rx := o.1.later hx (s2.trans s3)
    unfold fSl at q3
    split at q3
    · have rx : Rep X.K (mask pa O3 H3) _ x := rx
      simp only [Rep] at rx
      obtain ⟨b, vs, rfl, hb, hv⟩ := rx
      refine .inr ⟨b, vs, rfl, sqt mask_le hb, fun hw => ?_, fun hw t ht => ?_⟩
      · refine post_flat R3 q3 ?_
        rw [cutD_whole (by rw [hv.length]; exact hw.1) (by rw [hv.length]; exact hw.2)]
        simp only [Rep]
        exact ⟨b, vs, rfl, hb, hv⟩
      · obtain ⟨R4, s4, hm⟩ := R3.new (o := .tup (cutV vs l u)) ht
        refine q3 _ _ s4 R4 _ (Out.plain ?_ rfl)
        show Rep _ _ (.tuple _) _
        simp only [Rep]
        exact ⟨t, _, rfl, hm, (hv.cut l u).mono s4⟩
    · have rx : Rep X.K (mask pa O3 H3) _ x := rx
      simp only [Rep] at rx
      obtain ⟨b, vs, rfl, hb, hv⟩ := rx
      refine .inl ⟨b, vs, rfl, sql mask_le hb, fun t ht => ?_⟩
      obtain ⟨s4, R4, o4⟩ := R3.newList (hv.cut l u) ht
      exact q3 _ _ s4 R4 _ o4
    · exact q3.elim
end
end Z
end
section
set_option linter.all false
set_option maxRecDepth 100000
set_option maxHeartbeats 1000000
/-! ZF: what a def promises by its mirror; calls. -/
namespace Z
open PySem PySem.Spec PyProof.Rows L2

/-! ### contexts -/
/-- an expression's context: room for calls, nothing under way that is being told -/
structure Exp (X : Cx) (E : XK) (k : Nat) : Prop where
  calm : X.calm = true
  nd : X.N.Nodup
  pass : Passes (L2.CX X.prog X.w) X E
  gd : X.A.guards = some []
  room : Room k X.A
theorem Exp.hu {X : Cx} {E : XK} {k : Nat} (B : Exp X E k) : X.A.units + 200 < cLine := by have := B.room.un; omega
theorem Exp.u1 {X : Cx} {E : XK} {k : Nat} (B : Exp X E k) : X.A.units + 1 < cLine := by have := B.hu; omega
theorem Exp.u64 {X : Cx} {E : XK} {k : Nat} (B : Exp X E k) : X.A.units + 64 < cLine := by have := B.hu; omega
theorem Exp.u65 {X : Cx} {E : XK} {k : Nat} (B : Exp X E k) : X.A.units + 65 < cLine := by have := B.hu; omega
theorem Exp.blk {X : Cx} {E : XK} {k : Nat} (B : Exp X E k) {s : Shared} {H : Hp} {scope : Scope} {cenv : PySem.Env} {fp : List Addr} : Exp (X.blk s H scope cenv fp) E0 k := ⟨B.calm, B.nd, passL, B.gd, B.room⟩

/-! ### what a def promises -/
inductive FRes where
  | ok (sl : Sl) (g : Pen)
  | exc (x : Xc) (g : Pen)
  | bad
abbrev FMir := List Sl → Pen → FRes
def PostF (K : PySem.W.Frag) (pa : Bs) (H : Hp) (E : Wx) (r : FRes) (Q : VK) : Prop := match r with
  | .ok sl g' => ∀ v O' H', Same (mask pa pa.hid H) (mask pa O' H') → Bas pa O' H' g' → SlRep K pa O' H' sl v → (sl.own = true → ∀ a ∈ pa.hid, v ≠ .ref a) → Q v H'
  | .exc x g' => PostE K pa pa.hid H E x g'
  | .bad => False
abbrev SpG := Shared → List V → Hp → VK → XK → Prop
/-- the promise by the mirror -/
def spM (K : PySem.W.Frag) (ca : PySem.Str → Addr) (n : Nat) (mf : FMir) : SpG := fun _ vs H Q E => vs.length = n ∧ ∃ pa g l, SlReps K pa pa.hid H l vs ∧ Bas pa pa.hid H g ∧ PostF K pa H (ca, E) (mf l g) Q
structure FnG (P : Program) (w : World) (K : PySem.W.Frag) (mg : PySem.Str → Option Value) (base : Heap) (CX : CXT) (k : Nat) (f : Addr) (fd : FuncData) (ps : List PySem.Str) (sp : SpG) : Prop where
  len : ∀ s vs H Q E, sp s vs H Q E → vs.length = ps.length
  run : ∀ (A : Around) (outer : List PySem.Env) (s : Shared) (H : Hp) (args : Args) (us : List Value) (vs : List V) (Q : VK) (E : XK), Room k A → A.guards = some [] → Env0 P w K mg base A outer s H → BindsTo s fd args (ps.zip us) → Vals vs us → sp s vs H Q E →
    codeAny (model P w) A (.call (.ref f) args) (CR CX outer P w H s Q E) s
theorem FnG.mono {P : Program} {w : World} {K : PySem.W.Frag} {mg : PySem.Str → Option Value} {base : Heap} {CX : CXT} {j k : Nat} {f : Addr} {fd : FuncData} {ps : List PySem.Str} {sp : SpG} (F : FnG P w K mg base CX j f fd ps sp) (h : j ≤ k) :
    FnG P w K mg base CX k f fd ps sp := ⟨F.len, fun A outer s H args us vs Q E hr => F.run A outer s H args us vs Q E (hr.mono h)⟩
/-- what a call hands back where the body has ended: its value, or None -/
def flowV : Flow → Value
  | .ret u => u
  | _ => .none
/-- the end of a body, seen from where it was called -/
theorem flow_end {X : Cx} {outer : List PySem.Env} {P : Program} {w : World} {H : Hp} {s : Shared} {Q : VK} {fl : Flow} {s' : Shared} (leave : ∀ σ' H', Inv X [] σ' H' s' → s'.os = s.os ∧ AllBare s'.gens ∧ Un (frs outer) [] H H' s.heap s'.heap ∧ HOk P w H' s'.heap)
    (h : SP X [] { nx := fun _ H' => Q .non H', rt := Q } fl s') : CE outer P w H s Q (flowV fl) s' :=
  match fl, h with
  | .brk, ⟨_, _, _, q⟩ => q.elim
  | .cont, ⟨_, _, _, q⟩ => q.elim
  | .next, ⟨σ', H', J, q⟩ => let ⟨e1, e2, e3, e4⟩ := leave σ' H' J; ⟨.non, H', e1, e2, e3, e4, rfl, q⟩
  | .ret _, ⟨v, σ', H', J, rv, q⟩ => let ⟨e1, e2, e3, e4⟩ := leave σ' H' J; ⟨v, H', e1, e2, e3, e4, rv, q⟩
/-- a parameter's home -/
theorem par_home {N ps : List PySem.Str} {scope : Scope} (S : FnScope N ps scope) (n : Nat) {us : List Value} {y : PySem.Str × Value} (hy : y ∈ ps.zip us) : scope.names.lookup y.1 = some .local ∨ (scope.names.lookup y.1 = some .cell ∧ ((cellsFrom n scope.names []).lookup y.1).isSome = true) := by
  have hm : y.1 ∈ ps := by
    have : (y.1, y.2) ∈ ps.zip us := hy
    exact (List.of_mem_zip this).1
  cases S.par y.1 hm with
  | inl hl => exact Or.inl hl
  | inr hc => exact Or.inr (And.intro hc (PySem.W.cellsFrom_some _ _ _ (Or.inl hc)))
/-- a def by its body. The body's proof may use the state of the call, that nothing is guarded there, and the def's code object -/
theorem fnG_ofC {CX : CXT} {P : Program} {w : World} {K : PySem.W.Frag} {mg : PySem.Str → Option Value} {base : Heap} {k : Nat} {f : Addr} {x qual : PySem.Str} {params : Arguments} {body : List Stmt} {scope : Scope} {fd : FuncData} {N ps : List PySem.Str} {sp : SpG}
    (F : FunD K x qual params body scope [] [] f fd) (S : FnScope N ps scope) (len : ∀ s vs H Q E, sp s vs H Q E → vs.length = ps.length)
    (hbody : ∀ (cdv : Value) (A : Around) (outer : List PySem.Env) (s : Shared) (H : Hp) (vs : List V) (Q : VK) (E : XK), Room k (A.deeper (envOfC qual scope s.heap.objs.size f cdv)) → A.guards = some [] → sp s vs H Q E →
      fd.code = cdv → ∃ t, PSs (cxOf CX P w K mg base N qual scope f cdv A outer s H E) body t ∧ t { nx := fun _ H' => Q .non H', rt := Q } (L2.start N vs) H) : FnG P w K mg base CX (k + 1) f fd ps sp := by
  obtain ⟨cls, dct, dV, kV, doc, pm, an, cdv, ct, sl, rfl, hobj, hcode, -⟩ := F.ex
  constructor
  · exact len
  intro A outer s H args us vs Q E room calm env0 binds rel prom
  have stays : ∀ b o, base.get? b = some o → s.heap.get? b = some o := fun b o e => (env0.bs b o e).1
  have inK := env0.mod.kin.keeps stays
  obtain ⟨t, ht, hq⟩ := hbody cdv A outer s H vs Q E (room.deeper _) calm prom rfl
  refine codeAny_call_function room.depth (inK f _ hobj) rfl S.co S.gen rfl (PySem.W.codeRec_of inK hcode) (binds _ _ _ _ (wpAny_newFunctionEnv_cells S.kind (fun y hy => par_home S _ hy) ?_))
  rintro env rfl s1 called
  have I0 := inv_start (CX := CX) (mg := mg) (base := base) (qual := qual) (f := f) (cd := cdv) (E := E) S room.hd env0 (len _ _ _ _ _ prom) rel called
  have run := ht.run [] s1 (L2.start N vs) H _ I0 hq
  exact And.intro ((env0.mod.nolimit.keeps stays).keeps called.toInCall.keep) (codeAny_func (wpAny_mono run (fun fl s' h => flow_end (fun σ' H' J => ⟨J.os, J.bare, J.base, J.hok⟩) h) fun _ _ h => h))
/-- .. whatever its code object is -/
theorem fnG_of {CX : CXT} {P : Program} {w : World} {K : PySem.W.Frag} {mg : PySem.Str → Option Value} {base : Heap} {k : Nat} {f : Addr} {x qual : PySem.Str} {params : Arguments} {body : List Stmt} {scope : Scope} {fd : FuncData} {N ps : List PySem.Str} {sp : SpG}
    (F : FunD K x qual params body scope [] [] f fd) (S : FnScope N ps scope) (len : ∀ s vs H Q E, sp s vs H Q E → vs.length = ps.length)
    (hbody : ∀ (cdv : Value) (A : Around) (outer : List PySem.Env) (s : Shared) (H : Hp) (vs : List V) (Q : VK) (E : XK), Room k (A.deeper (envOfC qual scope s.heap.objs.size f cdv)) → A.guards = some [] → sp s vs H Q E →
      ∃ t, PSs (cxOf CX P w K mg base N qual scope f cdv A outer s H E) body t ∧ t { nx := fun _ H' => Q .non H', rt := Q } (L2.start N vs) H) : FnG P w K mg base CX (k + 1) f fd ps sp :=
  fnG_ofC F S len fun cdv A outer s H vs Q E hr hg q _ => hbody cdv A outer s H vs Q E hr hg q
/-- .. for a def whose body's reading is a mirror -/
def mBody (n : Nat) (m : Mir Ctl) : FMir := fun l g => match m (l.map some ++ List.replicate (n - l.length) none) g with
  | .ok .nx _ g' => .ok (.val .none) g'
  | .ok (.rt sl) _ g' => .ok sl g'
  | .exc x g' => .exc x g'
  | _ => .bad
theorem SlReps.length {K : PySem.W.Frag} {pa : Bs} {O : List Addr} {H : Hp} {l : List Sl} {vs : List V} (h : SlReps K pa O H l vs) : l.length = vs.length := Paired.length h
theorem SlReps.at_ {K : PySem.W.Frag} {pa : Bs} {O : List Addr} {H : Hp} : ∀ {l : List Sl} {vs : List V} {i : Nat} {sl : Sl}, SlReps K pa O H l vs → l[i]? = some sl → ∃ v, vs[i]? = some v ∧ sl.own = false ∧ SlRep K pa O H sl v
  | _, _, 0, sl, .cons r _, e => by
    have e := Option.some.inj e
    subst e
    exact ⟨_, rfl, r.1, r.2⟩
  | _, _, i + 1, sl, .cons _ t, e => SlReps.at_ (i := i) t e
  | _, _, i, sl, .nil, e => by simp at e
theorem body_start {K : PySem.W.Frag} {ca : PySem.Str → Addr} {N : List PySem.Str} {m : Mir Ctl} {s : Shared} {vs : List V} {H : Hp} {Q : VK} {E : XK} {k : Nat} (h : spM K ca k (mBody N.length m) s vs H Q E) (hl : vs.length ≤ N.length) :
    zS K (ca, E) m { nx := fun _ H' => Q .non H', rt := Q } (L2.start N vs) H := by
  obtain ⟨_, pa, g, l, hr, hp, h⟩ := h
  have hlen := hr.length
  have hno : ∀ {i : Nat} {sl : Sl}, (l.map some ++ List.replicate (N.length - l.length) none : Env)[i]? = some (some sl) → sl.own = false := fun {i sl} e1 => by
    by_cases hi : i < l.length
    · rw [List.getElem?_append_left (by simpa using hi), List.getElem?_map] at e1
      cases q : l[i]? with
      | none => rw [q] at e1; cases e1
      | some sl0 =>
        rw [q] at e1
        cases e1
        obtain ⟨v, h1, h2, h3⟩ := hr.at_ q
        exact h2
    · rw [List.getElem?_append_right (by simpa using hi), List.getElem?_replicate] at e1
      split at e1 <;> cases e1
  refine ⟨pa, pa.hid, l.map some ++ List.replicate (N.length - l.length) none, g, ⟨?_, hp, fun i sl e => ?_, fun i j sl sl' v e1 e2 e3 e4 o1 o2 => ?_, fun i sl a e o => ?_⟩, ?_⟩
  · unfold L2.start
    simp [hlen]
  · by_cases hi : i < l.length
    · rw [List.getElem?_append_left (by simpa using hi), List.getElem?_map] at e
      cases q : l[i]? with
      | none => rw [q] at e; cases e
      | some sl0 =>
        rw [q] at e
        cases e
        obtain ⟨v, h1, h2, h3⟩ := hr.at_ q
        refine ⟨v, ?_, h3⟩
        unfold L2.start
        rw [List.getElem?_append_left (by rw [List.length_map]; omega), List.getElem?_map, h1]
        rfl
    · rw [List.getElem?_append_right (by simpa using hi), List.getElem?_replicate] at e
      split at e <;> cases e
  · rw [hno e1] at o1; cases o1
  · rw [hno e] at o; cases o
  · unfold mBody at h
    cases e : m (l.map some ++ List.replicate (N.length - l.length) none) g with
    | bad => rw [e] at h; exact h.elim
    | exc x g' => rw [e] at h; exact h
    | ok c env' g' =>
      rw [e] at h
      cases c with
      | nx => exact fun σ' O' H' s R => h .non O' H' s R.bas (by show Rep K (mask pa O' H') .none .non; simp only [Rep]) (fun z => by cases z)
      | rt sl => exact fun v O' H' s a b c => h v O' H' s a b c
      | bk => exact h.elim
      | ct => exact h.elim

/-! ### calls of defs -/
def mFn (mf : FMir) : List Sl → Mir Sl := fun l env g => match mf l g with
  | .ok sl g' => .ok sl env g'
  | .exc x g' => .exc x g'
  | .bad => .bad
def mCall (F : List Sl → Mir Sl) (ms : Mir (List Sl)) : Mir Sl := bnd ms F
section
variable {X : Cx} {ca : PySem.Str → Addr} {E : XK} {e a b : Expr} {es : List Expr} {pos p : Pos} {m ma mb : Mir Sl} {ms : Mir (List Sl)} {x : PySem.Str}
/-- what a call's result means to the caller -/
theorem called_back {CX : CXT} {pins : List (Addr × Obj)} {σ : L2.St} {H : Hp} {s : Shared} {Q : VK} {E : XK} (hx : PassesAt CX X σ E) (I : Inv X pins σ H s) : ∀ (r : Result) (s' : Shared), CR CX X.stack X.prog X.w H s Q E r s' → match r with
    | .ok (.ret v) => EP X pins σ Q v s'
    | .ok _ => False
    | .error e => X.xe e s'
  | .error e, s', h => hx pins H s e s' I h
  | .ok (.ret _), _, h => I.after h
  | .ok .next, _, h => h
  | .ok .brk, _, h => h
  | .ok .cont, _, h => h
theorem run_fnG {sp : SpG} {CX : CXT} {k : Nat} {f : Addr} {fd : FuncData} {ps : List PySem.Str} {pins : List (Addr × Obj)} {σ : L2.St} {H : Hp} {s : Shared} {Q : VK} {us : List Value} {vs : List V} (F : FnG X.prog X.w X.K X.mg X.base CX k f fd ps sp) (hr : Room k X.A) (hgd : X.A.guards = some []) (hb : Binds X.K fd ps []) (hx : Passes CX X E)
    (I : Inv X pins σ H s) (r : Vals vs us) (h : sp s vs H Q E) : wpAny (model X.prog X.w) X.A (call (.ref f) us) (EP X pins σ Q) X.xe s := by
  have binds : BindsTo s fd ⟨us, []⟩ (ps.zip us) := by
    have := hb s us I.kIn (by rw [List.append_nil, ← r.length, F.len _ _ _ _ _ h])
    rwa [List.append_nil] at this
  exact wpAny_call (codeAny_mono (F.run X.A X.stack s H _ us vs Q E hr hgd I.env0 binds r h) (called_back (hx · σ) I))
/-- a global def called by its name: what is shown of the call is what the expression needs -/
theorem pe_named {f : Addr} {ta : TA} {R : List V → Hp → VK → Prop} (hg : Gl X x) (hm : X.mg x = some (.ref f)) (hk : PySem.W.keepIn X.K (.ref f) = true) (ha : PA X (e :: es) ta)
    (hrun : ∀ (pins : List (Addr × Obj)) (s : Shared) (σ : L2.St) (H : Hp) (Q : VK) (us : List Value) (vs : List V), Inv X pins σ H s → Vals vs us → R vs H Q → wpAny (model X.prog X.w) X.A (call (.ref f) us) (EP X pins σ Q) X.xe s)
    (hdb : (x == ("__debug__" : PySem.Str)) = false := by decide) (he : starEach (e :: es) X.env = (false, eval e X.env) :: starEach es X.env := by rfl) (hpl : (backTo pos (starEach es X.env)).any (·.1) = false := by rfl) :
    PE X (.Call (.Name x p) (e :: es) [] pos) (fun σ H Q => ta σ H fun vs H1 => R vs H1 Q) where
  run pins s σ H Q I h := by
    have args := ha.run pos pins s σ H _ I h
    exact wpAny_Call_Name_kw (ld_glob I hg hm (PySem.W.callWith_K I.ok.mod.kin hk (wpAny_mono args (by
      rintro us s1 ⟨vs, H1, I1, rel, q⟩
      exact And.intro I1.kIn (hrun pins s1 σ H1 Q us vs I1 rel q)) fun _ _ h => h) he hpl) hdb)
/-- the callee's base: all that is owned here is hidden -/
def Bs.under (pa : Bs) (O : List Addr) (H : Hp) : Bs := ⟨pa.a, O, H⟩
/-- from a call's end to the caller's view -/
theorem post_call {K : PySem.W.Frag} {pa : Bs} {O : List Addr} {H : Hp} {σ : L2.St} {env : Env} {g : Pen} {W : Wx} {mf : FMir} {l : List Sl} {Q : VK} (R : Rel K pa O H σ env g)
    (h : PostX K pa O H σ W (mFn mf l env g) Q) : Bas (pa.under O H) O H g ∧ PostF K (pa.under O H) H W (mf l g) Q := by
  refine ⟨⟨R.nopa, R.bas.dom, fun a ha => ⟨ha, rfl⟩, R.pen⟩, ?_⟩
  unfold mFn at h
  cases e : mf l g with
  | bad => rw [e] at h; exact h.elim
  | exc x g' =>
    rw [e] at h
    intro cls dd H' s b xr
    have keep : ∀ a ∈ pa.hid, a ∈ O ∧ H' a = pa.h0 a := fun a ha => ⟨(R.bas.hid a ha).1, (b.hid a (R.bas.hid a ha).1).2.trans (R.bas.hid a ha).2⟩
    have s2 : Same (mask pa O H') (mask pa pa.hid H') := mask_less fun a ha => (keep a ha).1
    have npa : pa.a ∉ pa.hid := fun z => R.nopa (R.bas.hid _ z).1
    refine h cls dd H' (Same.trans s s2) ⟨npa, fun a ha => b.dom a (keep a ha).1, fun a ha => ⟨ha, (keep a ha).2⟩, b.pen.mono s2 rfl⟩ ?_
    obtain ⟨h1, d, fs, h2, h3, h4, h5⟩ := xr
    exact ⟨h1, d, fs, h2, h3, h4, h5.mono s2⟩
  | ok sl g' =>
    rw [e] at h
    intro v O' H' s b r own
    have hin : ∀ a ∈ O, a ∈ O' ∧ H' a = H a := fun a ha => b.hid a ha
    have R2 : Rel K pa O' H' σ env g' := R.step s hin b.nopa b.dom b.pen
    refine h O' H' s R2 v ⟨r, fun o => ⟨fun a ha => own o a (R.bas.hid a ha).1, fun i sl' e1 o1 e2 => ?_⟩⟩
    obtain ⟨v', e3, r3⟩ := R.slot i sl' e1
    rw [e2] at e3
    cases e3
    obtain ⟨a, rfl, ha⟩ := r3.owned o1
    exact own o a ha rfl
/-- as many as are written -/
def ALen (ms : Mir (List Sl)) (n : Nat) : Prop := ∀ env g l env' g', ms env g = .ok l env' g' → l.length = n
theorem alen_nil : ALen mNil 0 := fun env g l env' g' h => by cases h; rfl
theorem alen_cons {m : Mir Sl} {ms : Mir (List Sl)} {n : Nat} (h : ALen ms n) : ALen (mCons m ms) (n + 1) := fun env g l env' g' e => by
  unfold mCons bnd at e
  cases h1 : m env g with
  | bad => rw [h1] at e; cases e
  | exc _ _ => rw [h1] at e; cases e
  | ok sl env1 g1 =>
    rw [h1] at e
    simp only at e
    split at e
    · cases e
    · simp only at e
      cases h2 : ms env1 g1 with
      | bad => rw [h2] at e; cases e
      | exc _ _ => rw [h2] at e; cases e
      | ok l2 env2 g2 =>
        rw [h2] at e
        simp only at e
        cases e
        rw [List.length_cons, h _ _ _ _ _ h2]
/-- what a mirror's call asks of the values that are handed over -/
def rM (K : PySem.W.Frag) (W : Wx) (n : Nat) (mf : FMir) : List V → Hp → VK → Prop := fun vs H Q => vs.length = n ∧ ∃ pa g l, SlReps K pa pa.hid H l vs ∧ Bas pa pa.hid H g ∧ PostF K pa H W (mf l g) Q
theorem zx_call {k j : Nat} {f : Addr} {fd : FuncData} {ps : List PySem.Str} {mf : FMir} (B : Exp X E k) (F : FnG X.prog X.w X.K X.mg X.base (L2.CX X.prog X.w) j f fd ps (spM X.K ca ps.length mf)) (hj : j ≤ k) (hg : Gl X x) (hm : X.mg x = some (.ref f)) (hk : PySem.W.keepIn X.K (.ref f) = true) (hb : Binds X.K fd ps [])
    (ha : PA X (e :: es) (zA X.K (ca, E) ms)) (hn : (e :: es).length = ps.length := by rfl) (hdb : (x == ("__debug__" : PySem.Str)) = false := by decide) (he : starEach (e :: es) X.env = (false, eval e X.env) :: starEach es X.env := by rfl) (hpl : (backTo pos (starEach es X.env)).any (·.1) = false := by rfl)
    (hms : ALen ms ps.length) : PE X (.Call (.Name x p) (e :: es) [] pos) (zE X.K (ca, E) (mCall (mFn mf) ms)) where
  run pins s σ H Q I h := by
    have pe := pe_named (p := p) (R := rM X.K (ca, E) ps.length mf) hg hm hk ha (fun pins s σ H Q us vs I rel q => run_fnG (F.mono hj) B.room B.gd hb B.pass I rel q) hdb he hpl
    refine pe.run pins s σ H Q I ?_
    obtain ⟨pa, O, env, g, R, h⟩ := h
    refine ⟨pa, O, env, g, R, postG_bnd h ?_⟩
    intro l env1 g1 O1 H1 el _ R1 q vs hvs
    have back := post_call R1 q
    exact ⟨hvs.length ▸ hms _ _ _ _ _ el, pa.under O1 H1, g1, l, hvs, back.1, back.2⟩
theorem zx_call0 {k j : Nat} {f : Addr} {fd : FuncData} {mf : FMir} (B : Exp X E k) (F : FnG X.prog X.w X.K X.mg X.base (L2.CX X.prog X.w) j f fd [] (spM X.K ca 0 mf)) (hj : j ≤ k) (hg : Gl X x) (hm : X.mg x = some (.ref f)) (hk : PySem.W.keepIn X.K (.ref f) = true) (hb : Binds X.K fd [] [])
    (hdb : (x == ("__debug__" : PySem.Str)) = false := by decide) : PE X (.Call (.Name x p) [] [] pos) (zE X.K (ca, E) (mCall (mFn mf) mNil)) where
  run pins s σ H Q I h := by
    obtain ⟨pa, O, env, g, R, h⟩ := h
    have back := post_call R (l := []) h
    have go := run_fnG (us := []) (F.mono hj) B.room B.gd hb B.pass I .nil ⟨rfl, pa.under O H, g, [], .nil, back.1, back.2⟩
    exact wpAny_Call_Name_kw (ld_glob I hg hm (PySem.W.callWith_K0 I.kIn hk go) hdb)

/-! ### built-ins, by values -/
def zR (K : PySem.W.Frag) (E : Wx) (F : List Sl → Mir Sl) : List V → Hp → VK → Prop := fun vs H Q => ∃ pa O σ env g l, Rel K pa O H σ env g ∧ SlReps K pa O H l vs ∧ PostX K pa O H σ E (F l env g) Q
variable {W : Wx}
theorem zcall_core {F : List Sl → Mir Sl} {r : List V → Hp → VK → Prop} (w : ∀ vs H Q, zR X.K W F vs H Q → r vs H Q) : ∀ σ H Q, zE X.K W (mCall F ms) σ H Q → tCB r (zA X.K W ms) σ H Q := fun σ H Q ⟨pa, O, env, g, R, h⟩ =>
  ⟨pa, O, env, g, R, postG_bnd h fun l env' g' O' H' e s R' q vs hvs => w vs H' Q ⟨pa, O', σ, env', g', l, R', hvs, q⟩⟩
theorem zx_callB {id : String} {F : List Sl → Mir Sl} {r : List V → Hp → VK → Prop} (hc : CallR X (.builtin id) r) (w : ∀ vs H Q, zR X.K W F vs H Q → r vs H Q) (hg : Gl X x) (hm : X.mg x = none) (hv : bootBuiltins x = some (.builtin id)) (ha : PA X (e :: es) (zA X.K W ms)) (hn : x ≠ "__name__" := by decide) (hdb : (x == ("__debug__" : PySem.Str)) = false := by decide)
    (he : starEach (e :: es) X.env = (false, eval e X.env) :: starEach es X.env := by rfl) (hpl : (backTo pos (starEach es X.env)).any (·.1) = false := by rfl) : PE X (.Call (.Name x p) (e :: es) [] pos) (zE X.K W (mCall F ms)) := pe_weak (pe_callB hc hg hm hv ha hn hdb he hpl) (zcall_core w)
theorem zx_callTy {T : String} {F : List Sl → Mir Sl} {r : List V → Hp → VK → Prop} (hc : CallR X (.type T) r) (w : ∀ vs H Q, zR X.K W F vs H Q → r vs H Q) (hg : Gl X x) (hm : X.mg x = none) (hv : bootBuiltins x = some (.type T)) (ha : PA X (e :: es) (zA X.K W ms)) (hn : x ≠ "__name__" := by decide) (hdb : (x == ("__debug__" : PySem.Str)) = false := by decide)
    (he : starEach (e :: es) X.env = (false, eval e X.env) :: starEach es X.env := by rfl) (hpl : (backTo pos (starEach es X.env)).any (·.1) = false := by rfl) : PE X (.Call (.Name x p) (e :: es) [] pos) (zE X.K W (mCall F ms)) := pe_weak (pe_callTy hc hg hm hv ha hn hdb he hpl) (zcall_core w)
end
end Z
end
section
set_option linter.all false
set_option maxRecDepth 100000
set_option maxHeartbeats 1000000
/-! ZG: built-ins. -/
namespace Z
open PySem PySem.Spec PyProof.Rows L2

section
variable {K : PySem.W.Frag} {F : Hp}
def intsOf : List D → Option (List Int)
  | [] => some []
  | .int i :: r => match intsOf r with
    | some is => some (i :: is)
    | none => none
  | _ => none
def boolsOf : List D → Option (List Bool)
  | [] => some []
  | .bool i :: r => match boolsOf r with
    | some is => some (i :: is)
    | none => none
  | _ => none
theorem intsOf_rep : ∀ {ds : List D} {is : List Int} {vs : List V}, intsOf ds = some is → Reps K F ds vs → vs = is.map V.int
  | [], is, vs, h, r => by
    have h := Option.some.inj h
    subst h
    simpa [Reps] using r
  | .int i :: ds, is, vs, h, r => by
    simp only [Reps] at r
    obtain ⟨v, w, rfl, r1, r2⟩ := r
    simp only [Rep] at r1
    subst r1
    unfold intsOf at h
    cases e : intsOf ds with
    | none => rw [e] at h; cases h
    | some js =>
      rw [e] at h
      cases h
      rw [intsOf_rep e r2]
      rfl
  | .none :: _, _, _, h, _ => by cases h
  | .bool _ :: _, _, _, h, _ => by cases h
  | .str _ :: _, _, _, h, _ => by cases h
  | .list _ :: _, _, _, h, _ => by cases h
  | .tuple _ :: _, _, _, h, _ => by cases h
  | .dict _ :: _, _, _, h, _ => by cases h
theorem boolsOf_rep : ∀ {ds : List D} {is : List Bool} {vs : List V}, boolsOf ds = some is → Reps K F ds vs → vs = is.map V.bl
  | [], is, vs, h, r => by
    have h := Option.some.inj h
    subst h
    simpa [Reps] using r
  | .bool i :: ds, is, vs, h, r => by
    simp only [Reps] at r
    obtain ⟨v, w, rfl, r1, r2⟩ := r
    simp only [Rep] at r1
    subst r1
    unfold boolsOf at h
    cases e : boolsOf ds with
    | none => rw [e] at h; cases h
    | some js =>
      rw [e] at h
      cases h
      rw [boolsOf_rep e r2]
      rfl
  | .none :: _, _, _, h, _ => by cases h
  | .int _ :: _, _, _, h, _ => by cases h
  | .str _ :: _, _, _, h, _ => by cases h
  | .list _ :: _, _, _, h, _ => by cases h
  | .tuple _ :: _, _, _, h, _ => by cases h
  | .dict _ :: _, _, _, h, _ => by cases h
theorem intsOf_map : ∀ is : List Int, intsOf (is.map PyData.int) = some is
  | [] => rfl
  | i :: is => by
    show (match intsOf (is.map PyData.int) with
      | some is => some (i :: is)
      | none => none) = _
    rw [intsOf_map is]
theorem boolsOf_map : ∀ is : List Bool, boolsOf (is.map PyData.bool) = some is
  | [] => rfl
  | i :: is => by
    show (match boolsOf (is.map PyData.bool) with
      | some is => some (i :: is)
      | none => none) = _
    rw [boolsOf_map is]
theorem intsOf_eq : ∀ {ds : List D} {is : List Int}, intsOf ds = some is → ds = is.map PyData.int
  | [], is, h => by have h := Option.some.inj h; subst h; rfl
  | .int i :: ds, is, h => by
    unfold intsOf at h
    cases e : intsOf ds with
    | none => rw [e] at h; cases h
    | some js =>
      rw [e] at h
      cases h
      rw [intsOf_eq e]
      rfl
  | .none :: _, _, h => by cases h
  | .bool _ :: _, _, h => by cases h
  | .str _ :: _, _, h => by cases h
  | .list _ :: _, _, h => by cases h
  | .tuple _ :: _, _, h => by cases h
  | .dict _ :: _, _, h => by cases h
end
/-- the items of a list or tuple -/
def seqOf : Sl → Option (List D)
  | .val (.list ds) => some ds
  | .val (.tuple ds) => some ds
  | _ => none
theorem slreps1 {K : PySem.W.Frag} {pa : Bs} {O : List Addr} {H : Hp} {sl : Sl} {vs : List V} (h : SlReps K pa O H [sl] vs) : ∃ v, vs = [v] ∧ sl.own = false ∧ SlRep K pa O H sl v := by
  cases h with
  | cons r t => cases t; exact ⟨_, rfl, r.1, r.2⟩
theorem slreps2 {K : PySem.W.Frag} {pa : Bs} {O : List Addr} {H : Hp} {sl sl' : Sl} {vs : List V} (h : SlReps K pa O H [sl, sl'] vs) : ∃ v v', vs = [v, v'] ∧ sl.own = false ∧ SlRep K pa O H sl v ∧ sl'.own = false ∧ SlRep K pa O H sl' v' := by
  cases h with
  | cons r t =>
    obtain ⟨v', rfl, h1, h2⟩ := slreps1 t
    exact ⟨_, _, rfl, r.1, r.2, h1, h2⟩
/-- a built-in of one argument -/
def g1 (f : Sl → Mir Sl) : List Sl → Mir Sl
  | [x] => f x
  | _ => bad
def g2 (f : Sl → Sl → Mir Sl) : List Sl → Mir Sl
  | [x, y] => f x y
  | _ => bad
section
variable {X : Cx} {W : Wx} {e a b : Expr} {es : List Expr} {pos p : Pos} {m ma mb : Mir Sl} {ms : Mir (List Sl)}
theorem w_g1 {f : Sl → Mir Sl} {r : List V → Hp → VK → Prop} (w : ∀ pa O σ env g sl v H Q, Rel X.K pa O H σ env g → sl.own = false → SlRep X.K pa O H sl v → PostX X.K pa O H σ W (f sl env g) Q → r [v] H Q) : ∀ vs H Q, zR X.K W (g1 f) vs H Q → r vs H Q := fun vs H Q ⟨pa, O, σ, env, g, l, R, hv, h⟩ => by
  unfold g1 at h
  split at h
  · obtain ⟨v, rfl, h1, h2⟩ := slreps1 hv
    exact w pa O σ env g _ v H Q R h1 h2 h
  · exact h.elim
theorem w_g2 {f : Sl → Sl → Mir Sl} {r : List V → Hp → VK → Prop} (w : ∀ pa O σ env g sl sl' v v' H Q, Rel X.K pa O H σ env g → sl.own = false → SlRep X.K pa O H sl v → sl'.own = false → SlRep X.K pa O H sl' v' → PostX X.K pa O H σ W (f sl sl' env g) Q → r [v, v'] H Q) : ∀ vs H Q, zR X.K W (g2 f) vs H Q → r vs H Q := fun vs H Q ⟨pa, O, σ, env, g, l, R, hv, h⟩ => by
  unfold g2 at h
  split at h
  · obtain ⟨v, v', rfl, h1, h2, h3, h4⟩ := slreps2 hv
    exact w pa O σ env g _ _ v v' H Q R h1 h2 h3 h4 h
  · exact h.elim
theorem seq_rep {K : PySem.W.Frag} {pa : Bs} {O : List Addr} {H : Hp} {sl : Sl} {v : V} {ds : List D} (h : seqOf sl = some ds) (r : SlRep K pa O H sl v) : ∃ a vs, v = .ref a ∧ (H a = some (.lst vs) ∨ H a = some (.tup vs)) ∧ Reps K (mask pa O H) ds vs := by
  unfold seqOf at h
  split at h
  · cases h
    have r : Rep K (mask pa O H) _ v := r
    simp only [Rep] at r
    obtain ⟨a, vs, rfl, h1, h2⟩ := r
    exact ⟨a, vs, rfl, .inl (mask_le _ _ h1), h2⟩
  · cases h
    have r : Rep K (mask pa O H) _ v := r
    simp only [Rep] at r
    obtain ⟨a, vs, rfl, h1, h2⟩ := r
    exact ⟨a, vs, rfl, .inr (mask_le _ _ h1), h2⟩
  · cases h
/-! ### len, abs, int -/
def fLen (x : Sl) : Mir Sl := onS (seqOf x) fun ds => ret (.val (.int ds.length))
theorem zx_len {hm : X.mg "len" = none} {hg : Gl X "len"} (ha : PA X [e] (zA X.K W ms)) (hst : starEach [e] X.env = (false, eval e X.env) :: starEach [] X.env := by rfl) : PE X (.Call (.Name "len" p) [e] [] pos) (zE X.K W (mCall (g1 fLen) ms)) :=
  zx_callB call_len_seq (w_g1 fun pa O σ env g sl v H Q R h1 h2 h => by
    obtain ⟨ds, hd, h⟩ := post_onS h
    obtain ⟨a, vs, rfl, hp, hv⟩ := seq_rep hd h2
    exact ⟨a, vs, rfl, hp.elim (fun q => .inl (.inl (.inl q))) (fun q => .inr (.inl (.inl q))), post_flat R h (by rw [hv.length]; simp only [Rep])⟩) hg hm PySem.boot_len ha (he := hst)
def fLenO (x : Sl) : Mir Sl := match x with
  | .ol ds => ret (.val (.int ds.length))
  | _ => bad
/-- len(x), x a list of the slot's own -/
def mLenO (i : Nat) : Mir Sl := fun env g => match env[i]? with
  | some (some sl) => if sl.own = true then fLenO sl env g else .bad
  | _ => .bad
theorem zx_lenO (i : Nat) {x : PySem.Str} (hm : X.mg "len" = none) (hg : Gl X "len") (hN : X.N[i]? = some x := by rfl) (hv : Vis X.env.scope x := by first | exact Or.inl rfl | exact Or.inr (Or.inl rfl) | exact Or.inr (Or.inr rfl)) (hd : (x == ("__debug__" : PySem.Str)) = false := by decide)
    (hcd : (x == ("__classdict__" : PySem.Str)) = false := by decide) {px : Pos} (hst : starEach [Expr.Name x px] X.env = [(false, eval (Expr.Name x px) X.env)] := by rfl) : PE X (.Call (.Name "len" p) [.Name x px] [] pos) (zE X.K W (mLenO i)) := by
  refine pe_weak (pe_callB call_len_seq hg hm PySem.boot_len (pa_cons (pe_var hN hv hd hcd) pa_nil)) fun σ H Q ⟨pa, O, env, g, R, h⟩ => ?_
  obtain ⟨sl, v, hv, ho, r, q⟩ := own_cases (F := fLenO) R h
  refine ⟨v, hv, ?_⟩
  unfold fLenO at q
  split at q
  · obtain ⟨a, vs, rfl, _, hp, hr⟩ := r
    exact ⟨a, vs, rfl, .inl (.inl (.inl hp)), post_flat R q (by rw [hr.length]; simp only [Rep])⟩
  · exact q.elim
def fAbs (x : Sl) : Mir Sl := onS (intOf x) fun i => ret (.val (.int (if i < 0 then -i else i)))
theorem int_rep {K : PySem.W.Frag} {pa : Bs} {O : List Addr} {H : Hp} {sl : Sl} {v : V} {i : Int} (h : intOf sl = some i) (r : SlRep K pa O H sl v) : v = .int i := by
  unfold intOf at h
  split at h
  · cases h
    have r : Rep K (mask pa O H) _ v := r
    simpa only [Rep] using r
  · cases h
theorem zx_abs (hm : X.mg "abs" = none) (hg : Gl X "abs") (ha : PA X [e] (zA X.K W ms)) (hst : starEach [e] X.env = (false, eval e X.env) :: starEach [] X.env := by rfl) : PE X (.Call (.Name "abs" p) [e] [] pos) (zE X.K W (mCall (g1 fAbs) ms)) :=
  zx_callB call_abs (w_g1 fun pa O σ env g sl v H Q R h1 h2 h => by
    obtain ⟨i, hd, h⟩ := post_onS h
    have e := int_rep hd h2
    subst e
    exact ⟨i, rfl, post_flat R h (by simp only [Rep])⟩) hg hm (by decide +kernel) ha (he := hst)
def fInt1 (x : Sl) : Mir Sl := match x with
  | .val (.int i) => ret (.val (.int i))
  | .val (.bool b) => ret (.val (.int (if b then 1 else 0)))
  | _ => bad
theorem zx_int1 (hm : X.mg "int" = none) (hg : Gl X "int") (ha : PA X [e] (zA X.K W ms)) (hst : starEach [e] X.env = (false, eval e X.env) :: starEach [] X.env := by rfl) : PE X (.Call (.Name "int" p) [e] [] pos) (zE X.K W (mCall (g1 fInt1) ms)) :=
  zx_callTy call_int1 (w_g1 fun pa O σ env g sl v H Q R h1 h2 h => by
    unfold fInt1 at h
    split at h
    · rename_i i
      have h2 : Rep X.K (mask pa O H) _ v := h2
      simp only [Rep] at h2
      exact .inl ⟨i, by rw [h2], post_flat R h (by simp only [Rep])⟩
    · rename_i i
      have h2 : Rep X.K (mask pa O H) _ v := h2
      simp only [Rep] at h2
      exact .inr ⟨i, by rw [h2], post_flat R h (by simp only [Rep])⟩
    · exact h.elim) hg hm (by decide +kernel) ha (he := hst)
/-! ### sum, all, any -/
def fSum (x : Sl) : Mir Sl := match x with
  | .val (.list ds) => onS (intsOf ds) fun is => ret (.val (.int is.sum))
  | _ => bad
theorem zx_sum (hc : X.calm = true) (hm : X.mg "sum" = none) (hg : Gl X "sum") (ha : PA X [e] (zA X.K W ms)) (hst : starEach [e] X.env = (false, eval e X.env) :: starEach [] X.env := by rfl) : PE X (.Call (.Name "sum" p) [e] [] pos) (zE X.K W (mCall (g1 fSum) ms)) :=
  zx_callB (cr_sum hc) (w_g1 fun pa O σ env g sl v H Q R h1 h2 h => by
    unfold fSum at h
    split at h
    · obtain ⟨is, hd, h⟩ := post_onS h
      have h2 : Rep X.K (mask pa O H) _ v := h2
      simp only [Rep] at h2
      obtain ⟨a, vs, rfl, hp, hv⟩ := h2
      have e := intsOf_rep hd hv
      subst e
      exact ⟨a, is, rfl, sql mask_le hp, post_flat R h (by simp only [Rep])⟩
    · exact h.elim) hg hm (by decide +kernel) ha (he := hst)
def fAll (x : Sl) : Mir Sl := match x with
  | .val (.list ds) => onS (boolsOf ds) fun is => ret (.val (.bool (is.all id)))
  | _ => bad
def fAny (x : Sl) : Mir Sl := match x with
  | .val (.list ds) => onS (boolsOf ds) fun is => ret (.val (.bool (is.any id)))
  | _ => bad
theorem zx_all (hc : X.calm = true) (hm : X.mg "all" = none) (hg : Gl X "all") (ha : PA X [e] (zA X.K W ms)) (hst : starEach [e] X.env = (false, eval e X.env) :: starEach [] X.env := by rfl) : PE X (.Call (.Name "all" p) [e] [] pos) (zE X.K W (mCall (g1 fAll) ms)) :=
  zx_callB (cr_all hc) (w_g1 fun pa O σ env g sl v H Q R h1 h2 h => by
    unfold fAll at h
    split at h
    · obtain ⟨is, hd, h⟩ := post_onS h
      have h2 : Rep X.K (mask pa O H) _ v := h2
      simp only [Rep] at h2
      obtain ⟨a, vs, rfl, hp, hv⟩ := h2
      have e := boolsOf_rep hd hv
      subst e
      exact ⟨a, is, rfl, sql mask_le hp, post_flat R h (by simp only [Rep])⟩
    · exact h.elim) hg hm (by decide +kernel) ha (he := hst)
theorem zx_any (hc : X.calm = true) (hm : X.mg "any" = none) (hg : Gl X "any") (ha : PA X [e] (zA X.K W ms)) (hst : starEach [e] X.env = (false, eval e X.env) :: starEach [] X.env := by rfl) : PE X (.Call (.Name "any" p) [e] [] pos) (zE X.K W (mCall (g1 fAny) ms)) :=
  zx_callB (cr_any hc) (w_g1 fun pa O σ env g sl v H Q R h1 h2 h => by
    unfold fAny at h
    split at h
    · obtain ⟨is, hd, h⟩ := post_onS h
      have h2 : Rep X.K (mask pa O H) _ v := h2
      simp only [Rep] at h2
      obtain ⟨a, vs, rfl, hp, hv⟩ := h2
      have e := boolsOf_rep hd hv
      subst e
      exact ⟨a, is, rfl, sql mask_le hp, post_flat R h (by simp only [Rep])⟩
    · exact h.elim) hg hm (by decide +kernel) ha (he := hst)
/-! ### tuple, list -/
def fTuple (x : Sl) : Mir Sl := onS (seqOf x) fun ds => ret (.val (.tuple ds))
def fList (x : Sl) : Mir Sl := onS (seqOf x) fun ds => ret (.ol ds)
theorem zx_tuple (hm : X.mg "tuple" = none) (hg : Gl X "tuple") (ha : PA X [e] (zA X.K W ms)) (hst : starEach [e] X.env = (false, eval e X.env) :: starEach [] X.env := by rfl) : PE X (.Call (.Name "tuple" p) [e] [] pos) (zE X.K W (mCall (g1 fTuple) ms)) :=
  zx_callTy call_tuple_of (w_g1 fun pa O σ env g sl v H Q R h1 h2 h => by
    unfold fTuple seqOf at h
    split at h
    · rename_i ds
      have h2 : Rep X.K (mask pa O H) _ v := h2
      simp only [Rep] at h2
      obtain ⟨a, vs, rfl, hp, hv⟩ := h2
      refine ⟨a, vs, rfl, .inl ⟨sql mask_le hp, fun t ht => ?_⟩⟩
      obtain ⟨R2, s2, hm⟩ := R.new (o := .tup vs) ht
      refine h O _ s2 R2 _ (Out.plain ?_ rfl)
      show Rep _ _ (.tuple ds) _
      simp only [Rep]
      exact ⟨t, vs, rfl, hm, hv.mono s2⟩
    · rename_i ds
      have h2' : Rep X.K (mask pa O H) _ v := h2
      simp only [Rep] at h2'
      obtain ⟨a, vs, rfl, hp, hv⟩ := h2'
      exact ⟨a, vs, rfl, .inr ⟨sqt mask_le hp, post_flat R h h2⟩⟩
    · exact h.elim) hg hm (by decide +kernel) ha (he := hst)
theorem zx_list (hm : X.mg "list" = none) (hg : Gl X "list") (ha : PA X [e] (zA X.K W ms)) (hst : starEach [e] X.env = (false, eval e X.env) :: starEach [] X.env := by rfl) : PE X (.Call (.Name "list" p) [e] [] pos) (zE X.K W (mCall (g1 fList) ms)) :=
  zx_callTy call_list_of (w_g1 fun pa O σ env g sl v H Q R h1 h2 h => by
    obtain ⟨ds, hd, h⟩ := post_onS h
    obtain ⟨a, vs, rfl, hp, hv⟩ := seq_rep hd h2
    refine ⟨a, vs, rfl, hp.elim (fun q => .inl (.inl (.inl q))) (fun q => .inr (.inl (.inl q))), fun t ht => ?_⟩
    obtain ⟨s2, R2, o2⟩ := R.newList hv ht
    exact h _ _ s2 R2 _ o2) hg hm (by decide +kernel) ha (he := hst)
/-! ### max, min -/
def maxI (x : Int) (xs : List Int) : Int := xs.foldl (fun a y => if a < y then y else a) x
def minI (x : Int) (xs : List Int) : Int := xs.foldl (fun a y => if y < a then y else a) x
theorem maxD_int : ∀ (xs : List Int) (x : Int), PySem.W.maxD (.int x) (xs.map PyData.int) = .int (maxI x xs)
  | [], x => rfl
  | y :: ys, x => by
    have e : PySem.W.maxD (.int x) ((y :: ys).map PyData.int) = PySem.W.maxD (if PySem.W.dataLt (.int x) (.int y) = true then .int y else .int x) (ys.map PyData.int) := rfl
    rw [e, PySem.W.dataLt_int]
    have e2 : maxI x (y :: ys) = maxI (if x < y then y else x) ys := rfl
    rw [e2]
    by_cases c : x < y
    · rw [if_pos (decide_eq_true c), if_pos c]; exact maxD_int ys y
    · rw [if_neg (by rw [decide_eq_false c]; exact Bool.false_ne_true), if_neg c]; exact maxD_int ys x
theorem minD_int : ∀ (xs : List Int) (x : Int), PySem.W.minD (.int x) (xs.map PyData.int) = .int (minI x xs)
  | [], x => rfl
  | y :: ys, x => by
    have e : PySem.W.minD (.int x) ((y :: ys).map PyData.int) = PySem.W.minD (if PySem.W.dataLt (.int y) (.int x) = true then .int y else .int x) (ys.map PyData.int) := rfl
    rw [e, PySem.W.dataLt_int]
    have e2 : minI x (y :: ys) = minI (if y < x then y else x) ys := rfl
    rw [e2]
    by_cases c : y < x
    · rw [if_pos (decide_eq_true c), if_pos c]; exact minD_int ys y
    · rw [if_neg (by rw [decide_eq_false c]; exact Bool.false_ne_true), if_neg c]; exact minD_int ys x
theorem alike_intsAll (xs : List Int) : PySem.W.AlikeAll (xs.map PyData.int) := ⟨fun x hx y hy => by
  obtain ⟨i, _, rfl⟩ := List.mem_map.mp hx
  obtain ⟨j, _, rfl⟩ := List.mem_map.mp hy
  rfl, fun x hx => by
  obtain ⟨i, _, rfl⟩ := List.mem_map.mp hx
  exact fun z => by cases z⟩
theorem reads_ints {h : Heap} : ∀ {is : List Int} {its : List Value}, Vals (is.map V.int) its → ∃ as, ReadsAll h its (is.map PyData.int) as
  | [], _, .nil => ⟨[], .nil⟩
  | i :: is, _, .cons r t => by
    obtain ⟨tk, rfl⟩ := r
    obtain ⟨as, q⟩ := reads_ints t
    exact ⟨_, .cons (.int i tk) q⟩
def rBest (f : Int → List Int → Int) : List V → Hp → VK → Prop := fun vs H Q => ∃ (a : Addr) (i : Int) (is : List Int), vs = [V.ref a] ∧ (H a = some (.lst ((i :: is).map V.int)) ∨ H a = some (.tup ((i :: is).map V.int))) ∧ Q (.int (f i is)) H
theorem cr_maxS (B : X.calm = true) (hu : X.A.units + 200 < cLine) : CallR X (.builtin "max") (rBest maxI) := by
  intro pins s σ H vs us Q I r h
  obtain ⟨a, i, is, rfl, hs, q⟩ := h
  rw [Vals.ref1 r]
  have hdep : PyData.depthAll ((i :: is).map PyData.int) = 0 := PySem.W.depth_ints _
  have fin : ∀ (its : List Value) (v : Value) (h' : Heap) (tk : Nat) (bs : List Addr), Reads h' v (PySem.W.maxD (.int i) (is.map PyData.int)) bs → (∀ b o, s.heap.get? b = some o → h'.get? b = some o) → EP X pins σ Q v { s with heap := h', toks := tk } := fun its v h' tk bs rd hk => by
    rw [maxD_int] at rd
    cases rd with
    | int _ t => exact ⟨.int _, H, I.kept hk, ⟨t, rfl⟩, q⟩
  rcases hs with hs | hs
  · obtain ⟨its, rv, hl, _⟩ := I.list (.inl (.inl hs))
    obtain ⟨as, rd⟩ := reads_ints (h := s.heap) (is := i :: is) rv
    exact PySem.W.max_list_data (I.ok.hd B) hl.isList (by simpa using rd) (alike_intsAll (i :: is)) (by rw [show PyData.int i :: List.map PyData.int is = (i :: is).map PyData.int from rfl, hdep]; omega) fun j v h' tk bs hv rd' hk => fin its v h' tk bs rd' hk
  · obtain ⟨its, rv, hl, _⟩ := I.tuple (.inl (.inl hs))
    obtain ⟨as, rd⟩ := reads_ints (h := s.heap) (is := i :: is) rv
    exact PySem.W.max_tuple_data (I.ok.hd B) (show s.heap.IsTuple a its.toArray from hl) (by simpa using rd) (alike_intsAll (i :: is)) (by rw [show PyData.int i :: List.map PyData.int is = (i :: is).map PyData.int from rfl, hdep]; omega) fun j v h' tk bs hv rd' hk => fin its v h' tk bs rd' hk
theorem cr_minS (B : X.calm = true) (hu : X.A.units + 200 < cLine) : CallR X (.builtin "min") (rBest minI) := by
  intro pins s σ H vs us Q I r h
  obtain ⟨a, i, is, rfl, hs, q⟩ := h
  rw [Vals.ref1 r]
  have hdep : PyData.depthAll ((i :: is).map PyData.int) = 0 := PySem.W.depth_ints _
  have fin : ∀ (its : List Value) (v : Value) (h' : Heap) (tk : Nat) (bs : List Addr), Reads h' v (PySem.W.minD (.int i) (is.map PyData.int)) bs → (∀ b o, s.heap.get? b = some o → h'.get? b = some o) → EP X pins σ Q v { s with heap := h', toks := tk } := fun its v h' tk bs rd hk => by
    rw [minD_int] at rd
    cases rd with
    | int _ t => exact ⟨.int _, H, I.kept hk, ⟨t, rfl⟩, q⟩
  rcases hs with hs | hs
  · obtain ⟨its, rv, hl, _⟩ := I.list (.inl (.inl hs))
    obtain ⟨as, rd⟩ := reads_ints (h := s.heap) (is := i :: is) rv
    exact PySem.W.min_list_data (I.ok.hd B) hl.isList (by simpa using rd) (alike_intsAll (i :: is)) (by rw [show PyData.int i :: List.map PyData.int is = (i :: is).map PyData.int from rfl, hdep]; omega) fun j v h' tk bs hv rd' hk => fin its v h' tk bs rd' hk
  · obtain ⟨its, rv, hl, _⟩ := I.tuple (.inl (.inl hs))
    obtain ⟨as, rd⟩ := reads_ints (h := s.heap) (is := i :: is) rv
    exact PySem.W.min_tuple_data (I.ok.hd B) (show s.heap.IsTuple a its.toArray from hl) (by simpa using rd) (alike_intsAll (i :: is)) (by rw [show PyData.int i :: List.map PyData.int is = (i :: is).map PyData.int from rfl, hdep]; omega) fun j v h' tk bs hv rd' hk => fin its v h' tk bs rd' hk
def fBest (f : Int → List Int → Int) (x : Sl) : Mir Sl := onS (seqOf x) fun ds => onS (intsOf ds) fun is => match is with
  | i :: r => ret (.val (.int (f i r)))
  | [] => bad
theorem w_best {f : Int → List Int → Int} : ∀ vs H Q, zR X.K W (g1 (fBest f)) vs H Q → rBest f vs H Q := w_g1 fun pa O σ env g sl v H Q R h1 h2 h => by
  obtain ⟨ds, hd, h⟩ := post_onS h
  obtain ⟨is, hi, h⟩ := post_onS h
  obtain ⟨a, vs, rfl, hp, hv⟩ := seq_rep hd h2
  have e := intsOf_rep hi hv
  subst e
  cases is with
  | nil => exact h.elim
  | cons i r => exact ⟨a, i, r, rfl, hp, post_flat R h (by simp only [Rep])⟩
theorem zx_max {k : Nat} {E' : XK} (B : Exp X E' k) (hm : X.mg "max" = none) (hg : Gl X "max") (ha : PA X [e] (zA X.K W ms)) (hst : starEach [e] X.env = (false, eval e X.env) :: starEach [] X.env := by rfl) : PE X (.Call (.Name "max" p) [e] [] pos) (zE X.K W (mCall (g1 (fBest maxI)) ms)) :=
  zx_callB (cr_maxS B.calm B.hu) w_best hg hm (by decide +kernel) ha (he := hst)
theorem zx_min {k : Nat} {E' : XK} (B : Exp X E' k) (hm : X.mg "min" = none) (hg : Gl X "min") (ha : PA X [e] (zA X.K W ms)) (hst : starEach [e] X.env = (false, eval e X.env) :: starEach [] X.env := by rfl) : PE X (.Call (.Name "min" p) [e] [] pos) (zE X.K W (mCall (g1 (fBest minI)) ms)) :=
  zx_callB (cr_minS B.calm B.hu) w_best hg hm (by decide +kernel) ha (he := hst)
end
end Z
end
section
set_option linter.all false
set_option maxRecDepth 100000
set_option maxHeartbeats 1000000
/-! ZH: sorted, isinstance, repr, list(range). -/
namespace Z
open PySem PySem.Spec PyProof.Rows L2

/-! ### sorted: of a tuple, too -/
section
variable {prog : Program} {w : World} {A : Around} {E : Value → Shared → Prop} {s : Shared}
/-- sorted(t) of a tuple of alike data: the items lie in a new list at the end of a heap h1 that has grown, and are sorted there -/
theorem sortedT {β : Type} {vs : List Value} {bs : List β} {enc : β → PyData} {R : Value → β → Prop} {t : Addr} {Q : Value → Shared → Prop} (ht : s.heap.IsTuple t vs.toArray) (e : PySem.W.EachIs R vs bs) (er : PySem.W.EachIs (fun v b => ∃ as, Reads s.heap v (enc b) as) vs bs) (hal : PySem.W.AllAlike (bs.map enc)) (hk : PySem.W.Sortable (bs.map enc)) (hL : bs.length ≤ sizeLine)
    (hu : ∀ b, b ∈ bs → A.units + 2 + (enc b).depth < cLine) (h : ∀ (h1 : Heap) (out : List Value), (∀ b o, s.heap.get? b = some o → h1.get? b = some o) → PySem.W.EachIs R out (bs.mergeSort (PySem.W.dataLe false enc)) → Q (.ref h1.objs.size) { s with heap := sortedHeap (h1.push (seqObj "list" vs.toArray 0)) h1.objs.size vs out.toArray }) :
    wpAny (model prog w) A (call (.builtin "sorted") [.ref t]) Q E s := by
  obtain ⟨o, at_, cls, n, data⟩ := ht
  have fits : vs.length ≤ sizeLine := Nat.le_trans (Nat.le_of_eq e.length) hL
  refine call_function_entry_kw kind_sorted plain_sorted entry_sorted (args_sorted1 _) (wpAny_bind (m := checkCount "sorted" 1 1 _) (wpAny_pure (wpAny_bind (wpAny_collect_seq t (.inr rfl) at_ cls data (fun h1 grown => ?_) (by rw [List.size_toArray]; exact fits)))))
  have made : (h1.push (seqObj "list" vs.toArray 0)).get? h1.objs.size = some (seqObj "list" vs.toArray 0) := Heap.get?_push_size h1 rfl
  have seen : ∀ b o, s.heap.get? b = some o → (PySem.W.sortingHeap (h1.push (seqObj "list" vs.toArray 0)) h1.objs.size vs).get? b = some o := fun b o e => by
    have e1 := grown b o e
    exact PySem.W.sortingHeap_old (Nat.ne_of_lt (Heap.lt_size e1)) (Heap.get?_push_of_some _ e1)
  have er1 := er.mono fun _ _ ⟨as, r⟩ => (⟨as, PyProof.Rows.Reads.keeps seen r⟩ : ∃ as, Reads (PySem.W.sortingHeap (h1.push (seqObj "list" vs.toArray 0)) h1.objs.size vs) _ _ as)
  have sorts := PySem.W.SortsAt.data (prog := prog) (w := w) (A := A.in1.in1) (s := { s with heap := PySem.W.sortingHeap (h1.push (seqObj "list" vs.toArray 0)) h1.objs.size vs }) (PySem.W.each_map enc er1) hal hk (PySem.W.bound_map hu)
  have end_ : Q (.ref h1.objs.size) { s with heap := sortedHeap (h1.push (seqObj "list" vs.toArray 0)) h1.objs.size vs (PySem.W.sortVals _ false vs vs).toArray } := h h1 _ grown (PySem.W.sortVals_data false e er1 hal)
  refine wpAny_bind (wpAny_newList (items := vs.toArray.toList) ?_ fits)
  refine wpAny_bind (wpAny_holding (wpAny_call_entry_kw slot_list_sort ⟨_, made, rfl⟩ entry_list_sort ?_ (args_list_sort _)))
  have run := fun E => PySem.W.list_sort_vals (E := E) (P := fun f s2 => f = .done (.ret .none) ∧ Q (.ref h1.objs.size) s2) (s := { s with heap := h1.push (seqObj "list" vs.toArray 0) }) made sorts fits ⟨rfl, end_⟩
  exact wpAny_mono (run _) (fun f s2 q => ⟨_, q.1, wpAny_pure ⟨_, rfl, q.2⟩⟩) fun _ _ z => z
end

/-! ### sorted, by values -/
theorem reps_each {K : PySem.W.Frag} {F H : Hp} {X : Cx} {pins : List (Addr × Obj)} {σ : L2.St} {s : Shared} (I : Inv X pins σ H s) (hs : Same F H) (hK : X.K = K) : ∀ {ds : List D} {vs : List V} {its : List Value}, Reps K F ds vs → Vals vs its → PyData.canLayAll0 ds = true →
    PySem.W.EachIs (fun u d => ∃ v, RelV v u ∧ Rep K F d v) its ds ∧ PySem.W.EachIs (fun u d => ∃ as, Reads s.heap u d as) its ds
  | [], vs, _, h, r, _ => by
    have h : vs = [] := by simpa [Reps] using h
    subst h
    cases r
    exact ⟨.nil, .nil⟩
  | d :: ds, vs, _, h, r, c => by
    simp only [Reps] at h
    obtain ⟨v, w, rfl, h1, h2⟩ := h
    cases r with
    | cons r1 r2 =>
      have c' : d.canLay0 = true ∧ PyData.canLayAll0 ds = true := by simpa [PyData.canLayAll0] using c
      obtain ⟨e1, e2⟩ := reps_each I hs hK h2 r2 c'.2
      subst hK
      exact ⟨.cons ⟨v, r1, h1⟩ e1, .cons (Dp.reads I d v _ (Rep.dp hs h1 c'.1) r1) e2⟩
theorem each_reps {K : PySem.W.Frag} {F : Hp} : ∀ {ds : List D} {its : List Value}, PySem.W.EachIs (fun u d => ∃ v, RelV v u ∧ Rep K F d v) its ds → ∃ vs, Vals vs its ∧ Reps K F ds vs
  | _, _, .nil => ⟨[], .nil, by simp [Reps]⟩
  | d :: ds, _, .cons ⟨v, r, h⟩ t => by
    obtain ⟨vs, h1, h2⟩ := each_reps t
    refine ⟨v :: vs, .cons r h1, ?_⟩
    simp only [Reps]
    exact ⟨v, vs, rfl, h, h2⟩
def isTupB : D → Bool
  | .tuple (_ :: _) => true
  | _ => false
def isTupA : D → Bool
  | .tuple _ => true
  | .none => true
  | _ => false
/-- data that can be sorted -/
def sortB (ds : List D) : Bool := PyData.canLayAll0 ds && (ds.all fun d => ds.all fun e => PySem.W.alike d e) && ((ds.all isTupB) || (ds.all fun d => !isTupA d)) && decide (ds.length ≤ 1000000) && ds.all fun d => decide (d.depth ≤ 60)
structure SortOk (ds : List D) : Prop where
  lay : PyData.canLayAll0 ds = true
  alike : PySem.W.AllAlike ds
  able : PySem.W.Sortable ds
  len : ds.length ≤ sizeLine
  dep : ∀ d ∈ ds, d.depth ≤ 60
theorem sortOk_of {ds : List D} (h : sortB ds = true) : SortOk ds := by
  unfold sortB at h
  simp only [Bool.and_eq_true, List.all_eq_true, decide_eq_true_eq, Bool.or_eq_true] at h
  obtain ⟨⟨⟨⟨h1, h2⟩, h3⟩, h4⟩, h5⟩ := h
  refine ⟨h1, fun d hd e he => h2 d hd e he, ?_, le_line h4, h5⟩
  rcases h3 with h3 | h3
  · refine .inl fun d hd => ?_
    have q := h3 d hd
    unfold isTupB at q
    split at q
    · exact ⟨_, _, rfl⟩
    · cases q
  · refine .inr fun d hd => ?_
    have q := h3 d hd
    refine ⟨fun z => ?_, fun xs z => ?_⟩
    · rw [z] at q; cases q
    · rw [z] at q; cases q
def sortD (ds : List D) : List D := ds.mergeSort (PySem.W.dataLe false id)
section
variable {X : Cx} {W : Wx} {e a b : Expr} {es : List Expr} {pos p : Pos} {m ma mb : Mir Sl} {ms : Mir (List Sl)}
def rSrt (K : PySem.W.Frag) : List V → Hp → VK → Prop := fun vs H Q => ∃ (F : Hp) (a : Addr) (ds : List D) (ws : List V), vs = [.ref a] ∧ Same F H ∧ (H a = some (.lst ws) ∨ H a = some (.tup ws)) ∧ Reps K F ds ws ∧ SortOk ds ∧ ∀ us t, Reps K F (sortD ds) us → H t = none → Q (.ref t) (upd H t (.lst us))
theorem cr_srt (hu : X.A.units + 200 < cLine) : CallR X (.builtin "sorted") (rSrt X.K) := by
  intro pins s σ H vs us Q I r h
  obtain ⟨F, a, ds, ws, rfl, hs, ha, hr, ok, q⟩ := h
  rw [Vals.ref1 r]
  have fin : ∀ its : List Value, ∀ out, PySem.W.EachIs (fun u d => ∃ v, RelV v u ∧ Rep X.K F d v) out (ds.mergeSort (PySem.W.dataLe false id)) → EP X pins σ Q (.ref (s.heap.objs.size + 1)) { s with heap := sortedAll s.heap its (List.toArray out) } := fun its out ho => by
    obtain ⟨us, h1, h2⟩ := each_reps ho
    obtain ⟨ep, he⟩ := sortedAll_at s.heap its (List.toArray out)
    have hlen : us.length ≤ sizeLine := by
      rw [← h2.length, (List.mergeSort_perm _ _).length_eq]
      exact ok.len
    exact ⟨.ref _, upd H (s.heap.objs.size + 1) (.lst us), I.laid (t' := s.toks) (fun _ _ => sortedAll_old) (Nat.le_succ _) ⟨hlen, out, ep, h1, he⟩, rfl, q us _ h2 (I.hok.fresh (Nat.le_succ _))⟩
  have dep : ∀ d, d ∈ ds → X.A.units + 2 + (id d : PyData).depth < cLine := fun d hd => by
    have := ok.dep d hd
    show X.A.units + 2 + d.depth < cLine
    omega
  have al : PySem.W.AllAlike (ds.map id) := by rw [List.map_id]; exact ok.alike
  have ab : PySem.W.Sortable (ds.map id) := by rw [List.map_id]; exact ok.able
  rcases ha with ha | ha
  · obtain ⟨its, rv, hl, _⟩ := I.list (.inl (.inl ha))
    obtain ⟨e1, e2⟩ := reps_each I hs rfl hr rv ok.lay
    exact PySem.W.sorted_data (enc := id) hl.isList e1 e2 al ab ok.len dep fun out _ ho => fin its out ho
  · obtain ⟨its, rv, hl, _⟩ := I.tuple (.inl (.inl ha))
    obtain ⟨e1, e2⟩ := reps_each I hs rfl hr rv ok.lay
    exact sortedT (enc := id) (show s.heap.IsTuple a its.toArray from hl) e1 e2 al ab ok.len dep fun h1 out grown ho => by
      obtain ⟨us, h2, h3⟩ := each_reps ho
      obtain ⟨ep, there⟩ := sortedHeap_at (h := h1.push (seqObj "list" its.toArray 0)) (a := h1.objs.size) (vs := its) (n := 0) (out := out.toArray) (Heap.get?_push_size h1 rfl)
      have I1 : Inv X pins σ H { s with heap := h1 } := I.kept (t' := s.toks) grown
      have few : us.length ≤ sizeLine := by
        rw [← h3.length, (List.mergeSort_perm _ _).length_eq]
        exact ok.len
      have stay : ∀ b o, h1.get? b = some o → (sortedHeap (h1.push (seqObj "list" its.toArray 0)) h1.objs.size its out.toArray).get? b = some o := fun b o e => by
        have lt := Heap.lt_size e
        rw [sortedHeap_old (Nat.ne_of_lt lt) (by rw [size_push']; exact Nat.lt_succ_of_lt lt)]
        exact Heap.get?_push_of_some _ e
      exact ⟨.ref h1.objs.size, upd H h1.objs.size (.lst us), I1.laid (t' := s.toks) stay (Nat.le_refl _) ⟨few, out, ep, h2, there⟩, rfl, q us _ h3 (I1.hok.fresh (Nat.le_refl _))⟩
def fSorted (x : Sl) : Mir Sl := onS (seqOf x) fun ds => if sortB ds = true then ret (.ol (sortD ds)) else bad
theorem zx_sorted {k : Nat} {E' : XK} (B : Exp X E' k) (hm : X.mg "sorted" = none) (hg : Gl X "sorted") (ha : PA X [e] (zA X.K W ms)) (hst : starEach [e] X.env = (false, eval e X.env) :: starEach [] X.env := by rfl) : PE X (.Call (.Name "sorted" p) [e] [] pos) (zE X.K W (mCall (g1 fSorted) ms)) :=
  zx_callB (cr_srt B.hu) (w_g1 fun pa O σ env g sl v H Q R h1 h2 h => by
    obtain ⟨ds, hd, h⟩ := post_onS h
    by_cases c : sortB ds = true
    · rw [if_pos c] at h
      obtain ⟨a, vs, rfl, hp, hv⟩ := seq_rep hd h2
      refine ⟨mask pa O H, a, ds, vs, rfl, mask_le, hp, hv, sortOk_of c, fun us t hus ht => ?_⟩
      obtain ⟨s2, R2, o2⟩ := R.newList hus ht
      exact h _ _ s2 R2 _ o2
    · rw [if_neg c] at h; exact h.elim) hg hm (by decide +kernel) ha (he := hst)

/-! ### isinstance -/
def tyN : D → String
  | .none => "NoneType"
  | .bool _ => "bool"
  | .int _ => "int"
  | .str _ => "str"
  | .list _ => "list"
  | .tuple _ => "tuple"
  | .dict _ => "dict"
def isiN (t n : String) : Bool := t == n || (t == "bool" && n == "int")
theorem kit_all : ∀ t ∈ ["NoneType", "bool", "int", "str", "list", "tuple"], ∀ n ∈ ["bool", "int", "str", "list", "tuple"], kitB t n = some (isiN t n) := by decide +kernel
theorem rep_ty {K : PySem.W.Frag} {F H : Hp} {d : D} {v : V} (s : Same F H) (r : Rep K F d v) (hd : d.hasDict = false) : TyX K H v (.type (tyN d)) ∧ tyN d ∈ ["NoneType", "bool", "int", "str", "list", "tuple"] := by
  cases d with
  | none => simp only [Rep] at r; subst r; exact ⟨.base .non, by simp [tyN]⟩
  | bool b => simp only [Rep] at r; subst r; exact ⟨.base (.bl _), by simp [tyN]⟩
  | int b => simp only [Rep] at r; subst r; exact ⟨.base (.int _), by simp [tyN]⟩
  | str b => simp only [Rep] at r; subst r; exact ⟨.base (.str _), by simp [tyN]⟩
  | list b => simp only [Rep] at r; obtain ⟨a, vs, rfl, h, _⟩ := r; exact ⟨.base (.lst (s _ _ h)), by simp [tyN]⟩
  | tuple b => simp only [Rep] at r; obtain ⟨a, vs, rfl, h, _⟩ := r; exact ⟨.base (.tup (s _ _ h)), by simp [tyN]⟩
  | dict b => simp [PyData.hasDict] at hd
/-- isinstance(x, T), T one built-in type -/
def fIsi (n : String) (x : Sl) : Mir Sl := match x with
  | .val d => if d.hasDict = true then bad else ret (.val (.bool (isiN (tyN d) n)))
  | _ => bad
def mIsi (n : String) (m : Mir Sl) : Mir Sl := bnd m fun x => fIsi n x
theorem zx_isi {n : String} {x : PySem.Str} {p1 p2 : Pos} (hn : n ∈ ["bool", "int", "str", "list", "tuple"]) (hm : X.mg "isinstance" = none) (hg : Gl X "isinstance") (hg2 : Gl X x) (hm2 : X.mg x = none) (hv2 : bootBuiltins x = some (.type n)) (hx : x ≠ "__name__" := by decide) (hx2 : (x == ("__debug__" : PySem.Str)) = false := by decide)
    (ha : PE X e (zE X.K W m)) (hst : starEach [e, Expr.Name x p1] X.env = (false, eval e X.env) :: starEach [Expr.Name x p1] X.env := by rfl) (hpl : (backTo pos (starEach [Expr.Name x p1] X.env)).any (·.1) = false := by rfl) :
    PE X (.Call (.Name "isinstance" p2) [e, .Name x p1] [] pos) (zE X.K W (mIsi n m)) := by
  refine pe_weak (pe_callB call_isi hg hm (by decide +kernel) (pa_cons ha (pa_cons (pe_bltn (v := .ty n) hg2 hm2 hv2 rfl hx hx2) pa_nil) hst) (he := hst) (hpl := hpl)) fun σ H Q ⟨pa, O, env, g, R, h⟩ => ?_
  refine ⟨pa, O, env, g, R, postX_bnd h fun sx env' g' v O' H' e s R' o q => ?_⟩
  unfold fIsi at q
  split at q
  · rename_i d
    by_cases hd : d.hasDict = true
    · rw [if_pos hd] at q; exact q.elim
    · rw [if_neg hd] at q
      obtain ⟨t1, t2⟩ := rep_ty mask_le o.1 (by simpa using hd)
      exact ⟨v, .ty n, _, _, _, rfl, .ty n, t1, kit_ty (kit_all _ t2 _ hn), post_flat R' q (by simp only [Rep])⟩
  · exact q.elim
/-- isinstance(x, (T, U)) -/
def mIsi2 (n n' : String) (m : Mir Sl) : Mir Sl := bnd m fun x => match x with
  | .val d => if d.hasDict = true then bad else ret (.val (.bool (isiN (tyN d) n || isiN (tyN d) n')))
  | _ => bad
theorem zx_isi2 {n n' : String} {x y : PySem.Str} {p1 p2 p3 p4 : Pos} {kt} (hn : n ∈ ["bool", "int", "str", "list", "tuple"]) (hn' : n' ∈ ["bool", "int", "str", "list", "tuple"]) (hm : X.mg "isinstance" = none) (hg : Gl X "isinstance") (hg2 : Gl X x) (hm2 : X.mg x = none) (hv2 : bootBuiltins x = some (.type n)) (hg3 : Gl X y) (hm3 : X.mg y = none) (hv3 : bootBuiltins y = some (.type n'))
    (ha : PE X e (zE X.K W m)) (hx : x ≠ "__name__" := by decide) (hx2 : (x == ("__debug__" : PySem.Str)) = false := by decide) (hy : y ≠ "__name__" := by decide) (hy2 : (y == ("__debug__" : PySem.Str)) = false := by decide)
    (hst : starEach [e, Expr.Tuple [.Name x p1, .Name y p3] kt p4] X.env = (false, eval e X.env) :: starEach [Expr.Tuple [.Name x p1, .Name y p3] kt p4] X.env := by rfl) (hpl : (backTo pos (starEach [Expr.Tuple [.Name x p1, .Name y p3] kt p4] X.env)).any (·.1) = false := by rfl) :
    PE X (.Call (.Name "isinstance" p2) [e, .Tuple [.Name x p1, .Name y p3] kt p4] [] pos) (zE X.K W (mIsi2 n n' m)) := by
  refine pe_weak (pe_callB call_isiT hg hm (by decide +kernel) (pa_cons ha (pa_cons (pe_tup (pa_cons (pe_bltn (v := .ty n) hg2 hm2 hv2 rfl hx hx2) (pa_cons (pe_bltn (v := .ty n') hg3 hm3 hv3 rfl hy hy2) pa_nil))) pa_nil) hst) (he := hst) (hpl := hpl)) fun σ H Q ⟨pa, O, env, g, R, h⟩ => ?_
  refine ⟨pa, O, env, g, R, postX_bnd h fun sx env' g' v O' H' e s R' o q => ?_⟩
  refine ⟨by show 2 ≤ sizeLine; decide, fun t ht => ?_⟩
  obtain ⟨R2, s2, hmt⟩ := R'.new (o := .tup [.ty n, .ty n']) ht
  split at q
  · rename_i d
    by_cases hd : d.hasDict = true
    · rw [if_pos hd] at q; exact q.elim
    · rw [if_neg hd] at q
      have r2 : Rep X.K (mask pa O' (upd H' t (.tup [.ty n, .ty n']))) d v := Rep.mono s2 o.1
      obtain ⟨t1, t2⟩ := rep_ty mask_le r2 (by simpa using hd)
      refine ⟨v, t, [.ty n, .ty n'], _, [.type n, .type n'], (isiN (tyN d) n || isiN (tyN d) n'), rfl, upd_same, .cons (.ty n) (.cons (.ty n') .nil), t1, ?_, post_flat R2 (PostG.from_ q s2) (by simp only [Rep])⟩
      refine kitAny_cons (kit_ty (kit_all _ t2 _ hn)) (fun z => ?_) (fun z => by rw [z, Bool.true_or])
      refine kitAny_cons (kit_ty (kit_all _ t2 _ hn')) (fun z' => ?_) (fun z' => by rw [z', Bool.or_true])
      rw [z, z']
      rfl
  · exact q.elim

/-! ### repr -/
def mReprOk (d : D) : Bool := d.showable && !d.hasDict && d.canLay0 && decide (d.depth ≤ 60) && decide (d.shown.length ≤ sizeLine)
def fRepr (x : Sl) : Mir Sl := match x with
  | .val d => if mReprOk d = true then ret (.val (.str d.shown)) else bad
  | _ => bad
def rRepr (K : PySem.W.Frag) : List V → Hp → VK → Prop := fun vs H Q => ∃ (F : Hp) (v : V) (d : D), vs = [v] ∧ Same F H ∧ Rep K F d v ∧ mReprOk d = true ∧ Q (.str d.shown) H
theorem cr_repr (hgd : X.A.guards = some []) (hu : X.A.units + 200 < cLine) : CallR X (.builtin "repr") (rRepr X.K) := by
  intro pins s σ H vs us Q I r h
  obtain ⟨F, v, d, rfl, hs, hr, ok, q⟩ := h
  obtain ⟨u, rfl, rx⟩ := vals1 r
  unfold mReprOk at ok
  simp only [Bool.and_eq_true, decide_eq_true_eq, Bool.not_eq_true'] at ok
  obtain ⟨⟨⟨⟨h1, h2⟩, h3⟩, h4⟩, h5⟩ := ok
  obtain ⟨as, rd⟩ := Dp.reads I d v u (Rep.dp hs hr h3) rx
  have flat : ∀ {t : PySem.Str}, t = d.shown → EP X pins σ Q (.str t s.toks) { s with toks := s.toks + 1 } := fun {t} e => ⟨.str t, H, I.tok _, ⟨_, rfl⟩, by rw [e]; exact q⟩
  cases rd with
  | none => exact PySem.P.repr_of_none (flat (by simp [PyData.shown]))
  | bool b => exact PySem.P.repr_of_bool (flat (by cases b <;> simp [PyData.shown]))
  | int i t => exact PySem.P.repr_of_int (by simpa [PyData.showable] using h1) (flat (by simp [PyData.shown]))
  | str x t => exact PySem.P.repr_of_str (flat (by simp [PyData.shown])) (by simpa [PyData.shown] using h5)
  | list a1 a2 a3 a4 => exact repr_of_reads' (.list a1 a2 a3 a4) h1 (fun z => by rw [h2] at z; cases z) hgd (by omega) (fun _ _ e => e) (fun h' u tk hk => ⟨.str _, H, I.kept hk, ⟨_, rfl⟩, q⟩) h5
  | tuple a1 a2 a3 a4 => exact repr_of_reads' (.tuple a1 a2 a3 a4) h1 (fun z => by rw [h2] at z; cases z) hgd (by omega) (fun _ _ e => e) (fun h' u tk hk => ⟨.str _, H, I.kept hk, ⟨_, rfl⟩, q⟩) h5
  | dict a1 a2 a3 a4 a5 => simp [PyData.hasDict] at h2
theorem zx_repr {k : Nat} {E' : XK} (B : Exp X E' k) (hm : X.mg "repr" = none) (hg : Gl X "repr") (ha : PA X [e] (zA X.K W ms)) (hst : starEach [e] X.env = (false, eval e X.env) :: starEach [] X.env := by rfl) : PE X (.Call (.Name "repr" p) [e] [] pos) (zE X.K W (mCall (g1 fRepr) ms)) :=
  zx_callB (cr_repr B.gd B.hu) (w_g1 fun pa O σ env g sl v H Q R h1 h2 h => by
    unfold fRepr at h
    split at h
    · rename_i d
      by_cases c : mReprOk d = true
      · rw [if_pos c] at h
        exact ⟨mask pa O H, v, d, rfl, mask_le, h2, c, post_flat R h (by simp only [Rep])⟩
      · rw [if_neg c] at h; exact h.elim
    · exact h.elim) hg hm (by decide +kernel) ha (he := hst)
/-! ### list(range(n)) -/
def rangeD (n : Int) : List D := (List.range n.toNat).map fun i => .int (i : Nat)
theorem reps_range {K : PySem.W.Frag} {F : Hp} (l : List Nat) : Reps K F (l.map fun (i : Nat) => PyData.int (i : Nat)) (l.map fun (i : Nat) => V.int (0 + (i : Nat))) := by
  induction l with
  | nil => simp [Reps]
  | cons i l ih =>
    simp only [List.map_cons, Reps]
    exact ⟨_, _, rfl, by simp only [Rep]; simp, ih⟩
def mListRange (m : Mir Sl) : Mir Sl := bnd m fun x => onS (intOf x) fun n => if 0 ≤ n ∧ n ≤ 1000 then ret (.ol (rangeD n)) else bad
theorem zx_listRange {p1 p2 p3 : Pos} (hc : X.calm = true) (hm : X.mg "list" = none) (hg : Gl X "list") (hm2 : X.mg "range" = none) (hg2 : Gl X "range") (ha : PE X e (zE X.K W m)) (na : starEach [e] X.env = (false, eval e X.env) :: starEach [] X.env := by rfl)
    (nb : starEach [Expr.Call (.Name "range" p1) [e] [] p2] X.env = (false, eval (Expr.Call (.Name "range" p1) [e] [] p2) X.env) :: starEach [] X.env := by rfl) : PE X (.Call (.Name "list" p3) [.Call (.Name "range" p1) [e] [] p2] [] pos) (zE X.K W (mListRange m)) := by
  refine pe_weak (pe_listRg hc hg hm (prg_1 hg2 hm2 ha na) nb) fun σ H Q ⟨pa, O, env, g, R, h⟩ => ?_
  refine ⟨pa, O, env, g, R, postX_bnd h fun sx env' g' v O' H' e s R' o q => ?_⟩
  obtain ⟨n, hn, q⟩ := post_onS q
  have ev := int_rep hn o.1
  subst ev
  by_cases c : 0 ≤ n ∧ n ≤ 1000
  · rw [if_pos c] at q
    refine ⟨n, rfl, ⟨by omega, by omega, by omega, by omega, by omega⟩, fun t ht => ?_⟩
    · obtain ⟨s2, R2, o2⟩ := R'.newList (ds := rangeD n) (vs := rgV 0 n) (by
        unfold rangeD rgV
        rw [Int.sub_zero]
        exact reps_range _) ht
      exact q _ _ s2 R2 _ o2
  · rw [if_neg c] at q; exact q.elim
end
end Z
end
section
set_option linter.all false
set_option maxRecDepth 100000
set_option maxHeartbeats 1000000
/-! ZI: statements. -/
namespace Z
open PySem PySem.Spec PyProof.Rows L2

/-! ### blocks -/
def sNil : Mir Ctl := ret .nx
def sSeq (a b : Mir Ctl) : Mir Ctl := bnd a fun c => match c with
  | .nx => b
  | c => ret c
section
variable {X : Cx} {W : Wx} {st : Stmt} {rest body orelse : List Stmt} {e a b : Expr} {pos p : Pos} {m ma mb : Mir Sl} {m1 m2 : Mir Ctl} {mt : Mir Bool} {ms : Mir (List Sl)}
theorem zs_nil : PSs X [] (zS X.K W sNil) := pss_weak pss_nil fun D σ H ⟨pa, O, env, g, R, h⟩ => h σ O H (Same.refl _) R
theorem postC_seq {K : PySem.W.Frag} {pa : Bs} {O : List Addr} {H : Hp} {env : Env} {g : Pen} {D : Ends} (h : PostC K pa O H W (sSeq m1 m2 env g) D) : PostC K pa O H W (m1 env g) { D with nx := fun σ' H' => zS K W m2 D σ' H' } := by
  unfold sSeq bnd at h
  cases e : m1 env g with
  | bad => rw [e] at h; exact h
  | exc x g' => rw [e] at h; exact h
  | ok c env' g' =>
    rw [e] at h
    cases c with
    | nx => exact fun σ' O' H' s R => ⟨pa, O', env', g', R, PostC.from_ h s⟩
    | bk => exact h
    | ct => exact h
    | rt sl => exact h
theorem zs_cons (h1 : PS X st (zS X.K W m1)) (h2 : PSs X rest (zS X.K W m2)) : PSs X (st :: rest) (zS X.K W (sSeq m1 m2)) :=
  pss_weak (pss_cons h1 h2) fun D σ H ⟨pa, O, env, g, R, h⟩ => ⟨pa, O, env, g, R, postC_seq h⟩
theorem zs_one (h1 : PS X st (zS X.K W m1)) : PSs X [st] (zS X.K W m1) := pss_weak (pss_one h1) fun D σ H h => h
def sIf (mt : Mir Bool) (a b : Mir Ctl) : Mir Ctl := bnd mt fun c => if c = true then a else b
/-- from an expression's part to a statement's -/
theorem postC_bnd {α : Type} {K : PySem.W.Frag} {pa : Bs} {O : List Addr} {H : Hp} {σ : L2.St} {env : Env} {g : Pen} {D : Ends} {m : Mir α} {f : α → Mir Ctl} {S : α → Env → Pen → List Addr → Hp → Prop} (h : PostC K pa O H W (bnd m f env g) D)
    (k : ∀ a env' g' O' H', m env g = .ok a env' g' → Same (mask pa O H) (mask pa O' H') → Rel K pa O' H' σ env' g' → PostC K pa O' H' W (f a env' g') D → S a env' g' O' H') : PostG K pa O H σ W (m env g) S := by
  unfold bnd at h
  cases e : m env g with
  | ok sl env' g' =>
    rw [e] at h
    exact fun O' H' s R => k sl env' g' O' H' e s R (PostC.from_ h s)
  | exc x g' => rw [e] at h; exact h
  | bad => rw [e] at h; exact h
theorem zs_if (hc : PT X e (zB X.K W mt)) (ha : PSs X body (zS X.K W m1)) (hb : PSs X orelse (zS X.K W m2)) : PS X (.If e body orelse pos) (zS X.K W (sIf mt m1 m2)) :=
  ps_weak (ps_if hc ha hb) fun D σ H ⟨pa, O, env, g, R, h⟩ => ⟨pa, O, env, g, R, postC_bnd h fun c env' g' O' H' e s R' q => by
    cases c with
    | true => exact ⟨pa, O', env', g', R', q⟩
    | false => exact ⟨pa, O', env', g', R', q⟩⟩
def sRet (m : Mir Sl) : Mir Ctl := bnd m fun sl => ret (.rt sl)
theorem zs_ret (he : PE X e (zE X.K W m)) : PS X (.Return (some e) pos) (zS X.K W (sRet m)) :=
  ps_weak (ps_ret he) fun D σ H ⟨pa, O, env, g, R, h⟩ => ⟨pa, O, env, g, R, postC_bnd h fun sl env' g' O' H' e s R' q v o => q v O' H' (Same.refl _) R'.bas o.1 fun z => (o.2 z).1⟩
def sBreak : Mir Ctl := ret .bk
def sCont : Mir Ctl := ret .ct
theorem zs_break : PS X (.Break pos) (zS X.K W sBreak) := ps_weak ps_break fun D σ H ⟨pa, O, env, g, R, h⟩ => h σ O H (Same.refl _) R
theorem zs_continue : PS X (.Continue pos) (zS X.K W sCont) := ps_weak ps_continue fun D σ H ⟨pa, O, env, g, R, h⟩ => h σ O H (Same.refl _) R
def sPass : Mir Ctl := ret .nx
theorem zs_pass : PS X (.Pass pos) (zS X.K W sPass) := ps_weak ps_pass fun D σ H ⟨pa, O, env, g, R, h⟩ => h σ O H (Same.refl _) R
def sExpr (m : Mir Sl) : Mir Ctl := bnd m fun _ => ret .nx
theorem zs_expr (he : PE X e (zE X.K W m)) (hs : swapsWith e none pos.line X.env = pure false := by rfl) : PS X (.Expr e pos) (zS X.K W (sExpr m)) :=
  ps_weak (ps_expr he hs) fun D σ H ⟨pa, O, env, g, R, h⟩ => ⟨pa, O, env, g, R, postC_bnd h fun sl env' g' O' H' e s R' q v o => q σ O' H' (Same.refl _) R'⟩

/-! ### names -/
def setE (i : Nat) (sl : Sl) : Mir Ctl := fun env g => .ok .nx (env.set i (some sl)) g
def sSet (i : Nat) (m : Mir Sl) : Mir Ctl := bnd m fun sl => setE i sl
theorem Rel.store {K : PySem.W.Frag} {pa : Bs} {O : List Addr} {H : Hp} {σ : L2.St} {env : Env} {g : Pen} (R : Rel K pa O H σ env g) {i : Nat} {sl : Sl} {v : V} (o : Out K pa O H σ env sl v) : Rel K pa O H (σ.set i (some v)) (env.set i (some sl)) g := by
  have keep : ∀ {j : Nat} {sl' : Sl}, j ≠ i → (env.set i (some sl))[j]? = some (some sl') → env[j]? = some (some sl') := fun {j sl'} hj e => by
    rw [List.getElem?_set_ne (Ne.symm hj)] at e
    exact e
  have at_i : ∀ {sl' : Sl}, (env.set i (some sl))[i]? = some (some sl') → sl' = sl ∧ i < env.length := fun {sl'} e => by
    by_cases hl : i < env.length
    · rw [List.getElem?_set_self hl] at e
      exact ⟨(Option.some.inj (Option.some.inj e)).symm, hl⟩
    · rw [List.getElem?_eq_none (by rw [List.length_set]; omega)] at e
      cases e
  have sig : ∀ {j : Nat}, j ≠ i → (σ.set i (some v))[j]? = σ[j]? := fun {j} hj => List.getElem?_set_ne (Ne.symm hj)
  have sigi : i < env.length → (σ.set i (some v))[i]? = some (some v) := fun hl => List.getElem?_set_self (by rw [← R.len]; exact hl)
  refine ⟨by rw [List.length_set, List.length_set]; exact R.len, R.bas, fun j sl' e => ?_, fun j k s1 s2 w e1 e2 e3 e4 o1 o2 => ?_, fun j sl' a e ow ha e3 => ?_⟩
  · by_cases hj : j = i
    · subst hj
      obtain ⟨rfl, hl⟩ := at_i e
      exact ⟨v, sigi hl, o.1⟩
    · obtain ⟨u, h1, h2⟩ := R.slot j sl' (keep hj e)
      exact ⟨u, by rw [sig hj]; exact h1, h2⟩
  · by_cases hj : j = i
    · by_cases hk : k = i
      · rw [hj, hk]
      · subst hj
        obtain ⟨rfl, hl⟩ := at_i e1
        rw [sigi hl] at e3
        cases e3
        rw [sig hk] at e4
        exact absurd e4 ((o.2 o1).2 k s2 (keep hk e2) o2)
    · by_cases hk : k = i
      · subst hk
        obtain ⟨rfl, hl⟩ := at_i e2
        rw [sigi hl] at e4
        cases e4
        rw [sig hj] at e3
        exact absurd e3 ((o.2 o2).2 j s1 (keep hj e1) o1)
      · rw [sig hj] at e3
        rw [sig hk] at e4
        exact R.apart j k s1 s2 w (keep hj e1) (keep hk e2) e3 e4 o1 o2
  · by_cases hj : j = i
    · subst hj
      obtain ⟨rfl, hl⟩ := at_i e
      rw [sigi hl] at e3
      cases e3
      exact (o.2 ow).1 a ha rfl
    · rw [sig hj] at e3
      exact R.nohid j sl' a (keep hj e) ow ha e3
theorem zs_set (i : Nat) {x : PySem.Str} {pos' : Pos} (hN : X.N.Nodup) (he : PE X e (zE X.K W m)) (hi : X.N[i]? = some x := by rfl) (hx : Loc X.env.scope x := by first | exact Or.inl rfl | exact Or.inr rfl) (hs : swapsWith e (some (.Name x pos')) pos.line X.env = pure false := by rfl) (hf : X.fn x = true ∨ X.env.scope.names.lookup x = some .local := by first | exact .inl rfl | exact .inr rfl) :
    PS X (.Assign [.Name x pos'] e pos) (zS X.K W (sSet i m)) :=
  ps_weak (ps_set hN hi hx he hs hf) fun D σ H ⟨pa, O, env, g, R, h⟩ => ⟨pa, O, env, g, R, postC_bnd h fun sl env' g' O' H' e s R' q v o => q (σ.set i (some v)) O' H' (Same.refl _) (R'.store o)⟩

/-! ### targets -/
inductive Tgt where
  | name (i : Nat)
  | two (i j : Nat)
  | three (i j k : Nat)
def Tgt.slots : Tgt → List Nat
  | .name i => [i]
  | .two i j => [i, j]
  | .three i j k => [i, j, k]
def bindT : Tgt → D → Env → Option Env
  | .name i, d, env => some (env.set i (some (.val d)))
  | .two i j, .tuple [x, y], env => some ((env.set i (some (.val x))).set j (some (.val y)))
  | .three i j k, .tuple [x, y, z], env => some (((env.set i (some (.val x))).set j (some (.val y))).set k (some (.val z)))
  | _, _, _ => none
theorem bindT_two {i j : Nat} {d : D} {env env' : Env} (h : bindT (.two i j) d env = some env') : ∃ x y, d = .tuple [x, y] ∧ env' = (env.set i (some (.val x))).set j (some (.val y)) := by
  match d, h with
  | .tuple [x, y], h => exact ⟨x, y, rfl, (Option.some.inj h).symm⟩
  | .tuple [], h => cases h
  | .tuple [_], h => cases h
  | .tuple (_ :: _ :: _ :: _), h => cases h
  | .none, h => cases h
  | .bool _, h => cases h
  | .int _, h => cases h
  | .str _, h => cases h
  | .list _, h => cases h
  | .dict _, h => cases h
theorem bindT_three {i j k : Nat} {d : D} {env env' : Env} (h : bindT (.three i j k) d env = some env') : ∃ x y z, d = .tuple [x, y, z] ∧ env' = ((env.set i (some (.val x))).set j (some (.val y))).set k (some (.val z)) := by
  match d, h with
  | .tuple [x, y, z], h => exact ⟨x, y, z, rfl, (Option.some.inj h).symm⟩
  | .tuple [], h => cases h
  | .tuple [_], h => cases h
  | .tuple [_, _], h => cases h
  | .tuple (_ :: _ :: _ :: _ :: _), h => cases h
  | .none, h => cases h
  | .bool _, h => cases h
  | .int _, h => cases h
  | .str _, h => cases h
  | .list _, h => cases h
  | .dict _, h => cases h
/-- the reading of a target serves such a binding of settled data -/
def TgtOk (K : PySem.W.Frag) (t : Tgt) (tg : TG) : Prop := ∀ (pa : Bs) (O : List Addr) (H : Hp) (σ : L2.St) (env env' : Env) (g : Pen) (d : D) (v : V) (Q : L2.St → Hp → Prop), Rel K pa O H σ env g → Rep K (mask pa O H) d v → bindT t d env = some env' →
  (∀ σ', Rel K pa O H σ' env' g → (∀ j, j ∉ t.slots → σ'[j]? = σ[j]?) → σ'.length = σ.length → Q σ' H) → tg v σ H Q
theorem tok_name {K : PySem.W.Frag} {i : Nat} : TgtOk K (.name i) (gName i) := fun pa O H σ env env' g d v Q R r e q => by
  cases e
  exact q _ (R.store (Out.plain r rfl)) (fun j hj => List.getElem?_set_ne (fun z => hj (by simp [Tgt.slots, z]))) (List.length_set ..)
theorem tok_two {K : PySem.W.Frag} {i j : Nat} : TgtOk K (.two i j) (gTup K 2 (gCons (gName i) (gCons (gName j) gNil))) := fun pa O H σ env env' g d v Q R r e q => by
  obtain ⟨x, y, rfl, rfl⟩ := bindT_two e
  simp only [Rep, Reps] at r
  obtain ⟨a, vs, rfl, ha, v1, r1, rfl, q1, v2, r2, rfl, q2, rfl⟩ := r
  refine ⟨a, [v1, v2], rfl, sqt mask_le ha, rfl, v1, [v2], rfl, v2, [], rfl, rfl, ?_⟩
  have R1 := R.store (i := i) (Out.plain (σ := σ) (env := env) (sl := .val x) q1 rfl)
  have R2 := R1.store (i := j) (Out.plain (sl := .val y) q2 rfl)
  refine q _ R2 (fun l hl => ?_) (by rw [List.length_set, List.length_set])
  rw [List.getElem?_set_ne (fun z => hl (by simp [Tgt.slots, z])), List.getElem?_set_ne (fun z => hl (by simp [Tgt.slots, z]))]
theorem tok_three {K : PySem.W.Frag} {i j k : Nat} : TgtOk K (.three i j k) (gTup K 3 (gCons (gName i) (gCons (gName j) (gCons (gName k) gNil)))) := fun pa O H σ env env' g d v Q R r e q => by
  obtain ⟨x, y, z, rfl, rfl⟩ := bindT_three e
  simp only [Rep, Reps] at r
  obtain ⟨a, vs, rfl, ha, v1, r1, rfl, q1, v2, r2, rfl, q2, v3, r3, rfl, q3, rfl⟩ := r
  refine ⟨a, [v1, v2, v3], rfl, sqt mask_le ha, rfl, v1, [v2, v3], rfl, v2, [v3], rfl, v3, [], rfl, rfl, ?_⟩
  have R1 := R.store (i := i) (Out.plain (σ := σ) (env := env) (sl := .val x) q1 rfl)
  have R2 := R1.store (i := j) (Out.plain (sl := .val y) q2 rfl)
  have R3 := R2.store (i := k) (Out.plain (sl := .val z) q3 rfl)
  refine q _ R3 (fun l hl => ?_) (by rw [List.length_set, List.length_set, List.length_set])
  rw [List.getElem?_set_ne (fun z => hl (by simp [Tgt.slots, z])), List.getElem?_set_ne (fun z => hl (by simp [Tgt.slots, z])), List.getElem?_set_ne (fun z => hl (by simp [Tgt.slots, z]))]
end
end Z
end
section
set_option linter.all false
set_option maxRecDepth 100000
set_option maxHeartbeats 1000000
/-! ZJ: what is gone through; loops; list comprehensions. -/
namespace Z
open PySem PySem.Spec PyProof.Rows L2

/-! ### walks -/
/-- what a turn gives -/
def YldOk (K : PySem.W.Frag) (pa : Bs) (O : List Addr) (d : D) (x : V) (H H' : Hp) : Prop :=
  (H' = H ∧ Rep K (mask pa O H) d x) ∨ ∃ p vs ds, H p = none ∧ H' = upd H p (.tup vs) ∧ x = .ref p ∧ d = .tuple ds ∧ Reps K (mask pa O H) ds vs
/-- J goes through ds while F stands -/
structure Walk (K : PySem.W.Frag) (pa : Addr) (M F : Hp) (J : It) (ds : List D) : Prop where
  go : ∀ i H, Same F H → i < ds.length → J.go i H
  stop : ∀ H, Same F H → J.stop ds.length H
  yld : ∀ (pb : Bs) i O H x H' d g, pb.a = pa → Bas pb O H g → Same M (mask pb O H) → Same F H → ds[i]? = some d → J.yld i H x H' → YldOk K pb O d x H H'
theorem Walk.less {K : PySem.W.Frag} {pa : Addr} {M F F' : Hp} {J : It} {ds : List D} (w : Walk K pa M F J ds) (s : Same F F') : Walk K pa M F' J ds :=
  ⟨fun i H q => w.go i H (s.trans q), fun H q => w.stop H (s.trans q), fun pb i O H x H' d g e b m q => w.yld pb i O H x H' d g e b m (s.trans q)⟩
section
variable {K : PySem.W.Frag} {pa : Addr} {M F : Hp} {a b : Addr} {vs us : List V} {ds es : List D}
theorem walk_lst (hF : F a = some (.lst vs)) (r : Reps K M ds vs) : Walk K pa M F (Itl K a) ds where
  go := fun i H q hi => ⟨vs, vs[i]'(by rw [← r.length]; exact hi), .inl (.inl (q _ _ hF)), List.getElem?_eq_getElem _⟩
  stop := fun H q => ⟨vs, .inl (.inl (q _ _ hF)), Nat.le_of_eq r.length.symm⟩
  yld := fun pb i O H x H' d g _ _ m q e y => by
    obtain ⟨rfl, y⟩ := y
    obtain ⟨v, e1, r1⟩ := r.at_ e
    rw [y vs (.inl (.inl (q _ _ hF)))] at e1
    cases e1
    exact .inl ⟨rfl, r1.mono m⟩
theorem walk_tup (hF : F a = some (.tup vs)) (r : Reps K M ds vs) : Walk K pa M F (Itt K a) ds where
  go := fun i H q hi => ⟨vs, vs[i]'(by rw [← r.length]; exact hi), .inl (.inl (q _ _ hF)), List.getElem?_eq_getElem _⟩
  stop := fun H q => ⟨vs, .inl (.inl (q _ _ hF)), Nat.le_of_eq r.length.symm⟩
  yld := fun pb i O H x H' d g _ _ m q e y => by
    obtain ⟨rfl, y⟩ := y
    obtain ⟨v, e1, r1⟩ := r.at_ e
    rw [y vs (.inl (.inl (q _ _ hF)))] at e1
    cases e1
    exact .inl ⟨rfl, r1.mono m⟩
def rngD (lo c : Int) (n : Nat) : List D := (List.range n).map fun (i : Nat) => PyData.int (lo + (i : Int) * c)
theorem rngD_at {lo c : Int} {n i : Nat} {d : D} (h : (rngD lo c n)[i]? = some d) : d = .int (lo + (i : Int) * c) := by
  unfold rngD at h
  rw [List.getElem?_map] at h
  by_cases hi : i < n
  · rw [List.getElem?_range hi] at h
    exact (Option.some.inj h).symm
  · rw [List.getElem?_eq_none (by simpa using hi)] at h
    cases h
theorem walk_rng {lo : Int} {n : Nat} : Walk K pa M F (Itr lo n) (rngD lo 1 n) where
  go := fun i H q hi => by
    show i < n
    simpa [rngD] using hi
  stop := fun H q => by show n ≤ _; simp [rngD]
  yld := fun pb i O H x H' d g _ _ m q e y => by
    obtain ⟨rfl, rfl⟩ := y
    rw [rngD_at e, Int.mul_one]
    exact .inl ⟨rfl, by simp only [Rep]⟩
theorem walk_rngC {lo c : Int} {n : Nat} : Walk K pa M F (Itc lo c n) (rngD lo c n) where
  go := fun i H q hi => by
    show i < n
    simpa [rngD] using hi
  stop := fun H q => by show n ≤ _; simp [rngD]
  yld := fun pb i O H x H' d g _ _ m q e y => by
    obtain ⟨rfl, rfl⟩ := y
    rw [rngD_at e]
    exact .inl ⟨rfl, by simp only [Rep]⟩
theorem RepK.length {K : PySem.W.Frag} {F : Hp} : ∀ {kvs : List (D × D)} {ks : List (Key × V)}, RepK K F kvs ks → kvs.length = ks.length
  | [], _, h => by simp only [RepK] at h; rw [h]; rfl
  | (k, d) :: r, ks, h => by
    simp only [RepK] at h
    obtain ⟨_, _, r', rfl, _, _, h2⟩ := h
    rw [List.length_cons, List.length_cons, RepK.length h2]
theorem RepT.length {K : PySem.W.Frag} {F : Hp} : ∀ {kvs : List (D × D)} {ks : List (List Key × V)}, RepT K F kvs ks → kvs.length = ks.length
  | [], _, h => by simp only [RepT] at h; rw [h]; rfl
  | (k, d) :: r, ks, h => by
    simp only [RepT] at h
    obtain ⟨_, _, r', rfl, _, _, h2⟩ := h
    rw [List.length_cons, List.length_cons, RepT.length h2]
theorem RepK.keyAt {K : PySem.W.Frag} {F : Hp} : ∀ {kvs : List (D × D)} {ks : List (Key × V)} {i : Nat} {k : Key} {v : V}, RepK K F kvs ks → ks[i]? = some (k, v) → (kvs.map (·.1))[i]? = some (kD k)
  | [], _, i, k, v, h, e => by simp only [RepK] at h; rw [h] at e; simp at e
  | (q, d) :: r, ks, i, k, v, h, e => by
    simp only [RepK] at h
    obtain ⟨key, u, r', rfl, rfl, _, h2⟩ := h
    cases i with
    | zero => cases e; rfl
    | succ i => exact RepK.keyAt (i := i) h2 e
theorem RepT.keyAt {K : PySem.W.Frag} {F : Hp} : ∀ {kvs : List (D × D)} {ks : List (List Key × V)} {i : Nat} {k : List Key} {v : V}, RepT K F kvs ks → ks[i]? = some (k, v) → (kvs.map (·.1))[i]? = some (.tuple (k.map kD))
  | [], _, i, k, v, h, e => by simp only [RepT] at h; rw [h] at e; simp at e
  | (q, d) :: r, ks, i, k, v, h, e => by
    simp only [RepT] at h
    obtain ⟨key, u, r', rfl, rfl, _, h2⟩ := h
    cases i with
    | zero => cases e; rfl
    | succ i => exact RepT.keyAt (i := i) h2 e
theorem rep_key {k : Key} : Rep K F (kD k) (kV k) := by cases k <;> simp only [kD, kV, Rep]
theorem reps_keys : ∀ {ks : List Key}, Reps K F (ks.map kD) (ks.map kV)
  | [] => by simp only [List.map_nil, Reps]
  | k :: ks => by
    simp only [List.map_cons, Reps]
    exact ⟨_, _, rfl, rep_key, reps_keys⟩
theorem walk_keys {o : Obj} {kvs : List (D × D)} {ks : List (Key × V)} (hF : F a = some (.frz o (.dK ks))) (r : RepK K M kvs ks) : Walk K pa M F (Itk a o ks) (kvs.map (·.1)) where
  go := fun i H q hi => ⟨q _ _ hF, by rw [← r.length]; simpa using hi⟩
  stop := fun H q => ⟨q _ _ hF, by rw [← r.length]; simp⟩
  yld := fun pb i O H x H' d g _ _ m q e y => by
    obtain ⟨rfl, k, v, e1, rfl⟩ := y
    rw [r.keyAt e1] at e
    cases e
    exact .inl ⟨rfl, rep_key⟩
theorem walk_keysT {o : Obj} {kvs : List (D × D)} {ks : List (List Key × V)} (hF : F a = some (.frz o (.dT ks))) (r : RepT K M kvs ks) : Walk K pa M F (Itkt a o ks) (kvs.map (·.1)) where
  go := fun i H q hi => ⟨q _ _ hF, by rw [← r.length]; simpa using hi⟩
  stop := fun H q => ⟨q _ _ hF, by rw [← r.length]; simp⟩
  yld := fun pb i O H x H' d g hpa B m q e y => by
    obtain ⟨rfl, k, v, p, e1, rfl, hp⟩ := y
    rw [r.keyAt e1] at e
    cases e
    refine .inl ⟨rfl, ?_⟩
    simp only [Rep]
    refine ⟨p, k.map kV, rfl, mask_of (fun z => ?_) (fun z => ?_) hp, reps_keys⟩
    · obtain ⟨ca, hc, _⟩ := B.pen
      rw [← z, hp] at hc
      cases hc
    · have := B.dom p z
      rw [hp] at this
      cases this
end

/-! ### iterators -/
section
variable {X : Cx} {W : Wx} {tg e e2 : Expr} {m : Mir Sl} {pos p : Pos}
theorem pi_weak {tg it : Expr} {t t' : TI} (h : PI X tg it t) (w : ∀ σ H R, t' σ H R → t σ H R) : PI X tg it t' := ⟨fun pins s σ H R I q => h.run pins s σ H R I (w σ H R q)⟩
/-- a list, a tuple, the keys of a dict, by the value -/
def iAny (K : PySem.W.Frag) (td : TE) : TI := fun σ H R => td σ H fun x H1 => ∃ a, x = .ref a ∧ ((∃ xs, SqL K H1 a xs ∧ (xs.length ≤ sizeLine → R (Itl K a) H1)) ∨ (∃ xs, SqT K H1 a xs ∧ (xs.length ≤ sizeLine → R (Itt K a) H1)) ∨
  (∃ o ks, H1 a = some (.frz o (.dK ks)) ∧ (ks.length ≤ sizeLine → R (Itk a o ks) H1)) ∨ (∃ o ks, H1 a = some (.frz o (.dT ks)) ∧ (ks.length ≤ sizeLine → R (Itkt a o ks) H1)))
section
variable {pins : List (Addr × Obj)} {σ : L2.St} {H : Hp} {s : Shared} {R : It → Hp → Prop} {a : Addr} {xs : List V} {o : Obj} {E : Value → Shared → Prop}
/-- a walk over what stands at a begins, by what stands there -/
theorem begin_lst (I : Inv X pins σ H s) (h : SqL X.K H a xs) (q : xs.length ≤ sizeLine → R (Itl X.K a) H) : wpAny (model X.prog X.w) X.A (pyIter (.ref a)) (PIE X pins σ tg R) E s :=
  let ⟨_, _, at_, fits⟩ := I.list h
  wpAny_pyIter_list at_.isList (pi_one (tk := s.toks) I _ (turn_list a _) ⟨_, Heap.get?_push_size _ rfl, rfl, rfl⟩ (q fits))
theorem begin_tup (I : Inv X pins σ H s) (h : SqT X.K H a xs) (q : xs.length ≤ sizeLine → R (Itt X.K a) H) : wpAny (model X.prog X.w) X.A (pyIter (.ref a)) (PIE X pins σ tg R) E s := by
  obtain ⟨items, _, at_, fits⟩ := I.tuple h
  have is : s.heap.IsTuple a items.toArray := at_
  exact wpAny_pyIter_tuple is (pi_one (tk := s.toks) I _ (turn_tuple a _) ⟨_, Heap.get?_push_size _ rfl, rfl, rfl⟩ (q fits))
theorem begin_dK {ks : List (Key × V)} (I : Inv X pins σ H s) (h : H a = some (.frz o (.dK ks))) (q : ks.length ≤ sizeLine → R (Itk a o ks) H) : wpAny (model X.prog X.w) X.A (pyIter (.ref a)) (PIE X pins σ tg R) E s := by
  have fits := (I.hok a _ h).2.1
  obtain ⟨g1, g2, g3, ents, room, _, tbl, sz, _⟩ := I.frzK h
  exact iter_keys g1 g2 g3 tbl (pi_one (tk := s.toks) I _ (turn_keys _ tbl) ⟨_, Heap.get?_push_size _ rfl, rfl, by simp only [sz]; rfl⟩ (q fits))
theorem begin_dT {ks : List (List Key × V)} (I : Inv X pins σ H s) (h : H a = some (.frz o (.dT ks))) (q : ks.length ≤ sizeLine → R (Itkt a o ks) H) : wpAny (model X.prog X.w) X.A (pyIter (.ref a)) (PIE X pins σ tg R) E s := by
  have fits := (I.hok a _ h).2.1
  obtain ⟨g1, g2, g3, ents, room, tbl, sz, _⟩ := I.frzT h
  exact iter_keys g1 g2 g3 tbl (pi_one (tk := s.toks) I _ (turn_keysT _ tbl) ⟨_, Heap.get?_push_size _ rfl, rfl, by simp only [sz]; rfl⟩ (q fits))
end
theorem pi_any {td : TE} (he : PE X e td) : PI X tg e (iAny X.K td) where
  run pins s σ H R I h := by
    refine wpAny_mono (he.run pins s σ H _ I h) ?_ fun _ _ z => z
    intro u s1 ⟨_, H1, I1, rel, a, e, q⟩
    subst e
    rw [show u = Value.ref a from rel]
    exact q.elim (fun ⟨_, h1, h2⟩ => begin_lst I1 h1 h2) fun q => q.elim (fun ⟨_, h1, h2⟩ => begin_tup I1 h1 h2) fun q => q.elim (fun ⟨_, _, h1, h2⟩ => begin_dK I1 h1 h2) fun ⟨_, _, h1, h2⟩ => begin_dT I1 h1 h2

/-- an iterator over settled data; b: within a block that writes nothing but its own list -/
def zI (b : Bool) (K : PySem.W.Frag) (E : Wx) (mi : Mir (List D)) : TI := fun σ H R => ∃ pa O env g, Rel K pa O H σ env g ∧
  PostG K pa O H σ E (mi env g) fun ds _ _ O' H' => ∀ J, Walk K pa.a (mask pa O' H') (if b = true then mask pa [] H' else mask pa O' H') J ds → ds.length ≤ sizeLine → R J H'
theorem mask_b {pa : Bs} {O : List Addr} {H : Hp} (b : Bool) : Same (mask pa O H) (if b = true then mask pa [] H else mask pa O H) := by
  cases b
  · exact Same.refl _
  · exact mask_less fun a h => by cases h
def isClo : List (D × D) → Bool
  | (.none, _) :: _ => true
  | _ => false
theorem CloAt.isClo {F : Hp} {kvs : List (D × D)} {a : Addr} (h : CloAt F kvs a) : isClo kvs = true := by
  obtain ⟨k, n, L, rfl, _⟩ := h
  rfl
def itVal (m : Mir Sl) : Mir (List D) := bnd m fun sl => match sl with
  | .val (.list ds) => ret ds
  | .val (.tuple ds) => ret ds
  | .val (.dict kvs) => if isClo kvs = true then bad else ret (kvs.map (·.1))
  | _ => bad
theorem zi_val {b : Bool} (he : PE X e (zE X.K W m)) : PI X tg e (zI b X.K W (itVal m)) :=
  pi_weak (pi_any he) fun σ H R ⟨pa, O, env, g, Rl, h⟩ => ⟨pa, O, env, g, Rl, postX_bnd h fun sl env' g' v O' H' e s R' o q => by
    cases sl with
    | val d =>
      have o : Rep X.K (mask pa O' H') d v := o.1
      cases d with
      | list ds =>
        simp only [Rep] at o
        obtain ⟨a, vs, rfl, ha, r⟩ := o
        exact ⟨a, rfl, .inl ⟨vs, sql mask_le ha, fun hz => q O' H' (Same.refl _) R' _ (walk_lst (mask_b b _ _ ha) r) (by rw [r.length]; exact hz)⟩⟩
      | tuple ds =>
        simp only [Rep] at o
        obtain ⟨a, vs, rfl, ha, r⟩ := o
        exact ⟨a, rfl, .inr (.inl ⟨vs, sqt mask_le ha, fun hz => q O' H' (Same.refl _) R' _ (walk_tup (mask_b b _ _ ha) r) (by rw [r.length]; exact hz)⟩)⟩
      | dict kvs =>
        simp only [Rep] at o
        simp only [] at q
        cases hc : isClo kvs with
        | true => rw [if_pos hc] at q; exact q.elim
        | false =>
        rw [if_neg (by rw [hc]; exact Bool.false_ne_true)] at q
        obtain ⟨a, ob, rfl, ⟨ks, ha, r⟩ | ⟨ks, ha, r⟩ | r⟩ := o
        · exact ⟨a, rfl, .inr (.inr (.inl ⟨ob, ks, mask_le _ _ ha, fun hz => q O' H' (Same.refl _) R' _ (walk_keys (mask_b b _ _ ha) r) (by rw [List.length_map, r.length]; exact hz)⟩))⟩
        · exact ⟨a, rfl, .inr (.inr (.inr ⟨ob, ks, mask_le _ _ ha, fun hz => q O' H' (Same.refl _) R' _ (walk_keysT (mask_b b _ _ ha) r) (by rw [List.length_map, r.length]; exact hz)⟩))⟩
        · rw [r.isClo] at hc; cases hc
      | none => exact q.elim
      | bool _ => exact q.elim
      | int _ => exact q.elim
      | str _ => exact q.elim
    | pen => exact q.elim
    | raw _ => exact q.elim
    | ol _ => exact q.elim
    | ok _ => exact q.elim
    | ot _ => exact q.elim
    | tb => exact q.elim⟩
/-- what a name holds, borrowed -/
def itOwn (i : Nat) : Mir (List D) := fun env g => match env[i]? with
  | some (some (.ol ds)) => .ok ds env g
  | some (some (.val (.list ds))) => .ok ds env g
  | some (some (.val (.tuple ds))) => .ok ds env g
  | _ => .bad
theorem zi_own (i : Nat) {x : PySem.Str} (hN : X.N[i]? = some x := by rfl) (hv : Vis X.env.scope x := by first | exact Or.inl rfl | exact Or.inr (Or.inl rfl) | exact Or.inr (Or.inr rfl)) (hd : (x == ("__debug__" : PySem.Str)) = false := by decide)
    (hcd : (x == ("__classdict__" : PySem.Str)) = false := by decide) : PI X tg (.Name x pos) (zI true X.K W (itOwn i)) :=
  pi_weak (pi_any (pe_var hN hv hd hcd)) fun σ H R ⟨pa, O, env, g, Rl, h⟩ => by
    cases e : env[i]? with
    | none =>
      simp only [itOwn, e] at h
      exact h.elim
    | some o =>
      cases o with
      | none =>
        simp only [itOwn, e] at h
        exact h.elim
      | some sl =>
        obtain ⟨v, hv, r⟩ := Rl.slot i sl e
        refine ⟨v, hv, ?_⟩
        cases sl with
        | ol ds =>
          simp only [itOwn, e] at h
          obtain ⟨a, vs, rfl, hm, ha, r⟩ := r
          refine ⟨a, rfl, .inl ⟨vs, .inl (.inl ha), fun hz => h O H (Same.refl _) Rl _ (walk_lst (mask_of (fun z => Rl.nopa (z ▸ hm)) (fun z => by cases z) ha) r) (by rw [r.length]; exact hz)⟩⟩
        | val d =>
          have r : Rep X.K (mask pa O H) d v := r
          cases d with
          | list ds =>
            simp only [itOwn, e] at h
            simp only [Rep] at r
            obtain ⟨a, vs, rfl, ha, r⟩ := r
            exact ⟨a, rfl, .inl ⟨vs, sql mask_le ha, fun hz => h O H (Same.refl _) Rl _ (walk_lst (mask_b true _ _ ha) r) (by rw [r.length]; exact hz)⟩⟩
          | tuple ds =>
            simp only [itOwn, e] at h
            simp only [Rep] at r
            obtain ⟨a, vs, rfl, ha, r⟩ := r
            exact ⟨a, rfl, .inr (.inl ⟨vs, sqt mask_le ha, fun hz => h O H (Same.refl _) Rl _ (walk_tup (mask_b true _ _ ha) r) (by rw [r.length]; exact hz)⟩)⟩
          | none => simp only [itOwn, e] at h; exact h.elim
          | bool _ => simp only [itOwn, e] at h; exact h.elim
          | int _ => simp only [itOwn, e] at h; exact h.elim
          | str _ => simp only [itOwn, e] at h; exact h.elim
          | dict _ => simp only [itOwn, e] at h; exact h.elim
        | pen => simp only [itOwn, e] at h; exact h.elim
        | raw _ => simp only [itOwn, e] at h; exact h.elim
        | ok _ => simp only [itOwn, e] at h; exact h.elim
        | ot _ => simp only [itOwn, e] at h; exact h.elim
        | tb => simp only [itOwn, e] at h; exact h.elim

/-! ### range -/
def small62 (i : Int) : Bool := decide (-1000000 ≤ i) && decide (i ≤ 1000000)
theorem small62_of {i : Int} (h : small62 i = true) : -1000000 ≤ i ∧ i ≤ 1000000 := by simpa [small62] using h
def itRng1 (ms : Mir (List Sl)) : Mir (List D) := bnd ms fun l => match l with
  | [.val (.int j)] => if small62 j = true then ret (rngD 0 1 j.toNat) else bad
  | _ => bad
def itRng2 (ms : Mir (List Sl)) : Mir (List D) := bnd ms fun l => match l with
  | [.val (.int i), .val (.int j)] => if small62 i = true ∧ small62 j = true then ret (rngD i 1 (j - i).toNat) else bad
  | _ => bad
def itRngDown (ms : Mir (List Sl)) : Mir (List D) := bnd ms fun l => match l with
  | [.val (.int i), .val (.int j), .val (.int c)] => if small62 i = true ∧ small62 j = true ∧ c = -1 then ret (rngD i (-1) (i - j).toNat) else bad
  | _ => bad
theorem rngD_len {lo c : Int} {n : Nat} (h : n ≤ 2000000) : (rngD lo c n).length ≤ sizeLine := by
  have e : sizeLine = 16777216 := by rw [sizeLine_eq]
  simp only [rngD, List.length_map, List.length_range]
  omega
theorem itRng1_inv {l : List Sl} {K : PySem.W.Frag} {pa : Bs} {O : List Addr} {H : Hp} {σ : L2.St} {E : Wx} {env : Env} {g : Pen} {S : List D → Env → Pen → List Addr → Hp → Prop} (h : PostG K pa O H σ E ((match l with
  | [.val (.int j)] => if small62 j = true then ret (rngD 0 1 j.toNat) else bad
  | _ => bad : Mir (List D)) env g) S) : ∃ j, l = [.val (.int j)] ∧ small62 j = true ∧ PostG K pa O H σ E (ret (rngD 0 1 j.toNat) env g) S := by
  split at h
  · rename_i j
    by_cases c : small62 j = true
    · rw [if_pos c] at h; exact ⟨j, rfl, c, h⟩
    · rw [if_neg c] at h; exact h.elim
  · exact h.elim
theorem itRng2_inv {l : List Sl} {K : PySem.W.Frag} {pa : Bs} {O : List Addr} {H : Hp} {σ : L2.St} {E : Wx} {env : Env} {g : Pen} {S : List D → Env → Pen → List Addr → Hp → Prop} (h : PostG K pa O H σ E ((match l with
  | [.val (.int i), .val (.int j)] => if small62 i = true ∧ small62 j = true then ret (rngD i 1 (j - i).toNat) else bad
  | _ => bad : Mir (List D)) env g) S) : ∃ i j, l = [.val (.int i), .val (.int j)] ∧ small62 i = true ∧ small62 j = true ∧ PostG K pa O H σ E (ret (rngD i 1 (j - i).toNat) env g) S := by
  split at h
  · rename_i i j
    by_cases c : small62 i = true ∧ small62 j = true
    · rw [if_pos c] at h; exact ⟨i, j, rfl, c.1, c.2, h⟩
    · rw [if_neg c] at h; exact h.elim
  · exact h.elim
theorem itRngDown_inv {l : List Sl} {K : PySem.W.Frag} {pa : Bs} {O : List Addr} {H : Hp} {σ : L2.St} {E : Wx} {env : Env} {g : Pen} {S : List D → Env → Pen → List Addr → Hp → Prop} (h : PostG K pa O H σ E ((match l with
  | [.val (.int i), .val (.int j), .val (.int c)] => if small62 i = true ∧ small62 j = true ∧ c = -1 then ret (rngD i (-1) (i - j).toNat) else bad
  | _ => bad : Mir (List D)) env g) S) : ∃ i j, l = [.val (.int i), .val (.int j), .val (.int (-1))] ∧ small62 i = true ∧ small62 j = true ∧ PostG K pa O H σ E (ret (rngD i (-1) (i - j).toNat) env g) S := by
  split at h
  · rename_i i j k
    by_cases c : small62 i = true ∧ small62 j = true ∧ k = -1
    · rw [if_pos c] at h
      obtain ⟨c1, c2, rfl⟩ := c
      exact ⟨i, j, rfl, c1, c2, h⟩
    · rw [if_neg c] at h; exact h.elim
  · exact h.elim
theorem vals1 {K : PySem.W.Frag} {pa : Bs} {O : List Addr} {H : Hp} {j : Int} {vs : List V} (h : SlReps K pa O H [.val (.int j)] vs) : vs = [.int j] := by
  cases h with
  | cons r t =>
    cases t
    have r2 : Rep K (mask pa O H) (.int j) _ := r.2
    simp only [Rep] at r2
    rw [r2]
theorem vals_cons {K : PySem.W.Frag} {pa : Bs} {O : List Addr} {H : Hp} {j : Int} {l : List Sl} {vs : List V} (h : SlReps K pa O H (.val (.int j) :: l) vs) : ∃ us, vs = .int j :: us ∧ SlReps K pa O H l us := by
  cases h with
  | cons r t =>
    have r2 : Rep K (mask pa O H) (.int j) _ := r.2
    simp only [Rep] at r2
    exact ⟨_, by rw [r2], t⟩
theorem zi_range1 {b : Bool} {a : Expr} {ms : Mir (List Sl)} (hg : Gl X "range") (hm : X.mg "range" = none) (ha : PA X [a] (zA X.K W ms)) (hs : starEach [a] X.env = [(false, eval a X.env)] := by rfl) : PI X tg (.Call (.Name "range" p) [a] [] pos) (zI b X.K W (itRng1 ms)) :=
  pi_weak (pi_range1 hg hm ha hs) fun σ H R ⟨pa, O, env, g, Rl, h⟩ => ⟨pa, O, env, g, Rl, postG_bnd h fun l env' g' O' H' e s R' q vs hvs => by
    obtain ⟨j, rfl, c, q⟩ := itRng1_inv q
    have c := small62_of c
    exact ⟨j, vals1 hvs, by omega, by omega, q O' H' (Same.refl _) R' _ walk_rng (rngD_len (by omega))⟩⟩
theorem zi_range2 {b : Bool} {a a2 : Expr} {ms : Mir (List Sl)} (hg : Gl X "range") (hm : X.mg "range" = none) (ha : PA X [a, a2] (zA X.K W ms)) (hs : starEach [a, a2] X.env = [(false, eval a X.env), (false, eval a2 X.env)] := by rfl) (hs2 : starEach [a2] X.env = [(false, eval a2 X.env)] := by rfl) :
    PI X tg (.Call (.Name "range" p) [a, a2] [] pos) (zI b X.K W (itRng2 ms)) :=
  pi_weak (pi_range2 hg hm ha hs hs2) fun σ H R ⟨pa, O, env, g, Rl, h⟩ => ⟨pa, O, env, g, Rl, postG_bnd h fun l env' g' O' H' e s R' q vs hvs => by
    obtain ⟨i, j, rfl, c1, c2, q⟩ := itRng2_inv q
    have c1 := small62_of c1
    have c2 := small62_of c2
    obtain ⟨us, rfl, hv2⟩ := vals_cons hvs
    have e := vals1 hv2
    subst e
    exact ⟨i, j, rfl, ⟨by omega, by omega, by omega, by omega⟩, q O' H' (Same.refl _) R' _ walk_rng (rngD_len (by omega))⟩⟩
theorem zi_range3 {b : Bool} {a a2 a3 : Expr} {ms : Mir (List Sl)} (hg : Gl X "range") (hm : X.mg "range" = none) (ha : PA X [a, a2, a3] (zA X.K W ms)) (hs : starEach [a, a2, a3] X.env = (false, eval a X.env) :: starEach [a2, a3] X.env := by rfl) (hpl : (backTo pos (starEach [a2, a3] X.env)).any (·.1) = false := by rfl) :
    PI X tg (.Call (.Name "range" p) [a, a2, a3] [] pos) (zI b X.K W (itRngDown ms)) :=
  pi_weak (pi_range3 hg hm ha hs hpl) fun σ H R ⟨pa, O, env, g, Rl, h⟩ => ⟨pa, O, env, g, Rl, postG_bnd h fun l env' g' O' H' e s R' q vs hvs => by
    obtain ⟨i, j, rfl, c1, c2, q⟩ := itRngDown_inv q
    have c1 := small62_of c1
    have c2 := small62_of c2
    obtain ⟨us, rfl, hv2⟩ := vals_cons hvs
    obtain ⟨us2, rfl, hv3⟩ := vals_cons hv2
    have e := vals1 hv3
    subst e
    exact ⟨i, j, -1, _, rfl, RgC.neg (by omega) (by omega) (by omega) (by omega), q O' H' (Same.refl _) R' _ walk_rngC (rngD_len (by omega))⟩⟩
end
end Z
end
section
set_option linter.all false
set_option maxRecDepth 100000
set_option maxHeartbeats 1000000
/-! ZK: zip of lists and tuples in any mixture. -/
namespace Z
open PySem PySem.Spec PyProof.Rows L2

/-- the list or the tuple at a -/
def SqB (l : Bool) (K : PySem.W.Frag) (H : Hp) (a : Addr) (xs : List V) : Prop := if l = true then SqL K H a xs else SqT K H a xs
def IsB (l : Bool) (h : Heap) (a : Addr) (its : Array Value) : Prop := if l = true then h.IsList a its else h.IsTuple a its
def IterB (l : Bool) (h : Heap) (it a : Addr) (i : Nat) : Prop := if l = true then h.IsListIter it a i else h.IsTupleIter it a i
section
variable {X : Cx} {pins : List (Addr × Obj)} {σ : L2.St} {H : Hp} {s : Shared} {a b : Addr} {xs ys : List V} {l : Bool}
theorem inv_seqB (I : Inv X pins σ H s) (h : SqB l X.K H a xs) : ∃ its : List Value, Vals xs its ∧ IsB l s.heap a its.toArray ∧ xs.length ≤ sizeLine := by
  cases l with
  | true =>
    obtain ⟨its, r, p, z⟩ := I.list h
    exact ⟨its, r, p.isList, z⟩
  | false =>
    obtain ⟨its, r, p, z⟩ := I.tuple h
    exact ⟨its, r, p, z⟩
theorem inv_injB (I : Inv X pins σ H s) (h : SqB l X.K H a xs) (h2 : SqB l X.K H a ys) : xs = ys := by
  cases l with
  | true => exact I.list_inj h h2
  | false => exact I.tuple_inj h h2
theorem IsB.lt {h : Heap} {its : Array Value} (p : IsB l h a its) : a < h.objs.size := by
  cases l with
  | true => obtain ⟨_, e, _⟩ := p; exact Heap.lt_size e
  | false => obtain ⟨_, e, _⟩ := p; exact Heap.lt_size e
theorem IterB.get {h : Heap} {it a : Addr} {i : Nat} (p : IterB l h it a i) : ∃ o, h.get? it = some o ∧ ∀ v, o.data ≠ .cell v := by
  cases l with
  | true => obtain ⟨o, e, _, d⟩ := p; exact ⟨o, e, fun v q => by rw [d] at q; cases q⟩
  | false => obtain ⟨o, e, _, d⟩ := p; exact ⟨o, e, fun v q => by rw [d] at q; cases q⟩
theorem IterB.keep {h h' : Heap} {it a : Addr} {i : Nat} (p : IterB l h it a i) (k : ∀ o, h.get? it = some o → h'.get? it = some o) : IterB l h' it a i := by
  cases l with
  | true => exact Heap.IsListIter.at p k
  | false => exact Heap.IsTupleIter.at p k
theorem drawsB (l : Bool) {prog : Program} {w : World} {A : Around} (hh : A.handled = none) (it c : Addr) (hne : c ≠ it) (items : Array Value) :
    Draws prog w A it [it, c] items.size (fun i v => items[i]? = some v) (fun i h => IterB l h it c i ∧ IsB l h c items) := by
  cases l with
  | true => exact Draws.list hh it c hne items
  | false => exact Draws.tuple hh it c hne items
theorem beginsB (l : Bool) (c : Addr) (items : Array Value) : ∃ o, Begins (.ref c) o (fun h => IsB l h c items) ∧ ∀ (h : Heap) (it : Addr), h.get? it = some o → IterB l h it c 0 := by
  cases l with
  | true => exact ⟨_, begins_list c items, fun h it e => ⟨_, e, rfl, rfl⟩⟩
  | false => exact ⟨_, begins_tuple c items, fun h it e => ⟨_, e, rfl, rfl⟩⟩
end
def ItzB (K : PySem.W.Frag) (l1 l2 : Bool) (a b : Addr) : It :=
  ⟨fun i H => ∃ (xs ys : List V) (x y : V), SqB l1 K H a xs ∧ SqB l2 K H b ys ∧ xs[i]? = some x ∧ ys[i]? = some y,
    fun i H v H' => ∃ T x y, v = .ref T ∧ H T = none ∧ H' = upd H T (.tup [x, y]) ∧ (∀ xs, SqB l1 K H a xs → xs[i]? = some x) ∧ ∀ ys, SqB l2 K H b ys → ys[i]? = some y,
    fun i H => ∃ xs ys : List V, SqB l1 K H a xs ∧ SqB l2 K H b ys ∧ i = min xs.length ys.length⟩
structure Apart5 (z TI TO i1 i2 a b : Addr) : Prop where
  TIz : TI ≠ z
  TOz : TO ≠ z
  TITO : TI ≠ TO
  TIi1 : TI ≠ i1
  TIi2 : TI ≠ i2
  zi1 : z ≠ i1
  zi2 : z ≠ i2
  Ti1 : TO ≠ i1
  Ti2 : TO ≠ i2
  i12 : i1 ≠ i2
  za : z ≠ a
  zb : z ≠ b
  Ta : TO ≠ a
  Tb : TO ≠ b
  i1a : i1 ≠ a
  i1b : i1 ≠ b
  i2a : i2 ≠ a
  i2b : i2 ≠ b
theorem apart5 {N a b : Nat} (la : a < N) (lb : b < N) : Apart5 (N + 4) (N + 2) (N + 3) N (N + 1) a b := by
  constructor <;> (refine fun z => ?_; have z' : (_ : Nat) = _ := z; omega)
theorem Apart5.sep {z TI TO i1 i2 a b : Addr} (D : Apart5 z TI TO i1 i2 a b) : ZipSep2 z TI TO i1 i2 [i1, a] [i2, b] :=
  ⟨D.TIz, D.TOz, D.TITO, D.TIi1, by simp, by simp [D.zi1, D.za], by simp [D.Ti1, D.Ta], D.TIi2, by simp, by simp [D.zi2, D.zb], by simp [D.Ti2, D.Tb], by simp [D.i12, D.i1b], by simp [D.i12.symm, D.i2a]⟩
/-- how a zip of two stands at its i-th turn -/
structure ZipSt (l1 l2 : Bool) (a b z TI TO i1 i2 : Addr) (i : Nat) (h : Heap) : Prop where
  self : IsZip h z TI TO .none
  srcs : IsTupOf2 h TI (.ref i1) (.ref i2)
  last : ∃ x y, IsTupOf2 h TO x y
  fst : IterB l1 h i1 a i
  snd : IterB l2 h i2 b i
section
variable {l1 l2 : Bool} {a b z TI TO i1 i2 : Addr} {i : Nat} {h h' : Heap}
/-- all five of its objects stand there, none is a cell -/
theorem ZipSt.live (t : ZipSt l1 l2 a b z TI TO i1 i2 i h) : ∀ c ∈ [z, TI, TO, i1, i2], ∃ o, h.get? c = some o ∧ ∀ v, o.data ≠ .cell v := by
  obtain ⟨x, y, out⟩ := t.last
  simp only [List.forall_mem_cons, List.not_mem_nil, false_implies, implies_true, and_true]
  exact ⟨⟨_, t.self, nofun⟩, ⟨_, t.srcs, nofun⟩, ⟨_, out, nofun⟩, t.fst.get, t.snd.get⟩
theorem ZipSt.small (t : ZipSt l1 l2 a b z TI TO i1 i2 i h) {c : Addr} (hc : c ∈ [z, TI, TO, i1, i2]) : c < h.objs.size := by
  obtain ⟨_, e, _⟩ := t.live c hc
  exact Heap.lt_size e
theorem ZipSt.stay (t : ZipSt l1 l2 a b z TI TO i1 i2 i h) (k : ∀ c ∈ [z, TI, TO, i1, i2], ∀ o, h.get? c = some o → h'.get? c = some o) : ZipSt l1 l2 a b z TI TO i1 i2 i h' := by
  simp only [List.forall_mem_cons, List.not_mem_nil, false_implies, implies_true, and_true] at k
  obtain ⟨k1, k2, k3, k4, k5⟩ := k
  obtain ⟨x, y, out⟩ := t.last
  exact { self := k1 _ t.self, srcs := k2 _ t.srcs, last := ⟨x, y, k3 _ out⟩, fst := t.fst.keep k4, snd := t.snd.keep k5 }
end
/-- what a turn leaves alone, told of the five -/
theorem off5 {z TI TO i1 i2 : Addr} {h h' : Heap} (k : ∀ c o, c ≠ z → c ≠ TO → c ≠ i1 → c ≠ i2 → h.get? c = some o → h'.get? c = some o) : ∀ c o, c ∉ [z, TI, TO, i1, i2] → h.get? c = some o → h'.get? c = some o := fun c o n e => by
  simp only [List.mem_cons, List.not_mem_nil, or_false, not_or] at n
  exact k c o n.1 n.2.2.1 n.2.2.2.1 n.2.2.2.2 e
/-- what is drawn is what is told -/
theorem drawn_is {its : List Value} {i : Nat} {u x : Value} (e : its.toArray[i]? = some x) (hu : its[i]? = some u) : x = u := by
  rw [List.getElem?_toArray, hu] at e
  exact (Option.some.inj e).symm
theorem turn_zipB {P : Program} {w : World} {K : PySem.W.Frag} {elts : List Expr} {kk : Nat} {tpos : Pos} {l1 l2 : Bool} {a b z TI TO i1 i2 : Addr} (D : Apart5 z TI TO i1 i2 a b) :
    Turn P w K (.Tuple elts kk tpos) (ItzB K l1 l2 a b) [z, TI, TO, i1, i2] z (ZipSt l1 l2 a b z TI TO i1 i2) where
  mem := List.mem_cons_self
  obj _ _ t := t.live
  keep _ _ _ t k := t.stay k
  self _ _ _ _ _ t h := wpAny_pyIter_zip t.self h
  done X hP hw hK hc i pins s σ H E I hf t hg := by
    subst hP hw hK
    obtain ⟨xs, ys, sx, sy, stop⟩ := hg
    obtain ⟨ux, rx, atx, _⟩ := inv_seqB I sx
    obtain ⟨uy, ry, aty, _⟩ := inv_seqB I sy
    obtain ⟨v1, v2, out⟩ := t.last
    have dr1 := drawsB l1 (prog := X.prog) (w := X.w) (A := X.A.in1) (I.ok.hd hc) i1 a D.i1a.symm ux.toArray
    have dr2 := drawsB l2 (prog := X.prog) (w := X.w) (A := X.A.in1) (I.ok.hd hc) i2 b D.i2b.symm uy.toArray
    have n1 : ux.toArray.size = xs.length := by rw [List.size_toArray, rx.length]
    have n2 : uy.toArray.size = ys.length := by rw [List.size_toArray, ry.length]
    exact wpAny_pyNext_zipD2_end D.sep dr1 dr2 t.self t.srcs out ⟨t.fst, atx⟩ ⟨t.snd, aty⟩ (by omega) (by omega) (by omega) fun h' tk k => ⟨rfl, I.turnedL (t' := tk) (off5 k) hf⟩
  item X hP hw hK hc i pins s σ H E I hf t hg := by
    subst hP hw hK
    obtain ⟨xs, ys, x, y, sx, sy, ex, ey⟩ := hg
    obtain ⟨ux, rx, atx, _⟩ := inv_seqB I sx
    obtain ⟨uy, ry, aty, _⟩ := inv_seqB I sy
    obtain ⟨v1, v2, out⟩ := t.last
    obtain ⟨p, hp, px⟩ := rx.get ex
    obtain ⟨q, hq, qy⟩ := ry.get ey
    have dr1 := drawsB l1 (prog := X.prog) (w := X.w) (A := X.A.in1) (I.ok.hd hc) i1 a D.i1a.symm ux.toArray
    have dr2 := drawsB l2 (prog := X.prog) (w := X.w) (A := X.A.in1) (I.ok.hd hc) i2 b D.i2b.symm uy.toArray
    have n1 : i < ux.toArray.size := by rw [List.size_toArray]; exact (List.getElem?_eq_some_iff.mp hp).1
    have n2 : i < uy.toArray.size := by rw [List.size_toArray]; exact (List.getElem?_eq_some_iff.mp hq).1
    let N := s.heap.objs.size
    have below : ∀ {c}, c ∈ [z, TI, TO, i1, i2] → N ≠ c := fun hc => Nat.ne_of_gt (t.small hc)
    have zN : N ≠ z := below List.mem_cons_self
    refine wpAny_pyNext_zipD2_item D.sep dr1 dr2 t.self t.srcs out ⟨t.fst, atx⟩ ⟨t.snd, aty⟩ n1 n2 fun p1 q1 h1 tk d1 d2 zip1 out1 f1 g1 pair1 _ k => ?_
    obtain rfl := drawn_is d1 hp
    obtain rfl := drawn_is d2 hq
    refine ⟨_, rfl, wpAny_letOwnedTupleGo_zip (s := { s with heap := h1, toks := tk }) zip1 fun h2 zip2 sb => ?_⟩
    have pair2 : h2.get? N = some { cls := .type "tuple", data := .seq #[p1, q1] } := (sb.2 N zN).trans pair1
    have okN : ObjOk X.prog X.w (upd H N (.tup [x, y])) h2 N (.tup [x, y]) := ⟨show 2 ≤ sizeLine by decide, [p1, q1], .cons px (.cons qy .nil), _, pair2, rfl, _, rfl⟩
    have kept : ∀ c o, c ∉ [z, TI, TO, i1, i2] → s.heap.get? c = some o → h2.get? c = some o := fun c o n e => (sb.2 c fun e2 => n (e2 ▸ List.mem_cons_self)).trans (off5 k c o n e)
    have t2 : ZipSt l1 l2 a b z TI TO i1 i2 (i + 1) h2 :=
      { self := zip2
        srcs := (sb.2 TI D.TIz).trans (k TI _ D.TIz D.TITO D.TIi1 D.TIi2 t.srcs)
        last := ⟨p1, q1, (sb.2 TO D.TOz).trans out1⟩
        fst := f1.1.keep fun o e => (sb.2 i1 D.zi1.symm).trans e
        snd := g1.1.keep fun o e => (sb.2 i2 D.zi2.symm).trans e }
    refine ⟨.ref N, upd H N (.tup [x, y]), I.turnedNew (t' := tk) kept hf (Nat.le_refl _) okN, rfl, ⟨N, x, y, rfl, I.hok.fresh (Nat.le_refl _), rfl, ?_, ?_⟩, t2, fun c hcm => ?_⟩
    · intro xs' sx'
      rw [inv_injB I sx' sx, ex]
    · intro ys' sy'
      rw [inv_injB I sy' sy, ey]
    · rw [upd_ne (below hcm).symm]
      exact (hf c hcm).1
def iZipB (K : PySem.W.Frag) (ta : TA) : TI := fun σ H R => ta σ H fun vs H1 => ∃ l1 l2 a b xs ys, vs = [.ref a, .ref b] ∧ SqB l1 K H1 a xs ∧ SqB l2 K H1 b ys ∧ (xs.length ≤ sizeLine → R (ItzB K l1 l2 a b) H1)
/-- the five addresses of a zip just made are all new -/
theorem new5 {N c : Nat} (h : c ∈ [N + 4, N + 2, N + 3, N, N + 1]) : N ≤ c := by
  simp only [List.mem_cons, List.not_mem_nil, or_false] at h
  omega
theorem pi_zipB {X : Cx} {e e2 : Expr} {ta : TA} {p pos tpos : Pos} {elts : List Expr} {kk : Nat} (hg : Gl X "zip") (hm : X.mg "zip" = none) (ha : PA X [e, e2] ta)
    (hs : starEach [e, e2] X.env = (false, eval e X.env) :: starEach [e2] X.env := by rfl) (hpl : (backTo pos (starEach [e2] X.env)).any (·.1) = false := by rfl) :
    PI X (.Tuple elts kk tpos) (.Call (.Name "zip" p) [e, e2] [] pos) (iZipB X.K ta) where
  run pins s σ H R I h := by
    have args := ha.run pos pins s σ H _ I h
    refine Call_ (ld_blt I hg hm PyProof.Rows.boot_zip (PyProof.Rows.callWith_type1 (wpAny_mono args (fun us s1 got => ?_) fun _ _ z => z) hs hpl))
    obtain ⟨_, H1, I1, rel, l1, l2, a, b, xs, ys, rfl, sx, sy, q⟩ := got
    obtain ⟨u, _, rfl⟩ : ∃ u v : Value, us = [.ref a, .ref b] := by
      match us, rel with
      | _, .cons r1 (.cons r2 .nil) => exact ⟨.none, .none, by rw [show _ = Value.ref a from r1, show _ = Value.ref b from r2]⟩
    obtain ⟨ux, rx, atx, fits⟩ := inv_seqB I1 sx
    obtain ⟨uy, ry, aty, _⟩ := inv_seqB I1 sy
    obtain ⟨o1, b1, st1⟩ := beginsB l1 a ux.toArray
    obtain ⟨o2, b2, st2⟩ := beginsB l2 b uy.toArray
    let N := s1.heap.objs.size
    refine zip_begins2 b1 b2 atx aty fun h2 self srcs out it1 it2 _ k => wpAny_pyIter_zip self ?_
    refine ⟨N + 4, [N + 4, N + 2, N + 3, N, N + 1], ZipSt l1 l2 a b (N + 4) (N + 2) (N + 3) N (N + 1), ItzB X.K l1 l2 a b, H1, rfl, I1.kept (t' := s1.toks) k, turn_zipB (apart5 atx.lt aty.lt), ?_, fun c hcm => ?_, q fits⟩
    · exact { self := self, srcs := srcs, last := ⟨_, _, out⟩, fst := st1 _ _ it1, snd := st2 _ _ it2 }
    · exact I1.fpOk (new5 hcm) (I1.hok.fresh (new5 hcm))

def zipD (as bs : List D) : List D := List.zipWith (fun a b => PyData.tuple [a, b]) as bs
section
variable {K : PySem.W.Frag} {pa : Addr} {M F : Hp} {a b : Addr} {vs us : List V} {ds es : List D} {l1 l2 : Bool}
def sqO (l : Bool) (vs : List V) : HO := if l = true then .lst vs else .tup vs
theorem sqB_of {H : Hp} {l : Bool} (h : H a = some (sqO l vs)) : SqB l K H a vs := by
  cases l with
  | true => exact .inl (.inl h)
  | false => exact .inl (.inl h)
theorem walk_zip (hF : F a = some (sqO l1 vs)) (r : Reps K M ds vs) (hF2 : F b = some (sqO l2 us)) (r2 : Reps K M es us) : Walk K pa M F (ItzB K l1 l2 a b) (zipD ds es) where
  go := fun i H q hi => by
    have hi : i < min ds.length es.length := by simpa [zipD] using hi
    exact ⟨vs, us, vs[i]'(by rw [← r.length]; omega), us[i]'(by rw [← r2.length]; omega), sqB_of (q _ _ hF), sqB_of (q _ _ hF2), List.getElem?_eq_getElem _, List.getElem?_eq_getElem _⟩
  stop := fun H q => ⟨vs, us, sqB_of (q _ _ hF), sqB_of (q _ _ hF2), by simp only [zipD, List.length_zipWith, r.length, r2.length]⟩
  yld := fun pb i O H x H' d g _ _ m q e y => by
    obtain ⟨T, x, y, rfl, hT, rfl, y1, y2⟩ := y
    have y1 := y1 vs (sqB_of (q _ _ hF))
    have y2 := y2 us (sqB_of (q _ _ hF2))
    simp only [zipD, List.getElem?_zipWith] at e
    cases e1 : ds[i]? with
    | none => rw [e1] at e; simp at e
    | some d1 =>
      cases e2 : es[i]? with
      | none => rw [e1, e2] at e; simp at e
      | some d2 =>
        rw [e1, e2] at e
        cases e
        obtain ⟨v, h1, h2⟩ := r.at_ e1
        obtain ⟨v', h3, h4⟩ := r2.at_ e2
        rw [y1] at h1
        rw [y2] at h3
        cases h1
        cases h3
        refine .inr ⟨T, [x, y], [d1, d2], hT, rfl, rfl, rfl, ?_⟩
        simp only [Reps]
        exact ⟨_, _, rfl, h2.mono m, _, _, rfl, h4.mono m, rfl⟩
end
section
variable {X : Cx} {W : Wx} {e e2 : Expr} {pos p tpos : Pos} {elts : List Expr} {kk : Nat}
def seqD : Sl → Option (List D)
  | .val (.list ds) => some ds
  | .val (.tuple ds) => some ds
  | _ => none
theorem seqD_of {K : PySem.W.Frag} {pa : Bs} {O : List Addr} {H : Hp} {sl : Sl} {ds : List D} {v : V} (h : seqD sl = some ds) (r : SlRep K pa O H sl v) : ∃ l a vs, v = .ref a ∧ mask pa O H a = some (sqO l vs) ∧ Reps K (mask pa O H) ds vs := by
  cases sl with
  | val d =>
    have r : Rep K (mask pa O H) d v := r
    cases d with
    | list xs =>
      cases h
      simp only [Rep] at r
      obtain ⟨a, vs, rfl, ha, r⟩ := r
      exact ⟨true, a, vs, rfl, ha, r⟩
    | tuple xs =>
      cases h
      simp only [Rep] at r
      obtain ⟨a, vs, rfl, ha, r⟩ := r
      exact ⟨false, a, vs, rfl, ha, r⟩
    | none => cases h
    | bool _ => cases h
    | int _ => cases h
    | str _ => cases h
    | dict _ => cases h
  | pen => cases h
  | raw _ => cases h
  | ol _ => cases h
  | ok _ => cases h
  | ot _ => cases h
  | tb => cases h
def zipOf : List Sl → Option (List D)
  | [x, y] => (seqD x).bind fun xs => (seqD y).bind fun ys => some (zipD xs ys)
  | _ => none
theorem zipOf_inv {l : List Sl} {ds : List D} (h : zipOf l = some ds) : ∃ x y xs ys, l = [x, y] ∧ seqD x = some xs ∧ seqD y = some ys ∧ ds = zipD xs ys := by
  unfold zipOf at h
  split at h
  · rename_i x y
    cases e1 : seqD x with
    | none => rw [e1] at h; cases h
    | some xs =>
      cases e2 : seqD y with
      | none => rw [e1, e2] at h; cases h
      | some ys =>
        rw [e1, e2] at h
        cases h
        exact ⟨x, y, xs, ys, rfl, e1, e2, rfl⟩
  · cases h
/-- what a partial function tells, or bad -/
def ofOpt {α : Type} (o : Option α) : Mir α := match o with
  | some a => ret a
  | none => bad
theorem ofOpt_inv {α : Type} {o : Option α} {K : PySem.W.Frag} {pa : Bs} {O : List Addr} {H : Hp} {σ : L2.St} {E : Wx} {env : Env} {g : Pen} {S : α → Env → Pen → List Addr → Hp → Prop} (h : PostG K pa O H σ E (ofOpt o env g) S) : ∃ a, o = some a ∧ PostG K pa O H σ E (ret a env g) S := by
  cases o with
  | none => exact h.elim
  | some a => exact ⟨a, rfl, h⟩
def itZip (ms : Mir (List Sl)) : Mir (List D) := bnd ms fun l => ofOpt (zipOf l)
theorem zi_zip {b : Bool} {ms : Mir (List Sl)} (hg : Gl X "zip") (hm : X.mg "zip" = none) (ha : PA X [e, e2] (zA X.K W ms))
    (hs : starEach [e, e2] X.env = (false, eval e X.env) :: starEach [e2] X.env := by rfl) (hpl : (backTo pos (starEach [e2] X.env)).any (·.1) = false := by rfl) :
    PI X (.Tuple elts kk tpos) (.Call (.Name "zip" p) [e, e2] [] pos) (zI b X.K W (itZip ms)) :=
  pi_weak (pi_zipB hg hm ha hs hpl) fun σ H R ⟨pa, O, env, g, Rl, h⟩ => ⟨pa, O, env, g, Rl, postG_bnd h fun l env' g' O' H' e s R' q vs hvs => by
    obtain ⟨ds, e1, q⟩ := ofOpt_inv q
    obtain ⟨x, y, xs, ys, rfl, h1, h2, rfl⟩ := zipOf_inv e1
    cases hvs with
    | cons r1 t =>
      cases t with
      | cons r2 t =>
        cases t
        obtain ⟨l1, a, us, rfl, ha, ra⟩ := seqD_of h1 r1.2
        obtain ⟨l2, b', us2, rfl, hb, rb⟩ := seqD_of h2 r2.2
        refine ⟨l1, l2, a, b', us, us2, rfl, sqB_of (mask_le _ _ ha), sqB_of (mask_le _ _ hb), fun hz => q O' H' (Same.refl _) R' _ (walk_zip (mask_b b _ _ ha) ra (mask_b b _ _ hb) rb) ?_⟩
        simp only [zipD, List.length_zipWith]
        rw [← ra.length] at hz
        omega⟩
end
end Z
end
section
set_option linter.all false
set_option maxRecDepth 100000
set_option maxHeartbeats 1000000
/-! ZL: for; list comprehensions. -/
namespace Z
open PySem PySem.Spec PyProof.Rows L2

/-! ### for -/
def forRun (t : Tgt) (mb : Mir Ctl) : List D → Mir Ctl
  | [], env, g => .ok .nx env g
  | d :: ds, env, g => match bindT t d env with
    | none => .bad
    | some e2 => match mb e2 g with
      | .ok .nx e3 g3 => forRun t mb ds e3 g3
      | .ok .ct e3 g3 => forRun t mb ds e3 g3
      | .ok .bk e3 g3 => .ok .nx e3 g3
      | .ok (.rt sl) e3 g3 => .ok (.rt sl) e3 g3
      | .exc x g3 => .exc x g3
      | .bad => .bad
def sFor (mi : Mir (List D)) (t : Tgt) (mb : Mir Ctl) : Mir Ctl := bnd mi fun ds => forRun t mb ds
section
variable {X : Cx} {W : Wx} {tg iter elt : Expr} {body : List Stmt} {pos p : Pos} {mi : Mir (List D)} {mb : Mir Ctl} {t : Tgt} {gt : TG}
theorem zs_for (hp : PassesOwn (model X.prog X.w) X.A X.env X.xe) (hc : X.calm = true) (hi : PI X tg iter (zI false X.K W mi)) (hg : PG X tg gt) (ok : TgtOk X.K t gt) (hb : PSs X body (zS X.K W mb)) (hs : ∀ x, foldedSetIterable iter X.env x = pure x := by intro _; rfl) :
    PS X (.For tg iter body [] pos) (zS X.K W (sFor mi t mb)) :=
  ps_weak (ps_for hp hc hi hg hb hs) fun Dn σ H ⟨pa, O, env, g, R, h⟩ => ⟨pa, O, env, g, R, postC_bnd h fun ds env1 g1 O1 H1 _ _ R1 q J w _ => by
    refine ⟨fun i m σ H => m + i = ds.length ∧ ∃ O env g, Rel X.K pa O H σ env g ∧ Same (mask pa O1 H1) (mask pa O H) ∧ PostC X.K pa O H W (forRun t mb (ds.drop i) env g) Dn, ⟨ds.length, by simp, O1, env1, g1, R1, Same.refl _, q⟩, ?_⟩
    rintro i m σ H ⟨hm, O, env, g, R, s, q⟩
    by_cases hlt : i < ds.length
    · refine .inr ⟨w.go i H (s.trans mask_le) hlt, fun σ' H' => (m - 1) + (i + 1) = ds.length ∧ ∃ O env g, Rel X.K pa O H' σ' env g ∧ Same (mask pa O1 H1) (mask pa O H') ∧ PostC X.K pa O H' W (forRun t mb (ds.drop (i + 1)) env g) Dn, fun σ' H' z => ⟨m - 1, by omega, z⟩, fun x H' y => ?_⟩
      rw [List.drop_eq_getElem_cons hlt] at q
      unfold forRun at q
      cases eb : bindT t ds[i] env with
      | none => rw [eb] at q; exact q.elim
      | some env2 =>
        rw [eb] at q
        have step : ∀ O2 H2, Rel X.K pa O2 H2 σ env g → Same (mask pa O H) (mask pa O2 H2) → Rep X.K (mask pa O2 H2) ds[i] x → gt x σ H2 fun σ2 H3 => zS X.K W mb { Dn with
            nx := fun σ' H' => (m - 1) + (i + 1) = ds.length ∧ ∃ O env g, Rel X.K pa O H' σ' env g ∧ Same (mask pa O1 H1) (mask pa O H') ∧ PostC X.K pa O H' W (forRun t mb (ds.drop (i + 1)) env g) Dn,
            ct := fun σ' H' => (m - 1) + (i + 1) = ds.length ∧ ∃ O env g, Rel X.K pa O H' σ' env g ∧ Same (mask pa O1 H1) (mask pa O H') ∧ PostC X.K pa O H' W (forRun t mb (ds.drop (i + 1)) env g) Dn, bk := Dn.nx } σ2 H3 := fun O2 H2 R2 s2 r =>
          ok pa O2 H2 σ env env2 g ds[i] x _ R2 r eb fun σ3 R3 _ _ => ⟨pa, O2, env2, g, R3, by
            have q2 := q
            revert q2
            simp only []
            cases em : mb env2 g with
            | bad => exact fun q2 => q2.elim
            | exc x g3 => exact fun q2 => PostE.from_ q2 s2
            | ok c e3 g3 =>
              cases c with
              | nx => exact fun q2 σ4 O4 H4 s4 R4 => ⟨by omega, O4, e3, g3, R4, s.trans (s2.trans s4), PostC.from_ q2 (s2.trans s4)⟩
              | ct => exact fun q2 σ4 O4 H4 s4 R4 => ⟨by omega, O4, e3, g3, R4, s.trans (s2.trans s4), PostC.from_ q2 (s2.trans s4)⟩
              | bk => exact fun q2 σ4 O4 H4 s4 R4 => q2 σ4 O4 H4 (s2.trans s4) R4
              | rt sl => exact fun q2 v O4 H4 s4 => q2 v O4 H4 (s2.trans s4)⟩
        rcases w.yld pa i O H x H' _ g rfl R.bas s (s.trans mask_le) (List.getElem?_eq_getElem hlt) y with ⟨rfl, r⟩ | ⟨a, vs, ds', ha, rfl, rfl, e, r⟩
        · exact step O _ R (Same.refl _) r
        · obtain ⟨R2, s2, ha2⟩ := R.new (o := .tup vs) ha
          refine step O _ R2 s2 ?_
          rw [e]
          simp only [Rep]
          exact ⟨a, vs, rfl, ha2, r.mono s2⟩
    · have e : ds.drop i = [] := List.drop_eq_nil_of_le (by omega)
      have ei : i = ds.length := by omega
      rw [e] at q
      refine .inl ⟨?_, q σ O H (Same.refl _) R⟩
      rw [ei]
      exact w.stop H (s.trans mask_le)⟩
end

/-! ### blocks of comprehensions -/
def keepO : Option Sl → Option Sl
  | some sl => if sl.own = true then none else some sl
  | none => none
/-- the slots that a block sees -/
def blankE (vs : List Nat) : Nat → Env → Env
  | _, [] => []
  | i, o :: r => (if vs.contains i = true then none else keepO o) :: blankE vs (i + 1) r
theorem blankE_length {vs : List Nat} : ∀ {k : Nat} {env : Env}, (blankE vs k env).length = env.length
  | _, [] => rfl
  | k, o :: r => by rw [blankE, List.length_cons, List.length_cons, blankE_length]
theorem blankE_at {vs : List Nat} {sl : Sl} : ∀ {k i : Nat} {env : Env}, (blankE vs k env)[i]? = some (some sl) → env[i]? = some (some sl) ∧ sl.own = false ∧ k + i ∉ vs
  | _, _, [], h => by simp [blankE] at h
  | k, 0, o :: r, h => by
    have h : (if vs.contains k = true then none else keepO o) = some sl := Option.some.inj h
    split at h
    · cases h
    · rename_i hk
      cases o with
      | none => cases h
      | some sl' =>
        have h : (if sl'.own = true then none else some sl') = some sl := h
        by_cases ho : sl'.own = true
        · rw [if_pos ho] at h; cases h
        · rw [if_neg ho] at h
          cases h
          exact ⟨rfl, by simpa using ho, by simpa using hk⟩
  | k, i + 1, o :: r, h => by
    have h : (blankE vs (k + 1) r)[i]? = some (some sl) := h
    obtain ⟨h1, h2, h3⟩ := blankE_at h
    exact ⟨h1, h2, by rw [show k + (i + 1) = k + 1 + i by omega]; exact h3⟩
theorem wipe_at {σ : L2.St} {i : Nat} : ∀ {vs : List Nat}, i ∈ vs → i < σ.length → (wipe σ vs)[i]? = some none
  | v :: vs, h, hi => by
    unfold wipe
    by_cases hv : v = i
    · subst hv
      exact List.getElem?_set_self (by rw [wipe_length]; exact hi)
    · rw [List.getElem?_set_ne hv]
      exact wipe_at ((List.mem_cons.mp h).resolve_left fun z => hv z.symm) hi
theorem wipe_same {σ σ2 : L2.St} {vs sl : List Nat} (h : ∀ j, j ∉ sl → σ2[j]? = (wipe σ vs)[j]?) (hl : σ2.length = (wipe σ vs).length) (hs : ∀ j ∈ sl, j ∈ vs) : wipe σ2 vs = wipe σ vs := by
  refine List.ext_getElem? fun j => ?_
  by_cases hj : j ∈ vs
  · by_cases hlt : j < σ.length
    · rw [wipe_at hj hlt, wipe_at hj (by rw [hl, wipe_length]; exact hlt)]
    · rw [List.getElem?_eq_none (by rw [wipe_length, hl, wipe_length]; omega), List.getElem?_eq_none (by rw [wipe_length]; omega)]
  · rw [wipe_out hj, h j fun z => hj (hs j z)]

/-- within a block: its list at D, the callers' things as they were -/
structure LcI (K : PySem.W.Frag) (pa : Bs) (O1 : List Addr) (H1 : Hp) (L : Addr) (H : Hp) (g : Pen) (acc : List D) : Prop where
  nopa : pa.a ∉ L :: O1
  lst : ∃ vs, H L = some (.lst vs) ∧ Reps K (mask pa (L :: O1) H) acc vs
  keep : ∀ a ∈ O1, H a = H1 a ∧ Muts (H a) = true
  same : Same (mask pa O1 H1) (mask pa (L :: O1) H)
  pen : PenAt pa (mask pa (L :: O1) H) H g
section
variable {K : PySem.W.Frag} {pa p0 : Bs} {O O0 O1 : List Addr} {H H0 H1 H2 : Hp} {L : Addr} {σ : L2.St} {env : Env} {g g0 g2 : Pen} {acc : List D}
abbrev pbOf (pa : Bs) (O1 : List Addr) (L : Addr) (H : Hp) : Bs := ⟨pa.a, L :: O1, H⟩
theorem LcI.bas (I : LcI K pa O1 H1 L H g acc) : Bas (pbOf pa O1 L H) (L :: O1) H g where
  nopa := I.nopa
  dom := fun a ha => by
    rcases List.mem_cons.mp ha with rfl | ha
    · obtain ⟨vs, e, _⟩ := I.lst
      rw [e]; rfl
    · exact (I.keep a ha).2
  hid := fun a ha => ⟨ha, rfl⟩
  pen := I.pen
theorem LcI.rel (I : LcI K pa O1 H1 L H g acc) (R : Rel K p0 O0 H0 σ env g0) (hp : p0.a = pa.a) (s : Same (mask p0 O0 H0) (mask pa (L :: O1) H)) (vs : List Nat) :
    Rel K (pbOf pa O1 L H) (L :: O1) H (wipe σ vs) (blankE vs 0 env) g where
  len := by rw [blankE_length, wipe_length]; exact R.len
  bas := I.bas
  slot := fun i sl e => by
    obtain ⟨h1, h2, h3⟩ := blankE_at e
    obtain ⟨v, e1, r⟩ := R.slot i sl h1
    refine ⟨v, by rw [wipe_out (by simpa using h3)]; exact e1, ?_⟩
    cases sl with
    | val d => exact Rep.mono s r
    | pen =>
      have r : v = .ref p0.a := r
      show v = .ref pa.a
      rw [r, hp]
    | raw u => exact r
    | ol _ => cases h2
    | ok _ => cases h2
    | ot _ => cases h2
    | tb => cases h2
  apart := fun i j sl sl' v e1 _ _ _ o1 => by
    rw [(blankE_at e1).2.1] at o1; cases o1
  nohid := fun i sl a e o => by
    rw [(blankE_at e).2.1] at o; cases o
/-- an expression of the block has run -/
theorem LcI.step (I : LcI K pa O1 H1 L H g acc) (R : Rel K (pbOf pa O1 L H) O2 H2 σ env g2) (s : Same (mask pa (L :: O1) H) (mask pa O2 H2)) : LcI K pa O1 H1 L H2 g2 acc := by
  have sub : ∀ a ∈ L :: O1, a ∈ O2 := fun a ha => (R.bas.hid a ha).1
  have eq : ∀ a ∈ L :: O1, H2 a = H a := fun a ha => (R.bas.hid a ha).2
  have s2 : Same (mask pa O2 H2) (mask pa (L :: O1) H2) := mask_less sub
  refine ⟨I.nopa, ?_, fun a ha => ?_, I.same.trans (s.trans s2), R.pen.mono s2 rfl⟩
  · obtain ⟨vs, e, r⟩ := I.lst
    exact ⟨vs, (eq L List.mem_cons_self).trans e, r.mono (s.trans s2)⟩
  · rw [eq a (List.mem_cons_of_mem _ ha)]
    exact I.keep a ha
theorem mask_upd {o : HO} (h : L ∈ O) : mask pa O (upd H L o) = mask pa O H := by
  funext a
  unfold mask
  by_cases c : a = pa.a ∨ a ∈ O
  · rw [if_pos c, if_pos c]
  · rw [if_neg c, if_neg c, upd_ne (fun z => c (.inr (by rw [z]; exact h)))]
/-- .. its value goes to the list -/
theorem LcI.app (I : LcI K pa O1 H1 L H g acc) {y : D} {v : V} (r : Rep K (mask pa (L :: O1) H) y v) (hL : L ∉ O1) : ∃ vs, H L = some (.lst vs) ∧ vs.length = acc.length ∧ LcI K pa O1 H1 L (upd H L (.lst (vs ++ [v]))) g (acc ++ [y]) := by
  obtain ⟨vs, e, rs⟩ := I.lst
  have em : mask pa (L :: O1) (upd H L (.lst (vs ++ [v]))) = mask pa (L :: O1) H := mask_upd List.mem_cons_self
  have npa : pa.a ≠ L := fun z => I.nopa (z ▸ List.mem_cons_self)
  refine ⟨vs, e, rs.length.symm, I.nopa, ⟨vs ++ [v], upd_same, ?_⟩, fun a ha => ?_, ?_, ?_⟩
  · rw [em]
    exact rs.append (by simp only [Reps]; exact ⟨_, _, rfl, r, rfl⟩)
  · rw [upd_ne (fun z => hL (by rw [← z]; exact ha))]
    exact I.keep a ha
  · rw [em]; exact I.same
  · rw [em]
    exact I.pen.mono (Same.refl _) (upd_ne npa)
end

def lcRun (t : Tgt) (mt : Mir Bool) (me : Mir Sl) (env : Env) : List D → Pen → Option (List D × Pen)
  | [], g => some ([], g)
  | d :: ds, g => match bindT t d env with
    | none => none
    | some e2 => match mt e2 g with
      | .ok true e3 g3 => match me e3 g3 with
        | .ok (.val y) _ g4 => (lcRun t mt me env ds g4).map fun r => (y :: r.1, r.2)
        | _ => none
      | .ok false _ g3 => lcRun t mt me env ds g3
      | _ => none
theorem lcRun_len {t : Tgt} {mt : Mir Bool} {me : Mir Sl} {env : Env} : ∀ {ds : List D} {g : Pen} {out : List D} {g' : Pen}, lcRun t mt me env ds g = some (out, g') → out.length ≤ ds.length
  | [], g, out, g', h => by cases h; exact Nat.le_refl _
  | d :: ds, g, out, g', h => by
    unfold lcRun at h
    split at h
    · cases h
    · split at h
      · split at h
        · rename_i y _ g4 _
          cases e : lcRun t mt me env ds g4 with
          | none => rw [e] at h; cases h
          | some r =>
            rw [e] at h
            cases h
            have := lcRun_len (out := r.1) (g' := r.2) e
            simp only [List.length_cons]
            omega
        · cases h
      · exact Nat.le_succ_of_le (lcRun_len h)
      · cases h
section
variable {K : PySem.W.Frag} {W : Wx} {pa p0 : Bs} {O O0 O1 : List Addr} {H H0 H1 H2 : Hp} {L : Addr} {σ : L2.St} {env : Env} {g g0 g2 : Pen} {acc : List D} {t : Tgt} {gt : TG} {mt : Mir Bool} {me : Mir Sl} {vs : List Nat}
/-- one turn of a block -/
theorem lc_turn (ok : TgtOk K t gt) (ht : ∀ j ∈ t.slots, j ∈ vs) (hL : L ∉ O1) (I : LcI K pa O1 H1 L H g acc) (R0 : Rel K p0 O0 H0 σ env g0) (hp : p0.a = pa.a) (s0 : Same (mask p0 O0 H0) (mask pa (L :: O1) H)) {d : D} {rest out : List D} {g' : Pen} {x : V} {H' : Hp} {Nx : Hp → Prop}
    (e : lcRun t mt me (blankE vs 0 env) (d :: rest) g = some (out, g')) (hlen : acc.length + out.length ≤ sizeLine) (y : YldOk K (pbOf pa O1 L H) (L :: O1) d x H H')
    (hN : ∀ H2 g2 acc2 out2, LcI K pa O1 H1 L H2 g2 acc2 → Same (mask pa (L :: O1) H) (mask pa (L :: O1) H2) → lcRun t mt me (blankE vs 0 env) rest g2 = some (out2, g') → acc2 ++ out2 = acc ++ out → Nx H2) :
    gt x (wipe σ vs) H' fun σ2 H2 => wipe σ2 vs = wipe σ vs ∧ zB K W mt σ2 H2 fun b H3 => if b = true then zE K W me σ2 H3 fun y H4 => ∃ acc, H4 L = some (.lst acc) ∧ acc.length < sizeLine ∧ Nx (upd H4 L (.lst (acc ++ [y]))) else Nx H3 := by
  have R := I.rel R0 hp s0 vs
  have step : ∀ O2 H2, Rel K (pbOf pa O1 L H) O2 H2 (wipe σ vs) (blankE vs 0 env) g → Same (mask pa (L :: O1) H) (mask pa O2 H2) → Rep K (mask pa O2 H2) d x →
      gt x (wipe σ vs) H2 fun σ2 H2 => wipe σ2 vs = wipe σ vs ∧ zB K W mt σ2 H2 fun b H3 => if b = true then zE K W me σ2 H3 fun y H4 => ∃ acc, H4 L = some (.lst acc) ∧ acc.length < sizeLine ∧ Nx (upd H4 L (.lst (acc ++ [y]))) else Nx H3 := fun O2 H2 R2 s2 r => by
    unfold lcRun at e
    cases eb : bindT t d (blankE vs 0 env) with
    | none => rw [eb] at e; cases e
    | some e2 =>
      rw [eb] at e
      refine ok (pbOf pa O1 L H) O2 H2 (wipe σ vs) (blankE vs 0 env) e2 g d x _ R2 r eb fun σ3 R3 h1 h2 => ⟨wipe_same h1 h2 ht, pbOf pa O1 L H, O2, e2, g, R3, ?_⟩
      simp only [] at e
      cases em : mt e2 g with
      | bad => rw [em] at e; cases e
      | exc _ _ => rw [em] at e; cases e
      | ok b e3 g3 =>
        rw [em] at e
        intro O4 H4 s4 R4
        cases b with
        | false =>
          simp only [Bool.false_eq_true, if_false]
          have I4 := I.step R4 (s2.trans s4)
          exact hN H4 g3 acc out I4 (s2.trans (s4.trans (mask_less fun a ha => (R4.bas.hid a ha).1))) e rfl
        | true =>
          simp only [if_true]
          refine ⟨pbOf pa O1 L H, O4, e3, g3, R4, ?_⟩
          simp only [] at e
          cases eq : me e3 g3 with
          | bad => rw [eq] at e; cases e
          | exc _ _ => rw [eq] at e; cases e
          | ok sl e5 g5 =>
            rw [eq] at e
            cases sl with
            | val y =>
              simp only [] at e
              intro O6 H6 s6 R6 v o
              cases er : lcRun t mt me (blankE vs 0 env) rest g5 with
              | none => rw [er] at e; cases e
              | some rr =>
                rw [er] at e
                cases e
                have sub := fun a ha => (R6.bas.hid a ha).1
                have s7 := s2.trans (s4.trans s6)
                have I6 := I.step R6 s7
                have rv : Rep K (mask pa O6 H6) y v := o.1
                obtain ⟨us, hu, hl, I7⟩ := I6.app (rv.mono (mask_less sub)) hL
                refine ⟨us, hu, ?_, hN _ g5 (acc ++ [y]) rr.1 I7 ?_ er (by simp)⟩
                · simp only [List.length_cons] at hlen
                  omega
                · rw [mask_upd List.mem_cons_self]
                  exact s7.trans (mask_less sub)
            | pen => cases e
            | raw _ => cases e
            | ol _ => cases e
            | ok _ => cases e
            | ot _ => cases e
            | tb => cases e
  rcases y with ⟨rfl, r⟩ | ⟨a, vs', ds', ha, rfl, rfl, ed, r⟩
  · exact step _ _ R (Same.refl _) r
  · obtain ⟨R2, s2, ha2⟩ := R.new (o := .tup vs') ha
    refine step _ _ R2 s2 ?_
    rw [ed]
    simp only [Rep]
    exact ⟨a, vs', rfl, ha2, r.mono s2⟩
end
end Z
end
section
set_option linter.all false
set_option maxRecDepth 100000
set_option maxHeartbeats 1000000
/-! ZM: list comprehensions of one clause and of two. -/
namespace Z
open PySem PySem.Spec PyProof.Rows L2

def mYes : Mir Bool := ret true
/-- lists that are settled ahead -/
def setO (b : Bool) (o : Option Sl) : Option Sl := match o with
  | some (.ol xs) => if b = true then some (.val (.list xs)) else some (.ol xs)
  | o => o
def setlE (is : List Nat) : Nat → Env → Env
  | _, [] => []
  | k, o :: r => setO (is.contains k) o :: setlE is (k + 1) r
theorem setO_at {b : Bool} {o : Option Sl} {sl : Sl} (h : setO b o = some sl) : o = some sl ∨ ∃ xs : List D, o = some (Sl.ol xs) ∧ sl = Sl.val (PyData.list xs) := by
  unfold setO at h
  split at h
  · rename_i xs
    cases b with
    | true => exact .inr ⟨xs, rfl, (Option.some.inj h).symm⟩
    | false => exact .inl h
  · exact .inl h
def mSettle {α : Type} (is : List Nat) (m : Mir α) : Mir α := fun env g => m (setlE is 0 env) g
def mLc (mi : Mir (List D)) (vs : List Nat) (t : Tgt) (mt : Mir Bool) (me : Mir Sl) : Mir Sl := bnd mi fun ds env g => match lcRun t mt me (blankE vs 0 env) ds g with
  | some (out, g2) => .ok (.ol out) env g2
  | none => .bad
def lcRun2 (vs1 : List Nat) (t : Tgt) (mt : Mir Bool) (mi1 : Mir (List D)) (t1 : Tgt) (mt1 : Mir Bool) (me : Mir Sl) (env : Env) : List D → Pen → Option (List D × Pen)
  | [], g => some ([], g)
  | d :: ds, g => match bindT t d env with
    | none => none
    | some e2 => match mt e2 g with
      | .ok true e3 g3 => match mi1 e3 g3 with
        | .ok ds1 e4 g4 => match lcRun t1 mt1 me (blankE vs1 0 e4) ds1 g4 with
          | some (o1, g5) => (lcRun2 vs1 t mt mi1 t1 mt1 me env ds g5).map fun r => (o1 ++ r.1, r.2)
          | none => none
        | _ => none
      | .ok false _ g3 => lcRun2 vs1 t mt mi1 t1 mt1 me env ds g3
      | _ => none
def mLc2 (mi : Mir (List D)) (vs vs1 : List Nat) (t : Tgt) (mt : Mir Bool) (mi1 : Mir (List D)) (t1 : Tgt) (mt1 : Mir Bool) (me : Mir Sl) : Mir Sl := bnd mi fun ds env g => match lcRun2 vs1 t mt mi1 t1 mt1 me (blankE vs 0 env) ds g with
  | some (out, g2) => if out.length ≤ 1000000 then .ok (.ol out) env g2 else .bad
  | none => .bad
section
variable {K : PySem.W.Frag} {W W0 : Wx} {pa p0 : Bs} {O O0 O1 : List Addr} {H H0 H1 H2 : Hp} {L : Addr} {σ : L2.St} {env : Env} {g g0 g2 : Pen} {acc : List D} {t t1 : Tgt} {gt gt1 : TG} {mt mt1 : Mir Bool} {me : Mir Sl} {vs vs1 : List Nat} {mi mi1 : Mir (List D)}
theorem setlE_length {is : List Nat} : ∀ {k : Nat} {env : Env}, (setlE is k env).length = env.length
  | _, [] => rfl
  | k, o :: r => by rw [setlE, List.length_cons, List.length_cons, setlE_length]
theorem setlE_at {is : List Nat} {sl : Sl} : ∀ {env : Env} {k i : Nat}, (setlE is k env)[i]? = some (some sl) → env[i]? = some (some sl) ∨ ∃ xs : List D, env[i]? = some (some (Sl.ol xs)) ∧ sl = Sl.val (PyData.list xs)
  | [], _, _, h => by simp [setlE] at h
  | o :: r, k, 0, h => by
    rcases setO_at (Option.some.inj h) with e | ⟨ys, e, e2⟩
    · exact .inl (by rw [e]; rfl)
    · exact .inr ⟨ys, by rw [e]; rfl, e2⟩
  | o :: r, k, i + 1, h => by
    have h : (setlE is (k + 1) r)[i]? = some (some sl) := h
    rcases setlE_at h with e | e
    · exact .inl e
    · exact .inr e
/-- lists of one's own settled: the heap stays -/
theorem Rel.setl (R : Rel K pa O H σ env g) (is : List Nat) : ∃ O', Same (mask pa O H) (mask pa O' H) ∧ (∀ a ∈ O', a ∈ O) ∧ Rel K pa O' H σ (setlE is 0 env) g := by
  -- what the settled slots own
  let dead : Addr → Prop := fun a => ∃ (i : Nat) (xs : List D), env[i]? = some (some (Sl.ol xs)) ∧ (setlE is 0 env)[i]? = some (some (Sl.val (PyData.list xs))) ∧ σ[i]? = some (some (V.ref a))
  classical
  have sub : ∀ a ∈ O.filter fun a => decide (¬ dead a), a ∈ O := fun a ha => (List.mem_filter.mp ha).1
  have s : Same (mask pa O H) (mask pa (O.filter fun a => decide (¬ dead a)) H) := mask_less sub
  have nohid : ∀ a ∈ pa.hid, ¬ dead a := fun a ha ⟨i, xs, e1, _, e3⟩ => R.nohid i _ a e1 rfl ha e3
  refine ⟨_, s, sub, ⟨by rw [setlE_length]; exact R.len, ⟨fun z => R.nopa (sub _ z), fun a ha => R.bas.dom a (sub a ha), fun a ha => ?_, R.pen.mono s rfl⟩, fun i sl e => ?_, fun i j sl sl' v e1 e2 e3 e4 o1 o2 => ?_, fun i sl a e o ha => ?_⟩⟩
  · obtain ⟨h1, h2⟩ := R.bas.hid a ha
    exact ⟨List.mem_filter.mpr ⟨h1, decide_eq_true (nohid a ha)⟩, h2⟩
  · rcases setlE_at e with e0 | ⟨xs, e0, rfl⟩
    · obtain ⟨v, e1, r⟩ := R.slot i sl e0
      refine ⟨v, e1, ?_⟩
      by_cases ho : sl.own = true
      · obtain ⟨a, rfl, hm⟩ := r.owned ho
        have live : ¬ dead a := fun ⟨j, xs, f1, f2, f3⟩ => by
          have hij := R.apart i j sl (.ol xs) _ e0 f1 e1 f3 ho rfl
          subst hij
          rw [e] at f2
          cases f2
          cases ho
        have hm' : a ∈ O.filter fun a => decide (¬ dead a) := List.mem_filter.mpr ⟨hm, decide_eq_true live⟩
        cases sl with
        | val _ => cases ho
        | pen => cases ho
        | raw _ => cases ho
        | ol xs =>
          obtain ⟨c, us, ec, _, hc, rr⟩ := r
          cases ec
          exact ⟨a, us, rfl, hm', hc, rr.mono s⟩
        | ok xs =>
          obtain ⟨c, us, ec, _, hc, rr⟩ := r
          cases ec
          exact ⟨a, us, rfl, hm', hc, rr.mono s⟩
        | ot xs =>
          obtain ⟨c, us, ec, _, hc, rr⟩ := r
          cases ec
          exact ⟨a, us, rfl, hm', hc, rr.mono s⟩
        | tb =>
          obtain ⟨c, us, ec, _, hc, rr⟩ := r
          cases ec
          exact ⟨a, us, rfl, hm', hc, rr.1.mono s, rr.2⟩
      · exact r.later (by cases q : sl.own <;> simp_all) s
    · obtain ⟨v, e1, r⟩ := R.slot i _ e0
      obtain ⟨a, us, rfl, hm, ha, rr⟩ := r
      refine ⟨_, e1, ?_⟩
      show Rep K _ (.list xs) (.ref a)
      simp only [Rep]
      exact ⟨a, us, rfl, mask_of (fun z => R.nopa (by rw [← z]; exact hm)) (fun z => of_decide_eq_true (List.mem_filter.mp z).2 ⟨i, xs, e0, e, e1⟩) ha, rr.mono s⟩
  · have f1 : env[i]? = some (some sl) := by
      rcases setlE_at e1 with q | ⟨_, _, rfl⟩
      · exact q
      · cases o1
    have f2 : env[j]? = some (some sl') := by
      rcases setlE_at e2 with q | ⟨_, _, rfl⟩
      · exact q
      · cases o2
    exact R.apart i j sl sl' v f1 f2 e3 e4 o1 o2
  · rcases setlE_at e with q | ⟨_, _, rfl⟩
    · exact R.nohid i sl a q o ha
    · cases o
end
section
variable {X : Cx} {W : Wx} {e : Expr} {m : Mir Sl} {is : List Nat}
theorem zx_settle (he : PE X e (zE X.K W m)) : PE X e (zE X.K W (mSettle is m)) := pe_weak he fun σ H Q ⟨pa, O, env, g, R, h⟩ => by
  obtain ⟨O', s, _, R'⟩ := R.setl is
  exact ⟨pa, O', _, g, R', PostG.from_ h s⟩
theorem zt_settle {mt : Mir Bool} (he : PT X e (zB X.K W mt)) : PT X e (zB X.K W (mSettle is mt)) := pt_weak he fun σ H Q ⟨pa, O, env, g, R, h⟩ => by
  obtain ⟨O', s, _, R'⟩ := R.setl is
  exact ⟨pa, O', _, g, R', PostG.from_ h s⟩
theorem zs_settle {st : Stmt} {mc : Mir Ctl} (he : PS X st (zS X.K W mc)) : PS X st (zS X.K W (mSettle is mc)) := ps_weak he fun Dn σ H ⟨pa, O, env, g, R, h⟩ => by
  obtain ⟨O', s, _, R'⟩ := R.setl is
  exact ⟨pa, O', _, g, R', PostC.from_ h s⟩
end

/-! ### the block's end and its start -/
section
variable {K : PySem.W.Frag} {W W0 : Wx} {pa p0 : Bs} {O O0 O1 : List Addr} {H H0 H1 H2 : Hp} {L : Addr} {σ : L2.St} {env : Env} {g g0 g2 : Pen} {acc : List D} {t t1 : Tgt} {gt gt1 : TG} {mt mt1 : Mir Bool} {me : Mir Sl} {vs vs1 : List Nat} {mi mi1 : Mir (List D)}
theorem lci_new (R : Rel K pa O1 H1 σ env g) (hL : H1 L = none) : L ∉ O1 ∧ LcI K pa O1 H1 L (upd H1 L (.lst [])) g [] := by
  have nL : L ∉ O1 := fun z => isSome_ne (R.dom L z) hL rfl
  obtain ⟨s, R2, o⟩ := R.newList (vs := []) (ds := []) (by simp only [Reps]) hL
  refine ⟨nL, R2.nopa, ⟨[], upd_same, by simp only [Reps]⟩, fun a ha => ?_, s, R2.pen⟩
  rw [upd_ne (isSome_ne (R.dom a ha) hL)]
  exact ⟨rfl, R.bas.dom a ha⟩
theorem lci_end (R : Rel K pa O1 H1 σ env g0) (hL : L ∉ O1) (hf : H1 L = none) (I : LcI K pa O1 H1 L H g acc) {Q : VK} (h : PostX K pa O1 H1 σ W (.ok (.ol acc) env g) Q) : Q (.ref L) H := by
  have R2 : Rel K pa (L :: O1) H σ env g := R.step I.same (fun a ha => ⟨List.mem_cons_of_mem _ ha, (I.keep a ha).1⟩) I.nopa I.bas.dom I.pen
  obtain ⟨us, e, r⟩ := I.lst
  refine h (L :: O1) H I.same R2 (.ref L) ⟨⟨L, us, rfl, List.mem_cons_self, e, r⟩, fun _ => ⟨fun a ha z => ?_, fun i sl' e' o' z => ?_⟩⟩
  · cases z
    exact hL (R.bas.hid L ha).1
  · obtain ⟨v, e1, r1⟩ := R.slot i sl' e'
    rw [z] at e1
    cases e1
    obtain ⟨a, ea, hm⟩ := r1.owned o'
    cases ea
    exact hL hm
theorem lci_all (R : Rel K pa O1 H1 σ env g0) (hf : H1 L = none) (I : LcI K pa O1 H1 L H g acc) : Same (mask pa [] H1) H := fun a u e => by
  obtain ⟨h1, _, h3⟩ := mask_some e
  by_cases ha : a ∈ O1
  · rw [(I.keep a ha).1]; exact h3
  · exact mask_le a u (I.same a u (mask_of h1 ha h3))
theorem lc_weak (ok : TgtOk K t gt) (ht : ∀ j ∈ t.slots, j ∈ vs) {H' : Hp} {Q : VK} (h : zE K W (mLc mi vs t mt me) σ H' Q) : tLc (zI true K W mi) gt (zB K W0 mt) (zE K W0 me) vs σ H' Q := by
  obtain ⟨pa, O, env, g, R, h⟩ := h
  refine ⟨pa, O, env, g, R, postG_bnd h fun ds env1 g1 O1 H1 _ s R1 q J w len L hL => ?_⟩
  obtain ⟨nL, I0⟩ := lci_new R1 hL
  cases er : lcRun t mt me (blankE vs 0 env1) ds g1 with
  | none => simp only [er] at q; exact q.elim
  | some rr =>
    obtain ⟨out, g2⟩ := rr
    simp only [er] at q
    have hlen := Nat.le_trans (lcRun_len er) len
    refine ⟨fun i m H => m + i = ds.length ∧ ∃ g acc out2, LcI K pa O1 H1 L H g acc ∧ lcRun t mt me (blankE vs 0 env1) (ds.drop i) g = some (out2, g2) ∧ acc ++ out2 = out, ⟨ds.length, by simp, g1, [], out, I0, er, rfl⟩, ?_⟩
    rintro i m H ⟨hm, g, acc, out2, I, e, eo⟩
    by_cases hlt : i < ds.length
    · refine .inr ⟨w.go i H (lci_all R1 hL I) hlt, fun H' => (m - 1) + (i + 1) = ds.length ∧ ∃ g acc out2, LcI K pa O1 H1 L H' g acc ∧ lcRun t mt me (blankE vs 0 env1) (ds.drop (i + 1)) g = some (out2, g2) ∧ acc ++ out2 = out, fun H' z => ⟨m - 1, by omega, z⟩, fun x H' y => ?_⟩
      rw [List.drop_eq_getElem_cons hlt] at e
      have yo := w.yld (pbOf pa O1 L H) i (L :: O1) H x H' ds[i] g rfl I.bas I.same (lci_all R1 hL I) (List.getElem?_eq_getElem hlt) y
      refine lc_turn ok ht nL I R1 rfl I.same e (by rw [← List.length_append, eo]; exact hlen) yo fun H2 g3 acc2 out3 I2 _ e2 eo2 => ⟨by omega, g3, acc2, out3, I2, e2, by rw [eo2]; exact eo⟩
    · have ei : i = ds.length := by omega
      rw [List.drop_eq_nil_of_le (by omega)] at e
      cases e
      rw [List.append_nil] at eo
      subst eo
      refine .inl ⟨?_, lci_end R1 nL hL I q⟩
      rw [ei]
      exact w.stop H (lci_all R1 hL I)
end
section
variable {X : Cx} {ca : PySem.Str → Addr} {E : XK} {elt tg iter : Expr} {ifs : List Expr} {scope : Scope} {own : List (PySem.Str × Nat)} {pos spos py : Pos} {gt : TG} {t : Tgt} {mi : Mir (List D)} {mt : Mir Bool} {me : Mir Sl}
theorem zt_yes {W : Wx} : PTs X [] (zB X.K W mYes) := ⟨fun pins s σ H Q I ⟨pa, O, env, g, R, h⟩ => pts_nil.run pins s σ H Q I (h O H (Same.refl _) R)⟩
theorem zt_one {W : Wx} {c : Expr} (h : PT X c (zB X.K W mt)) : PTs X [c] (zB X.K W mt) := pts_one h
theorem zx_lc (hc : X.calm = true) (hN : X.N.Nodup) (hi : PI X tg iter (zI true X.K (ca, E) mi)) (ok : BlkOk X.N X.env.scope scope own) (tk : TgtOk X.K t gt) (ht' : ∀ j ∈ t.slots, j ∈ own.map (·.2))
    (hg : ∀ (s : Shared) (H : Hp) (C : Addr) (cl : List (PySem.Str × Addr)) (fp : List Addr), PG (X.blk s H scope (compEnvC scope cl C X.env) fp) tg gt) (ht : ∀ (s : Shared) (H : Hp) (C : Addr) (cl : List (PySem.Str × Addr)) (fp : List Addr), PTs (X.blk s H scope (compEnvC scope cl C X.env) fp) ifs (zB X.K (ca, E0) mt))
    (he : ∀ (s : Shared) (H : Hp) (C : Addr) (cl : List (PySem.Str × Addr)) (fp : List Addr), PE (X.blk s H scope (compEnvC scope cl C X.env) fp) elt (zE X.K (ca, E0) me)) (hs : ∀ x, foldedSetIterable iter X.env x = pure x := by intro _; rfl) :
    PE X (.ListComp elt [⟨tg, iter, ifs, 0⟩] scope pos) (zE X.K (ca, E) (mLc mi (own.map (·.2)) t mt me)) :=
  pe_weak (pe_lc hc hN hi ok hg ht he hs) fun σ H Q h => lc_weak tk ht' h
theorem zs_setLc (i : Nat) {y : PySem.Str} (hc : X.calm = true) (hN : X.N.Nodup) (hy : X.N[i]? = some y) (hyl : X.env.scope.names.lookup y = some .local) (hsw : swapsWith (.ListComp elt [⟨tg, iter, ifs, 0⟩] scope pos) (some (.Name y py)) spos.line X.env = pure true)
    (hi : PI X tg iter (zI true X.K (ca, E) mi)) (ok : BlkOk X.N X.env.scope scope own) (tk : TgtOk X.K t gt) (ht' : ∀ j ∈ t.slots, j ∈ own.map (·.2))
    (hg : ∀ (s : Shared) (H : Hp) (C : Addr) (cl : List (PySem.Str × Addr)) (fp : List Addr), PG (X.blk s H scope (compEnvC scope cl C X.env) fp) tg gt) (ht : ∀ (s : Shared) (H : Hp) (C : Addr) (cl : List (PySem.Str × Addr)) (fp : List Addr), PTs (X.blk s H scope (compEnvC scope cl C X.env) fp) ifs (zB X.K (ca, E0) mt))
    (he : ∀ (s : Shared) (H : Hp) (C : Addr) (cl : List (PySem.Str × Addr)) (fp : List Addr), PE (X.blk s H scope (compEnvC scope cl C X.env) fp) elt (zE X.K (ca, E0) me)) (hs : ∀ x, foldedSetIterable iter X.env x = pure x := by intro _; rfl) :
    PS X (.Assign [.Name y py] (.ListComp elt [⟨tg, iter, ifs, 0⟩] scope pos) spos) (zS X.K (ca, E) (sSet i (mLc mi (own.map (·.2)) t mt me))) :=
  ps_weak (ps_setLc hc hN hy hyl hsw hi ok hg ht he hs) fun Dn σ H ⟨pa, O, env, g, R, h⟩ => lc_weak tk ht' ⟨pa, O, env, g, R, postC_bnd h fun sl env' g' O' H' e s R' q v o => q (σ.set i (some v)) O' H' (Same.refl _) (R'.store o)⟩
end
end Z
end
section
set_option linter.all false
set_option maxRecDepth 100000
set_option maxHeartbeats 1000000
/-! ZN: list comprehensions of two clauses. -/
namespace Z
open PySem PySem.Spec PyProof.Rows L2
section
variable {K : PySem.W.Frag} {W W0 : Wx} {pa p0 : Bs} {O O0 O1 : List Addr} {H H0 H1 H2 : Hp} {L : Addr} {σ : L2.St} {env : Env} {g g0 g2 : Pen} {acc : List D} {t t1 : Tgt} {gt gt1 : TG} {mt mt1 : Mir Bool} {me : Mir Sl} {vs vs1 : List Nat} {mi mi1 : Mir (List D)}
theorem lc2_turn (ok : TgtOk K t gt) (ht : ∀ j ∈ t.slots, j ∈ vs) (ok1 : TgtOk K t1 gt1) (ht1 : ∀ j ∈ t1.slots, j ∈ vs1) (hL : L ∉ O1) (I : LcI K pa O1 H1 L H g acc) (R0 : Rel K p0 O0 H0 σ env g0) (hp : p0.a = pa.a) (s0 : Same (mask p0 O0 H0) (mask pa (L :: O1) H)) {d : D} {rest out : List D} {g' : Pen} {x : V} {H' : Hp} {Nx : Hp → Prop}
    (e : lcRun2 vs1 t mt mi1 t1 mt1 me (blankE vs 0 env) (d :: rest) g = some (out, g')) (hlen : acc.length + out.length ≤ sizeLine) (y : YldOk K (pbOf pa O1 L H) (L :: O1) d x H H')
    (hN : ∀ H2 g2 acc2 out2, LcI K pa O1 H1 L H2 g2 acc2 → Same (mask pa (L :: O1) H) (mask pa (L :: O1) H2) → lcRun2 vs1 t mt mi1 t1 mt1 me (blankE vs 0 env) rest g2 = some (out2, g') → acc2 ++ out2 = acc ++ out → Nx H2) :
    gt x (wipe σ vs) H' fun σ2 H2 => wipe σ2 vs = wipe σ vs ∧ zB K W mt σ2 H2 fun b H3 => if b = true then zI false K W mi1 σ2 H3 fun J1 H4 => ∃ W1 : Nat → Nat → Hp → Prop, (∃ m, W1 0 m H4) ∧ ∀ j k H, W1 j k H →
      (J1.stop j H ∧ Nx H) ∨ (J1.go j H ∧ ∃ Nx1 : Hp → Prop, (∀ H', Nx1 H' → ∃ k', k' < k ∧ W1 (j + 1) k' H') ∧ ∀ x H', J1.yld j H x H' → gt1 x (wipe σ2 vs1) H' fun σ3 H5 => wipe σ3 vs1 = wipe σ2 vs1 ∧ zB K W mt1 σ3 H5 fun b H6 =>
        if b = true then zE K W me σ3 H6 fun y H7 => ∃ acc, H7 L = some (.lst acc) ∧ acc.length < sizeLine ∧ Nx1 (upd H7 L (.lst (acc ++ [y]))) else Nx1 H6) else Nx H3 := by
  have R := I.rel R0 hp s0 vs
  have step : ∀ O2 H2, Rel K (pbOf pa O1 L H) O2 H2 (wipe σ vs) (blankE vs 0 env) g → Same (mask pa (L :: O1) H) (mask pa O2 H2) → Rep K (mask pa O2 H2) d x →
    gt x (wipe σ vs) H2 fun σ2 H2 => wipe σ2 vs = wipe σ vs ∧ zB K W mt σ2 H2 fun b H3 => if b = true then zI false K W mi1 σ2 H3 fun J1 H4 => ∃ W1 : Nat → Nat → Hp → Prop, (∃ m, W1 0 m H4) ∧ ∀ j k H, W1 j k H →
      (J1.stop j H ∧ Nx H) ∨ (J1.go j H ∧ ∃ Nx1 : Hp → Prop, (∀ H', Nx1 H' → ∃ k', k' < k ∧ W1 (j + 1) k' H') ∧ ∀ x H', J1.yld j H x H' → gt1 x (wipe σ2 vs1) H' fun σ3 H5 => wipe σ3 vs1 = wipe σ2 vs1 ∧ zB K W mt1 σ3 H5 fun b H6 =>
        if b = true then zE K W me σ3 H6 fun y H7 => ∃ acc, H7 L = some (.lst acc) ∧ acc.length < sizeLine ∧ Nx1 (upd H7 L (.lst (acc ++ [y]))) else Nx1 H6) else Nx H3 := fun O2 H2 R2 s2 r => by
    unfold lcRun2 at e
    cases eb : bindT t d (blankE vs 0 env) with
    | none => rw [eb] at e; cases e
    | some e2 =>
      rw [eb] at e
      refine ok (pbOf pa O1 L H) O2 H2 (wipe σ vs) (blankE vs 0 env) e2 g d x _ R2 r eb fun σ3 R3 h1 h2 => ⟨wipe_same h1 h2 ht, pbOf pa O1 L H, O2, e2, g, R3, ?_⟩
      simp only [] at e
      cases em : mt e2 g with
      | bad => rw [em] at e; cases e
      | exc _ _ => rw [em] at e; cases e
      | ok b e3 g3 =>
        rw [em] at e
        intro O4 H4 s4 R4
        cases b with
        | false =>
          simp only [Bool.false_eq_true, if_false]
          exact hN H4 g3 acc out (I.step R4 (s2.trans s4)) (s2.trans (s4.trans (mask_less fun a ha => (R4.bas.hid a ha).1))) e rfl
        | true =>
          simp only [if_true]
          refine ⟨pbOf pa O1 L H, O4, e3, g3, R4, ?_⟩
          simp only [] at e
          cases eq : mi1 e3 g3 with
          | bad => rw [eq] at e; cases e
          | exc _ _ => rw [eq] at e; cases e
          | ok ds1 e5 g5 =>
            rw [eq] at e
            simp only [] at e
            intro O5 H5 s5 R5 J1 w1 len1
            have s6 := s2.trans (s4.trans s5)
            have I5 := I.step R5 s6
            cases er : lcRun t1 mt1 me (blankE vs1 0 e5) ds1 g5 with
            | none => rw [er] at e; cases e
            | some rr =>
              obtain ⟨o1, g6⟩ := rr
              rw [er] at e
              simp only [] at e
              cases er2 : lcRun2 vs1 t mt mi1 t1 mt1 me (blankE vs 0 env) rest g6 with
              | none => rw [er2] at e; cases e
              | some rr2 =>
                rw [er2] at e
                cases e
                have s7 : Same (mask pa O5 H5) (mask pa (L :: O1) H5) := mask_less fun a ha => (R5.bas.hid a ha).1
                have ws : ∀ {Hc : Hp}, Same (mask pa O5 H5) (mask pa (L :: O1) Hc) → Same (mask pa O5 H5) Hc := fun s => s.trans mask_le
                refine ⟨fun j k Hc => k + j = ds1.length ∧ ∃ g acc2 out2, LcI K pa O1 H1 L Hc g acc2 ∧ Same (mask pa O5 H5) (mask pa (L :: O1) Hc) ∧ lcRun t1 mt1 me (blankE vs1 0 e5) (ds1.drop j) g = some (out2, g6) ∧ acc2 ++ out2 = acc ++ o1,
                  ⟨ds1.length, by simp, g5, acc, o1, I5, s7, er, rfl⟩, ?_⟩
                rintro j k Hc ⟨hk, gc, acc2, out2, Ic, sc, ec, eo⟩
                by_cases hlt : j < ds1.length
                · refine .inr ⟨w1.go j Hc (ws sc) hlt, fun Hc => (k - 1) + (j + 1) = ds1.length ∧ ∃ g acc2 out2, LcI K pa O1 H1 L Hc g acc2 ∧ Same (mask pa O5 H5) (mask pa (L :: O1) Hc) ∧ lcRun t1 mt1 me (blankE vs1 0 e5) (ds1.drop (j + 1)) g = some (out2, g6) ∧ acc2 ++ out2 = acc ++ o1,
                    fun Hc z => ⟨k - 1, by omega, z⟩, fun x1 Hy y1 => ?_⟩
                  rw [List.drop_eq_getElem_cons hlt] at ec
                  have yo := w1.yld (pbOf pa O1 L Hc) j (L :: O1) Hc x1 Hy ds1[j] gc rfl Ic.bas sc (ws sc) (List.getElem?_eq_getElem hlt) y1
                  refine lc_turn ok1 ht1 hL Ic R5 rfl sc ec ?_ yo fun H8 g8 acc8 out8 I8 s8 e8 eo8 => ⟨by omega, g8, acc8, out8, I8, sc.trans s8, e8, by rw [eo8]; exact eo⟩
                  rw [← List.length_append, eo, List.length_append]
                  simp only [List.length_append] at hlen
                  omega
                · have ej : j = ds1.length := by omega
                  rw [List.drop_eq_nil_of_le (by omega)] at ec
                  cases ec
                  rw [List.append_nil] at eo
                  subst eo
                  refine .inl ⟨?_, hN Hc g6 _ rr2.1 Ic (s6.trans (sc)) er2 (by simp)⟩
                  rw [ej]
                  exact w1.stop Hc (ws sc)
  rcases y with ⟨rfl, r⟩ | ⟨a, vs', ds', ha, rfl, rfl, ed, r⟩
  · exact step _ _ R (Same.refl _) r
  · obtain ⟨R2, s2, ha2⟩ := R.new (o := .tup vs') ha
    refine step _ _ R2 s2 ?_
    rw [ed]
    simp only [Rep]
    exact ⟨a, vs', rfl, ha2, r.mono s2⟩
theorem line_of {n : Nat} (h : n ≤ 1000000) : n ≤ sizeLine := le_line h
theorem lc2_weak (ok : TgtOk K t gt) (ht : ∀ j ∈ t.slots, j ∈ vs) (ok1 : TgtOk K t1 gt1) (ht1 : ∀ j ∈ t1.slots, j ∈ vs1) {H' : Hp} {Q : VK} (h : zE K W (mLc2 mi vs vs1 t mt mi1 t1 mt1 me) σ H' Q) : tLc2 (zI true K W mi) gt (zB K W0 mt) (zI false K W0 mi1) gt1 (zB K W0 mt1) (zE K W0 me) vs vs1 σ H' Q := by
  obtain ⟨pa, O, env, g, R, h⟩ := h
  refine ⟨pa, O, env, g, R, postG_bnd h fun ds env1 g1 O1 H1 _ s R1 q J w len L hL => ?_⟩
  obtain ⟨nL, I0⟩ := lci_new R1 hL
  cases er : lcRun2 vs1 t mt mi1 t1 mt1 me (blankE vs 0 env1) ds g1 with
  | none => simp only [er] at q; exact q.elim
  | some rr =>
    obtain ⟨out, g2⟩ := rr
    simp only [er] at q
    by_cases hlen : out.length ≤ 1000000
    · rw [if_pos hlen] at q
      refine ⟨fun i m H => m + i = ds.length ∧ ∃ g acc out2, LcI K pa O1 H1 L H g acc ∧ lcRun2 vs1 t mt mi1 t1 mt1 me (blankE vs 0 env1) (ds.drop i) g = some (out2, g2) ∧ acc ++ out2 = out, ⟨ds.length, by simp, g1, [], out, I0, er, rfl⟩, ?_⟩
      rintro i m H ⟨hm, g, acc, out2, I, e, eo⟩
      by_cases hlt : i < ds.length
      · refine .inr ⟨w.go i H (lci_all R1 hL I) hlt, fun H' => (m - 1) + (i + 1) = ds.length ∧ ∃ g acc out2, LcI K pa O1 H1 L H' g acc ∧ lcRun2 vs1 t mt mi1 t1 mt1 me (blankE vs 0 env1) (ds.drop (i + 1)) g = some (out2, g2) ∧ acc ++ out2 = out, fun H' z => ⟨m - 1, by omega, z⟩, fun x H' y => ?_⟩
        rw [List.drop_eq_getElem_cons hlt] at e
        have yo := w.yld (pbOf pa O1 L H) i (L :: O1) H x H' ds[i] g rfl I.bas I.same (lci_all R1 hL I) (List.getElem?_eq_getElem hlt) y
        refine lc2_turn ok ht ok1 ht1 nL I R1 rfl I.same e (by rw [← List.length_append, eo]; exact line_of hlen) yo fun H2 g3 acc2 out3 I2 _ e2 eo2 => ⟨by omega, g3, acc2, out3, I2, e2, by rw [eo2]; exact eo⟩
      · have ei : i = ds.length := by omega
        rw [List.drop_eq_nil_of_le (by omega)] at e
        cases e
        rw [List.append_nil] at eo
        subst eo
        refine .inl ⟨?_, lci_end R1 nL hL I q⟩
        rw [ei]
        exact w.stop H (lci_all R1 hL I)
    · rw [if_neg hlen] at q; exact q.elim
end
section
variable {X : Cx} {ca : PySem.Str → Addr} {E : XK} {elt tg iter tg1 iter1 : Expr} {ifs ifs1 : List Expr} {scope : Scope} {own : List (PySem.Str × Nat)} {pos spos py : Pos} {gt gt1 : TG} {t t1 : Tgt} {mi mi1 : Mir (List D)} {mt mt1 : Mir Bool} {me : Mir Sl} {vs1 : List Nat}
theorem zx_lc2 (hc : X.calm = true) (hN : X.N.Nodup) (hi : PI X tg iter (zI true X.K (ca, E) mi)) (ok : BlkOk X.N X.env.scope scope own) (hv : ∀ i ∈ vs1, i ∈ own.map (·.2)) (tk : TgtOk X.K t gt) (ht' : ∀ j ∈ t.slots, j ∈ own.map (·.2)) (tk1 : TgtOk X.K t1 gt1) (ht1' : ∀ j ∈ t1.slots, j ∈ vs1)
    (hg : ∀ (s : Shared) (H : Hp) (C : Addr) (cl : List (PySem.Str × Addr)) (fp : List Addr), PG (X.blk s H scope (compEnvC scope cl C X.env) fp) tg gt) (ht : ∀ (s : Shared) (H : Hp) (C : Addr) (cl : List (PySem.Str × Addr)) (fp : List Addr), PTs (X.blk s H scope (compEnvC scope cl C X.env) fp) ifs (zB X.K (ca, E0) mt))
    (hi1 : ∀ (s : Shared) (H : Hp) (C : Addr) (cl : List (PySem.Str × Addr)) (fp : List Addr), PI (X.blk s H scope (compEnvC scope cl C X.env) fp) tg1 iter1 (zI false X.K (ca, E0) mi1))
    (hg1 : ∀ (s : Shared) (H : Hp) (C : Addr) (cl : List (PySem.Str × Addr)) (fp : List Addr), PG (X.blk s H scope (compEnvC scope cl C X.env) fp) tg1 gt1) (ht1 : ∀ (s : Shared) (H : Hp) (C : Addr) (cl : List (PySem.Str × Addr)) (fp : List Addr), PTs (X.blk s H scope (compEnvC scope cl C X.env) fp) ifs1 (zB X.K (ca, E0) mt1))
    (he : ∀ (s : Shared) (H : Hp) (C : Addr) (cl : List (PySem.Str × Addr)) (fp : List Addr), PE (X.blk s H scope (compEnvC scope cl C X.env) fp) elt (zE X.K (ca, E0) me)) (hs : ∀ x, foldedSetIterable iter X.env x = pure x := by intro _; rfl) (hs1 : ∀ env x, foldedSetIterable iter1 env x = pure x := by intro _ _; rfl) :
    PE X (.ListComp elt [⟨tg, iter, ifs, 0⟩, ⟨tg1, iter1, ifs1, 0⟩] scope pos) (zE X.K (ca, E) (mLc2 mi (own.map (·.2)) vs1 t mt mi1 t1 mt1 me)) :=
  pe_weak (pe_lc2 hc hN hi ok hv hg ht hi1 hg1 ht1 he hs hs1) fun σ H Q h => lc2_weak tk ht' tk1 ht1' h
theorem zs_setLc2 (i : Nat) {y : PySem.Str} (hc : X.calm = true) (hN : X.N.Nodup) (hy : X.N[i]? = some y) (hyl : X.env.scope.names.lookup y = some .local) (hsw : swapsWith (.ListComp elt [⟨tg, iter, ifs, 0⟩, ⟨tg1, iter1, ifs1, 0⟩] scope pos) (some (.Name y py)) spos.line X.env = pure true)
    (hi : PI X tg iter (zI true X.K (ca, E) mi)) (ok : BlkOk X.N X.env.scope scope own) (hv : ∀ i ∈ vs1, i ∈ own.map (·.2)) (tk : TgtOk X.K t gt) (ht' : ∀ j ∈ t.slots, j ∈ own.map (·.2)) (tk1 : TgtOk X.K t1 gt1) (ht1' : ∀ j ∈ t1.slots, j ∈ vs1)
    (hg : ∀ (s : Shared) (H : Hp) (C : Addr) (cl : List (PySem.Str × Addr)) (fp : List Addr), PG (X.blk s H scope (compEnvC scope cl C X.env) fp) tg gt) (ht : ∀ (s : Shared) (H : Hp) (C : Addr) (cl : List (PySem.Str × Addr)) (fp : List Addr), PTs (X.blk s H scope (compEnvC scope cl C X.env) fp) ifs (zB X.K (ca, E0) mt))
    (hi1 : ∀ (s : Shared) (H : Hp) (C : Addr) (cl : List (PySem.Str × Addr)) (fp : List Addr), PI (X.blk s H scope (compEnvC scope cl C X.env) fp) tg1 iter1 (zI false X.K (ca, E0) mi1))
    (hg1 : ∀ (s : Shared) (H : Hp) (C : Addr) (cl : List (PySem.Str × Addr)) (fp : List Addr), PG (X.blk s H scope (compEnvC scope cl C X.env) fp) tg1 gt1) (ht1 : ∀ (s : Shared) (H : Hp) (C : Addr) (cl : List (PySem.Str × Addr)) (fp : List Addr), PTs (X.blk s H scope (compEnvC scope cl C X.env) fp) ifs1 (zB X.K (ca, E0) mt1))
    (he : ∀ (s : Shared) (H : Hp) (C : Addr) (cl : List (PySem.Str × Addr)) (fp : List Addr), PE (X.blk s H scope (compEnvC scope cl C X.env) fp) elt (zE X.K (ca, E0) me)) (hs : ∀ x, foldedSetIterable iter X.env x = pure x := by intro _; rfl) (hs1 : ∀ env x, foldedSetIterable iter1 env x = pure x := by intro _ _; rfl) :
    PS X (.Assign [.Name y py] (.ListComp elt [⟨tg, iter, ifs, 0⟩, ⟨tg1, iter1, ifs1, 0⟩] scope pos) spos) (zS X.K (ca, E) (sSet i (mLc2 mi (own.map (·.2)) vs1 t mt mi1 t1 mt1 me))) :=
  ps_weak (ps_setLc2 hc hN hy hyl hsw hi ok hv hg ht hi1 hg1 ht1 he hs hs1) fun Dn σ H ⟨pa, O, env, g, R, h⟩ => lc2_weak tk ht' tk1 ht1' ⟨pa, O, env, g, R, postC_bnd h fun sl env' g' O' H' e s R' q v o => q (σ.set i (some v)) O' H' (Same.refl _) (R'.store o)⟩
end
end Z
end
section
set_option linter.all false
set_option maxRecDepth 100000
set_option maxHeartbeats 1000000
/-! ZO: what a slot owns is written; two names at once; dict displays. -/
namespace Z
open PySem PySem.Spec PyProof.Rows L2

/-! ### what a slot owns is written -/
section
variable {K : PySem.W.Frag} {E : Wx} {pa : Bs} {O O' : List Addr} {H H' H0 : Hp} {σ : L2.St} {env : Env} {g g' : Pen}
theorem Rel.write (R : Rel K pa O H σ env g) {i : Nat} {a : Addr} {sl sl' : Sl} {o : HO} (e : env[i]? = some (some sl)) (ho : sl.own = true) (ho' : sl'.own = true) (hv : σ[i]? = some (some (.ref a))) (hm : Muts (some o) = true) (r' : SlRep K pa O (upd H a o) sl' (.ref a)) :
    Rel K pa O (upd H a o) σ (env.set i (some sl')) g ∧ Same (mask pa O H) (mask pa O (upd H a o)) := by
  have il : i < env.length := (List.getElem?_eq_some_iff.mp e).1
  have haO : a ∈ O := by
    obtain ⟨v, e1, r⟩ := R.slot i sl e
    rw [hv] at e1
    cases e1
    obtain ⟨b, eb, hb⟩ := r.owned ho
    cases eb
    exact hb
  have nh : a ∉ pa.hid := fun z => R.nohid i sl a e ho z hv
  have npa : pa.a ≠ a := fun z => R.nopa (z ▸ haO)
  have em : mask pa O (upd H a o) = mask pa O H := mask_upd haO
  have s : Same (mask pa O H) (mask pa O (upd H a o)) := by rw [em]; exact Same.refl _
  have back : ∀ {j : Nat} {t : Sl}, (env.set i (some sl'))[j]? = some (some t) → t.own = true → ∃ t0, env[j]? = some (some t0) ∧ t0.own = true := fun {j t} ej ot => by
    by_cases hj : i = j
    · subst hj; exact ⟨sl, e, ho⟩
    · rw [List.getElem?_set_ne hj] at ej
      exact ⟨t, ej, ot⟩
  refine ⟨⟨by rw [List.length_set]; exact R.len, ⟨R.nopa, fun b hb => ?_, fun b hb => ?_, R.pen.mono s (upd_ne npa)⟩, fun j t ej => ?_, fun j k t1 t2 w e1 e2 e3 e4 o1 o2 => ?_, fun j t b ej ot hb => ?_⟩, s⟩
  · by_cases hba : b = a
    · subst hba; rw [upd_same]; exact hm
    · rw [upd_ne hba]; exact R.bas.dom b hb
  · obtain ⟨h1, h2⟩ := R.bas.hid b hb
    exact ⟨h1, by rw [upd_ne (fun z => nh (by rw [← z]; exact hb))]; exact h2⟩
  · by_cases hj : i = j
    · subst hj
      rw [List.getElem?_set_self il] at ej
      cases ej
      exact ⟨_, hv, r'⟩
    · rw [List.getElem?_set_ne hj] at ej
      obtain ⟨v, e1, r⟩ := R.slot j t ej
      refine ⟨v, e1, ?_⟩
      by_cases ot : t.own = true
      · obtain ⟨b, rfl, hb⟩ := r.owned ot
        have hba : b ≠ a := fun z => hj (R.apart i j sl t (.ref a) e ej hv (z ▸ e1) ho ot)
        cases t with
        | val _ => cases ot
        | pen => cases ot
        | raw _ => cases ot
        | ol xs =>
          obtain ⟨c, us, ec, hc, hu, rr⟩ := r
          cases ec
          exact ⟨b, us, rfl, hc, (upd_ne hba).trans hu, rr.mono s⟩
        | ok xs =>
          obtain ⟨c, us, ec, hc, hu, rr⟩ := r
          cases ec
          exact ⟨b, us, rfl, hc, (upd_ne hba).trans hu, rr.mono s⟩
        | ot xs =>
          obtain ⟨c, us, ec, hc, hu, rr⟩ := r
          cases ec
          exact ⟨b, us, rfl, hc, (upd_ne hba).trans hu, rr.mono s⟩
        | tb =>
          obtain ⟨c, us, ec, hc, hu, rr⟩ := r
          cases ec
          exact ⟨b, us, rfl, hc, (upd_ne hba).trans hu, rr.1.mono s, rr.2⟩
      · exact r.later (by cases q : t.own <;> simp_all) s
  · obtain ⟨t3, f1, f2⟩ := back e1 o1
    obtain ⟨t4, f3, f4⟩ := back e2 o2
    exact R.apart j k t3 t4 w f1 f3 e3 e4 f2 f4
  · obtain ⟨t0, f1, f2⟩ := back ej ot
    exact R.nohid j t0 b f1 f2 hb
/-- one thing more that is hidden for a while -/
abbrev Bs.and (pa : Bs) (a : Addr) (H : Hp) : Bs := ⟨pa.a, a :: pa.hid, H⟩
theorem Rel.hide (R : Rel K pa O H σ env g) {a : Addr} (ha : a ∈ O) (hno : ∀ (i : Nat) (sl : Sl), env[i]? = some (some sl) → sl.own = true → σ[i]? ≠ some (some (.ref a))) : Rel K (pa.and a H) O H σ env g where
  len := R.len
  bas := ⟨R.nopa, R.bas.dom, fun b hb => by
    rcases List.mem_cons.mp hb with rfl | hb
    · exact ⟨ha, rfl⟩
    · exact ⟨(R.bas.hid b hb).1, rfl⟩, R.pen⟩
  slot := R.slot
  apart := R.apart
  nohid := fun i sl b e o hb => by
    rcases List.mem_cons.mp hb with rfl | hb
    · exact hno i sl e o
    · exact R.nohid i sl b e o hb
theorem Bas.unhide {a : Addr} (R : Bas (pa.and a H0) O H g) (h0 : ∀ b ∈ pa.hid, H0 b = pa.h0 b) : Bas pa O H g :=
  ⟨R.nopa, R.dom, fun b hb => ⟨(R.hid b (List.mem_cons_of_mem _ hb)).1, (R.hid b (List.mem_cons_of_mem _ hb)).2.trans (h0 b hb)⟩, R.pen⟩
theorem Rel.unhide {a : Addr} (R : Rel K (pa.and a H0) O H σ env g) (h0 : ∀ b ∈ pa.hid, H0 b = pa.h0 b) : Rel K pa O H σ env g ∧ a ∈ O ∧ H a = H0 a :=
  ⟨⟨R.len, R.bas.unhide h0, R.slot, R.apart, fun i sl b e o hb => R.nohid i sl b e o (List.mem_cons_of_mem _ hb)⟩, R.bas.hid a List.mem_cons_self⟩
theorem PostE.hide {x : Xc} {a : Addr} (h : PostE K pa O H E x g) (h0 : ∀ b ∈ pa.hid, H0 b = pa.h0 b) : PostE K (pa.and a H0) O H E x g := fun cls dd H' s B r => by
  have sub : ∀ b ∈ pa.hid, b ∈ a :: pa.hid := fun b hb => List.mem_cons_of_mem _ hb
  have sm : Same (mask pa (a :: pa.hid) H') (mask pa pa.hid H') := mask_less sub
  have nh : pa.a ∉ pa.hid := fun z => B.nopa (sub _ z)
  refine h cls dd H' (Same.trans s sm) ⟨nh, fun b hb => B.dom b (sub b hb), fun b hb => ⟨hb, ?_⟩, B.pen.mono sm rfl⟩ ?_
  · exact (B.hid b (sub b hb)).2.trans (h0 b hb)
  · obtain ⟨h1, d, fs, h2, h3, h4, h5⟩ := r
    exact ⟨h1, d, fs, h2, h3, h4, h5.mono sm⟩
theorem postG_hide {α β : Type} {m : Mir α} {f : α → Mir β} {a : Addr} {S : β → Env → Pen → List Addr → Hp → Prop} {S' : α → Env → Pen → List Addr → Hp → Prop} (h0 : ∀ b ∈ pa.hid, H0 b = pa.h0 b) (h : PostG K pa O H σ E (bnd m f env g) S)
    (k : ∀ x env' g' O' H', m env g = .ok x env' g' → Same (mask pa O H) (mask pa O' H') → Rel K (pa.and a H0) O' H' σ env' g' → PostG K pa O' H' σ E (f x env' g') S → S' x env' g' O' H') : PostG K (pa.and a H0) O H σ E (m env g) S' := by
  unfold bnd at h
  cases e : m env g with
  | ok sl env' g' =>
    rw [e] at h
    exact fun O' H' s R => k sl env' g' O' H' e s R (PostG.from_ h s)
  | exc x g' => rw [e] at h; exact PostE.hide h h0
  | bad => rw [e] at h; exact h
theorem postC_hide {α : Type} {m : Mir α} {f : α → Mir Ctl} {a : Addr} {Dn : Ends} {S' : α → Env → Pen → List Addr → Hp → Prop} (h0 : ∀ b ∈ pa.hid, H0 b = pa.h0 b) (h : PostC K pa O H E (bnd m f env g) Dn)
    (k : ∀ x env' g' O' H', m env g = .ok x env' g' → Same (mask pa O H) (mask pa O' H') → Rel K (pa.and a H0) O' H' σ env' g' → PostC K pa O' H' E (f x env' g') Dn → S' x env' g' O' H') : PostG K (pa.and a H0) O H σ E (m env g) S' := by
  unfold bnd at h
  cases e : m env g with
  | ok sl env' g' =>
    rw [e] at h
    exact fun O' H' s R => k sl env' g' O' H' e s R (PostC.from_ h s)
  | exc x g' => rw [e] at h; exact PostE.hide h h0
  | bad => rw [e] at h; exact h
end

/-! ### two names at once -/
def sPar (i j : Nat) (ma mb : Mir Sl) : Mir Ctl := bnd ma fun x => bnd mb fun y env g => .ok .nx ((env.set i (some x)).set j (some y)) g
section
variable {X : Cx} {W : Wx} {e a b o k : Expr} {pos p pos' apos cpos : Pos} {m ma mb mk mv : Mir Sl}
/-- the two values, apart from each other -/
theorem par_core {K : PySem.W.Frag} {σ : L2.St} {H : Hp} {i j : Nat} {Dn : Ends} {nx : V → V → Hp → Prop} (h : zS K W (sPar i j ma mb) Dn σ H)
    (k : ∀ pa O H2 env g x y v w, Rel K pa O H2 σ env g → Out K pa O H2 σ env x v → Out K pa O H2 σ env y w → (x.own = true → y.own = true → v ≠ w) → PostC K pa O H2 W (.ok .nx ((env.set i (some x)).set j (some y)) g) Dn → nx v w H2) :
    zE K W ma σ H fun v H1 => zE K W mb σ H1 fun w H2 => nx v w H2 := by
  obtain ⟨pa, O, env, g, R, h⟩ := h
  refine ⟨pa, O, env, g, R, postC_bnd h fun x env1 g1 O1 H1 e s R1 q v o => ?_⟩
  cases hx : x.own with
  | false =>
    exact ⟨pa, O1, env1, g1, R1, postC_bnd q fun y env2 g2 O2 H2 e2 s2 R2 q2 w o2 => k pa O2 H2 env2 g2 x y v w R2 (Out.plain (o.1.later hx s2) hx) o2 (fun z => by rw [hx] at z; cases z) q2⟩
  | true =>
    obtain ⟨c, rfl, hc⟩ := o.1.owned hx
    have h0 : ∀ b ∈ pa.hid, H1 b = pa.h0 b := fun b hb => (R1.bas.hid b hb).2
    refine ⟨pa.and c H1, O1, env1, g1, R1.hide hc (fun i sl e o' => (o.2 hx).2 i sl e o'), postC_hide h0 q fun y env2 g2 O2 H2 e2 s2 R2 q2 w o2 => ?_⟩
    obtain ⟨R3, h3, h4⟩ := R2.unhide h0
    have ow : ∀ z ∈ O1, z = c → z ∈ O2 ∧ H2 z = H1 z := fun z _ e => by rw [e]; exact ⟨h3, h4⟩
    have rx : SlRep K pa O2 H2 x (.ref c) := by
      have r := o.1
      cases x with
      | val _ => cases hx
      | pen => cases hx
      | raw _ => cases hx
      | ol xs =>
        obtain ⟨d, us, ec, hm, hu, rr⟩ := r
        cases ec
        exact ⟨c, us, rfl, h3, h4.trans hu, rr.mono s2⟩
      | ok xs =>
        obtain ⟨d, us, ec, hm, hu, rr⟩ := r
        cases ec
        exact ⟨c, us, rfl, h3, h4.trans hu, rr.mono s2⟩
      | ot xs =>
        obtain ⟨d, us, ec, hm, hu, rr⟩ := r
        cases ec
        exact ⟨c, us, rfl, h3, h4.trans hu, rr.mono s2⟩
      | tb =>
        obtain ⟨d, us, ec, hm, hu, rr⟩ := r
        cases ec
        exact ⟨c, us, rfl, h3, h4.trans hu, rr.1.mono s2, rr.2⟩
    refine k pa O2 H2 env2 g2 x y (.ref c) w R3 ⟨rx, fun _ => ⟨(o.2 hx).1, fun i sl e o' => R2.nohid i sl c e o' List.mem_cons_self⟩⟩ ⟨o2.1, fun oy => ⟨fun b hb => (o2.2 oy).1 b (List.mem_cons_of_mem _ hb), (o2.2 oy).2⟩⟩ (fun _ oy z => (o2.2 oy).1 c List.mem_cons_self z.symm) q2
theorem Rel.store2 {K : PySem.W.Frag} {pa : Bs} {O : List Addr} {H : Hp} {σ : L2.St} {env : Env} {g : Pen} (R : Rel K pa O H σ env g) {i j : Nat} {x y : Sl} {v w : V} (ox : Out K pa O H σ env x v) (oy : Out K pa O H σ env y w) (hne : x.own = true → y.own = true → v ≠ w) :
    Rel K pa O H ((σ.set i (some v)).set j (some w)) ((env.set i (some x)).set j (some y)) g := by
  refine (R.store (i := i) ox).store ⟨oy.1, fun z => ⟨(oy.2 z).1, fun l sl e o => ?_⟩⟩
  by_cases hl : i = l
  · subst hl
    by_cases hlt : i < env.length
    · rw [List.getElem?_set_self hlt] at e
      cases e
      rw [List.getElem?_set_self (by rw [← R.len]; exact hlt)]
      exact fun q => hne o z (Option.some.inj (Option.some.inj q))
    · rw [List.getElem?_eq_none (by rw [List.length_set]; omega)] at e
      cases e
  · rw [List.getElem?_set_ne hl] at e ⊢
    exact (oy.2 z).2 l sl e o
theorem zs_par (i j : Nat) {x y : PySem.Str} {px py pt pt2 : Pos} {kt k2} (hc : X.calm = true) (hN : X.N.Nodup) (hx : X.env.scope.names.lookup x = some .local) (hy : X.env.scope.names.lookup y = some .local) (ha : PE X a (zE X.K W ma)) (hb : PE X b (zE X.K W mb)) (hw : swappedStores [.Tuple [.Name x px, .Name y py] kt pt] (.Tuple [a, b] k2 pt2) X.env = pure (some [x, y]))
    (hi : X.N[i]? = some x := by rfl) (hj : X.N[j]? = some y := by rfl) (hij : i ≠ j := by decide) (hs : swapsWithSole [.Tuple [.Name x px, .Name y py] kt pt] (.Tuple [a, b] k2 pt2) pos.line X.env = pure false := by rfl)
    (st1 : starEach [a, b] X.env = (false, eval a X.env) :: starEach [b] X.env := by rfl) (st2 : starEach [b] X.env = (false, eval b X.env) :: starEach [] X.env := by rfl) :
    PS X (.Assign [.Tuple [.Name x px, .Name y py] kt pt] (.Tuple [a, b] k2 pt2) pos) (zS X.K W (sPar i j ma mb)) :=
  ps_weak (ps_par hc hN hi hj hij hx hy (pa_cons ha (pa_cons hb pa_nil st2) st1) hw hs) fun Dn σ H h => by
    have q := par_core (nx := fun v w H2 => Dn.nx ((σ.set i (some v)).set j (some w)) H2) h fun pa O H2 env g x y v w R ox oy hne q => q _ O H2 (Same.refl _) (R.store2 ox oy hne)
    obtain ⟨pa, O, env, g, R, q⟩ := q
    refine ⟨pa, O, env, g, R, ?_⟩
    cases em : ma env g with
    | bad => rw [em] at q; exact q
    | exc _ _ => rw [em] at q; exact q
    | ok x e1 g1 =>
      rw [em] at q
      intro O1 H1 s1 R1 v o
      obtain ⟨pa2, O2, env2, g2, R2, q2⟩ := q O1 H1 s1 R1 v o
      refine ⟨pa2, O2, env2, g2, R2, ?_⟩
      cases em2 : mb env2 g2 with
      | bad => rw [em2] at q2; exact q2
      | exc _ _ => rw [em2] at q2; exact q2
      | ok y e3 g3 =>
        rw [em2] at q2
        exact fun O3 H3 s3 R3 w o3 => ⟨v, w, rfl, q2 O3 H3 s3 R3 w o3⟩
theorem zs_parC (i j : Nat) {x y : PySem.Str} {px py pt pt2 : Pos} {kt k2} (hc : X.calm = true) (hN : X.N.Nodup) (ha : PE X a (zE X.K W ma)) (hb : PE X b (zE X.K W mb)) (hg : PG X (.Tuple [.Name x px, .Name y py] kt pt) (gTup X.K 2 (gCons (gName i) (gCons (gName j) gNil))))
    (hw : swappedStores [.Tuple [.Name x px, .Name y py] kt pt] (.Tuple [a, b] k2 pt2) X.env = pure none := by rfl) (hs : swapsWithSole [.Tuple [.Name x px, .Name y py] kt pt] (.Tuple [a, b] k2 pt2) pos.line X.env = pure false := by rfl) (h1 : (assignEach [.Tuple [.Name x px, .Name y py] kt pt] X.env).map (·.2) = [assign (.Tuple [.Name x px, .Name y py] kt pt) X.env] := by rfl)
    (st1 : starEach [a, b] X.env = (false, eval a X.env) :: starEach [b] X.env := by rfl) (st2 : starEach [b] X.env = (false, eval b X.env) :: starEach [] X.env := by rfl) :
    PS X (.Assign [.Tuple [.Name x px, .Name y py] kt pt] (.Tuple [a, b] k2 pt2) pos) (zS X.K W (sPar i j ma mb)) :=
  ps_weak (ps_asg (pe_tup (pa_cons ha (pa_cons hb pa_nil st2) st1)) hg hs hw h1) fun Dn σ H h => by
    have q := par_core (nx := fun v w H2 => ∀ p, H2 p = none → Dn.nx ((σ.set i (some v)).set j (some w)) (upd H2 p (.tup [v, w]))) h fun pa O H2 env g x y v w R ox oy hne q p hp => by
      have R2 := R.store2 (i := i) (j := j) ox oy hne
      obtain ⟨R3, s3, _⟩ := R2.new (o := .tup [v, w]) hp
      exact q _ O _ s3 R3
    obtain ⟨pa, O, env, g, R, q⟩ := q
    refine ⟨pa, O, env, g, R, ?_⟩
    cases em : ma env g with
    | bad => rw [em] at q; exact q
    | exc _ _ => rw [em] at q; exact q
    | ok x e1 g1 =>
      rw [em] at q
      intro O1 H1 s1 R1 v o
      obtain ⟨pa2, O2, env2, g2, R2, q2⟩ := q O1 H1 s1 R1 v o
      refine ⟨pa2, O2, env2, g2, R2, ?_⟩
      cases em2 : mb env2 g2 with
      | bad => rw [em2] at q2; exact q2
      | exc _ _ => rw [em2] at q2; exact q2
      | ok y e3 g3 =>
        rw [em2] at q2
        exact fun O3 H3 s3 R3 w o3 => ⟨le_line (by show 2 ≤ 1000000; decide), fun p hp => ⟨p, [v, w], rfl, .inl (.inl upd_same), rfl, v, [w], rfl, w, [], rfl, rfl, q2 O3 H3 s3 R3 w o3 p hp⟩⟩
end
end Z
end
section
set_option linter.all false
set_option maxRecDepth 100000
set_option maxHeartbeats 1000000
/-! ZP: append, pop, stores, new dicts. -/
namespace Z
open PySem PySem.Spec PyProof.Rows L2

theorem rep_non {K : PySem.W.Frag} {pa : Bs} {O : List Addr} {H : Hp} : SlRep K pa O H (.val .none) .non := by show Rep K _ _ _; simp only [Rep]
def isOl (env : Env) (i : Nat) : Bool := match env[i]? with
  | some (some (.ol _)) => true
  | _ => false
theorem isOl_inv {env : Env} {i : Nat} (h : isOl env i = true) : ∃ xs, env[i]? = some (some (.ol xs)) := by
  unfold isOl at h
  split at h
  · rename_i xs e; exact ⟨xs, e⟩
  · cases h
/-- the slot's list and the value, then f -/
def withOl (i : Nat) (y : Sl) {α : Type} (f : List D → D → Mir α) : Mir α := fun env g => match env[i]?, y with
  | some (some (.ol xs)), .val d => f xs d env g
  | _, _ => .bad
section
variable {K : PySem.W.Frag} {E : Wx} {pa : Bs} {O : List Addr} {H : Hp} {σ : L2.St} {env : Env} {g : Pen}
theorem withOl_inv {i : Nat} {y : Sl} {α : Type} {f : List D → D → Mir α} {S : α → Env → Pen → List Addr → Hp → Prop} (R : Rel K pa O H σ env g) (h : PostG K pa O H σ E (withOl i y f env g) S) :
    ∃ xs d a vs, y = .val d ∧ env[i]? = some (some (.ol xs)) ∧ σ[i]? = some (some (.ref a)) ∧ H a = some (.lst vs) ∧ Reps K (mask pa O H) xs vs ∧ a ∈ O ∧ PostG K pa O H σ E (f xs d env g) S := by
  unfold withOl at h
  split at h
  · rename_i xs d e
    obtain ⟨v, hv, a, vs, rfl, hm, ha, r⟩ := R.slot i _ e
    exact ⟨xs, d, a, vs, rfl, e, hv, ha, r, hm, h⟩
  · exact h.elim
theorem withOl_invC {i : Nat} {y : Sl} {f : List D → D → Mir Ctl} {Dn : Ends} (R : Rel K pa O H σ env g) (h : PostC K pa O H E (withOl i y f env g) Dn) :
    ∃ xs d a vs, y = .val d ∧ env[i]? = some (some (.ol xs)) ∧ σ[i]? = some (some (.ref a)) ∧ H a = some (.lst vs) ∧ Reps K (mask pa O H) xs vs ∧ a ∈ O ∧ PostC K pa O H E (f xs d env g) Dn := by
  unfold withOl at h
  split at h
  · rename_i xs d e
    obtain ⟨v, hv, a, vs, rfl, hm, ha, r⟩ := R.slot i _ e
    exact ⟨xs, d, a, vs, rfl, e, hv, ha, r, hm, h⟩
  · exact h.elim
theorem Rel.writeL (R : Rel K pa O H σ env g) {i : Nat} {a : Addr} {xs ys : List D} {us : List V} (e : env[i]? = some (some (.ol xs))) (hv : σ[i]? = some (some (.ref a))) (hm : a ∈ O) (r : Reps K (mask pa O H) ys us) :
    Rel K pa O (upd H a (.lst us)) σ (env.set i (some (.ol ys))) g ∧ Same (mask pa O H) (mask pa O (upd H a (.lst us))) :=
  R.write (sl' := .ol ys) e rfl rfl hv rfl ⟨a, us, rfl, hm, upd_same, by rw [mask_upd hm]; exact r⟩
end
def grd (i : Nat) {α : Type} (m : Mir α) : Mir α := fun env g => if isOl env i = true then m env g else .bad
def appAt (i : Nat) (xs : List D) (d : D) : Mir Sl := fun env g => if xs.length ≤ 1000000 then .ok (.val .none) (env.set i (some (.ol (xs ++ [d])))) g else .bad
def mAppend (i : Nat) (me : Mir Sl) : Mir Sl := grd i (bnd me fun y => withOl i y (appAt i))
def popD (xs : List D) (d : D) : Option (D × List D) := match d with
  | .int j => if 0 ≤ j ∧ j < xs.length ∧ xs.length ≤ 1000000 then (xs[j.toNat]?).map fun y => (y, xs.eraseIdx j.toNat) else none
  | _ => none
def popAt (i : Nat) (xs : List D) (d : D) : Mir Sl := fun env g => match popD xs d with
  | some (y, ys) => .ok (.val y) (env.set i (some (.ol ys))) g
  | none => .bad
theorem popD_inv {xs : List D} {d y : D} {ys : List D} (h : popD xs d = some (y, ys)) : ∃ j : Int, d = .int j ∧ 0 ≤ j ∧ j < xs.length ∧ xs.length ≤ 1000000 ∧ xs[j.toNat]? = some y ∧ ys = xs.eraseIdx j.toNat := by
  unfold popD at h
  split at h
  · rename_i j
    by_cases hl : 0 ≤ j ∧ j < xs.length ∧ xs.length ≤ 1000000
    · rw [if_pos hl] at h
      cases e : xs[j.toNat]? with
      | none => rw [e] at h; cases h
      | some z =>
        rw [e] at h
        cases h
        exact ⟨j, rfl, hl.1, hl.2.1, hl.2.2, e, rfl⟩
    · rw [if_neg hl] at h; cases h
  · cases h
def mPop (i : Nat) (mk : Mir Sl) : Mir Sl := grd i (bnd mk fun y => withOl i y (popAt i))
def putAt (i : Nat) (k : Sl) (xs : List D) (d : D) : Mir Ctl := fun env g => match k with
  | .val (.int j) => (match L2.ixN xs.length j with
    | some n => .ok .nx (env.set i (some (.ol (xs.set n d)))) g
    | none => .bad)
  | _ => .bad
def sSetAt (i : Nat) (mk mv : Mir Sl) : Mir Ctl := bnd mv fun y => grd i (bnd mk fun k => withOl i y (putAt i k))
section
variable {X : Cx} {W : Wx} {e a b o k value : Expr} {pos p pos' apos cpos : Pos} {m ma mb mk mv me : Mir Sl}
theorem lt_line {n : Nat} (h : n ≤ 1000000) : n < sizeLine := Nat.lt_of_le_of_lt h (by rw [sizeLine_eq]; decide)
theorem Reps.eraseIdx {K : PySem.W.Frag} {F : Hp} : ∀ {ds : List D} {vs : List V} (n : Nat), Reps K F ds vs → Reps K F (ds.eraseIdx n) (vs.eraseIdx n)
  | [], vs, n, h => by
    simp only [Reps] at h
    subst h
    simp only [List.eraseIdx_nil, Reps]
  | d :: ds, vs, n, h => by
    simp only [Reps] at h
    obtain ⟨v, r, rfl, h1, h2⟩ := h
    cases n with
    | zero => exact h2
    | succ n =>
      simp only [List.eraseIdx_cons_succ, Reps]
      exact ⟨_, _, rfl, h1, Reps.eraseIdx n h2⟩
theorem Reps.set {K : PySem.W.Frag} {F : Hp} {d : D} {v : V} (hd : Rep K F d v) : ∀ {ds : List D} {vs : List V} (n : Nat), Reps K F ds vs → Reps K F (ds.set n d) (vs.set n v)
  | [], vs, n, h => by
    simp only [Reps] at h
    subst h
    simp only [List.set_nil, Reps]
  | d :: ds, vs, n, h => by
    simp only [Reps] at h
    obtain ⟨v, r, rfl, h1, h2⟩ := h
    cases n with
    | zero => simp only [List.set_cons_zero, Reps]; exact ⟨_, _, rfl, hd, h2⟩
    | succ n =>
      simp only [List.set_cons_succ, Reps]
      exact ⟨_, _, rfl, h1, Reps.set hd n h2⟩
theorem zx_append (i : Nat) {x : PySem.Str} (hN : X.N[i]? = some x := by rfl) (hv : Vis X.env.scope x := by first | exact Or.inl rfl | exact Or.inr (Or.inl rfl) | exact Or.inr (Or.inr rfl)) (he : PE X e (zE X.K W me)) (hd : (x == ("__debug__" : PySem.Str)) = false := by decide) (hcd : (x == ("__classdict__" : PySem.Str)) = false := by decide)
    (hbase : attributeBase (.Name x p) "append" X.env (eval (.Name x p) X.env) = eval (.Name x p) X.env := by rfl)
    (hfew : ((backTo cpos (starEach [e] X.env)).all (fun x => !x.1) && (backToKw cpos (keywordEach [] X.env)).all (fun x => x.1.isSome) && decide ([e].length + ([] : List Keyword).length + (if ([] : List Keyword).isEmpty then 0 else 1) < 30)) = true := by rfl)
    (hline : (apos.endLine == cpos.line) = true := by rfl) (hs : starEach [e] X.env = (false, eval e X.env) :: starEach [] X.env := by rfl) (hplain : (backTo cpos (starEach [] X.env)).any (·.1) = false := by rfl) :
    PE X (.Call (.Attribute (.Name x p) "append" apos) [e] [] cpos) (zE X.K W (mAppend i me)) :=
  pe_weak (pe_bm PySem.F.plainAttrs_list PySem.F.slot_list_append PySem.F.type_list_append mt_append (pe_var hN hv hd hcd) (pa_cons he pa_nil hs) hbase hfew hline hs hplain) fun σ H Q ⟨pa, O, env, g, R, h⟩ => by
    unfold mAppend grd at h
    by_cases hi : isOl env i = true
    · rw [if_pos hi] at h
      obtain ⟨xs0, e0⟩ := isOl_inv hi
      obtain ⟨v0, hv0, a0, vs0, rfl, hm0, ha0, r0⟩ := R.slot i _ e0
      refine ⟨_, hv0, .inl ⟨rfl, vs0, .inl (.inl ha0)⟩, pa, O, env, g, R, postX_bnd h fun y env' g' v O' H' e s R' o q => ?_⟩
      obtain ⟨xs, d, a, vs, rfl, e1, hv1, ha, r, hm, q2⟩ := withOl_inv R' q
      clear q
      have q := q2
      rw [hv0] at hv1
      cases hv1
      unfold appAt at q
      by_cases hl : xs.length ≤ 1000000
      · rw [if_pos hl] at q
        have o1 : Rep X.K (mask pa O' H') d v := o.1
        refine ⟨a0, vs, v, rfl, rfl, ha, lt_line (by rw [← r.length]; exact hl), ?_⟩
        obtain ⟨R2, s2⟩ := R'.writeL e1 hv0 hm (r.append (show Reps X.K (mask pa O' H') [d] [v] by simp only [Reps]; exact ⟨_, _, rfl, o1, rfl⟩))
        exact q O' _ s2 R2 V.non (Out.plain (sl := .val .none) rep_non rfl)
      · rw [if_neg hl] at q; exact q.elim
    · rw [if_neg hi] at h; exact h.elim
theorem zx_pop (i : Nat) {x : PySem.Str} (hN : X.N[i]? = some x := by rfl) (hv : Vis X.env.scope x := by first | exact Or.inl rfl | exact Or.inr (Or.inl rfl) | exact Or.inr (Or.inr rfl)) (he : PE X e (zE X.K W mk)) (hd : (x == ("__debug__" : PySem.Str)) = false := by decide) (hcd : (x == ("__classdict__" : PySem.Str)) = false := by decide)
    (hbase : attributeBase (.Name x p) "pop" X.env (eval (.Name x p) X.env) = eval (.Name x p) X.env := by rfl)
    (hfew : ((backTo cpos (starEach [e] X.env)).all (fun x => !x.1) && (backToKw cpos (keywordEach [] X.env)).all (fun x => x.1.isSome) && decide ([e].length + ([] : List Keyword).length + (if ([] : List Keyword).isEmpty then 0 else 1) < 30)) = true := by rfl)
    (hline : (apos.endLine == cpos.line) = true := by rfl) (hs : starEach [e] X.env = (false, eval e X.env) :: starEach [] X.env := by rfl) (hplain : (backTo cpos (starEach [] X.env)).any (·.1) = false := by rfl) :
    PE X (.Call (.Attribute (.Name x p) "pop" apos) [e] [] cpos) (zE X.K W (mPop i mk)) :=
  pe_weak (pe_bm PySem.F.plainAttrs_list PySem.F.slot_list_pop PySem.F.type_list_pop mt_popAt (pe_var hN hv hd hcd) (pa_cons he pa_nil hs) hbase hfew hline hs hplain) fun σ H Q ⟨pa, O, env, g, R, h⟩ => by
    unfold mPop grd at h
    by_cases hi : isOl env i = true
    · rw [if_pos hi] at h
      obtain ⟨xs0, e0⟩ := isOl_inv hi
      obtain ⟨v0, hv0, a0, vs0, rfl, hm0, ha0, r0⟩ := R.slot i _ e0
      refine ⟨_, hv0, .inl ⟨rfl, vs0, .inl (.inl ha0)⟩, pa, O, env, g, R, postX_bnd h fun y env' g' v O' H' e s R' o q => ?_⟩
      obtain ⟨xs, d, a, vs, rfl, e1, hv1, ha, r, hm, q2⟩ := withOl_inv R' q
      clear q
      have q := q2
      rw [hv0] at hv1
      cases hv1
      have o1 : Rep X.K (mask pa O' H') d v := o.1
      unfold popAt at q
      cases ep : popD xs d with
      | none => rw [ep] at q; exact q.elim
      | some yy =>
        obtain ⟨y, ys⟩ := yy
        rw [ep] at q
        obtain ⟨j, rfl, l1, l2, l3, ey, rfl⟩ := popD_inv ep
        obtain ⟨w, hw, rw'⟩ := r.at_ ey
        simp only [Rep] at o1
        subst o1
        have el := r.length
        refine ⟨a0, vs, j, j.toNat, w, rfl, rfl, ha, by omega, by omega, ?_, hw, ?_⟩
        · unfold seqIndex?
          have n0 : ¬ j < 0 := by omega
          rw [if_neg n0]
          have b1 : (decide (0 ≤ j) && decide (j < (vs.length : Int))) = true := by simp; omega
          simp only []
          rw [if_pos b1]
        · obtain ⟨R2, s2⟩ := R'.writeL e1 hv0 hm (r.eraseIdx j.toNat)
          exact q O' _ s2 R2 w (Out.plain (show Rep X.K _ y w from rw'.mono s2) rfl)
    · rw [if_neg hi] at h; exact h.elim
theorem zs_setAt (i : Nat) {x : PySem.Str} (hN : X.N[i]? = some x := by rfl) (hv : Vis X.env.scope x := by first | exact Or.inl rfl | exact Or.inr (Or.inl rfl) | exact Or.inr (Or.inr rfl)) (hk : PE X k (zE X.K W mk)) (he : PE X e (zE X.K W mv)) (hd : (x == ("__debug__" : PySem.Str)) = false := by decide) (hcd : (x == ("__classdict__" : PySem.Str)) = false := by decide)
    (ha : ∀ v, assign (.Subscript (.Name x p) k pos') X.env v = (do
      let ov ← holding [v] (eval (.Name x p) X.env)
      let iv ← holding [v, ov] (eval k X.env)
      standAt pos'
      holding [v, ov, iv] (setItem ov iv v)
      release [v, ov, iv] []) := by intro _; rfl)
    (hs : swapsWithSole [.Subscript (.Name x p) k pos'] e pos.line X.env = pure false := by rfl) (hw : swappedStores [.Subscript (.Name x p) k pos'] e X.env = pure none := by rfl)
    (h1 : (assignEach [.Subscript (.Name x p) k pos'] X.env).map (·.2) = [assign (.Subscript (.Name x p) k pos') X.env] := by rfl) :
    PS X (.Assign [.Subscript (.Name x p) k pos'] e pos) (zS X.K W (sSetAt i mk mv)) :=
  ps_weak (ps_asg he (pg_sub (pe_var hN hv hd hcd) hk set_list ha) hs hw h1) fun Dn σ H ⟨pa, O, env, g, R, h⟩ => by
    refine ⟨pa, O, env, g, R, postC_bnd h fun y env1 g1 O1 H1 e1 s1 R1 q v o => ?_⟩
    unfold grd at q
    by_cases hi : isOl env1 i = true
    · simp only [if_pos hi] at q
      obtain ⟨xs0, e0⟩ := isOl_inv hi
      obtain ⟨v0, hv0, a0, vs0, rfl, hm0, ha0, r0⟩ := R1.slot i _ e0
      refine ⟨_, hv0, pa, O1, env1, g1, R1, postC_bnd q fun kk env2 g2 O2 H2 e2 s2 R2 q2 w o2 => ?_⟩
      obtain ⟨xs, d, a, vs, rfl, e3, hv1, ha, r, hm, q3⟩ := withOl_invC R2 q2
      rw [hv0] at hv1
      cases hv1
      have o1 : Rep X.K (mask pa O2 H2) d v := Rep.mono s2 o.1
      unfold putAt at q3
      split at q3
      · rename_i j
        have o3 : Rep X.K (mask pa O2 H2) (.int j) w := o2.1
        simp only [Rep] at o3
        subst o3
        split at q3
        · rename_i n en
          refine ⟨a0, vs, j, n, rfl, rfl, ha, by rw [← r.length]; exact en, ?_⟩
          obtain ⟨R4, s4⟩ := R2.writeL e3 hv0 hm (r.set o1 n)
          exact q3 σ O2 _ s4 R4
        · exact q3.elim
      · exact q3.elim
    · simp only [if_neg hi] at q; exact q.elim
end
end Z
end
section
set_option linter.all false
set_option maxRecDepth 100000
set_option maxHeartbeats 1000000
/-! ZQ: dicts that are written; new ones; targets of two and three. -/
namespace Z
open PySem PySem.Spec PyProof.Rows L2

def putD {κ : Type} [DecidableEq κ] (kvs : List (κ × D)) (k : κ) (d : D) : List (κ × D) :=
  if (kvs.any fun kv => decide (kv.1 = k)) = true then kvs.map (fun kv => if kv.1 = k then (kv.1, d) else kv) else kvs ++ [(k, d)]
abbrev PairR {κ : Type} (K : PySem.W.Frag) (F : Hp) : List (κ × D) → List (κ × V) → Prop := Paired fun p q => p.1 = q.1 ∧ Rep K F p.2 q.2
section
variable {K : PySem.W.Frag} {F : Hp}
theorem kD_inj {a b : Key} (h : kD a = kD b) : a = b := by
  have := congrArg keyOf h
  rw [keyOf_kD, keyOf_kD] at this
  exact Option.some.inj this
theorem kDs_inj {a b : List Key} (h : a.map kD = b.map kD) : a = b := by
  have := congrArg keysOf h
  rw [keysOf_kD, keysOf_kD] at this
  exact Option.some.inj this
theorem RepK.pairs : ∀ {kvs : List (Key × D)} {ks : List (Key × V)}, RepK K F (kvs.map fun q => (kD q.1, q.2)) ks → PairR K F kvs ks
  | [], ks, h => by
    simp only [List.map_nil, RepK] at h
    subst h
    exact .nil
  | p :: r, ks, h => by
    simp only [List.map_cons, RepK] at h
    obtain ⟨key, v, r', rfl, e, h1, h2⟩ := h
    exact .cons ⟨kD_inj e, h1⟩ (RepK.pairs h2)
theorem RepT.pairs : ∀ {kvs : List (List Key × D)} {ks : List (List Key × V)}, RepT K F (kvs.map fun q => (.tuple (q.1.map kD), q.2)) ks → PairR K F kvs ks
  | [], ks, h => by
    simp only [List.map_nil, RepT] at h
    subst h
    exact .nil
  | p :: r, ks, h => by
    simp only [List.map_cons, RepT] at h
    obtain ⟨key, v, r', rfl, e, h1, h2⟩ := h
    exact .cons ⟨kDs_inj (PyData.tuple.inj e), h1⟩ (RepT.pairs h2)
theorem PairR.toK {kvs : List (Key × D)} {ks : List (Key × V)} (h : PairR K F kvs ks) : RepK K F (kvs.map fun q => (kD q.1, q.2)) ks := by
  induction h with
  | nil => simp only [List.map_nil, RepK]
  | @cons p q ps qs h t ih =>
    simp only [List.map_cons, RepK]
    exact ⟨q.1, q.2, qs, rfl, by rw [h.1], h.2, ih⟩
theorem PairR.toT {kvs : List (List Key × D)} {ks : List (List Key × V)} (h : PairR K F kvs ks) : RepT K F (kvs.map fun q => (.tuple (q.1.map kD), q.2)) ks := by
  induction h with
  | nil => simp only [List.map_nil, RepT]
  | @cons p q ps qs h t ih =>
    simp only [List.map_cons, RepT]
    exact ⟨q.1, q.2, qs, rfl, by rw [h.1], h.2, ih⟩
theorem PairR.any {κ : Type} [DecidableEq κ] {kvs : List (κ × D)} {ks : List (κ × V)} {k : κ} (h : PairR K F kvs ks) : (kvs.any fun kv => decide (kv.1 = k)) = ks.any fun kv => decide (kv.1 = k) := by
  induction h with
  | nil => rfl
  | @cons p q ps qs h t ih => rw [List.any_cons, List.any_cons, ih, h.1]
theorem PairR.put {κ : Type} [DecidableEq κ] {kvs : List (κ × D)} {ks : List (κ × V)} {k : κ} {d : D} {v : V} (h : PairR K F kvs ks) (r : Rep K F d v) : PairR K F (putD kvs k d) (putK ks k v) := by
  unfold putD putK
  rw [h.any]
  by_cases c : (ks.any fun kv => decide (kv.1 = k)) = true
  · rw [if_pos c, if_pos c]
    clear c
    induction h with
    | nil => exact .nil
    | @cons p q ps qs h t ih =>
      refine .cons ?_ ih
      simp only []
      by_cases e : q.1 = k
      · rw [if_pos e, if_pos (h.1.trans e)]
        exact ⟨h.1, r⟩
      · rw [if_neg e, if_neg (fun z => e (h.1.symm.trans z))]
        exact h
  · rw [if_neg c, if_neg c]
    clear c
    induction h with
    | nil => exact .cons ⟨rfl, r⟩ .nil
    | @cons p q ps qs h t ih => exact .cons h ih
theorem PairR.length {κ : Type} {kvs : List (κ × D)} {ks : List (κ × V)} (h : PairR K F kvs ks) : kvs.length = ks.length := Paired.length h
end

/-! ### a slot's dict is written -/
def dputAt (i : Nat) (k : Sl) (y : Sl) : Mir Ctl := fun env g => match env[i]?, k, y with
  | some (some (.ok kvs)), .val kd, .val d => (match keyOf kd with
    | some key => if kvs.length ≤ 1000000 then .ok .nx (env.set i (some (.ok (putD kvs key d)))) g else .bad
    | none => .bad)
  | some (some (.ot kvs)), .val (.tuple kd), .val d => (match keysOf kd with
    | some key => if kvs.length ≤ 1000000 then .ok .nx (env.set i (some (.ot (putD kvs key d)))) g else .bad
    | none => .bad)
  | _, _, _ => .bad
def isOd (env : Env) (i : Nat) : Bool := match env[i]? with
  | some (some (.ok _)) => true
  | some (some (.ot _)) => true
  | _ => false
def grdD (i : Nat) {α : Type} (m : Mir α) : Mir α := fun env g => if isOd env i = true then m env g else .bad
def sDput (i : Nat) (mk mv : Mir Sl) : Mir Ctl := bnd mv fun y => grdD i (bnd mk fun k => dputAt i k y)
section
variable {X : Cx} {W : Wx} {e k : Expr} {pos p pos' : Pos} {mk mv m : Mir Sl}
theorem dputAt_core {K : PySem.W.Frag} {pa : Bs} {O : List Addr} {H : Hp} {σ : L2.St} {env : Env} {g : Pen} {i : Nat} {ks sy : Sl} {y v : V} {Dn : Ends} (R : Rel K pa O H σ env g) (rk : SlRep K pa O H ks y) (ry : SlRep K pa O H sy v) (h : PostC K pa O H W (dputAt i ks sy env g) Dn) :
    ∃ a H', σ[i]? = some (some (.ref a)) ∧ DPut H a y v H' ∧ Dn.nx σ H' := by
  unfold dputAt at h
  split at h
  · rename_i kvs kd d e
    split at h
    · rename_i key ek
      by_cases hl : kvs.length ≤ 1000000
      · rw [if_pos hl] at h
        obtain ⟨w, hv, a, us, rfl, hm, ha, r⟩ := R.slot i _ e
        obtain ⟨rfl, _⟩ := keyOf_rep ek (show Rep K (mask pa O H) kd y from rk)
        have pr := r.pairs
        have rv : Rep K (mask pa O H) d v := ry
        obtain ⟨R2, s2⟩ := R.write (o := .dK (putK us key v)) (sl' := .ok (putD kvs key d)) e rfl rfl hv rfl ⟨a, _, rfl, hm, upd_same, by rw [mask_upd hm]; exact (pr.put rv).toK⟩
        exact ⟨a, _, hv, DPut.k ha (lt_line (by rw [← pr.length]; exact hl)), h σ O _ s2 R2⟩
      · rw [if_neg hl] at h; exact h.elim
    · exact h.elim
  · rename_i kvs kd d e
    split at h
    · rename_i key ek
      by_cases hl : kvs.length ≤ 1000000
      · rw [if_pos hl] at h
        obtain ⟨w, hv, a, us, rfl, hm, ha, r⟩ := R.slot i _ e
        have rk : Rep K (mask pa O H) (.tuple kd) y := rk
        simp only [Rep] at rk
        obtain ⟨b, xs, rfl, hb, rx⟩ := rk
        obtain ⟨rfl, _⟩ := keysOf_rep ek rx
        have pr := r.pairs
        have rv : Rep K (mask pa O H) d v := ry
        obtain ⟨R2, s2⟩ := R.write (o := .dT (putK us key v)) (sl' := .ot (putD kvs key d)) e rfl rfl hv rfl ⟨a, _, rfl, hm, upd_same, by rw [mask_upd hm]; exact (pr.put rv).toT⟩
        exact ⟨a, _, hv, DPut.t ha (mask_le _ _ hb) (lt_line (by rw [← pr.length]; exact hl)), h σ O _ s2 R2⟩
      · rw [if_neg hl] at h; exact h.elim
    · exact h.elim
  · exact h.elim
theorem dputAt_own {i : Nat} {ks sy : Sl} {env : Env} {g : Pen} {K : PySem.W.Frag} {pa : Bs} {O : List Addr} {H : Hp} {Dn : Ends} (h : PostC K pa O H W (dputAt i ks sy env g) Dn) : ks.own = false ∧ sy.own = false := by
  unfold dputAt at h
  split at h
  · exact ⟨rfl, rfl⟩
  · exact ⟨rfl, rfl⟩
  · exact h.elim
theorem zs_dput (i : Nat) {x : PySem.Str} {kk : Nat} (B : Exp X W.2 kk) (hN : X.N[i]? = some x := by rfl) (hv : Vis X.env.scope x := by first | exact Or.inl rfl | exact Or.inr (Or.inl rfl) | exact Or.inr (Or.inr rfl)) (hk : PE X k (zE X.K W mk)) (he : PE X e (zE X.K W mv)) (hd : (x == ("__debug__" : PySem.Str)) = false := by decide) (hcd : (x == ("__classdict__" : PySem.Str)) = false := by decide)
    (hs : swapsWith e (some (.Subscript (.Name x p) k pos')) pos.line X.env = pure false := by rfl) : PS X (.Assign [.Subscript (.Name x p) k pos'] e pos) (zS X.K W (sDput i mk mv)) :=
  ps_weak (ps_dput B.u1 (pe_var hN hv hd hcd) hk he hs) fun Dn σ H ⟨pa, O, env, g, R, h⟩ => by
    refine ⟨pa, O, env, g, R, postC_bnd h fun y env1 g1 O1 H1 e1 s1 R1 q v o => ?_⟩
    unfold grdD at q
    by_cases hi : isOd env1 i = true
    · simp only [if_pos hi] at q
      have i1 : ∃ v, σ[i]? = some (some v) := by
        unfold isOd at hi
        split at hi
        · rename_i e; obtain ⟨v, hv, _⟩ := R1.slot i _ e; exact ⟨v, hv⟩
        · rename_i e; obtain ⟨v, hv, _⟩ := R1.slot i _ e; exact ⟨v, hv⟩
        · cases hi
      obtain ⟨v0, hv0⟩ := i1
      refine ⟨v0, hv0, pa, O1, env1, g1, R1, postC_bnd q fun ks env2 g2 O2 H2 e2 s2 R2 q2 w o2 => ?_⟩
      obtain ⟨_, oy⟩ := dputAt_own q2
      obtain ⟨a, H3, h1, h2, h3⟩ := dputAt_core R2 o2.1 (o.1.later oy s2) q2
      rw [hv0] at h1
      cases h1
      exact ⟨a, H3, rfl, h2, h3⟩
    · simp only [if_neg hi] at q; exact q.elim

/-! ### new dicts -/
theorem Rel.newAny {K : PySem.W.Frag} {pa : Bs} {O : List Addr} {H : Hp} {σ : L2.St} {env : Env} {g : Pen} (R : Rel K pa O H σ env g) {o : HO} {sl : Sl} {p : Addr} (hp : H p = none) (ho : Muts (some o) = true) (r : ∀ H', Same (mask pa O H) (mask pa (p :: O) H') → H' p = some o → SlRep K pa (p :: O) H' sl (.ref p)) :
    Same (mask pa O H) (mask pa (p :: O) (upd H p o)) ∧ Rel K pa (p :: O) (upd H p o) σ env g ∧ Out K pa (p :: O) (upd H p o) σ env sl (.ref p) := by
  obtain ⟨R2, s2⟩ := R.newOwn (o := o) hp ho
  refine ⟨s2, R2, r _ s2 upd_same, fun _ => ⟨fun a ha ev => ?_, fun i sl' e o ev => ?_⟩⟩
  · cases ev
    exact isSome_ne (R.dom p (R.bas.hid p ha).1) hp rfl
  obtain ⟨v, e1, r⟩ := R.slot i sl' e
  rw [ev] at e1
  cases e1
  obtain ⟨a, ea, hm⟩ := r.owned o
  cases ea
  exact isSome_ne (R.dom p hm) hp rfl
def mDnewK : Mir Sl := ret (.ok [])
def mDnewT : Mir Sl := ret (.ot [])
theorem zx_dnewK : PE X (.Dict [] [] pos) (zE X.K W mDnewK) := pe_weak pe_dnewK fun σ H Q ⟨pa, O, env, g, R, h⟩ p hp => by
  obtain ⟨s2, R2, o2⟩ := R.newAny (o := .dK []) (sl := .ok []) hp rfl fun H' _ e => ⟨p, [], rfl, List.mem_cons_self, e, by simp only [List.map_nil, RepK]⟩
  exact h _ _ s2 R2 _ o2
theorem zx_dnewT : PE X (.Dict [] [] pos) (zE X.K W mDnewT) := pe_weak pe_dnewT fun σ H Q ⟨pa, O, env, g, R, h⟩ p hp => by
  obtain ⟨s2, R2, o2⟩ := R.newAny (o := .dT []) (sl := .ot []) hp rfl fun H' _ e => ⟨p, [], rfl, List.mem_cons_self, e, by simp only [List.map_nil, RepT]⟩
  exact h _ _ s2 R2 _ o2

/-! ### a value taken apart -/
def sBind (t : Tgt) (m : Mir Sl) : Mir Ctl := bnd m fun sl env g => match sl with
  | .val d => (match bindT t d env with
    | some env' => .ok .nx env' g
    | none => .bad)
  | _ => .bad
theorem zs_bind {tg : Expr} {t : Tgt} {gt : TG} (he : PE X e (zE X.K W m)) (hg : PG X tg gt) (ok : TgtOk X.K t gt) (hs : swapsWithSole [tg] e pos.line X.env = pure false := by rfl) (hw : swappedStores [tg] e X.env = pure none := by rfl)
    (h1 : (assignEach [tg] X.env).map (·.2) = [assign tg X.env] := by rfl) : PS X (.Assign [tg] e pos) (zS X.K W (sBind t m)) :=
  ps_weak (ps_asg he hg hs hw h1) fun Dn σ H ⟨pa, O, env, g, R, h⟩ => ⟨pa, O, env, g, R, postC_bnd h fun sl env1 g1 O1 H1 e1 s1 R1 q v o => by
    cases sl with
    | val d =>
      simp only [] at q
      cases eb : bindT t d env1 with
      | none => rw [eb] at q; exact q.elim
      | some env2 =>
        rw [eb] at q
        exact ok pa O1 H1 σ env1 env2 g1 d v _ R1 o.1 eb fun σ' R' _ _ => q σ' O1 H1 (Same.refl _) R'
    | pen => exact q.elim
    | raw _ => exact q.elim
    | ol _ => exact q.elim
    | ok _ => exact q.elim
    | ot _ => exact q.elim
    | tb => exact q.elim⟩
end
end Z
end
section
set_option linter.all false
set_option maxRecDepth 100000
set_option maxHeartbeats 1000000
/-! ZR: displays of one pair. -/
namespace Z
open PySem PySem.Spec PyProof.Rows L2

section
variable {K : PySem.W.Frag} {E : Wx} {pa : Bs} {O O' : List Addr} {H H' H0 : Hp} {σ : L2.St} {env : Env} {g g' : Pen}
theorem Rel.writeFree (R : Rel K pa O H σ env g) {a : Addr} {o : HO} (ha : a ∈ O) (hm : Muts (some o) = true) (nh : a ∉ pa.hid) (hno : ∀ (i : Nat) (sl : Sl), env[i]? = some (some sl) → sl.own = true → σ[i]? ≠ some (some (.ref a))) :
    Rel K pa O (upd H a o) σ env g ∧ Same (mask pa O H) (mask pa O (upd H a o)) := by
  have npa : pa.a ≠ a := fun z => R.nopa (z ▸ ha)
  have em : mask pa O (upd H a o) = mask pa O H := mask_upd ha
  have s : Same (mask pa O H) (mask pa O (upd H a o)) := by rw [em]; exact Same.refl _
  refine ⟨⟨R.len, ⟨R.nopa, fun b hb => ?_, fun b hb => ?_, R.pen.mono s (upd_ne npa)⟩, fun j t ej => ?_, R.apart, R.nohid⟩, s⟩
  · by_cases hba : b = a
    · subst hba; rw [upd_same]; exact hm
    · rw [upd_ne hba]; exact R.bas.dom b hb
  · obtain ⟨h1, h2⟩ := R.bas.hid b hb
    exact ⟨h1, by rw [upd_ne (fun z => nh (by rw [← z]; exact hb))]; exact h2⟩
  · obtain ⟨v, e1, r⟩ := R.slot j t ej
    refine ⟨v, e1, ?_⟩
    by_cases ot : t.own = true
    · obtain ⟨b, rfl, hb⟩ := r.owned ot
      have hba : b ≠ a := fun z => hno j t ej ot (z ▸ e1)
      cases t with
      | val _ => cases ot
      | pen => cases ot
      | raw _ => cases ot
      | ol xs =>
        obtain ⟨c, us, ec, hc, hu, rr⟩ := r
        cases ec
        exact ⟨b, us, rfl, hc, (upd_ne hba).trans hu, rr.mono s⟩
      | ok xs =>
        obtain ⟨c, us, ec, hc, hu, rr⟩ := r
        cases ec
        exact ⟨b, us, rfl, hc, (upd_ne hba).trans hu, rr.mono s⟩
      | ot xs =>
        obtain ⟨c, us, ec, hc, hu, rr⟩ := r
        cases ec
        exact ⟨b, us, rfl, hc, (upd_ne hba).trans hu, rr.mono s⟩
      | tb =>
        obtain ⟨c, us, ec, hc, hu, rr⟩ := r
        cases ec
        exact ⟨b, us, rfl, hc, (upd_ne hba).trans hu, rr.1.mono s, rr.2⟩
    · exact r.later (by cases q : t.own <;> simp_all) s
end
/-- {k: v} with a tuple for a key; the new dict stands empty while the pair is made -/
def tDispT (tk tv : TE) : TE := fun σ H Q => ∀ p, H p = none → tk σ (upd H p (.dT [])) fun y H1 => tv σ H1 fun v H2 => ∃ b ks, y = .ref b ∧ H2 b = some (.tup (ks.map kV)) ∧ H2 p = some (.dT []) ∧ Q (.ref p) (upd H2 p (.dT [(ks, v)]))
section
variable {X : Cx} {W : Wx} {k v : Expr} {pos : Pos} {tk tv : TE} {mk mv : Mir Sl}
theorem pe_dispT (hu : X.A.units + 1 < cLine) (hk : PE X k tk) (hv : PE X v tv) : PE X (.Dict [some k] [v] pos) (tDispT tk tv) where
  run pins s σ H Q I h := by
    let p := s.heap.objs.size
    have empty : Inv X pins σ (upd H p (.dT [])) { s with heap := s.heap.push { cls := .type "dict", data := .dict #[] } } := I.laid (t' := s.toks) (fun _ _ e => Heap.get?_push_of_some _ e) (Nat.le_refl _) (dt_empty s.heap I.big)
    rw [arm_eval_Dict, zip_pairTrees [some k] [v] X.env pos rfl rfl]
    rw [dictDisplay_pairs (pairTrees [some k] [v] X.env pos) nofun (by decide : 1 < 17)]
    refine wpAny_bind (wpAny_standAt (wpAny_bind (wpAny_subDictH (knd := tupleKind (mixKind X.prog X.w)) (Q := fun d => wpAny (model X.prog X.w) X.A (pure (Value.ref d)) (EP X pins σ Q) X.xe) (Nat.lt_of_succ_lt hu) (show 1 ≤ 15 by decide) (pairTrees_cons_walk ?_))))
    refine wpAny_mono (hk.run pins _ σ _ _ empty (h p (I.hok.fresh (Nat.le_refl _)))) (fun kv s1 gk => ?_) fun _ _ z => z
    obtain ⟨y, H1, I1, ry, h1⟩ := gk
    refine wpAny_mono (hv.run pins s1 σ H1 _ I1 h1) (fun vv s2 gv => pairTrees_nil_walk ?_) fun _ _ z => z
    obtain ⟨x, H2, I2, rx, b, ks, rfl, tup, new, h2⟩ := gv
    have ek : kv = Value.ref b := ry
    obtain ⟨_, notsys, l0, kt0, dict0⟩ := dt_of I2.hok new
    obtain rfl : l0 = [] := by
      cases kt0
      rfl
    refine ⟨[(ks, b, vv)], ⟨ek, rfl, key_of I2.hok tup, trivial⟩, dict0, fun h' tk dict1 same => wpAny_pure ?_⟩
    obtain ⟨o, es, ep, g1, g2, g3, g4, _, g5⟩ := dict1
    have bp : b ≠ p := ne_of tup new nofun
    have kt1 : KT (upd H2 p (.dT [(ks, x)])) [(ks, x)] [(ks, b, vv)] := .cons ⟨rfl, (upd_ne bp).trans tup, rx⟩ .nil
    have okp : ObjOk X.prog X.w (upd H2 p (.dT [(ks, x)])) h' p (.dT [(ks, x)]) := ⟨show 1 ≤ sizeLine by decide, notsys, _, kt1, o, es, ep, g1, g2, g3, g4, g5⟩
    exact ⟨.ref p, _, d_write I2 (new ▸ trivial) same ⟨o, g1⟩ okp, rfl, h2⟩
def dispK (x y : Sl) : Mir Sl := match x, y with
  | .val kd, .val d => onS (keyOf kd) fun key => ret (.ok [(key, d)])
  | _, _ => bad
def dispT (x y : Sl) : Mir Sl := match x, y with
  | .val (.tuple kd), .val d => onS (keysOf kd) fun key => ret (.ot [(key, d)])
  | _, _ => bad
def mDispK (mk mv : Mir Sl) : Mir Sl := bnd mk fun x => bnd mv fun y => dispK x y
def mDispT (mk mv : Mir Sl) : Mir Sl := bnd mk fun x => bnd mv fun y => dispT x y
/-- the pair made beside the new dict -/
theorem disp_core {K : PySem.W.Frag} {σ : L2.St} {H : Hp} {F : Sl → Sl → Mir Sl} {Q : VK} {o0 : HO} {sl0 : Sl} {p : Addr} {nx : V → V → Hp → Prop} {pa : Bs} {O : List Addr} {env : Env} {g : Pen} (R : Rel K pa O H σ env g)
    (h : PostX K pa O H σ W (bnd mk (fun x => bnd mv fun y => F x y) env g) Q) (hp : H p = none) (ho : Muts (some o0) = true) (r0 : ∀ H', Same (mask pa O H) (mask pa (p :: O) H') → H' p = some o0 → SlRep K pa (p :: O) H' sl0 (.ref p))
    (hF : ∀ x y env g env' g' sl, F x y env g = .ok sl env' g' → x.own = false ∧ y.own = false)
    (hE : ∀ x y env g, (∃ sl env' g', F x y env g = .ok sl env' g') ∨ F x y env g = .bad)
    (k : ∀ O H2 env g x y v w, Rel K pa O H2 σ env g → p ∈ O → p ∉ pa.hid → (∀ (i : Nat) (sl : Sl), env[i]? = some (some sl) → sl.own = true → σ[i]? ≠ some (some (.ref p))) → H2 p = some o0 → SlRep K pa O H2 x v → SlRep K pa O H2 y w → PostX K pa O H2 σ W (F x y env g) Q → nx v w H2) :
    zE K W mk σ (upd H p o0) fun v H1 => zE K W mv σ H1 fun w H2 => nx v w H2 := by
  obtain ⟨s2, R2, o2⟩ := R.newAny (o := o0) (sl := sl0) hp ho r0
  have nh : p ∉ pa.hid := fun z => isSome_ne (R.dom p (R.bas.hid p z).1) hp rfl
  have nhs : ∀ (i : Nat) (sl : Sl), env[i]? = some (some sl) → sl.own = true → σ[i]? ≠ some (some (.ref p)) := fun i sl e o ev => by
    obtain ⟨v, e1, r⟩ := R.slot i sl e
    rw [ev] at e1
    cases e1
    obtain ⟨a, ea, hm⟩ := r.owned o
    cases ea
    exact isSome_ne (R.dom p hm) hp rfl
  have h0 : ∀ b ∈ pa.hid, (upd H p o0) b = pa.h0 b := fun b hb => (R2.bas.hid b hb).2
  refine ⟨pa.and p (upd H p o0), _, env, g, R2.hide List.mem_cons_self nhs, postG_hide h0 (PostG.from_ h s2) fun x env1 g1 O1 H1 e1 s1 R1 q v o => ?_⟩
  obtain ⟨R1u, _, _⟩ := R1.unhide h0
  refine ⟨pa.and p (upd H p o0), O1, env1, g1, R1, postG_hide (a := p) h0 q fun y env3 g3 O3 H3 e3 s3 R3 q3 w o3 => ?_⟩
  obtain ⟨R3u, hpo, hpe⟩ := R3.unhide h0
  have own : x.own = false ∧ y.own = false := by
    rcases hE x y env3 g3 with ⟨sl, env', g', e⟩ | e
    · exact hF _ _ _ _ _ _ _ e
    · rw [e] at q3; exact q3.elim
  exact k O3 H3 env3 g3 x y v w R3u hpo nh (fun i sl e o' => R3.nohid i sl p e o' List.mem_cons_self) (by rw [hpe, upd_same]) (o.1.later own.1 s3) o3.1 q3
theorem dispK_ends (x y : Sl) (env : Env) (g : Pen) : (∃ sl env' g', dispK x y env g = .ok sl env' g') ∨ dispK x y env g = .bad := by
  unfold dispK
  split
  · rename_i kd d
    cases keyOf kd with
    | some key => exact .inl ⟨_, _, _, rfl⟩
    | none => exact .inr rfl
  · exact .inr rfl
theorem dispT_ends (x y : Sl) (env : Env) (g : Pen) : (∃ sl env' g', dispT x y env g = .ok sl env' g') ∨ dispT x y env g = .bad := by
  unfold dispT
  split
  · rename_i kd d
    cases keysOf kd with
    | some key => exact .inl ⟨_, _, _, rfl⟩
    | none => exact .inr rfl
  · exact .inr rfl
theorem dispK_own (x y : Sl) (env : Env) (g : Pen) (env' : Env) (g' : Pen) (sl : Sl) (h : dispK x y env g = .ok sl env' g') : x.own = false ∧ y.own = false := by
  unfold dispK at h
  split at h
  · exact ⟨rfl, rfl⟩
  · cases h
theorem dispT_own (x y : Sl) (env : Env) (g : Pen) (env' : Env) (g' : Pen) (sl : Sl) (h : dispT x y env g = .ok sl env' g') : x.own = false ∧ y.own = false := by
  unfold dispT at h
  split at h
  · exact ⟨rfl, rfl⟩
  · cases h
theorem zx_dispK (hk : PE X k (zE X.K W mk)) (hv : PE X v (zE X.K W mv)) : PE X (.Dict [some k] [v] pos) (zE X.K W (mDispK mk mv)) :=
  pe_weak (pe_disp (pps_cons hk hv pps_nil) rfl rfl (by intro z; cases z) (by show 1 ≤ 15; decide)) fun σ H Q ⟨pa, O, env, g, R, h⟩ p hp => by
    refine disp_core (nx := fun y v H2 => H2 p = some (.dK []) ∧ ∃ kvs : List (Key × V), [(y, v)] = kvs.map (fun kv => (kV kv.1, kv.2)) ∧ kvs.length ≤ 15 ∧ Q (.ref p) (upd H2 p (.dK (mergeK [] kvs)))) (sl0 := .ok []) R h hp rfl (fun H' _ e => ⟨p, [], rfl, List.mem_cons_self, e, by simp only [List.map_nil, RepK]⟩) dispK_own dispK_ends fun O2 H2 env2 g2 x y v w R2 ha nh nhs hpe rx ry q => ?_
    refine ⟨hpe, ?_⟩
    unfold dispK at q
    split at q
    · rename_i kd d
      obtain ⟨key, ek, q⟩ := post_onS q
      · obtain ⟨rfl, _⟩ := keyOf_rep ek (show Rep X.K (mask pa O2 H2) kd v from rx)
        have rv : Rep X.K (mask pa O2 H2) d w := ry
        obtain ⟨R3, s3⟩ := R2.writeFree (o := .dK [(key, w)]) ha rfl nh nhs
        refine ⟨[(key, w)], rfl, by show 1 ≤ 15; decide, q O2 _ s3 R3 _ ⟨⟨p, _, rfl, ha, upd_same, ?_⟩, fun _ => ⟨fun a h z => ?_, nhs⟩⟩⟩
        · rw [mask_upd ha]
          show RepK X.K _ [(kD key, d)] [(key, w)]
          simp only [RepK]
          exact ⟨key, w, [], rfl, rfl, rv, rfl⟩
        · cases z; exact nh h
    · exact q.elim
theorem zx_dispT {kk : Nat} (B : Exp X W.2 kk) (hk : PE X k (zE X.K W mk)) (hv : PE X v (zE X.K W mv)) : PE X (.Dict [some k] [v] pos) (zE X.K W (mDispT mk mv)) :=
  pe_weak (pe_dispT B.u1 hk hv) fun σ H Q ⟨pa, O, env, g, R, h⟩ p hp => by
    refine disp_core (nx := fun y v H2 => ∃ b ks, y = .ref b ∧ H2 b = some (.tup (ks.map kV)) ∧ H2 p = some (.dT []) ∧ Q (.ref p) (upd H2 p (.dT [(ks, v)]))) (sl0 := .ot []) R h hp rfl (fun H' _ e => ⟨p, [], rfl, List.mem_cons_self, e, by simp only [List.map_nil, RepT]⟩) dispT_own dispT_ends fun O2 H2 env2 g2 x y v w R2 ha nh nhs hpe rx ry q => ?_
    unfold dispT at q
    split at q
    · rename_i kd d
      obtain ⟨key, ek, q⟩ := post_onS q
      · have rk : Rep X.K (mask pa O2 H2) (.tuple kd) v := rx
        simp only [Rep] at rk
        obtain ⟨b, xs, rfl, hb, rx⟩ := rk
        obtain ⟨rfl, _⟩ := keysOf_rep ek rx
        have rv : Rep X.K (mask pa O2 H2) d w := ry
        obtain ⟨R3, s3⟩ := R2.writeFree (o := .dT [(key, w)]) ha rfl nh nhs
        refine ⟨b, key, rfl, mask_le _ _ hb, hpe, q O2 _ s3 R3 _ ⟨⟨p, _, rfl, ha, upd_same, ?_⟩, fun _ => ⟨fun a h z => ?_, nhs⟩⟩⟩
        · rw [mask_upd ha]
          show RepT X.K _ [(.tuple (key.map kD), d)] [(key, w)]
          simp only [RepT]
          exact ⟨key, w, [], rfl, rfl, rv, rfl⟩
        · cases z; exact nh h
    · exact q.elim
end
end Z
end
section
set_option linter.all false
set_option maxRecDepth 100000
set_option maxHeartbeats 1000000
/-! ZS: what printed derivations lean on. -/
namespace Z
open PySem PySem.Spec PyProof.Rows L2

/-- the built-in names are the built-in ones -/
structure Bl (mg : PySem.Str → Option Value) : Prop where
  len : mg "len" = none
  abs : mg "abs" = none
  int : mg "int" = none
  sum : mg "sum" = none
  all : mg "all" = none
  any : mg "any" = none
  tuple : mg "tuple" = none
  list : mg "list" = none
  max : mg "max" = none
  min : mg "min" = none
  sorted : mg "sorted" = none
  isinstance : mg "isinstance" = none
  repr : mg "repr" = none
  zip : mg "zip" = none
  range : mg "range" = none
  bool : mg "bool" = none
  str : mg "str" = none
/-- a def of the program, by its mirror -/
structure DefOk (P : Program) (w : World) (K : PySem.W.Frag) (mg : PySem.Str → Option Value) (base : Heap) (ca : PySem.Str → Addr) (x : PySem.Str) (ps : List PySem.Str) (mf : FMir) (j : Nat) : Prop where
  ex : ∃ f fd, FnG P w K mg base (L2.CX P w) j f fd ps (spM K ca ps.length mf) ∧ mg x = some (.ref f) ∧ PySem.W.keepIn K (.ref f) = true ∧ Binds K fd ps []
/-- a def as it stands in the heap -/
structure DefAt (K : PySem.W.Frag) (mg : PySem.Str → Option Value) (x : PySem.Str) (st : Stmt) (ps : List PySem.Str) : Prop where
  ex : ∃ f fd, FunD K x x (defArgs st) (defBody st) (defScope st) [] [] f fd ∧ mg x = some (.ref f) ∧ Binds K fd ps []
section
variable {X : Cx} {ca : PySem.Str → Addr} {E : XK} {e : Expr} {es : List Expr} {pos p : Pos} {ms : Mir (List Sl)} {x : PySem.Str}
theorem zx_def {k j : Nat} {ps : List PySem.Str} {mf : FMir} (B : Exp X E k) (F : DefOk X.prog X.w X.K X.mg X.base ca x ps mf j) (hj : j ≤ k) (ha : PA X (e :: es) (zA X.K (ca, E) ms)) (hms : ALen ms ps.length) (hg : Gl X x := by rfl) (hn : (e :: es).length = ps.length := by rfl) (hdb : (x == ("__debug__" : PySem.Str)) = false := by decide)
    (he : starEach (e :: es) X.env = (false, eval e X.env) :: starEach es X.env := by rfl) (hpl : (backTo pos (starEach es X.env)).any (·.1) = false := by rfl) : PE X (.Call (.Name x p) (e :: es) [] pos) (zE X.K (ca, E) (mCall (mFn mf) ms)) := by
  obtain ⟨f, fd, h1, h2, h3, h4⟩ := F.ex
  exact zx_call B h1 hj hg h2 h3 h4 ha hn hdb he hpl hms
theorem zx_def0 {k j : Nat} {mf : FMir} (B : Exp X E k) (F : DefOk X.prog X.w X.K X.mg X.base ca x [] mf j) (hj : j ≤ k) (hg : Gl X x := by rfl) (hdb : (x == ("__debug__" : PySem.Str)) = false := by decide) : PE X (.Call (.Name x p) [] [] pos) (zE X.K (ca, E) (mCall (mFn mf) mNil)) := by
  obtain ⟨f, fd, h1, h2, h3, h4⟩ := F.ex
  exact zx_call0 B h1 hj hg h2 h3 h4 hdb
end
section
variable {P : Program} {w : World} {K : PySem.W.Frag} {mg : PySem.Str → Option Value} {base : Heap} {N ps : List PySem.Str} {qual : PySem.Str} {scope : Scope} {f : Addr} {cd : Value} {A : Around} {outer : List PySem.Env} {s : Shared} {H : Hp} {E : XK} {k : Nat}
theorem exp_of (S : FnScope N ps scope) (hr : Room k (A.deeper (envOfC qual scope s.heap.objs.size f cd))) (hg : A.guards = some []) : Exp (cxOf (L2.CX P w) P w K mg base N qual scope f cd A outer s H E) E k :=
  ⟨rfl, S.nd, passes_call (takes_of rfl rfl rfl rfl) fun _ _ _ _ h => h, hg, hr⟩
theorem loops_of : PassesOwn (model (cxOf (L2.CX P w) P w K mg base N qual scope f cd A outer s H E).prog (cxOf (L2.CX P w) P w K mg base N qual scope f cd A outer s H E).w) (cxOf (L2.CX P w) P w K mg base N qual scope f cd A outer s H E).A (cxOf (L2.CX P w) P w K mg base N qual scope f cd A outer s H E).env (cxOf (L2.CX P w) P w K mg base N qual scope f cd A outer s H E).xe := passes_of rfl
/-- a def by a derivation of its body -/
theorem def_ok {ca : PySem.Str → Addr} {x : PySem.Str} {st : Stmt} {m : Mir Ctl} (D : DefAt K mg x st ps) (S : FnScope N ps (defScope st)) (hl : ps.length ≤ N.length)
    (h : ∀ (f : Addr) (cd : Value) (A : Around) (outer : List PySem.Env) (s : Shared) (H : Hp) (E : XK), Exp (cxOf (L2.CX P w) P w K mg base N x (defScope st) f cd A outer s H E) E k → PSs (cxOf (L2.CX P w) P w K mg base N x (defScope st) f cd A outer s H E) (defBody st) (zS K (ca, E) m)) :
    DefOk P w K mg base ca x ps (mBody N.length m) (k + 1) := by
  obtain ⟨f, fd, h1, h2, h3⟩ := D.ex
  exact ⟨f, fd, fnG_of h1 S (fun _ _ _ _ _ q => q.1) (fun cdv A outer s H vs Q E hr hg q => ⟨_, h f cdv A outer s H E (exp_of S hr hg), body_start q (by rw [q.1]; exact hl)⟩), h2, h1.kp, h3⟩
end
/-- lists that are settled behind -/
def sAfter (is : List Nat) (m : Mir Ctl) : Mir Ctl := bnd m fun c => match c with
  | .nx => fun env g => .ok .nx (setlE is 0 env) g
  | c => ret c
theorem zs_after {X : Cx} {W : Wx} {st : Stmt} {m : Mir Ctl} {is : List Nat} (h : PS X st (zS X.K W m)) : PS X st (zS X.K W (sAfter is m)) := ps_weak h fun Dn σ H ⟨pa, O, env, g, R, h⟩ => ⟨pa, O, env, g, R, by
  unfold sAfter bnd at h
  cases e : m env g with
  | bad => rw [e] at h; exact h
  | exc x g' => rw [e] at h; exact h
  | ok c env' g' =>
    rw [e] at h
    cases c with
    | nx =>
      intro σ' O' H' s R'
      obtain ⟨O2, s2, _, R2⟩ := R'.setl is
      exact h σ' O2 H' (s.trans s2) R2
    | bk => exact h
    | ct => exact h
    | rt sl => exact h⟩
def blkB (N : List PySem.Str) (sc scope : Scope) (own : List (PySem.Str × Nat)) : Bool :=
  decide (scope.kind = .function) && (scope.names.all fun y => decide (scope.names.lookup y.1 = some y.2)) && (own.all fun p => decide (N[p.2]? = some p.1)) &&
    (scope.names.all fun y => !decide (y.2 = .free) || (decide (sc.names.lookup y.1 = some .cell) || decide (sc.names.lookup y.1 = some .free))) &&
    (scope.names.all fun y => !(decide (y.2 = .local) || decide (y.2 = .cell)) || (decide (y.1 ∈ own.map (·.1)) || decide (y.1 ∉ N)))
theorem blk_of {N : List PySem.Str} {sc scope : Scope} {own : List (PySem.Str × Nat)} (h : blkB N sc scope own = true) : BlkOk N sc scope own := by
  simp only [blkB, Bool.and_eq_true, List.all_eq_true, decide_eq_true_eq, Bool.or_eq_true, Bool.not_eq_true', decide_eq_false_iff_not] at h
  obtain ⟨⟨⟨⟨h1, h2⟩, h3⟩, h4⟩, h5⟩ := h
  refine ⟨h1, h2, h3, fun y hy e => ?_, fun y hy e => ?_⟩
  · rcases h4 y hy with q | q
    · exact absurd e q
    · exact q
  · rcases h5 y hy with q | q
    · rcases e with e | e
      · simp [e] at q
      · simp [e] at q
    · exact q
end Z
end
section
set_option linter.all false
set_option maxRecDepth 100000
set_option maxHeartbeats 1000000
/-! ZT: tables of names, looked up once. -/
namespace Z
open PySem PySem.Spec PyProof.Rows L2

def tabB (sc : Scope) (tab : List (PySem.Str × NameKind)) : Bool :=
  tab.all fun p => decide (sc.names.lookup p.1 = some p.2) && (!(p.1 == ("__debug__" : PySem.Str)) && (!(p.1 == ("__classdict__" : PySem.Str)) && decide (p.1 ≠ ("__name__" : PySem.Str))))
structure TabP (X : Cx) (x : PySem.Str) (k : NameKind) : Prop where
  look : X.env.scope.names.lookup x = some k ∨ (k = .free ∧ X.env.scope.names.lookup x = some .cell)
  fn : k = .cell → X.fn x = true
  d : (x == ("__debug__" : PySem.Str)) = false
  c : (x == ("__classdict__" : PySem.Str)) = false
  n : x ≠ ("__name__" : PySem.Str)
structure Tab (X : Cx) (tab : List (PySem.Str × NameKind)) : Prop where
  at_ : ∀ (j : Nat) (x : PySem.Str) (k : NameKind), tab[j]? = some (x, k) → TabP X x k
def visK : NameKind → Bool
  | .local => true
  | .cell => true
  | .free => true
  | _ => false
def locK : NameKind → Bool
  | .local => true
  | .cell => true
  | _ => false
section
variable {X : Cx} {tab : List (PySem.Str × NameKind)} {x y : PySem.Str} {k : NameKind}
theorem Tab.vis (t : Tab X tab) (j : Nat) (h : tab[j]? = some (x, k)) (hk : visK k = true) : Vis X.env.scope x := by
  rcases (t.at_ j x k h).look with e | ⟨_, e⟩
  · cases k <;> first | exact .inl e | exact .inr (.inl e) | exact .inr (.inr e) | cases hk
  · exact .inr (.inl e)
theorem Tab.gl (t : Tab X tab) (j : Nat) (h : tab[j]? = some (x, .globalImplicit)) : Gl X x := by
  rcases (t.at_ j x _ h).look with e | ⟨q, _⟩
  · exact e
  · cases q
theorem Tab.loc (t : Tab X tab) (j : Nat) (h : tab[j]? = some (x, k)) (hk : locK k = true) : Loc X.env.scope x := by
  rcases (t.at_ j x k h).look with e | ⟨_, e⟩
  · cases k <;> first | exact .inl e | exact .inr e | cases hk
  · exact .inr e
theorem Tab.lcl (t : Tab X tab) (j : Nat) (h : tab[j]? = some (x, .local)) : X.env.scope.names.lookup x = some .local := by
  rcases (t.at_ j x _ h).look with e | ⟨q, _⟩
  · exact e
  · cases q
theorem Tab.cel (t : Tab X tab) (j : Nat) (h : tab[j]? = some (x, .cell)) : X.env.scope.names.lookup x = some .cell := by
  rcases (t.at_ j x _ h).look with e | ⟨q, _⟩
  · exact e
  · cases q
theorem Tab.d (t : Tab X tab) (j : Nat) (h : tab[j]? = some (x, k)) : (x == ("__debug__" : PySem.Str)) = false := (t.at_ j x k h).d
theorem Tab.c (t : Tab X tab) (j : Nat) (h : tab[j]? = some (x, k)) : (x == ("__classdict__" : PySem.Str)) = false := (t.at_ j x k h).c
theorem Tab.n (t : Tab X tab) (j : Nat) (h : tab[j]? = some (x, k)) : x ≠ ("__name__" : PySem.Str) := (t.at_ j x k h).n
theorem Tab.fn (t : Tab X tab) (j : Nat) (h : tab[j]? = some (x, k)) (hk : locK k = true) : X.fn x = true ∨ X.env.scope.names.lookup x = some .local := by
  cases k with
  | «local» => exact .inr (t.lcl j h)
  | cell => exact .inl ((t.at_ j x _ h).fn rfl)
  | _ => cases hk
end
theorem tabB_at {sc : Scope} {tab : List (PySem.Str × NameKind)} (h : tabB sc tab = true) {j : Nat} {x : PySem.Str} {k : NameKind} (e : tab[j]? = some (x, k)) :
    sc.names.lookup x = some k ∧ (x == ("__debug__" : PySem.Str)) = false ∧ (x == ("__classdict__" : PySem.Str)) = false ∧ x ≠ ("__name__" : PySem.Str) := by
  have q := List.all_eq_true.mp h _ (List.mem_of_getElem? e)
  simp only [Bool.and_eq_true, Bool.not_eq_true', decide_eq_true_eq] at q
  exact q
/-- kinds changed by name: what a name is then -/
theorem kinds_mapped (f : PySem.Str → NameKind → NameKind) (l : List (PySem.Str × NameKind)) (x : PySem.Str) : (l.map fun p => (p.1, f p.1 p.2)).lookup x = (l.lookup x).map (f x) := by
  induction l with
  | nil => rfl
  | cons p r ih =>
    by_cases e : x = p.1
    · subst e
      rw [List.map_cons, List.lookup_cons, List.lookup_cons, beq_self_eq_true]
      rfl
    · have e' : (x == p.1) = false := by simpa using e
      rw [List.map_cons, List.lookup_cons, List.lookup_cons, e']
      exact ih
theorem relS_look {sc : Scope} {names : List (PySem.Str × NameKind)} {x : PySem.Str} {k : NameKind} (h : names.lookup x = some k) :
    (names.map fun (n, k) => if (k == NameKind.free && sc.kind == .function && sc.names.lookup n == some .cell) then (n, NameKind.cell) else (n, k)).lookup x = some k ∨
    (k = .free ∧ (names.map fun (n, k) => if (k == NameKind.free && sc.kind == .function && sc.names.lookup n == some .cell) then (n, NameKind.cell) else (n, k)).lookup x = some .cell) := by
  let f : PySem.Str → NameKind → NameKind := fun n k => if (k == NameKind.free && sc.kind == .function && sc.names.lookup n == some .cell) then .cell else k
  have e : (fun (p : PySem.Str × NameKind) => if (p.2 == NameKind.free && sc.kind == .function && sc.names.lookup p.1 == some .cell) then (p.1, NameKind.cell) else (p.1, p.2)) = fun p => (p.1, f p.1 p.2) := by
    funext p
    simp only [f]
    split <;> rfl
  have q := kinds_mapped f names x
  rw [← e, h] at q
  by_cases c : (k == NameKind.free && sc.kind == .function && sc.names.lookup x == some .cell) = true
  · refine .inr ⟨?_, q.trans (congrArg some (if_pos c))⟩
    simp only [Bool.and_eq_true, beq_iff_eq] at c
    exact c.1.1
  · exact .inl (q.trans (congrArg some (if_neg c)))
/-- a block's table -/
theorem tab_blk {X : Cx} {scope : Scope} {tab : List (PySem.Str × NameKind)} (h : tabB scope tab = true) (s : Shared) (H : Hp) (C : Addr) (cl : List (PySem.Str × Addr)) (fp : List Addr) : Tab (X.blk s H scope (compEnvC scope cl C X.env) fp) tab := ⟨fun j x k e => by
  obtain ⟨h1, h2, h3, h4⟩ := tabB_at h e
  exact ⟨relS_look (sc := X.env.scope) h1, fun q => by
    subst q
    show (scope.names.lookup x == some NameKind.cell) = true
    rw [h1]
    rfl, h2, h3, h4⟩⟩
def blkT (N : List PySem.Str) (tab : List (PySem.Str × NameKind)) (scope : Scope) (own : List (PySem.Str × Nat)) (tab2 : List (PySem.Str × NameKind)) : Bool :=
  decide (scope.kind = .function) && ((scope.names.all fun y => decide (scope.names.lookup y.1 = some y.2)) && ((own.all fun p => decide (N[p.2]? = some p.1)) &&
    ((scope.names.all fun y => !decide (y.2 = .free) || (tab.any fun p => decide (p.1 = y.1) && (decide (p.2 = .cell) || decide (p.2 = .free)))) &&
    ((scope.names.all fun y => !(decide (y.2 = .local) || decide (y.2 = .cell)) || (decide (y.1 ∈ own.map (·.1)) || decide (y.1 ∉ N))) && tabB scope tab2))))
theorem blkT_ok {X : Cx} {N : List PySem.Str} {tab tab2 : List (PySem.Str × NameKind)} {scope : Scope} {own : List (PySem.Str × Nat)} (t : Tab X tab) (hN : X.N = N) (h : blkT N tab scope own tab2 = true) : BlkOk X.N X.env.scope scope own ∧ tabB scope tab2 = true := by
  subst hN
  simp only [blkT, Bool.and_eq_true, List.all_eq_true, decide_eq_true_eq, Bool.or_eq_true, Bool.not_eq_true', decide_eq_false_iff_not] at h
  obtain ⟨h1, h2, h3, h4, h5, h6⟩ := h
  refine ⟨⟨h1, h2, h3, fun y hy e => ?_, fun y hy e => ?_⟩, h6⟩
  · rcases h4 y hy with q | q
    · exact absurd e q
    · obtain ⟨p, hp, q⟩ := List.any_eq_true.mp q
      simp only [Bool.and_eq_true, decide_eq_true_eq, Bool.or_eq_true] at q
      obtain ⟨q1, q2⟩ := q
      obtain ⟨j, hj⟩ := List.getElem?_of_mem hp
      have tp := (t.at_ j p.1 p.2 hj).look
      rw [← q1]
      rcases q2 with q2 | q2
      · rw [q2] at tp
        rcases tp with z | ⟨z, _⟩
        · exact .inl z
        · cases z
      · rw [q2] at tp
        rcases tp with z | ⟨_, z⟩
        · exact .inr z
        · exact .inl z
  · rcases h5 y hy with q | q
    · rcases e with e | e
      · simp [e] at q
      · simp [e] at q
    · exact q
section
variable {P : Program} {w : World} {K : PySem.W.Frag} {mg : PySem.Str → Option Value} {base : Heap} {N ps : List PySem.Str} {qual : PySem.Str} {scope : Scope} {f : Addr} {cd : Value} {A : Around} {outer : List PySem.Env} {s : Shared} {H : Hp} {E : XK} {k : Nat} {tab : List (PySem.Str × NameKind)}
theorem tab_of (h : tabB scope tab = true) : Tab (cxOf (L2.CX P w) P w K mg base N qual scope f cd A outer s H E) tab := ⟨fun j x k e => by
  obtain ⟨h1, h2, h3, h4⟩ := tabB_at h e
  exact ⟨.inl h1, fun _ => rfl, h2, h3, h4⟩⟩
/-- a def by a derivation of its body -/
theorem def_okT {ca : PySem.Str → Addr} {x : PySem.Str} {st : Stmt} {m : Mir Ctl} (D : DefAt K mg x st ps) (S : FnScope N ps (defScope st)) (hl : ps.length ≤ N.length) (ht : tabB (defScope st) tab = true)
    (h : ∀ (f : Addr) (cd : Value) (A : Around) (outer : List PySem.Env) (s : Shared) (H : Hp) (E : XK), Exp (cxOf (L2.CX P w) P w K mg base N x (defScope st) f cd A outer s H E) E k → Tab (cxOf (L2.CX P w) P w K mg base N x (defScope st) f cd A outer s H E) tab →
      PSs (cxOf (L2.CX P w) P w K mg base N x (defScope st) f cd A outer s H E) (defBody st) (zS K (ca, E) m)) : DefOk P w K mg base ca x ps (mBody N.length m) (k + 1) :=
  def_ok D S hl fun f cd A outer s H E B => h f cd A outer s H E B (tab_of ht)
end
/-! ### the rules with tables -/
section
variable {X : Cx} {W : Wx} {ca : PySem.Str → Addr} {E : XK} {tab tab2 : List (PySem.Str × NameKind)} {x y : PySem.Str} {k : NameKind} {pos p : Pos} {e elt tg iter tg1 iter1 : Expr} {ifs ifs1 : List Expr} {scope : Scope} {own : List (PySem.Str × Nat)} {spos py : Pos} {gt gt1 : TG} {t0 t1 : Tgt} {mi mi1 : Mir (List D)} {mt mt1 : Mir Bool} {me m : Mir Sl} {vs1 : List Nat} {N : List PySem.Str}
theorem zx_varT (i j : Nat) (t : Tab X tab) (hN : X.N[i]? = some x := by rfl) (hj : tab[j]? = some (x, k) := by rfl) (hk : visK k = true := by rfl) : PE X (.Name x pos) (zE X.K W (mVar i)) := zx_var i hN (t.vis j hj hk) (t.d j hj) (t.c j hj)
theorem zi_ownT (i j : Nat) (t : Tab X tab) (hN : X.N[i]? = some x := by rfl) (hj : tab[j]? = some (x, k) := by rfl) (hk : visK k = true := by rfl) : PI X tg (.Name x pos) (zI true X.K W (itOwn i)) := zi_own i hN (t.vis j hj hk) (t.d j hj) (t.c j hj)
theorem pg_nameT {nd : X.N.Nodup} (i j : Nat) (t : Tab X tab) (hN : X.N[i]? = some x := by rfl) (hj : tab[j]? = some (x, k) := by rfl) (hk : locK k = true := by rfl) : PG X (.Name x pos) (gName i) := pg_name nd hN (t.loc j hj hk) (t.fn j hj hk)
theorem zs_setT (i j : Nat) (t : Tab X tab) (nd : X.N.Nodup) (he : PE X e (zE X.K W m)) (hN : X.N[i]? = some x := by rfl) (hj : tab[j]? = some (x, k) := by rfl) (hk : locK k = true := by rfl) (hs : swapsWith e (some (.Name x py)) pos.line X.env = pure false := by rfl) : PS X (.Assign [.Name x py] e pos) (zS X.K W (sSet i m)) :=
  zs_set i nd he hN (t.loc j hj hk) hs (t.fn j hj hk)
theorem sw_cell {env : PySem.Env} {l : Nat} {gs : List Comprehension} (h : env.scope.names.lookup x = some .cell) : swapsWith (.ListComp elt gs scope pos) (some (.Name x py)) l env = pure false := by
  have k : env.kindOf x = some .cell := h
  unfold swapsWith
  simp only [k]
  show pure (env.blockKind == .function && false && _ && _) = _
  rw [Bool.and_false, Bool.false_and, Bool.false_and]
theorem sw_par {env : PySem.Env} {a b : Expr} {px py pt pt2 : Pos} {kt k2} (hf : (env.blockKind == .function) = true) (hx : env.scope.names.lookup x = some .local) (hy : env.scope.names.lookup y = some .local) (hl : (py.line == px.line) = true) (hxy : (x == y) = false) (hst : ([a, b].any fun | .Starred .. => true | _ => false) = false) (hfo : [a, b].all (foldedForSure 8) = false) (hco : [a, b].all (constantsAlone 8) = false) :
    swappedStores [.Tuple [.Name x px, .Name y py] kt pt] (.Tuple [a, b] k2 pt2) env = pure (some [x, y]) := by
  have kx : env.kindOf x = some .local := hx
  have ky : env.kindOf y = some .local := hy
  unfold swappedStores
  have hb : (env.blockKind != ScopeKind.function) = false := by simp only [bne, hf]; rfl
  have hd : [x, y].eraseDups = [x, y] := by
    have : (y == x) = false := by
      cases q : (y == x) with
      | false => rfl
      | true =>
        rw [eq_of_beq q, beq_self_eq_true] at hxy
        cases hxy
    simp [List.eraseDups_cons, this]
  have px1 : (px.line == px.line) = true := beq_self_eq_true _
  generalize hF : (fun (z : Expr) => match z with
      | .Name id pos => if (env.kindOf id == some NameKind.local && pos.line == px.line) = true then some id else none
      | _ => none) = F
  have fx : F (Expr.Name x px) = some x := by
    rw [← hF]
    show (if (env.kindOf x == some NameKind.local && px.line == px.line) = true then some x else none) = some x
    rw [kx, px1]
    rfl
  have fy : F (Expr.Name y py) = some y := by
    rw [← hF]
    show (if (env.kindOf y == some NameKind.local && py.line == px.line) = true then some y else none) = some y
    rw [ky, hl]
    rfl
  have hn : List.filterMap F [Expr.Name x px, Expr.Name y py] = [x, y] := by rw [List.filterMap_cons_some fx, List.filterMap_cons_some fy, List.filterMap_nil]
  show (if (!([Expr.Name x px, Expr.Name y py].length == 2 || [Expr.Name x px, Expr.Name y py].length == 3) || [a, b].length != [Expr.Name x px, Expr.Name y py].length || env.blockKind != ScopeKind.function) = true then pure none else
    if ([a, b].any fun | .Starred .. => true | _ => false) = true then pure none else _) = _
  rw [hb, hst]
  simp only [Bool.or_false, List.length_cons, List.length_nil, Bool.false_eq_true, if_false]
  show (if (!(0 + 1 + 1 == 2 || 0 + 1 + 1 == 3) || 0 + 1 + 1 != 0 + 1 + 1) = true then pure none else
    if ((List.filterMap (fun (z : Expr) => match z with
      | .Name id pos => if (env.kindOf id == some NameKind.local && pos.line == px.line) = true then some id else none
      | _ => none) [Expr.Name x px, Expr.Name y py]).length != 0 + 1 + 1 || (List.filterMap (fun (z : Expr) => match z with
      | .Name id pos => if (env.kindOf id == some NameKind.local && pos.line == px.line) = true then some id else none
      | _ => none) [Expr.Name x px, Expr.Name y py]).eraseDups.length != (List.filterMap (fun (z : Expr) => match z with
      | .Name id pos => if (env.kindOf id == some NameKind.local && pos.line == px.line) = true then some id else none
      | _ => none) [Expr.Name x px, Expr.Name y py]).length) = true then pure none else
    if [a, b].all (foldedForSure 8) = true then pure none else if [a, b].all (constantsAlone 8) = true then (do unsupported "assign.tuple-of-constant-expressions:order-of-the-stores"; _) else _) = _
  rw [hF, hn, hd, hfo, hco]
  rw [← hF] at hn
  exact congrArg (fun z => (pure (some z) : Sem (Option (List PySem.Str)))) hn
theorem sw_parC {env : PySem.Env} {a b : Expr} {px py pt pt2 : Pos} {kt k2} {kx ky : NameKind} (hf : (env.blockKind == .function) = true) (hx : env.scope.names.lookup x = some kx) (hy : env.scope.names.lookup y = some ky) (hk : (kx == NameKind.local && ky == NameKind.local) = false) (hst : ([a, b].any fun | .Starred .. => true | _ => false) = false) :
    swappedStores [.Tuple [.Name x px, .Name y py] kt pt] (.Tuple [a, b] k2 pt2) env = pure none := by
  have qx : env.kindOf x = some kx := hx
  have qy : env.kindOf y = some ky := hy
  unfold swappedStores
  simp only [hst]
  have hb : (env.blockKind != ScopeKind.function) = false := by simp only [bne, hf]; rfl
  generalize hF : (fun (z : Expr) => match z with
      | .Name id pos => if (env.kindOf id == some NameKind.local && pos.line == px.line) = true then some id else none
      | _ => none) = F
  have fx : F (Expr.Name x px) = if (kx == NameKind.local) = true then some x else none := by
    rw [← hF]
    show (if (env.kindOf x == some NameKind.local && px.line == px.line) = true then some x else none) = _
    rw [qx, beq_self_eq_true, Bool.and_true]
    rfl
  have fy : (ky == NameKind.local) = false → F (Expr.Name y py) = none := fun z => by
    rw [← hF]
    show (if (env.kindOf y == some NameKind.local && py.line == px.line) = true then some y else none) = _
    rw [qy, show (some ky == some NameKind.local) = (ky == NameKind.local) from rfl, z, Bool.false_and]
    rfl
  have hn : (List.filterMap F [Expr.Name x px, Expr.Name y py]).length ≤ 1 := by
    cases hkx : (kx == NameKind.local) with
    | false =>
      rw [hkx, if_neg Bool.false_ne_true] at fx
      rw [List.filterMap_cons_none fx]
      exact List.length_filterMap_le ..
    | true =>
      rw [hkx, Bool.true_and] at hk
      rw [hkx, if_pos rfl] at fx
      rw [List.filterMap_cons_some fx, List.filterMap_cons_none (fy hk), List.filterMap_nil]
      exact Nat.le_refl _
  have hne : ((List.filterMap F [Expr.Name x px, Expr.Name y py]).length != 0 + 1 + 1) = true := by
    rw [bne_iff_ne]
    omega
  show (if (!([Expr.Name x px, Expr.Name y py].length == 2 || [Expr.Name x px, Expr.Name y py].length == 3) || [a, b].length != [Expr.Name x px, Expr.Name y py].length || env.blockKind != ScopeKind.function) = true then pure none else
    if ([a, b].any fun | .Starred .. => true | _ => false) = true then pure none else _) = _
  rw [hb, hst]
  simp only [Bool.or_false, List.length_cons, List.length_nil, Bool.false_eq_true, if_false]
  show (if (!(0 + 1 + 1 == 2 || 0 + 1 + 1 == 3) || 0 + 1 + 1 != 0 + 1 + 1) = true then pure none else
    if ((List.filterMap (fun (z : Expr) => match z with
      | .Name id pos => if (env.kindOf id == some NameKind.local && pos.line == px.line) = true then some id else none
      | _ => none) [Expr.Name x px, Expr.Name y py]).length != 0 + 1 + 1 || _) = true then pure none else _) = _
  rw [hF, hne, Bool.true_or]
  rfl
end
end Z
end
section
set_option linter.all false
set_option maxRecDepth 100000
set_option maxHeartbeats 1000000
/-! ZU: the rules that printed derivations use. -/
namespace Z
open PySem PySem.Spec PyProof.Rows L2
section
variable {X : Cx} {W : Wx} {ca : PySem.Str → Addr} {E : XK} {tab tab2 : List (PySem.Str × NameKind)} {x y : PySem.Str} {k kx ky : NameKind} {pos p : Pos} {a b e elt tg iter tg1 iter1 : Expr} {es : List Expr} {ifs ifs1 : List Expr} {scope : Scope} {own : List (PySem.Str × Nat)} {spos py px pt pt2 pos' apos cpos : Pos} {kt k2} {gt gt1 : TG} {t0 t1 : Tgt} {mi mi1 : Mir (List D)} {mt mt1 : Mir Bool} {me m ma mb mk mv : Mir Sl} {ms : Mir (List Sl)} {vs vs1 : List Nat} {N : List PySem.Str} {kk : Nat}
theorem zs_parT (i j ji jj : Nat) (t : Tab X tab) (hc : X.calm = true) (hN : X.N.Nodup) (ha : PE X a (zE X.K W ma)) (hb : PE X b (zE X.K W mb)) (hi : X.N[i]? = some x := by rfl) (hj : X.N[j]? = some y := by rfl) (hti : tab[ji]? = some (x, .local) := by rfl) (htj : tab[jj]? = some (y, .local) := by rfl) (hij : i ≠ j := by decide)
    (hf : (X.env.blockKind == .function) = true := by rfl) (hl : (py.line == px.line) = true := by rfl) (hst : ([a, b].any fun | .Starred .. => true | _ => false) = false := by rfl) (hfo : [a, b].all (foldedForSure 8) = false := by rfl) (hco : [a, b].all (constantsAlone 8) = false := by rfl)
    (st1 : starEach [a, b] X.env = (false, eval a X.env) :: starEach [b] X.env := by rfl) (st2 : starEach [b] X.env = (false, eval b X.env) :: starEach [] X.env := by rfl) : PS X (.Assign [.Tuple [.Name x px, .Name y py] kt pt] (.Tuple [a, b] k2 pt2) pos) (zS X.K W (sPar i j ma mb)) := by
  have hxy : (x == y) = false := by
    cases q : (x == y) with
    | false => rfl
    | true =>
      rw [eq_of_beq q] at hi
      exact absurd (nodup_ix hN hi hj) hij
  exact zs_par i j hc hN (t.lcl ji hti) (t.lcl jj htj) ha hb (sw_par hf (t.lcl ji hti) (t.lcl jj htj) hl hxy hst hfo hco) hi hj hij rfl st1 st2
theorem zs_parCT (i j ji jj : Nat) (t : Tab X tab) (hc : X.calm = true) (hN : X.N.Nodup) (ha : PE X a (zE X.K W ma)) (hb : PE X b (zE X.K W mb)) (hi : X.N[i]? = some x := by rfl) (hj : X.N[j]? = some y := by rfl) (hti : tab[ji]? = some (x, kx) := by rfl) (htj : tab[jj]? = some (y, ky) := by rfl) (hkx : locK kx = true := by rfl) (hky : locK ky = true := by rfl)
    (hk : (kx == NameKind.local && ky == NameKind.local) = false := by rfl) (hf : (X.env.blockKind == .function) = true := by rfl) (hst : ([a, b].any fun | .Starred .. => true | _ => false) = false := by rfl)
    (st1 : starEach [a, b] X.env = (false, eval a X.env) :: starEach [b] X.env := by rfl) (st2 : starEach [b] X.env = (false, eval b X.env) :: starEach [] X.env := by rfl) : PS X (.Assign [.Tuple [.Name x px, .Name y py] kt pt] (.Tuple [a, b] k2 pt2) pos) (zS X.K W (sPar i j ma mb)) := by
  have lx : X.env.scope.names.lookup x = some kx := by
    cases kx with
    | «local» => exact t.lcl ji hti
    | cell => exact t.cel ji hti
    | _ => cases hkx
  have ly : X.env.scope.names.lookup y = some ky := by
    cases ky with
    | «local» => exact t.lcl jj htj
    | cell => exact t.cel jj htj
    | _ => cases hky
  exact zs_parC i j hc hN ha hb (pg_tup hc (pgs_cons (pg_name hN hi (t.loc ji hti hkx) (t.fn ji hti hkx)) (pgs_cons (pg_name hN hj (t.loc jj htj hky) (t.fn jj htj hky)) pgs_nil))) (sw_parC hf lx ly hk hst) rfl rfl st1 st2
theorem zs_setCell (i j : Nat) {gs : List Comprehension} (t : Tab X tab) (nd : X.N.Nodup) (he : PE X (.ListComp elt gs scope pos') (zE X.K W m)) (hN : X.N[i]? = some x := by rfl) (hj : tab[j]? = some (x, .cell) := by rfl) : PS X (.Assign [.Name x py] (.ListComp elt gs scope pos') pos) (zS X.K W (sSet i m)) :=
  zs_set i nd he hN (t.loc j hj rfl) (sw_cell (t.cel j hj)) (t.fn j hj rfl)
theorem zx_defT {j kk : Nat} {ps : List PySem.Str} {mf : FMir} (jn : Nat) (t : Tab X tab) (B : Exp X E kk) (F : DefOk X.prog X.w X.K X.mg X.base ca x ps mf j) (hj : j ≤ kk) (ha : PA X (e :: es) (zA X.K (ca, E) ms)) (hms : ALen ms ps.length) (hjn : tab[jn]? = some (x, .globalImplicit) := by rfl) (hn : (e :: es).length = ps.length := by rfl)
    (he : starEach (e :: es) X.env = (false, eval e X.env) :: starEach es X.env := by rfl) (hpl : (backTo pos (starEach es X.env)).any (·.1) = false := by rfl) : PE X (.Call (.Name x p) (e :: es) [] pos) (zE X.K (ca, E) (mCall (mFn mf) ms)) := zx_def B F hj ha hms (t.gl jn hjn) hn (t.d jn hjn) he hpl
theorem zx_def0T {j kk : Nat} {mf : FMir} (jn : Nat) (t : Tab X tab) (B : Exp X E kk) (F : DefOk X.prog X.w X.K X.mg X.base ca x [] mf j) (hj : j ≤ kk) (hjn : tab[jn]? = some (x, .globalImplicit) := by rfl) : PE X (.Call (.Name x p) [] [] pos) (zE X.K (ca, E) (mCall (mFn mf) mNil)) := zx_def0 B F hj (t.gl jn hjn) (t.d jn hjn)
theorem bb_int : bootBuiltins ("int" : PySem.Str) = some (.type "int") := by rfl
theorem bb_bool : bootBuiltins ("bool" : PySem.Str) = some (.type "bool") := by rfl
theorem bb_str : bootBuiltins ("str" : PySem.Str) = some (.type "str") := by rfl
theorem bb_list : bootBuiltins ("list" : PySem.Str) = some (.type "list") := by rfl
theorem bb_tuple : bootBuiltins ("tuple" : PySem.Str) = some (.type "tuple") := by rfl
theorem in_int : ("int" : String) ∈ ["bool", "int", "str", "list", "tuple"] := by decide
theorem in_bool : ("bool" : String) ∈ ["bool", "int", "str", "list", "tuple"] := by decide
theorem in_str : ("str" : String) ∈ ["bool", "int", "str", "list", "tuple"] := by decide
theorem in_list : ("list" : String) ∈ ["bool", "int", "str", "list", "tuple"] := by decide
theorem in_tuple : ("tuple" : String) ∈ ["bool", "int", "str", "list", "tuple"] := by decide
theorem zx_isiT {n : String} {p1 p2 : Pos} (j1 j2 : Nat) (t : Tab X tab) (hn : n ∈ ["bool", "int", "str", "list", "tuple"]) (hv2 : bootBuiltins x = some (.type n)) (hm : X.mg "isinstance" = none) (hm2 : X.mg x = none) (ha : PE X e (zE X.K W m)) (h1 : tab[j1]? = some (("isinstance" : PySem.Str), NameKind.globalImplicit) := by rfl) (h2 : tab[j2]? = some (x, .globalImplicit) := by rfl)
    (hst : starEach [e, Expr.Name x p1] X.env = (false, eval e X.env) :: starEach [Expr.Name x p1] X.env := by rfl) (hpl : (backTo pos (starEach [Expr.Name x p1] X.env)).any (·.1) = false := by rfl) : PE X (.Call (.Name "isinstance" p2) [e, .Name x p1] [] pos) (zE X.K W (mIsi n m)) :=
  zx_isi hn hm (t.gl j1 h1) (t.gl j2 h2) hm2 hv2 (t.n j2 h2) (t.d j2 h2) ha hst hpl
theorem zx_isi2T {n n' : String} {p1 p2 p3 p4 : Pos} {kt} (j1 j2 j3 : Nat) (t : Tab X tab) (hn : n ∈ ["bool", "int", "str", "list", "tuple"]) (hv2 : bootBuiltins x = some (.type n)) (hn' : n' ∈ ["bool", "int", "str", "list", "tuple"]) (hv3 : bootBuiltins y = some (.type n')) (hm : X.mg "isinstance" = none) (hm2 : X.mg x = none) (hm3 : X.mg y = none) (ha : PE X e (zE X.K W m))
    (h1 : tab[j1]? = some (("isinstance" : PySem.Str), NameKind.globalImplicit) := by rfl) (h2 : tab[j2]? = some (x, .globalImplicit) := by rfl) (h3 : tab[j3]? = some (y, .globalImplicit) := by rfl)
    (hst : starEach [e, Expr.Tuple [.Name x p1, .Name y p3] kt p4] X.env = (false, eval e X.env) :: starEach [Expr.Tuple [.Name x p1, .Name y p3] kt p4] X.env := by rfl) (hpl : (backTo pos (starEach [Expr.Tuple [.Name x p1, .Name y p3] kt p4] X.env)).any (·.1) = false := by rfl) :
    PE X (.Call (.Name "isinstance" p2) [e, .Tuple [.Name x p1, .Name y p3] kt p4] [] pos) (zE X.K W (mIsi2 n n' m)) :=
  zx_isi2 hn hn' hm (t.gl j1 h1) (t.gl j2 h2) hm2 hv2 (t.gl j3 h3) hm3 hv3 ha (t.n j2 h2) (t.d j2 h2) (t.n j3 h3) (t.d j3 h3) hst hpl
/-- the blocks -/
theorem zx_lcT (t : Tab X tab) (B : Exp X E kk) (hNN : X.N = N) (hb : blkT N tab scope own tab2 = true) (hi : PI X tg iter (zI true X.K (ca, E) mi)) (tk : TgtOk X.K t0 gt) (ht' : ∀ j ∈ t0.slots, j ∈ own.map (·.2))
    (hg : ∀ (s : Shared) (H : Hp) (C : Addr) (cl : List (PySem.Str × Addr)) (fp : List Addr), Tab (X.blk s H scope (compEnvC scope cl C X.env) fp) tab2 → PG (X.blk s H scope (compEnvC scope cl C X.env) fp) tg gt)
    (ht : ∀ (s : Shared) (H : Hp) (C : Addr) (cl : List (PySem.Str × Addr)) (fp : List Addr), Tab (X.blk s H scope (compEnvC scope cl C X.env) fp) tab2 → PTs (X.blk s H scope (compEnvC scope cl C X.env) fp) ifs (zB X.K (ca, E0) mt))
    (he : ∀ (s : Shared) (H : Hp) (C : Addr) (cl : List (PySem.Str × Addr)) (fp : List Addr), Tab (X.blk s H scope (compEnvC scope cl C X.env) fp) tab2 → PE (X.blk s H scope (compEnvC scope cl C X.env) fp) elt (zE X.K (ca, E0) me)) (hs : ∀ x, foldedSetIterable iter X.env x = pure x := by intro _; rfl) :
    PE X (.ListComp elt [⟨tg, iter, ifs, 0⟩] scope pos) (zE X.K (ca, E) (mLc mi (own.map (·.2)) t0 mt me)) :=
  have q := blkT_ok t hNN hb
  zx_lc B.calm B.nd hi q.1 tk ht' (fun s H C cl fp => hg s H C cl fp (tab_blk q.2 ..)) (fun s H C cl fp => ht s H C cl fp (tab_blk q.2 ..)) (fun s H C cl fp => he s H C cl fp (tab_blk q.2 ..)) hs
theorem zs_setLcT (i j : Nat) (t : Tab X tab) (B : Exp X E kk) (hNN : X.N = N) (hb : blkT N tab scope own tab2 = true) (hno : (scope.names.any fun (n, k) => n == y && (k == .local || k == .cell)) = false) (hi : PI X tg iter (zI true X.K (ca, E) mi)) (tk : TgtOk X.K t0 gt) (ht' : ∀ j ∈ t0.slots, j ∈ own.map (·.2))
    (hg : ∀ (s : Shared) (H : Hp) (C : Addr) (cl : List (PySem.Str × Addr)) (fp : List Addr), Tab (X.blk s H scope (compEnvC scope cl C X.env) fp) tab2 → PG (X.blk s H scope (compEnvC scope cl C X.env) fp) tg gt)
    (ht : ∀ (s : Shared) (H : Hp) (C : Addr) (cl : List (PySem.Str × Addr)) (fp : List Addr), Tab (X.blk s H scope (compEnvC scope cl C X.env) fp) tab2 → PTs (X.blk s H scope (compEnvC scope cl C X.env) fp) ifs (zB X.K (ca, E0) mt))
    (he : ∀ (s : Shared) (H : Hp) (C : Addr) (cl : List (PySem.Str × Addr)) (fp : List Addr), Tab (X.blk s H scope (compEnvC scope cl C X.env) fp) tab2 → PE (X.blk s H scope (compEnvC scope cl C X.env) fp) elt (zE X.K (ca, E0) me)) (hN : X.N[i]? = some y := by rfl) (hj : tab[j]? = some (y, .local) := by rfl) (hk : X.env.scope.kind = .function := by rfl) (hl : (py.line == pos.line) = true := by rfl)
    (hs : ∀ x, foldedSetIterable iter X.env x = pure x := by intro _; rfl) : PS X (.Assign [.Name y py] (.ListComp elt [⟨tg, iter, ifs, 0⟩] scope pos) spos) (zS X.K (ca, E) (sSet i (mLc mi (own.map (·.2)) t0 mt me))) :=
  have q := blkT_ok t hNN hb
  zs_setLc i B.calm B.nd hN (t.lcl j hj) (sw_true hk (t.lcl j hj) hl hno) hi q.1 tk ht' (fun s H C cl fp => hg s H C cl fp (tab_blk q.2 ..)) (fun s H C cl fp => ht s H C cl fp (tab_blk q.2 ..)) (fun s H C cl fp => he s H C cl fp (tab_blk q.2 ..)) hs
theorem zx_lc2T (t : Tab X tab) (B : Exp X E kk) (hNN : X.N = N) (hb : blkT N tab scope own tab2 = true) (hv : ∀ i ∈ vs1, i ∈ own.map (·.2)) (hi : PI X tg iter (zI true X.K (ca, E) mi)) (tk : TgtOk X.K t0 gt) (ht' : ∀ j ∈ t0.slots, j ∈ own.map (·.2)) (tk1 : TgtOk X.K t1 gt1) (ht1' : ∀ j ∈ t1.slots, j ∈ vs1)
    (hg : ∀ (s : Shared) (H : Hp) (C : Addr) (cl : List (PySem.Str × Addr)) (fp : List Addr), Tab (X.blk s H scope (compEnvC scope cl C X.env) fp) tab2 → PG (X.blk s H scope (compEnvC scope cl C X.env) fp) tg gt)
    (ht : ∀ (s : Shared) (H : Hp) (C : Addr) (cl : List (PySem.Str × Addr)) (fp : List Addr), Tab (X.blk s H scope (compEnvC scope cl C X.env) fp) tab2 → PTs (X.blk s H scope (compEnvC scope cl C X.env) fp) ifs (zB X.K (ca, E0) mt))
    (hi1 : ∀ (s : Shared) (H : Hp) (C : Addr) (cl : List (PySem.Str × Addr)) (fp : List Addr), Tab (X.blk s H scope (compEnvC scope cl C X.env) fp) tab2 → PI (X.blk s H scope (compEnvC scope cl C X.env) fp) tg1 iter1 (zI false X.K (ca, E0) mi1))
    (hg1 : ∀ (s : Shared) (H : Hp) (C : Addr) (cl : List (PySem.Str × Addr)) (fp : List Addr), Tab (X.blk s H scope (compEnvC scope cl C X.env) fp) tab2 → PG (X.blk s H scope (compEnvC scope cl C X.env) fp) tg1 gt1)
    (ht1 : ∀ (s : Shared) (H : Hp) (C : Addr) (cl : List (PySem.Str × Addr)) (fp : List Addr), Tab (X.blk s H scope (compEnvC scope cl C X.env) fp) tab2 → PTs (X.blk s H scope (compEnvC scope cl C X.env) fp) ifs1 (zB X.K (ca, E0) mt1))
    (he : ∀ (s : Shared) (H : Hp) (C : Addr) (cl : List (PySem.Str × Addr)) (fp : List Addr), Tab (X.blk s H scope (compEnvC scope cl C X.env) fp) tab2 → PE (X.blk s H scope (compEnvC scope cl C X.env) fp) elt (zE X.K (ca, E0) me)) (hs : ∀ x, foldedSetIterable iter X.env x = pure x := by intro _; rfl) (hs1 : ∀ env x, foldedSetIterable iter1 env x = pure x := by intro _ _; rfl) :
    PE X (.ListComp elt [⟨tg, iter, ifs, 0⟩, ⟨tg1, iter1, ifs1, 0⟩] scope pos) (zE X.K (ca, E) (mLc2 mi (own.map (·.2)) vs1 t0 mt mi1 t1 mt1 me)) :=
  have q := blkT_ok t hNN hb
  zx_lc2 B.calm B.nd hi q.1 hv tk ht' tk1 ht1' (fun s H C cl fp => hg s H C cl fp (tab_blk q.2 ..)) (fun s H C cl fp => ht s H C cl fp (tab_blk q.2 ..)) (fun s H C cl fp => hi1 s H C cl fp (tab_blk q.2 ..)) (fun s H C cl fp => hg1 s H C cl fp (tab_blk q.2 ..)) (fun s H C cl fp => ht1 s H C cl fp (tab_blk q.2 ..)) (fun s H C cl fp => he s H C cl fp (tab_blk q.2 ..)) hs hs1
theorem zs_setLc2T (i j : Nat) (t : Tab X tab) (B : Exp X E kk) (hNN : X.N = N) (hb : blkT N tab scope own tab2 = true) (hno : (scope.names.any fun (n, k) => n == y && (k == .local || k == .cell)) = false) (hv : ∀ i ∈ vs1, i ∈ own.map (·.2)) (hi : PI X tg iter (zI true X.K (ca, E) mi)) (tk : TgtOk X.K t0 gt) (ht' : ∀ j ∈ t0.slots, j ∈ own.map (·.2)) (tk1 : TgtOk X.K t1 gt1) (ht1' : ∀ j ∈ t1.slots, j ∈ vs1)
    (hg : ∀ (s : Shared) (H : Hp) (C : Addr) (cl : List (PySem.Str × Addr)) (fp : List Addr), Tab (X.blk s H scope (compEnvC scope cl C X.env) fp) tab2 → PG (X.blk s H scope (compEnvC scope cl C X.env) fp) tg gt)
    (ht : ∀ (s : Shared) (H : Hp) (C : Addr) (cl : List (PySem.Str × Addr)) (fp : List Addr), Tab (X.blk s H scope (compEnvC scope cl C X.env) fp) tab2 → PTs (X.blk s H scope (compEnvC scope cl C X.env) fp) ifs (zB X.K (ca, E0) mt))
    (hi1 : ∀ (s : Shared) (H : Hp) (C : Addr) (cl : List (PySem.Str × Addr)) (fp : List Addr), Tab (X.blk s H scope (compEnvC scope cl C X.env) fp) tab2 → PI (X.blk s H scope (compEnvC scope cl C X.env) fp) tg1 iter1 (zI false X.K (ca, E0) mi1))
    (hg1 : ∀ (s : Shared) (H : Hp) (C : Addr) (cl : List (PySem.Str × Addr)) (fp : List Addr), Tab (X.blk s H scope (compEnvC scope cl C X.env) fp) tab2 → PG (X.blk s H scope (compEnvC scope cl C X.env) fp) tg1 gt1)
    (ht1 : ∀ (s : Shared) (H : Hp) (C : Addr) (cl : List (PySem.Str × Addr)) (fp : List Addr), Tab (X.blk s H scope (compEnvC scope cl C X.env) fp) tab2 → PTs (X.blk s H scope (compEnvC scope cl C X.env) fp) ifs1 (zB X.K (ca, E0) mt1))
    (he : ∀ (s : Shared) (H : Hp) (C : Addr) (cl : List (PySem.Str × Addr)) (fp : List Addr), Tab (X.blk s H scope (compEnvC scope cl C X.env) fp) tab2 → PE (X.blk s H scope (compEnvC scope cl C X.env) fp) elt (zE X.K (ca, E0) me)) (hN : X.N[i]? = some y := by rfl) (hj : tab[j]? = some (y, .local) := by rfl) (hk : X.env.scope.kind = .function := by rfl) (hl : (py.line == pos.line) = true := by rfl)
    (hs : ∀ x, foldedSetIterable iter X.env x = pure x := by intro _; rfl) (hs1 : ∀ env x, foldedSetIterable iter1 env x = pure x := by intro _ _; rfl) : PS X (.Assign [.Name y py] (.ListComp elt [⟨tg, iter, ifs, 0⟩, ⟨tg1, iter1, ifs1, 0⟩] scope pos) spos) (zS X.K (ca, E) (sSet i (mLc2 mi (own.map (·.2)) vs1 t0 mt mi1 t1 mt1 me))) :=
  have q := blkT_ok t hNN hb
  zs_setLc2 i B.calm B.nd hN (t.lcl j hj) (sw_true hk (t.lcl j hj) hl hno) hi q.1 hv tk ht' tk1 ht1' (fun s H C cl fp => hg s H C cl fp (tab_blk q.2 ..)) (fun s H C cl fp => ht s H C cl fp (tab_blk q.2 ..)) (fun s H C cl fp => hi1 s H C cl fp (tab_blk q.2 ..)) (fun s H C cl fp => hg1 s H C cl fp (tab_blk q.2 ..)) (fun s H C cl fp => ht1 s H C cl fp (tab_blk q.2 ..)) (fun s H C cl fp => he s H C cl fp (tab_blk q.2 ..)) hs hs1
end
end Z
end
section
set_option linter.all false
set_option maxRecDepth 100000
set_option maxHeartbeats 1000000
/-! ZV: the pen. -/
namespace Z
open PySem PySem.Spec PyProof.Rows L2

inductive PK where
  | cells | at_ | digits | count | fold
def PK.str : PK → PySem.Str
  | .cells => "cells"
  | .at_ => "at"
  | .digits => "digits"
  | .count => "count"
  | .fold => "fold"
def PK.get (k : PK) (g : Pen) : D := match k with
  | .cells => .list (g.cells.map PyData.int)
  | .at_ => .int g.at_
  | .digits => .int g.digits
  | .count => .int g.count
  | .fold => .int g.fold
def PK.put (k : PK) (i : Int) (g : Pen) : Option Pen := match k with
  | .cells => none
  | .at_ => if (0 : Int) ≤ i then some { g with at_ := i.toNat } else none
  | .digits => some { g with digits := i }
  | .count => if (0 : Int) ≤ i then some { g with count := i.toNat } else none
  | .fold => some { g with fold := i }
def mPenGet (i : Nat) (k : PK) : Mir Sl := fun env g => match env[i]? with
  | some (some .pen) => .ok (.val (k.get g)) env g
  | _ => .bad
def penPut (i : Nat) (k : PK) (y : Sl) : Mir Ctl := fun env g => match env[i]?, y with
  | some (some .pen), .val (.int j) => (match k.put j g with
    | some g' => .ok .nx env g'
    | none => .bad)
  | _, _ => .bad
def sPenPut (i : Nat) (k : PK) (m : Mir Sl) : Mir Ctl := bnd m fun y env g => match env[i]? with
  | some (some Sl.pen) => penPut i k y env g
  | _ => .bad
section
variable {K : PySem.W.Frag} {E : Wx} {pa : Bs} {O : List Addr} {H : Hp} {σ : L2.St} {env : Env} {g g' : Pen} {ca : Addr}
def PK.val (k : PK) (g : Pen) (ca : Addr) : V := match k with
  | .cells => .ref ca
  | .at_ => .int g.at_
  | .digits => .int g.digits
  | .count => .int g.count
  | .fold => .int g.fold
theorem pk_get (k : PK) : valV (penK g ca) (.inr k.str) = some (k.val g ca) := by
  cases k <;> rfl
theorem reps_ints {F : Hp} : ∀ {is : List Int}, Reps K F (is.map PyData.int) (is.map V.int)
  | [] => by simp only [List.map_nil, Reps]
  | i :: is => by
    simp only [List.map_cons, Reps]
    exact ⟨_, _, rfl, by simp only [Rep], reps_ints⟩
theorem pk_put {k : PK} {g g' : Pen} {ca : Addr} {j : Int} (h : k.put j g = some g') : putK (penK g ca) (.inr k.str) (.int j) = penK g' ca ∧ g'.cells = g.cells := by
  cases k with
  | cells => cases h
  | at_ =>
    unfold PK.put at h
    simp only [] at h
    by_cases c : 0 ≤ j
    · rw [if_pos c] at h
      cases h
      refine ⟨?_, rfl⟩
      have e : ((j.toNat : Nat) : Int) = j := Int.toNat_of_nonneg c
      show putK (penK g ca) (.inr "at") (.int j) = [(.inr "cells", .ref ca), (.inr "at", .int (j.toNat : Nat)), (.inr "digits", .int g.digits), (.inr "count", .int g.count), (.inr "fold", .int g.fold)]
      rw [e]
      rfl
    · rw [if_neg c] at h; cases h
  | digits => cases h; exact ⟨rfl, rfl⟩
  | count =>
    unfold PK.put at h
    simp only [] at h
    by_cases c : 0 ≤ j
    · rw [if_pos c] at h
      cases h
      refine ⟨?_, rfl⟩
      have e : ((j.toNat : Nat) : Int) = j := Int.toNat_of_nonneg c
      show putK (penK g ca) (.inr "count") (.int j) = [(.inr "cells", .ref ca), (.inr "at", .int g.at_), (.inr "digits", .int g.digits), (.inr "count", .int (j.toNat : Nat)), (.inr "fold", .int g.fold)]
      rw [e]
      rfl
    · rw [if_neg c] at h; cases h
  | fold => cases h; exact ⟨rfl, rfl⟩
theorem mask_pen {o : HO} : mask pa O (upd H pa.a o) = mask pa O H := by
  funext a
  unfold mask
  by_cases c : a = pa.a ∨ a ∈ O
  · rw [if_pos c, if_pos c]
  · rw [if_neg c, if_neg c, upd_ne (fun z => c (.inl z))]
theorem Rel.penPut (R : Rel K pa O H σ env g) (hc : g'.cells = g.cells) : ∃ ca, H pa.a = some (.dK (penK g ca)) ∧ Same (mask pa O H) (mask pa O (upd H pa.a (.dK (penK g' ca)))) ∧ Rel K pa O (upd H pa.a (.dK (penK g' ca))) σ env g' := by
  obtain ⟨ca, h1, h2⟩ := R.pen
  have em := mask_pen (pa := pa) (O := O) (H := H) (o := .dK (penK g' ca))
  have s : Same (mask pa O H) (mask pa O (upd H pa.a (.dK (penK g' ca)))) := by rw [em]; exact Same.refl _
  have ne : ∀ a ∈ O, a ≠ pa.a := fun a ha z => R.nopa (by rw [← z]; exact ha)
  refine ⟨ca, h1, s, R.step s (fun a ha => ⟨ha, upd_ne (ne a ha)⟩) R.nopa (fun a ha => by rw [upd_ne (ne a ha)]; exact R.bas.dom a ha) ⟨ca, upd_same, ?_⟩⟩
  rw [em, hc]
  exact h2
end
section
variable {X : Cx} {W : Wx} {tab : List (PySem.Str × NameKind)} {x : PySem.Str} {k : NameKind} {pos p p2 pos' : Pos} {e : Expr} {m : Mir Sl} {kk j0 : Nat}
theorem rep_i {K : PySem.W.Frag} {pa : Bs} {O : List Addr} {H : Hp} {i : Int} : SlRep K pa O H (.val (.int i)) (.int i) := by show Rep K _ _ _; simp only [Rep]
theorem zx_penGet (key : PK) (i j : Nat) (t : Tab X tab) (B : Exp X W.2 kk) (hN : X.N[i]? = some x := by rfl) (hj : tab[j]? = some (x, k) := by rfl) (hk : visK k = true := by rfl) : PE X (.Subscript (.Name x p) (.Constant (.str key.str) j0 p2) pos) (zE X.K W (mPenGet i key)) :=
  pe_weak (pe_dget B.u1 (pe_var hN (t.vis j hj hk) (t.d j hj) (t.c j hj)) pe_str (by exact fun _ _ => rfl)) fun σ H Q ⟨pa, O, env, g, R, h⟩ => by
    unfold mPenGet at h
    split at h
    · rename_i e0
      obtain ⟨v, hv, r⟩ := R.slot i _ e0
      cases (show v = .ref pa.a from r)
      obtain ⟨ca, h1, h2⟩ := R.pen
      refine ⟨_, hv, pa.a, key.val g ca, rfl, ?_, ?_⟩
      · rw [← pk_get]
        exact DGet.k (k := .inr key.str) h1
      · refine h O H (Same.refl _) R _ (Out.plain ?_ rfl)
        cases key with
        | cells =>
          show Rep X.K _ (.list _) (.ref ca)
          simp only [Rep]
          exact ⟨ca, _, rfl, h2, reps_ints⟩
        | at_ => exact rep_i
        | digits => exact rep_i
        | count => exact rep_i
        | fold => exact rep_i
    · exact h.elim
theorem penPut_inv {i : Nat} {key : PK} {y : Sl} {env : Env} {g : Pen} {K : PySem.W.Frag} {pa : Bs} {O : List Addr} {H : Hp} {Dn : Ends} (h : PostC K pa O H W (penPut i key y env g) Dn) : ∃ j g', y = .val (.int j) ∧ key.put j g = some g' ∧ PostC K pa O H W (.ok .nx env g') Dn := by
  unfold penPut at h
  split at h
  · rename_i j e
    cases ep : key.put j g with
    | none => rw [ep] at h; exact h.elim
    | some g' => rw [ep] at h; exact ⟨j, g', rfl, ep, h⟩
  · exact h.elim
theorem zs_penPut (key : PK) (i j : Nat) (t : Tab X tab) (B : Exp X W.2 kk) (he : PE X e (zE X.K W m)) (hN : X.N[i]? = some x := by rfl) (hj : tab[j]? = some (x, k) := by rfl) (hk : visK k = true := by rfl) (hs : swapsWith e (some (.Subscript (.Name x p) (.Constant (.str key.str) j0 p2) pos')) pos.line X.env = pure false := by rfl) :
    PS X (.Assign [.Subscript (.Name x p) (.Constant (.str key.str) j0 p2) pos'] e pos) (zS X.K W (sPenPut i key m)) :=
  ps_weak (ps_dput B.u1 (pe_var hN (t.vis j hj hk) (t.d j hj) (t.c j hj)) pe_str he hs) fun Dn σ H ⟨pa, O, env, g, R, h⟩ => by
    refine ⟨pa, O, env, g, R, postC_bnd h fun y env1 g1 O1 H1 e1 s1 R1 q v o => ?_⟩
    split at q
    · rename_i e0
      obtain ⟨w, hv, r⟩ := R1.slot i _ e0
      cases (show w = .ref pa.a from r)
      obtain ⟨i2, g', rfl, ep, q⟩ := penPut_inv q
      have ov : Rep X.K (mask pa O1 H1) (.int i2) v := o.1
      simp only [Rep] at ov
      subst ov
      obtain ⟨ca, h1, s2, R2⟩ := R1.penPut (pk_put (ca := 0) ep).2
      refine ⟨_, hv, pa.a, _, rfl, DPut.k (k := .inr key.str) h1 (by show 5 < sizeLine; exact lt_line (by decide)), ?_⟩
      rw [(pk_put ep).1]
      exact q σ O1 _ s2 R2
    · exact q.elim
end
end Z
end
section
set_option linter.all false
set_option maxRecDepth 100000
set_option maxHeartbeats 1000000
/-! ZW: exceptions of own classes. -/
namespace Z
open PySem PySem.Spec PyProof.Rows L2
section
variable {X : Cx} {e : Expr} {es : List Expr} {ta : TA} {x : PySem.Str} {CE : Addr} {mc : Value} {p1 p2 pos : Pos}
/-- C.__init__(self, ..), C an own class that has ValueError's -/
theorem pe_ceinit {pl : Sem Bool} (hg : Gl X x) (hm : X.mg x = some (.ref CE)) (hsp : PySem.W.specialIn X.K (.ref CE) "__getattribute__" = some (some (.builtin "type.__getattribute__"))) (hr : PySem.W.readsIn X.K CE mc = true) (hf : PySem.W.findCls X.K (.ref CE) mc "__init__" = some (.val (.builtin "ValueError.__init__"))) (ha : PA X (e :: es) ta)
    (hc : eval (.Call (.Attribute (.Name x p1) "__init__" p2) (e :: es) [] pos) X.env = (do
      let ov ← eval (.Name x p1) X.env
      standAt p2.atName
      let (f, first) ← holding [ov] (getMethod ov "__init__" pl)
      callWith pos f first (backTo pos (starEach (e :: es) X.env)) (backToKw pos (keywordEach [] X.env))) := by rfl)
    (hdb : (x == ("__debug__" : PySem.Str)) = false := by decide) (he : starEach (e :: es) X.env = (false, eval e X.env) :: starEach es X.env := by rfl) (hpl : (backTo pos (starEach es X.env)).any (·.1) = false := by rfl) :
    PE X (.Call (.Attribute (.Name x p1) "__init__" p2) (e :: es) [] pos) (tVeI X.K ta) where
  run pins s σ H Q I h := by
    have body : ∀ s0 : Shared, Inv X pins σ H s0 → wpAny (model X.prog X.w) X.A (callWith pos (Value.builtin "ValueError.__init__") [] (backTo pos (starEach (e :: es) X.env)) []) (EP X pins σ Q) X.xe s0 := fun s0 I0 => by
      refine PyProof.Rows.callWith_method1 (wpAny_mono (ha.run pos pins s0 σ H _ I0 h) (fun us s1 got => ?_) fun _ _ z => z) he hpl
      obtain ⟨_, H1, I1, rel, a, C, ws, rfl, few, T, obj, q⟩ := got
      match us, rel with
      | u :: rest, .cons r0 rr =>
        rw [show u = Value.ref a from r0]
        have fits : rest.length ≤ sizeLine := Nat.le_trans (Nat.le_of_eq (Paired.length rr).symm) (Nat.le_trans few (by rw [sizeLine_eq]; decide))
        exact oinit_ok T I1 obj fits fun s2 I2 => ⟨V.non, H1, I2, rfl, q⟩
    exact PySem.W.methodCall_KW (ld_glob I hg hm (PySem.W.method_cls I.kIn hsp (PySem.W.cls_value I.kIn hr hf (by decide +kernel) (body _ (I.tok _)))) hdb) hc
end
/-- what an own __init__ does: the fields stored -/
def spInit (C : Addr) (fs : List PySem.Str) : Sp := fun vs H Q _ => ∃ (a : Addr) (ys : List V), vs = .ref a :: ys ∧ ys.length = fs.length ∧ H a = some (exo a C none) ∧
  ∀ dx H', H dx = none → dx ≠ a → (∀ b, b ≠ dx → b ≠ a → H' b = H b) → H' dx = some (exd dx (fs.zip ys).reverse) → H' a = some (exo a C (some dx)) → Q .non H'
/-- an own exception class of the program -/
structure ExcC (P : Program) (w : World) (K : PySem.W.Frag) (mg : PySem.Str → Option Value) (base : Heap) (C : Addr) (fs : List PySem.Str) : Prop where
  t : OexC K C
  init : ∃ fI fd, PySem.W.findIn K (.ref C) "__init__" = some (some (.ref fI)) ∧ PySem.W.typeIn K (.ref fI) = some (.type "function") ∧ FnOk P w K mg base (L2.CX P w) 1 fI fd ("self" :: fs) (spInit C fs) ∧ Binds K fd ("self" :: fs) []
structure ExcAt (P : Program) (w : World) (K : PySem.W.Frag) (mg : PySem.Str → Option Value) (base : Heap) (ca : PySem.Str → Addr) (x : PySem.Str) (fs : List PySem.Str) : Prop where
  c : ExcC P w K mg base (ca x) fs
  m : mg x = some (.ref (ca x))
/-- raise C(..) -/
def sRaise (nm : PySem.Str) (fs : List PySem.Str) (ms : Mir (List Sl)) : Mir Ctl := bnd ms fun l => match valsOf l with
  | some ds => if ds.length = fs.length then fun _ g => .exc ⟨nm, (fs.zip ds).reverse⟩ g else bad
  | none => bad
section
variable {X : Cx} {ca : PySem.Str → Addr} {E : XK} {e : Expr} {es : List Expr} {ms : Mir (List Sl)} {x : PySem.Str} {p pos pos2 : Pos} {fs : List PySem.Str} {k : Nat} {tab : List (PySem.Str × NameKind)}
theorem zip_fst : ∀ {fs : List PySem.Str} {ys : List V}, ys.length = fs.length → (fs.zip ys).map (·.1) = fs
  | [], [], _ => rfl
  | f :: fs, y :: ys, h => by
    simp only [List.zip_cons_cons, List.map_cons]
    rw [zip_fst (by simpa using h)]
theorem zip_fst' : ∀ {fs : List PySem.Str} {ys : List D}, ys.length = fs.length → (fs.zip ys).map (·.1) = fs
  | [], [], _ => rfl
  | f :: fs, y :: ys, h => by
    simp only [List.zip_cons_cons, List.map_cons]
    rw [zip_fst' (by simpa using h)]
theorem zip_snd : ∀ {fs : List PySem.Str} {ys : List V}, ys.length = fs.length → (fs.zip ys).map (·.2) = ys
  | [], [], _ => rfl
  | f :: fs, y :: ys, h => by
    simp only [List.zip_cons_cons, List.map_cons]
    rw [zip_snd (by simpa using h)]
theorem zip_snd' : ∀ {fs : List PySem.Str} {ys : List D}, ys.length = fs.length → (fs.zip ys).map (·.2) = ys
  | [], [], _ => rfl
  | f :: fs, y :: ys, h => by
    simp only [List.zip_cons_cons, List.map_cons]
    rw [zip_snd' (by simpa using h)]
theorem Reps.reverse {K : PySem.W.Frag} {F : Hp} : ∀ {ds : List D} {vs : List V}, Reps K F ds vs → Reps K F ds.reverse vs.reverse
  | [], vs, h => by
    simp only [Reps] at h
    subst h
    simp only [List.reverse_nil, Reps]
  | d :: ds, vs, h => by
    simp only [Reps] at h
    obtain ⟨v, r, rfl, h1, h2⟩ := h
    rw [List.reverse_cons, List.reverse_cons]
    exact (Reps.reverse h2).append (by simp only [Reps]; exact ⟨_, _, rfl, h1, rfl⟩)
theorem zs_raise (jn : Nat) (t : Tab X tab) (B : Exp X E k) (hk : 2 ≤ k) (tk : Takes X (fun cls d _ H => E cls d H)) (C : ExcC X.prog X.w X.K X.mg X.base (ca x) fs) (hm : X.mg x = some (.ref (ca x))) (ha : PA X (e :: es) (zA X.K (ca, E) ms)) (hjn : tab[jn]? = some (x, .globalImplicit) := by rfl)
    (hfs : fs.length ≤ 900 := by decide) (he : starEach (e :: es) X.env = (false, eval e X.env) :: starEach es X.env := by rfl) (hpl : (backTo pos (starEach es X.env)).any (·.1) = false := by rfl) :
    PS X (.Raise (some (.Call (.Name x p) (e :: es) [] pos)) none pos2) (zS X.K (ca, E) (sRaise x fs ms)) := by
  obtain ⟨fI, fd, h1, h2, F, hb⟩ := C.init
  refine ps_weak (ps_raise B.calm tk (pmk_oex C.t h1 h2 F (B.room.mono hk) hb .nil passL (t.gl jn hjn) hm ha (t.d jn hjn) he hpl)) fun Dn σ H ⟨pa, O, env, g, R, h⟩ => ?_
  refine ⟨pa, O, env, g, R, postC_bnd h fun l env1 g1 O1 H1 e1 s1 R1 q vs hvs => ?_⟩
  cases hv : valsOf l with
  | none => simp only [hv] at q; exact q.elim
  | some ds =>
    simp only [hv] at q
    by_cases hl : ds.length = fs.length
    · rw [if_pos hl] at q
      have hr := hvs.vals hv
      have hvl : vs.length = fs.length := by rw [← hr.length]; exact hl
      refine ⟨by omega, fun a ha => ⟨a, vs, by rw [List.append_nil], hvl, upd_same, fun dx H' hd hne hk1 hk2 hk3 => ⟨rfl, dx, (fs.zip vs).reverse, hk3, hk2, ?_, ?_⟩⟩⟩
      · rw [upd_ne hne] at hd; exact hd
      · have hd1 : H1 dx = none := by rw [upd_ne hne] at hd; exact hd
        have hkeep : ∀ b, b ≠ dx → (upd (del H' a) dx (.xd (fs.zip vs).reverse)) b = H1 b := fun b hbx => by
          rw [upd_ne hbx]
          by_cases hba : b = a
          · rw [hba, del_same, ha]
          · rw [del_ne hba, hk1 b hbx hba, upd_ne hba]
        have hdO : ∀ b ∈ O1, b ≠ dx := fun b hb => isSome_ne (R1.dom b hb) hd1
        have hidO : ∀ b ∈ pa.hid, b ∈ O1 := fun b hb => (R1.bas.hid b hb).1
        have sm : Same (mask pa O1 H1) (mask pa pa.hid (upd (del H' a) dx (.xd (fs.zip vs).reverse))) := fun b u eb => by
          obtain ⟨m1, m2, m3⟩ := mask_some eb
          refine mask_of m1 (fun z => m2 (hidO b z)) ?_
          rw [hkeep b (fun z => by rw [z, hd1] at m3; cases m3)]
          exact m3
        have npx : pa.a ≠ dx := isSome_ne R1.paS hd1
        refine q _ _ _ sm ⟨fun z => R1.nopa (hidO _ z), fun b hb => ?_, fun b hb => ⟨hb, ?_⟩, R1.pen.mono sm (hkeep _ npx)⟩ ⟨rfl, dx, _, rfl, upd_same, ?_, ?_⟩
        · rw [hkeep b (hdO b (hidO b hb))]
          exact R1.bas.dom b (hidO b hb)
        · rw [hkeep b (hdO b (hidO b hb))]
          exact (R1.bas.hid b hb).2
        · rw [List.map_reverse, List.map_reverse, zip_fst hvl, zip_fst' hl]
        · rw [List.map_reverse, List.map_reverse, zip_snd hvl, zip_snd' hl]
          exact (hr.mono sm).reverse
    · rw [if_neg hl] at q; exact q.elim
end
end Z
end
section
set_option linter.all false
set_option maxRecDepth 100000
set_option maxHeartbeats 1000000
/-! ZX: the __init__ of own exceptions. -/
namespace Z
open PySem PySem.Spec PyProof.Rows L2
/-- the base class whose __init__ is ValueError's -/
structure BaseX (K : PySem.W.Frag) (mg : PySem.Str → Option Value) (x : PySem.Str) (CE : Addr) : Prop where
  at_ : mg x = some (.ref CE)
  sp : PySem.W.specialIn K (.ref CE) "__getattribute__" = some (some (.builtin "type.__getattribute__"))
  rd : PySem.W.readsIn K CE (.type "type") = true
  ini : PySem.W.findCls K (.ref CE) (.type "type") "__init__" = some (.val (.builtin "ValueError.__init__"))
section
variable {P : Program} {w : World} {K : PySem.W.Frag} {mg : PySem.Str → Option Value} {base : Heap} {f CE C : Addr} {fd : FuncData} {qual xb f1 f2 msg : PySem.Str} {st : Stmt}
theorem init_one (D : FunD K "__init__" qual (defArgs st) (defBody st) (defScope st) [] [] f fd) (S : FnScope ["self", f1] ["self", f1] (defScope st)) (Bx : BaseX K mg xb CE) (T : OexC K C) (h1 : PySem.W.findIn K (.ref C) f1 = some none)
    (hb : ∀ (cd : Value) (A : Around) (outer : List PySem.Env) (s : Shared) (H : Hp) (E : XK), PSs (cxOf (L2.CX P w) P w K mg base ["self", f1] qual (defScope st) f cd A outer s H E) (defBody st)
      (fun Dn σ H => tVeI K (tCons (tVar 0) (tCons (tC (.str msg)) tNil)) σ H fun _ H1 => tOst K f1 (tVar 0) (tVar 1) Dn σ H1)) : FnOk P w K mg base (L2.CX P w) 1 f fd ["self", f1] (spInit C [f1]) := by
  refine D.ok S (fun vs H Q E h => ?_) (fun cdv A outer s H vs Q E hr h => ⟨_, hb cdv A outer s H E, ?_⟩)
  · obtain ⟨a, ys, rfl, hl, _⟩ := h
    simp only [List.length_cons, hl]
  · obtain ⟨a, ys, rfl, hl, ha, q⟩ := h
    match ys, hl, q with
    | [y], _, q =>
      refine ⟨.ref a, rfl, a, C, [.str msg], rfl, by show 1 ≤ 1000; decide, T, ha, y, rfl, .ref a, rfl, a, C, rfl, T, h1, .inl ⟨ha, fun dx hd hne => ?_⟩⟩
      refine q dx _ hd hne (fun b h1 h2 => by rw [upd_ne h2, upd_ne h1]) (by rw [upd_ne hne, upd_same]; rfl) upd_same
theorem init_two (D : FunD K "__init__" qual (defArgs st) (defBody st) (defScope st) [] [] f fd) (S : FnScope ["self", f1, f2] ["self", f1, f2] (defScope st)) (Bx : BaseX K mg xb CE) (T : OexC K C) (h1 : PySem.W.findIn K (.ref C) f1 = some none) (h2 : PySem.W.findIn K (.ref C) f2 = some none)
    (hb : ∀ (cd : Value) (A : Around) (outer : List PySem.Env) (s : Shared) (H : Hp) (E : XK), PSs (cxOf (L2.CX P w) P w K mg base ["self", f1, f2] qual (defScope st) f cd A outer s H E) (defBody st)
      (fun Dn σ H => tVeI K (tCons (tVar 0) (tCons (tC (.str msg)) tNil)) σ H fun _ H1 => tOst K f1 (tVar 0) (tVar 1) { Dn with nx := fun σ H2 => tOst K f2 (tVar 0) (tVar 2) Dn σ H2 } σ H1)) : FnOk P w K mg base (L2.CX P w) 1 f fd ["self", f1, f2] (spInit C [f1, f2]) := by
  refine D.ok S (fun vs H Q E h => ?_) (fun cdv A outer s H vs Q E hr h => ⟨_, hb cdv A outer s H E, ?_⟩)
  · obtain ⟨a, ys, rfl, hl, _⟩ := h
    simp only [List.length_cons, hl]
  · obtain ⟨a, ys, rfl, hl, ha, q⟩ := h
    match ys, hl, q with
    | [y, z], _, q =>
      refine ⟨.ref a, rfl, a, C, [.str msg], rfl, by show 1 ≤ 1000; decide, T, ha, y, rfl, .ref a, rfl, a, C, rfl, T, h1, .inl ⟨ha, fun dx hd hne => ?_⟩⟩
      refine ⟨z, rfl, .ref a, rfl, a, C, rfl, T, h2, .inr ⟨dx, [(f1, y)], upd_same, by rw [upd_ne hne, upd_same], by show 1 ≤ 900; decide, ?_⟩⟩
      refine q dx _ hd hne (fun b h1 h2 => by rw [upd_ne h1, upd_ne h2, upd_ne h1]) upd_same (by rw [upd_ne hne.symm, upd_same])
end
end Z
end
section
set_option linter.all false
set_option maxRecDepth 100000
set_option maxHeartbeats 2000000
/-! ZY: lambdas without parameters, kept in lists, called later. -/
namespace Z
open PySem PySem.Spec PyProof.Rows L2 LamX NdefX

theorem lamO_at {P : Program} {w : World} {H : Hp} {h : Heap} {f : Addr} {F : LO} (hok : HOk P w H h) (e : H f = some (LamO f F)) : ∃ pm ctv, h.get? f = some (F.obj pm ctv) := by
  obtain ⟨z, _, _⟩ := hok f _ e
  exact z
section
variable {X : Cx} {pins : List (Addr × Obj)} {σ : L2.St} {H : Hp} {s : Shared}
/-- a function object put at the heap's end is known as the lambda that it is -/
theorem inv_lam {F : LO} {h' : Heap} {t' : Nat} {pm ctv : Value} (I : Inv X pins σ H { s with heap := h', toks := t' }) :
    Inv X pins σ (upd H h'.objs.size (LamO h'.objs.size F)) { s with heap := h'.push (F.obj pm ctv), toks := t' } := by
  have at_ : (h'.push (F.obj pm ctv)).get? h'.objs.size = some (F.obj pm ctv) := Heap.get?_push_size h' rfl
  have stays : ∀ g1 g2 : Heap, (∃ p t, g1.get? h'.objs.size = some (F.obj p t)) → (∀ o, g1.get? h'.objs.size = some o → g2.get? h'.objs.size = some o) → ∃ p t, g2.get? h'.objs.size = some (F.obj p t) := fun g1 g2 ⟨p, t, e⟩ k => ⟨p, t, k _ e⟩
  exact I.laid (t' := t') (fun _ _ e => Heap.get?_push_of_some _ e) (Nat.le_refl _) ⟨⟨pm, ctv, at_⟩, ⟨_, at_⟩, stays⟩
/-- a table of code objects with one more -/
theorem tab_more {H1 : Hp} {P c' : Addr} {q : PySem.Str} {ps : Array Value} {pos : Pos} (hP : H P = some (.tbl ps)) (ht : TriplesOk ps.toList) (ha : ∀ p cv, codeAmong p ps.toList = some cv → ∃ c, cv = .ref c ∧ H c = some (CodeO c q))
    (hP1 : H1 P = some (.tbl (ps ++ #[rawInt pos.line, rawInt pos.col, .ref c']))) (hc1 : H1 c' = some (CodeO c' q)) (k : ∀ b o, b ≠ P → H b = some o → H1 b = some o) : TabS H1 P q := by
  have rows : (ps ++ #[rawInt pos.line, rawInt pos.col, .ref c']).toList = ps.toList ++ [rawInt pos.line, rawInt pos.col, .ref c'] := Array.toList_append
  refine ⟨_, hP1, by rw [rows]; exact PySem.TriplesOk_snoc _ _ _ _ ht, fun p cv hcv => ?_⟩
  rw [rows] at hcv
  cases among_app _ ht hcv with
  | inr new => exact ⟨c', new, hc1⟩
  | inl old =>
    obtain ⟨c0, e, at0⟩ := ha p cv old
    have apart : c0 ≠ P := fun z => codeO_ne (c := c0) (q := q) ps (Option.some.inj (at0.symm.trans (z ▸ hP)))
    exact ⟨c0, e, k c0 _ apart at0⟩
/-- a lambda is made and known from now on -/
theorem lam_makeT {c P : Addr} {q : PySem.Str} {params : Arguments} {body : Expr} {scope : Scope} {pos : Pos} {E : Value → Shared → Prop} {Q : Value → Shared → Prop} (I : Inv X pins σ H s) (TB : TabB X.base X.mg c P) (hcode : X.env.code = .ref c)
    (hq : q = X.env.qual ++ "<lambda>") (hT : TabS H P q) (hdef : defaultsOf params X.env = ([], [])) (hfree : ∀ y ∈ scope.names, y.2 = .free → ∃ c, X.env.cells.lookup y.1 = some c)
    (h : ∀ (f c' : Addr) (H1 : Hp) (s' : Shared), Inv X pins σ H1 s' → (∀ b o, b ≠ P → H b = some o → H1 b = some o) → TabS H1 P q → H f = none → H1 f = some (LamO f ⟨q, params, body, scope, cloFrom X.env.cells scope.names [], c'⟩) → H1 c' = some (CodeO c' q) → Q (.ref f) s') :
    wpAny (model X.prog X.w) X.A (eval (.Lambda params body scope pos) X.env) Q E s := by
  subst hq
  have whole := hT
  obtain ⟨ps, hP, ht, ha⟩ := hT
  have tblP := I.hok P _ hP
  have glob := I.mod.glob.keeps I.bk
  have code := TB.code.keeps I.bk
  have bltP := TB.bm.keeps I.bk
  have shut := closure_ok hfree
  let L : Addr → LO := fun c' => ⟨X.env.qual ++ "<lambda>", params, body, scope, cloFrom X.env.cells scope.names [], c'⟩
  -- the end, alike in both cases: the function object beside what is there
  have fin : ∀ (c' : Addr) (H1 : Hp) (h' : Heap) (tk : Nat) (pm ctv : Value), Inv X pins σ H1 { s with heap := h', toks := tk } → H h'.objs.size = none → H1 h'.objs.size = none → (∀ b o, b ≠ P → H b = some o → H1 b = some o) → TabS H1 P (X.env.qual ++ "<lambda>") → H1 c' = some (CodeO c' (X.env.qual ++ "<lambda>")) →
      Q (.ref h'.objs.size) { s with heap := h'.push ((L c').obj pm ctv), toks := tk } := fun c' H1 h' tk pm ctv I1 n0 n1 k T hc => by
    have over : ∀ b o, H1 b = some o → upd H1 h'.objs.size (LamO h'.objs.size (L c')) b = some o := fun b o e => (upd_ne (ne_of_none e n1)).trans e
    exact h h'.objs.size c' _ _ (inv_lam (F := L c') I1) (fun b o hb e => over b o (k b o hb e)) (T.ext over) n0 upd_same (over _ _ hc)
  refine PySem.W.kla_eval hdef ?_
  cases hc : codeAmong pos ps.toList with
  | some cv =>
    obtain ⟨c', rfl, at'⟩ := ha pos cv hc
    refine PySem.W.kla_makeFunctionHit shut I.ok.glob glob hcode code tblP ht hc bltP fun ctv h' tk grow size => ?_
    have n0 : H h'.objs.size = none := I.hok.fresh size
    exact fin c' H h' tk _ ctv (I.kept fun b o e => grow b o e) n0 n0 (fun _ _ _ e => e) whole at'
  | none =>
    refine PySem.W.kla_makeFunction shut I.ok.glob glob hcode code tblP ht hc TB.gP bltP fun c' ctv h' tk grow low below rec_ tab' => ?_
    obtain ⟨c2, oc, vs, t, e2, atc, dc, vc⟩ := rec_
    obtain rfl : c' = c2 := by injection e2
    have nc : H c' = none := I.hok.fresh low
    have n0 : H h'.objs.size = none := I.hok.fresh (Nat.le_trans low (Nat.le_of_lt below))
    have Pc : P ≠ c' := ne_of_none hP nc
    have Pf : h'.objs.size ≠ P := fun e => by rw [e, hP] at n0; cases n0
    have k : ∀ b o, b ≠ P → H b = some o → upd (upd H P (.tbl (ps ++ #[rawInt pos.line, rawInt pos.col, .ref c']))) c' (CodeO c' (X.env.qual ++ "<lambda>")) b = some o := fun b o hb e => (upd_ne (ne_of_none e nc)).trans ((upd_ne hb).trans e)
    have n1 : upd (upd H P (.tbl (ps ++ #[rawInt pos.line, rawInt pos.col, .ref c']))) c' (CodeO c' (X.env.qual ++ "<lambda>")) h'.objs.size = none := (upd_ne (Nat.ne_of_gt below)).trans ((upd_ne Pf).trans n0)
    have T : TabS (upd (upd H P (.tbl (ps ++ #[rawInt pos.line, rawInt pos.col, .ref c']))) c' (CodeO c' (X.env.qual ++ "<lambda>"))) P (X.env.qual ++ "<lambda>") := tab_more hP ht ha ((upd_ne Pc).trans upd_same) upd_same k
    exact fin c' _ h' tk _ ctv (inv_table I hP (fun b o hb e => grow b o hb e) tab' low ⟨oc, vs, t, atc, dc, vc⟩) n0 n1 k T upd_same
/-- a lambda as an expression -/
def tLamT (P : Addr) (q : PySem.Str) (F : Addr → LO) : TE := fun σ H Q => TabS H P q ∧ ∀ (f c' : Addr) (H1 : Hp), (∀ b o, b ≠ P → H b = some o → H1 b = some o) → TabS H1 P q → H f = none → H1 f = some (LamO f (F c')) → H1 c' = some (CodeO c' q) → Q (.ref f) H1
theorem pe_lamT {c P : Addr} {q : PySem.Str} {params : Arguments} {body : Expr} {scope : Scope} {pos : Pos} (TB : TabB X.base X.mg c P) (hcode : X.env.code = .ref c) (hq : q = X.env.qual ++ "<lambda>") (L : LamS X.env.scope scope) (hdef : defaultsOf params X.env = ([], [])) :
    PE X (.Lambda params body scope pos) (tLamT P q fun c' => ⟨q, params, body, scope, cloFrom X.env.cells scope.names [], c'⟩) := ⟨fun pins s σ H Q I h =>
  lam_makeT I TB hcode hq h.1 hdef (L.has I.ok) fun f c' H1 s' I1 k T1 nf hf hc => ⟨.ref f, H1, I1, rfl, h.2 f c' H1 k T1 nf hf hc⟩⟩

/-! ### such a lambda called -/
abbrev LO.nf (F : LO) : NF := ⟨"<lambda>", F.qual, F.params, [], F.scope, F.cl, F.c⟩
/-- cells that stay what they are hold what they held -/
theorem cells_moved {cl : List (PySem.Str × Addr)} {fr : List PySem.Str} {ws : List (Option V)} {h h' : Heap} {H1 H2 : Hp} (C : CellsAt cl fr ws h H1) (k : ∀ y c v, cl.lookup y = some c → H1 c = none → h.IsCell c v → H2 c = none ∧ h'.IsCell c v) : CellsAt cl fr ws h' H2 where
  len := C.len
  inj := C.inj
  all := fun y c e => by
    obtain ⟨n, v, z⟩ := C.all y c e
    exact ⟨(k y c v e n z).1, v, (k y c v e n z).2⟩
  has := fun i y e => by
    obtain ⟨c, hc, hv⟩ := C.has i y e
    refine ⟨c, hc, fun v ev => ?_⟩
    obtain ⟨u, r, z⟩ := hv v ev
    exact ⟨u, r, (k y c _ hc (C.all y c hc).1 z).2⟩
/-- what captured cells held when the frame began they hold still -/
theorem cells_later {cl : List (PySem.Str × Addr)} {fr : List PySem.Str} {ws : List (Option V)} (C : CellsAt cl fr ws X.s_0.heap X.H_0) (hx : ∀ y c, cl.lookup y = some c → c ∉ X.ex) (I : Inv X pins σ H s) : CellsAt cl fr ws s.heap H :=
  cells_moved C fun y c v e n ⟨o, ho, hd⟩ => by
    have q := I.base.any ho n (hx y c e)
    exact ⟨I.base.free c o ho n (hx y c e), q.elim fun sl z => ⟨_, z, hd⟩⟩
/-- the lambda's promise: what its body's reading gives -/
theorem run_lam {P : Program} {w : World} {K : PySem.W.Frag} {mg : PySem.Str → Option Value} {base : Heap} {A : Around} {outer : List PySem.Env} {s : Shared} {H : Hp} {f : Addr} {F : LO} {fr : List PySem.Str} {ws : List (Option V)} {Q : VK} {E : XK} {k : Nat} {t : TE} (S : NScope fr [] fr F.scope)
    (hb : ∀ pm ctv, bindArgs (PySem.W.kla_fn "<lambda>" F.qual F.params F.body F.scope F.cl pm (.ref F.c) ctv) ⟨[], []⟩ = pure []) (hr : Room (k + 1) A) (e0 : Env0 P w K mg base A outer s H) (hf : H f = some (LamO f F)) (hc : H F.c = some (CodeO F.c F.qual)) (C : CellsAt F.cl fr ws s.heap H)
    (hbody : Room k (A.deeper (envF F.nf f s.heap.objs.size)) → PE (ncx (L2.CX P w) P w K mg base fr F.nf f A outer s H E) F.body t) (ht : t (startF fr [] ws) H Q) :
    codeAny (model P w) A (.call (.ref f) ⟨[], []⟩) (CR (L2.CX P w) outer P w H s Q E) s := by
  obtain ⟨pm, ctv, at_⟩ := lamO_at e0.hok hf
  have free := e0.mod.nolimit.keeps fun b o e => (e0.bs b o e).1
  refine PySem.W.kla_callFunE hr.depth at_ rfl S.co S.gen rfl (codeO_at e0.hok hc) (?_ : wpAny _ _ (bindArgs _ _) _ _ _)
  rw [hb pm ctv]
  refine wpAny_pure (wpAny_newFunctionEnv S.nocell (fun _ z => absurd z List.not_mem_nil) (fun h1 ns same => ?_) S.kind)
  have grown : ∀ b o, s.heap.get? b = some o → h1.get? b = some o := fun b o e => same.extBut b o (Nat.ne_of_lt (Heap.lt_size e)) (Heap.get?_push_of_some _ e)
  have I0 : Inv (ncx (L2.CX P w) P w K mg base fr F.nf f A outer s H E) [] (startF fr [] ws) H { s with heap := h1, toks := s.toks + (([] : List PySem.Str).zip ([] : List Value)).length } := inv_startN (ps := []) (us := []) S hr.hd e0 rfl .nil C ns grown
  have run := (hbody (hr.deeper _)).run [] _ (startF fr [] ws) H Q I0 ht
  refine ⟨free.fresh _ same, PySem.W.kla_codeExpr (wpAny_mono run ?_ fun _ _ z => z)⟩
  rintro v s2 ⟨x, H2, J, rx, q⟩
  exact ⟨x, H2, J.os, J.bare, J.base, J.hok, rx, q⟩
end
end Z
end
section
set_option linter.all false
set_option maxRecDepth 100000
set_option maxHeartbeats 2000000
/-! ZZ: the rule wanted for several clauses that name the exception; a lambda called. -/
namespace Z
open PySem PySem.Spec PyProof.Rows L2 LamX NdefX

/-- the slot of the name is emptied at a suite's end -/
def endsOff (i : Nat) (D : Ends) : Ends := { nx := fun σ' H' => D.nx (σ'.set i none) H', rt := D.rt, bk := fun σ' H' => D.bk (σ'.set i none) H', ct := fun σ' H' => D.ct (σ'.set i none) H' }
abbrev SuiteR := Addr → Value → Option Addr → TS
def wClauses (K : PySem.W.Frag) (i : Nat) (Wout : WX) (D : Ends) : List (Value × SuiteR) → WX
  | [] => Wout
  | q :: r => fun cls d σ H => ∃ b, PySem.W.exmOne K cls q.1 = some b ∧ (b = true → ∀ a, H a = none → q.2 a cls d (endsOff i D) (σ.set i (some (.ref a))) H) ∧ (b = false → wClauses K i Wout D r cls d σ H)
inductive Clauses (X : Cx) (n : PySem.Str) : List ExceptHandler → List (Value × SuiteR) → Prop
  | nil : Clauses X n [] []
  | cons {x : PySem.Str} {c : Value} {ts : SuiteR} {st : Stmt} {suite : List Stmt} {np pos' : Pos} {hds : List ExceptHandler} {l : List (Value × SuiteR)} (hc : Names X x c)
      (hsu : ∀ (a : Addr) (oe : Obj) (cls : Value) (d : Option Addr) (pn : List (Addr × Obj)), Zc cls d oe → (∃ vs, oe.data = .fields vs) → PSs (X.suite a ((a, oe) :: pn)) (st :: suite) (ts a cls d)) (r : Clauses X n hds l) :
      Clauses X n (.ExceptHandler (some (.Name x np)) (some n) (st :: suite) pos' :: hds) ((c, ts) :: l)
/-- WANTED, not proved: several clauses with a name. To be had by import, or by a proof of one's own. -/
def ClausesRule (X : Cx) : Prop := ∀ (body : List Stmt) (n : PySem.Str) (i : Nat) (hd : ExceptHandler) (hds : List ExceptHandler) (l : List (Value × SuiteR)) (pos : Pos) (tb : WX → TS) (Wout : WX), X.N.Nodup → X.N[i]? = some n → X.env.kindOf n = some .local → Takes X Wout →
  (∀ (W : WX) (pn : List (Addr × Obj)) (xe : Value → Shared → Prop), Takes (X.tr pn xe) W → PassesOwn (model X.prog X.w) X.A X.env xe → PSs (X.tr pn xe) body (tb W)) → Clauses X n (hd :: hds) l →
  PS X (.Try body (hd :: hds) [] [] pos) (fun D σ H => tb (wClauses X.K i Wout D l) D σ H)
/-! ### a name that holds a lambda, called -/
def tWork (F : LO) (f : Addr) (i : Nat) (fr : List PySem.Str) (ws : List (Option V)) (E : L2.St → XK) (t : XK → TE) : TE := fun σ H Q => σ[i]? = some (some (.ref f)) ∧ H f = some (LamO f F) ∧ H F.c = some (CodeO F.c F.qual) ∧ t (E σ) (startF fr [] ws) H Q
theorem pe_work {Y : Cx} {F : LO} {f : Addr} {i k : Nat} {fr : List PySem.Str} {ws : List (Option V)} {x : PySem.Str} {E : L2.St → XK} {t : XK → TE} {p pos : Pos} (S : NScope fr [] fr F.scope) (hb : ∀ pm ctv, bindArgs (PySem.W.kla_fn "<lambda>" F.qual F.params F.body F.scope F.cl pm (.ref F.c) ctv) ⟨[], []⟩ = pure [])
    (hx : ∀ σ, PassesAt (L2.CX Y.prog Y.w) Y σ (E σ)) (hr : Room (k + 1) Y.A) (C0 : CellsAt F.cl fr ws Y.s_0.heap Y.H_0) (hex : ∀ y c, F.cl.lookup y = some c → c ∉ Y.ex)
    (hbody : ∀ (A : Around) (outer : List PySem.Env) (s : Shared) (H : Hp) (E' : XK), Room k (A.deeper (envF F.nf f s.heap.objs.size)) → A.guards = Y.A.guards → PE (ncx (L2.CX Y.prog Y.w) Y.prog Y.w Y.K Y.mg Y.base fr F.nf f A outer s H E') F.body (t E'))
    (hN : Y.N[i]? = some x) (hv : Vis Y.env.scope x) (hd : (x == ("__debug__" : PySem.Str)) = false := by decide) (hcd : (x == ("__classdict__" : PySem.Str)) = false := by decide) :
    PE Y (.Call (.Name x p) [] [] pos) (tWork F f i fr ws E t) where
  run pins s σ H Q I h := by
    obtain ⟨slot, at_, code, post⟩ := h
    have name := (pe_var (pos := p) hN hv hd hcd).run pins s σ H (fun v H1 => v = .ref f ∧ H1 = H) I ⟨.ref f, slot, rfl, rfl⟩
    refine wpAny_Call_Name_kw (wpAny_mono name (fun u s1 got => ?_) fun _ _ z => z)
    obtain ⟨_, H1, I1, rel, rfl, rfl⟩ := got
    rw [show u = Value.ref f from rel]
    obtain ⟨pm, ctv, obj⟩ := lamO_at I1.hok at_
    have call := run_lam (E := E σ) S hb hr I1.env0 at_ code (cells_later C0 hex I1) (fun room => hbody _ _ _ _ _ room rfl) post
    exact PySem.W.callWith_F0 ⟨_, _, _, _, obj⟩ (wpAny_call (codeAny_mono call (called_back (hx σ) I1)))
end Z
end
section
set_option linter.all false
set_option maxRecDepth 100000
set_option maxHeartbeats 2000000
/-! ZZC: the wanted rule for several clauses that name the exception, proved from the rules for one handler (PX). -/
namespace Z
open PySem PySem.Spec PyProof.Rows L2

/-- An exception at `a` that looks for its clause. `sI` is the state that the body left behind, `s` the one of now. -/
structure Aloft (X : Cx) (B : Heap) (a : Addr) (cls : Value) (d : Option Addr) (pins : List (Addr × Obj)) (σ : L2.St) (H : Hp) (sI s : Shared) : Prop where
  left : L2.Inv X pins σ H sI
  floor : ∀ b o, sI.heap.get? b = some o → b ∉ frs X.stack → B.get? b = some o
  grown : sI.heap.UpToSlots s.heap
  flies : HandSPX.FlyingZ B X.stack a (Zc cls d) s.heap
  unowned : H a = none
  sameOs : s.os = sI.os
  noGens : AllBare s.gens

namespace Aloft
variable {X : Cx} {B : Heap} {a : Addr} {cls : Value} {d : Option Addr} {pins : List (Addr × Obj)} {σ : L2.St} {H : Hp} {sI s : Shared}
theorem now (T : Aloft X B a cls d pins σ H sI s) : L2.Inv X pins σ H s := T.left.landed T.floor T.flies.1 T.grown T.sameOs T.noGens
theorem shifted (T : Aloft X B a cls d pins σ H sI s) {h' : Heap} (hf : HandSPX.FlyingZ B X.stack a (Zc cls d) h') (hu : s.heap.UpToSlots h') : Aloft X B a cls d pins σ H sI { s with heap := h' } :=
  { left := T.left, floor := T.floor, grown := T.grown.trans hu, flies := hf, unowned := T.unowned, sameOs := T.sameOs, noGens := T.noGens }
/-- an exception is no frame -/
theorem noFrame (T : Aloft X B a cls d pins σ H sI s) {b : Addr} (hb : b ∈ frs X.stack) : a ≠ b := by
  intro e
  subst e
  obtain ⟨oe, vs, h1, -, h2⟩ := T.flies.there
  obtain ⟨-, o, h3, h4⟩ := T.flies.2.2.1.mem hb
  rw [h1] at h3
  cases h3
  exact h4 vs h2
theorem inSuite (T : Aloft X B a cls d pins σ H sI s) (hs : X.stack = X.env :: X.outer) (hf : X.env.frame = some X.env.locals) :
    ∃ oe, Zc cls d oe ∧ (∃ vs, oe.data = .fields vs) ∧ L2.Inv (X.suite a ((a, oe) :: (X.pn ++ pins))) [] σ H s := by
  obtain ⟨oe, vs, h1, h2, h3⟩ := T.flies.there
  have hloc : X.env.locals ∈ frs X.stack := by
    rw [hs]; unfold frs; rw [List.filterMap_cons, hf]; exact List.mem_cons_self ..
  have hout : ∀ b ∈ X.fs, b ∈ frs X.stack := by
    intro b hb; rw [hs]; unfold frs; rw [List.filterMap_cons, hf]; exact List.mem_cons_of_mem _ hb
  exact ⟨oe, h2, ⟨vs, h3⟩, T.now.suite h1 h3 T.unowned (T.noFrame hloc) fun hb => T.noFrame (hout a hb) rfl⟩
/-- what a suite came to, behind the unbinding of its name -/
theorem suiteEnd {oe : Obj} {i : Nat} {n : PySem.Str} {D : Ends} {pos : Pos} (ok : X.Ok) (hN : X.N.Nodup) (hi : X.N[i]? = some n) (hln : X.env.kindOf n = some .local) {fl : Flow} {s4 : Shared} {E : Value → Shared → Prop}
    (q : SP (X.suite a ((a, oe) :: (X.pn ++ pins))) [] (endsOff i D) fl s4) :
    wpAny (model X.prog X.w) X.A (do bindName X.env n .none; unbindBehindTheSuite X.env n pos) (fun _ s5 => SP X pins D fl s5) E s4 := by
  cases fl with
  | next => obtain ⟨σ', H', I, h⟩ := q; exact gone_ok (I.unsuite ok) hN hi hln fun s5 J => ⟨_, _, J, h⟩
  | brk => obtain ⟨σ', H', I, h⟩ := q; exact gone_ok (I.unsuite ok) hN hi hln fun s5 J => ⟨_, _, J, h⟩
  | cont => obtain ⟨σ', H', I, h⟩ := q; exact gone_ok (I.unsuite ok) hN hi hln fun s5 J => ⟨_, _, J, h⟩
  | ret u => obtain ⟨v, σ', H', I, r, h⟩ := q; exact gone_ok (I.unsuite ok) hN hi hln fun s5 J => ⟨v, _, _, J, r, h⟩
/-- the clauses, one after the other -/
theorem sorted {n : PySem.Str} {i : Nat} {Wout : WX} {D : Ends} (hs : X.stack = X.env :: X.outer) (hf : X.env.frame = some X.env.locals) (hN : X.N.Nodup) (hi : X.N[i]? = some n) (hln : X.env.kindOf n = some .local) (tk : L2.Takes X Wout)
    {hds : List ExceptHandler} {l : List (Value × SuiteR)} (C : Clauses X n hds l) : ∀ {s : Shared}, Aloft X B a cls d pins σ H sI s → wClauses X.K i Wout D l cls d σ H →
    wpAny (model X.prog X.w) X.A (handleBy (.ref a) X.env hds) (SP X pins D) X.xe s := by
  induction C with
  | nil =>
    intro s T w
    have fl := T.flies
    rw [hs] at fl
    refine PX.no_clauseZ (Z := Zc cls d) hf fl fun h' hh hu => tk _ _ ⟨a, B, sI, pins, σ, H, cls, d, rfl, T.left, T.floor, T.grown.trans hu, Or.inr (Or.inr ?_), T.unowned, T.sameOs, T.noGens, w⟩
    rw [hs]
    exact hh
  | @cons x c ts st suite np pos' hds l hc hsu r ih =>
    intro s T w
    obtain ⟨b, hb, h1, h0⟩ := w
    obtain ⟨hg, hdb, hv⟩ := hc
    have fl := T.flies
    rw [hs] at fl
    have test : ∀ {Q' : Value → Shared → Prop} {E' : Value → Shared → Prop}, Q' c s → wpAny (model X.prog X.w) (X.A.mark (some (.ref a))) (eval (.Name x np) X.env) Q' E' s := by
      intro Q' E' hq
      obtain ⟨oe, -, -, I⟩ := T.inSuite hs hf
      rcases hv with hm | ⟨hm, hbt, hnn⟩
      · exact ld_glob I hg hm hq hdb
      · exact ld_blt I hg hm hbt hq hnn hdb
    cases b with
    | false => exact PX.clause_passZ (Z := Zc cls d) T.now.kIn (fun o z => z.1) fl hb test (ih T (h0 rfl))
    | true =>
      refine PX.clause_asZ (Z := Zc cls d) T.now.kIn (fun o z => z.1) fl hb test fun h' hf' hu => ?_
      obtain ⟨oe, hz, hvs, I⟩ := (T.shifted (by rw [hs]; exact hf') hu).inSuite hs hf
      refine store_ok (X := X.suite a ((a, oe) :: (X.pn ++ pins))) (v := .ref a) I hN hi (Or.inl hln) rfl (fun s3 I3 => ?_) (Or.inr hln)
      exact thn ((hsu a oe cls d (X.pn ++ pins) hz hvs).run [] s3 _ H (endsOff i D) I3 (h1 rfl a T.unowned)) fun fl' s4 q => suiteEnd T.left.ok hN hi hln q
end Aloft
/-- the rule that fault_body wants -/
theorem clauses_rule {X : Cx} (hs : X.stack = X.env :: X.outer) (hf : X.env.frame = some X.env.locals) : ClausesRule X := by
  intro body n i hd hds l pos tb Wout hN hi hln tk hb C
  refine ⟨fun pins s σ H D I h => wpAny_Try_except ?_⟩
  let xe : Value → Shared → Prop := fun u s1 => wpAny (model X.prog X.w) X.A (noteFrame u X.env) (fun _ s2 => wpAny (model X.prog X.w) X.A (setFlight u none) (fun _ s3 => wpAny (model X.prog X.w) X.A (handleBy u X.env (hd :: hds)) (SP X pins D) X.xe s3) X.xe s2) X.xe s1
  have fr : X.A.frames = some (X.env :: X.outer) := by rw [← hs]; exact I.ok.frames
  have tk' : L2.Takes (X.tr (X.pn ++ pins) xe) (wClauses X.K i Wout D l) := by
    rintro u s1 ⟨a, B, sI, pn', σ', H', cls, d, rfl, J, nb, up, sky, na, os, ag, w⟩
    have sky' : Sky B (X.env :: X.outer) a (Zc cls d) X.env.locals s1.heap := by rw [← hs]; exact sky
    refine Sky.land Zc.steady fr hf sky' fun h' hfl hu => ?_
    have T : Aloft X B a cls d pins σ' H' sI { s1 with heap := h' } :=
      { left := J.ofTry I.ok, floor := nb, grown := up.trans hu, flies := by rw [hs]; exact hfl, unowned := na, sameOs := os, noGens := ag }
    exact T.sorted hs hf hN hi hln tk C w
  refine wpAny_mono ((hb _ (X.pn ++ pins) xe tk' PassesOwn.looking).run [] s σ H D (I.toTry xe) h) (fun fl s1 q => ?_) fun u s1 q => q
  cases fl with
  | next => obtain ⟨σ', H', J, q⟩ := q; exact wpAny_execs_nil ⟨_, _, J.ofTry I.ok, q⟩
  | brk => obtain ⟨σ', H', J, q⟩ := q; exact ⟨_, _, J.ofTry I.ok, q⟩
  | cont => obtain ⟨σ', H', J, q⟩ := q; exact ⟨_, _, J.ofTry I.ok, q⟩
  | ret u => obtain ⟨v, σ', H', J, r, q⟩ := q; exact ⟨v, _, _, J.ofTry I.ok, r, q⟩
end Z
end
section
set_option linter.all false
set_option maxRecDepth 100000
set_option maxHeartbeats 2000000
/-! ZZB: a list comprehension whose block knows its cells: what the block sees of the frame around it are that frame's own cells. -/
namespace Z
open PySem PySem.Spec PyProof.Rows L2

/-- the environment of a block that starts at s -/
abbrev blkEnv (X : Cx) (scope : Scope) (s : Shared) : PySem.Env := compEnvC scope (cellsFrom (s.heap.objs.size + 1) scope.names (cloFrom X.env.cells scope.names [])) s.heap.objs.size X.env
abbrev blkAt (X : Cx) (scope : Scope) (s : Shared) (H : Hp) (fp : List Addr) : Cx := X.blk s H scope (blkEnv X scope s) fp
section
variable {X : Cx} {pins : List (Addr × Obj)} {σ σb : L2.St} {H H' : Hp} {s s' : Shared} {scope : Scope} {fp : List Addr}
/-- out of the block -/
theorem blk_back (I : L2.Inv X pins σ H s) (hfp : ∀ b ∈ fp, FpOk X pins H b) (J : L2.Inv (blkAt X scope s H fp) [] σb H' s') : L2.Inv X pins σ H' s' :=
  I.call' J.os J.base J.hok J.bare fun b hb => by
    obtain ⟨-, f1, -, f3, f4, f5⟩ := hfp b hb
    exact ⟨f3, f1, f4, f5⟩
/-- .. and its namespace let go -/
theorem blk_gone (I : L2.Inv X pins σ H s) (hfp : ∀ b ∈ fp, FpOk X pins H b) (J : L2.Inv (blkAt X scope s H fp) [] σb H' s') {h2 : Heap} (sb : Heap.SameBut s.heap.objs.size s'.heap h2) : L2.Inv X pins σ H' { s' with heap := h2 } := by
  obtain ⟨f0, f1, -, f3, f4, f5⟩ := I.fpOk (H' := H') (Nat.le_refl _) J.free
  exact (blk_back I hfp J).turned (t' := s'.toks) (fun b o hb e => (sb.2 b hb).trans e) f0 f1 f3 f4 f5
/-- the iterator's objects, seen from the block -/
theorem blk_fp (I : L2.Inv X pins σ H s) (hfp : ∀ b ∈ fp, FpOk X pins H b) (ho : ∀ b ∈ fp, ∃ o, s.heap.get? b = some o) (J : L2.Inv (blkAt X scope s H fp) [] σb H' s') (ho' : ∀ b ∈ fp, ∃ o, s'.heap.get? b = some o ∧ ∀ v, o.data ≠ .cell v) (hn : ∀ b ∈ fp, H' b = none) : ∀ b ∈ fp, FpOk (blkAt X scope s H fp) [] H' b := by
  intro b hb
  obtain ⟨-, f1, f2, -, -, -⟩ := hfp b hb
  obtain ⟨o, eo⟩ := ho b hb
  refine ⟨hn b hb, Nat.ne_of_lt (Heap.lt_size eo), fun z => ?_, .inl hb, fun x c e z => ?_, fun p hp => by cases hp⟩
  · rcases List.mem_cons.mp (I.stkSub b z) with z | z
    · exact f1 z
    · exact f2 z
  · subst z
    obtain ⟨v, o1, e1, d1⟩ := J.cell x c e
    obtain ⟨o2, e2, d2⟩ := ho' c hb
    rw [e1] at e2
    cases e2
    exact d2 v d1
theorem wiped {X : Cx} {pins : List (Addr × Obj)} {σ1 σ2 : L2.St} {H : Hp} {s : Shared} {vs : List Nat} (J : L2.Inv X pins σ2 H s) (e : wipe σ2 vs = wipe σ1 vs) : L2.Inv X pins (wipe σ1 vs) H s := by
  rw [← e]
  exact J.weak (wipe_length _ _) fun i v h => (wipe_some h).1
end
/-- the rule: one clause -/
theorem pe_lcK {X : Cx} {elt tg iter : Expr} {ifs : List Expr} {scope : Scope} {own : List (PySem.Str × Nat)} {pos : Pos} {wi : TI} {g : TG} {tt : TT} {te : TE} (hc : X.calm = true) (hN : X.N.Nodup) (hi : PI X tg iter wi) (ok : BlkOk X.N X.env.scope scope own)
    (hg : ∀ s H fp, X.Ok → PG (blkAt X scope s H fp) tg g) (ht : ∀ s H fp, X.Ok → PTs (blkAt X scope s H fp) ifs tt) (he : ∀ s H fp, X.Ok → PE (blkAt X scope s H fp) elt te) (hs : ∀ x, foldedSetIterable iter X.env x = pure x := by intro _; rfl) :
    PE X (.ListComp elt [⟨tg, iter, ifs, 0⟩] scope pos) (tLc wi g tt te (own.map (·.2))) := by
  refine ⟨fun pins s σ H Q I h => ?_⟩
  have hfree : ∀ y ∈ scope.names, y.2 = .free → ∃ c, X.env.cells.lookup y.1 = some c := fun y hy e => I.ok.has _ (ok.free y hy e)
  rw [eval_ListComp]
  refine wpAny_comprehension_free rfl hs (closure_ok hfree) ok.kind (fun y hy e => (ok.uniq y hy).trans (congrArg some e)) ?_
  refine thn (hi.run pins s σ H _ I h) fun v s1 hv => thn hv fun itv s2 q => ?_
  obtain ⟨it, fp, tn, J, H1, rfl, I2, T, t0, hfp, hR⟩ := q
  refine wpAny_newList ?_
  have keep3 : ∀ b o, s2.heap.get? b = some o → (s2.heap.push { cls := .type "list", data := .seq #[] }).get? b = some o := fun b o e => Heap.get?_push_of_some _ e
  have hD : H1 s2.heap.objs.size = none := I2.hok.fresh (Nat.le_refl _)
  obtain ⟨W, ⟨m0, w0⟩, hW⟩ := hR s2.heap.objs.size hD
  have I3 : L2.Inv X pins σ (upd H1 s2.heap.objs.size (.lst [])) { s2 with heap := s2.heap.push { cls := .type "list", data := .seq #[] } } :=
    I2.laid (t' := s2.toks) keep3 (Nat.le_refl _) ⟨Nat.zero_le _, [], 0, .nil, Heap.get?_push_size _ rfl⟩
  have o2 : ∀ b ∈ fp, ∃ o, s2.heap.get? b = some o := fun b hb => (T.obj 0 _ t0 b hb).imp fun o z => z.1
  have hfp3 : ∀ b ∈ fp, FpOk X pins (upd H1 s2.heap.objs.size (.lst [])) b := fun b hb => by
    obtain ⟨f0, f⟩ := hfp b hb
    obtain ⟨o, e⟩ := o2 b hb
    exact ⟨by rw [upd_ne (Nat.ne_of_lt (Heap.lt_size e))]; exact f0, f⟩
  have t3 := T.keep 0 _ _ t0 fun b hb o e => keep3 b o e
  generalize hs3 : ({ s2 with heap := s2.heap.push { cls := .type "list", data := .seq #[] } } : Shared) = s3 at I3
  have t3 : tn 0 s3.heap := by rw [← hs3]; exact t3
  have o3 : ∀ b ∈ fp, ∃ o, s3.heap.get? b = some o := fun b hb => (T.obj 0 _ t3 b hb).imp fun o z => z.1
  refine newEnv_comp ?_
  have J0 := block_start I3 ok hN fun b hb => ⟨hfp3 b hb, Heap.lt_size (o3 b hb).choose_spec⟩
  have t4 := T.keep 0 _ (pushCells (s3.heap.push { cls := .type "dict", data := .dict #[] }) scope.names) t3 fun b hb o e => pushCells_keeps _ _ _ _ (Heap.get?_push_of_some _ e)
  have n3 : ∀ b ∈ fp, upd H1 s2.heap.objs.size (.lst []) b = none := fun b hb => (hfp3 b hb).1
  generalize hs4 : ({ s3 with heap := pushCells (s3.heap.push { cls := .type "dict", data := .dict #[] }) scope.names } : Shared) = s4 at J0
  have t4 : tn 0 s4.heap := by rw [← hs4]; exact t4
  have loop : codeAny (model X.prog X.w) X.A (.compLoop (.ListComp elt [⟨tg, iter, ifs, 0⟩] scope pos) 0 (.ref it) (.ref s2.heap.objs.size) (blkEnv X scope s3)) (compPost (model X.prog X.w) X.A X.xe none (EP X pins σ Q) (.ref s2.heap.objs.size) s3.heap.objs.size) s4 := by
    refine compLoop_any (fun m s' => ∃ i H', W i m H' ∧ L2.Inv (blkAt X scope s3 (upd H1 s2.heap.objs.size (.lst [])) fp) [] (wipe σ (own.map (·.2))) H' s' ∧ tn i s'.heap ∧ ∀ b ∈ fp, H' b = none) (fun m s' q => ?_) m0 ⟨0, _, w0, J0, t4, n3⟩
    obtain ⟨i, H', w, J', t, n⟩ := q
    have fps := blk_fp I3 hfp3 o3 J' (T.obj i _ t) n
    rcases hW i m H' w with ⟨st, hq⟩ | ⟨go, Nx, hnx, hy⟩
    · refine thn (T.done (blkAt X scope s3 (upd H1 s2.heap.objs.size (.lst [])) fp) rfl rfl rfl hc i [] s' _ H' _ J' fps t st) fun r s5 ⟨hr, J5⟩ => ?_
      subst hr
      obtain ⟨m5, hm5, -⟩ := J5.loc
      exact ⟨m5, hm5, fun h2 sb => ⟨.ref s2.heap.objs.size, H', blk_gone I3 hfp3 J5 sb, rfl, hq⟩⟩
    · refine thn (T.item (blkAt X scope s3 (upd H1 s2.heap.objs.size (.lst [])) fp) rfl rfl rfl hc i [] s' _ H' _ J' fps t go) fun r s5 ⟨u, hr, q⟩ => ?_
      subst hr
      refine thn q fun _ s6 ⟨x, H6, J6, rx, hyl, t6, n6⟩ => ?_
      have o6 := T.obj (i + 1) _ t6
      have J6 := J6.pinned (blk_fp I3 hfp3 o3 J6 o6 n6) o6
      refine thnF ((hg s3 _ fp I.ok).run _ s6 _ H6 x u _ J6 rx (hy x H6 hyl)) fun _ s7 ⟨σ7, H7, J7, ew, q7⟩ => ?_
      -- behind the target, the tests and the element the objects of the iterator are as they were
      have again : ∀ {σ9 : L2.St} {H9 : Hp} {s9 : Shared}, L2.Inv (blkAt X scope s3 (upd H1 s2.heap.objs.size (.lst [])) fp) ([] ++ pinsAt fp s6.heap) σ9 H9 s9 → wipe σ9 (own.map (·.2)) = wipe σ (own.map (·.2)) → Nx H9 →
          ∃ m', m' < m ∧ ∃ i H', W i m' H' ∧ L2.Inv (blkAt X scope s3 (upd H1 s2.heap.objs.size (.lst [])) fp) [] (wipe σ (own.map (·.2))) H' s9 ∧ tn i s9.heap ∧ ∀ b ∈ fp, H' b = none := by
        intro σ9 H9 s9 J9 e9 x9
        have pin : ∀ b ∈ fp, ∀ o, s6.heap.get? b = some o → s9.heap.get? b = some o ∧ H9 b = none := fun b hb o e => by
          have z := J9.pin (b, o) (List.mem_append_right _ (List.mem_append_right _ (mem_pinsAt hb e)))
          exact ⟨z.1, z.2.1⟩
        obtain ⟨m', lt, w'⟩ := hnx _ x9
        refine ⟨m', lt, i + 1, H9, w', wiped J9.unpinned e9, T.keep _ _ _ t6 fun b hb o e => (pin b hb o e).1, fun b hb => ?_⟩
        obtain ⟨o, e, -⟩ := o6 b hb
        exact (pin b hb o e).2
      refine thnF ((ht s3 _ fp I.ok).run _ s7 σ7 H7 _ J7 q7) fun b s8 ⟨H8, J8, q8⟩ => ?_
      cases b with
      | false => exact again J8 ew q8
      | true =>
        refine thnF ((he s3 _ fp I.ok).run _ s8 σ7 H8 _ J8 q8) fun y s9 ⟨yv, H9, J9, ry, acc, hacc, hlen, hnx9⟩ => ?_
        exact app_ok (X := blkAt X scope s3 (upd H1 s2.heap.objs.size (.lst [])) fp) J9 hacc hlen ry fun s10 J10 => again J10 ew hnx9
  show codeAny (model X.prog X.w) X.A (.compStart _ 0 _ _ (blkEnv X scope s3)) _ s4
  exact codeAny_compStart_list loop (T.self _ _ _ _ _ t4 loop)
/-- .. read by mirrors -/
theorem zx_lcK {X : Cx} {ca : PySem.Str → Addr} {E E0 : XK} {elt tg iter : Expr} {ifs : List Expr} {scope : Scope} {own : List (PySem.Str × Nat)} {pos : Pos} {gt : TG} {t : Tgt} {mi : Mir (List D)} {mt : Mir Bool} {me : Mir Sl} (hc : X.calm = true) (hN : X.N.Nodup)
    (hi : PI X tg iter (zI true X.K (ca, E) mi)) (ok : BlkOk X.N X.env.scope scope own) (tk : TgtOk X.K t gt) (ht' : ∀ j ∈ t.slots, j ∈ own.map (·.2)) (hg : ∀ s H fp, X.Ok → PG (blkAt X scope s H fp) tg gt)
    (ht : ∀ s H fp, X.Ok → PTs (blkAt X scope s H fp) ifs (zB X.K (ca, E0) mt)) (he : ∀ s H fp, X.Ok → PE (blkAt X scope s H fp) elt (zE X.K (ca, E0) me)) (hs : ∀ x, foldedSetIterable iter X.env x = pure x := by intro _; rfl) :
    PE X (.ListComp elt [⟨tg, iter, ifs, 0⟩] scope pos) (zE X.K (ca, E) (mLc mi (own.map (·.2)) t mt me)) :=
  pe_weak (pe_lcK hc hN hi ok hg ht he hs) fun σ H Q h => lc_weak tk ht' h
end Z
end
section
set_option linter.all false
set_option maxRecDepth 100000
set_option maxHeartbeats 2000000
/-! YA: a lambda made; _law_fault. -/
namespace Z
open PySem PySem.Spec PyProof.Rows L2 LamX NdefX

def cloD (k n : Nat) : D := .dict (cloKs k n)
def mLam (j : Nat) (P : Addr) (k n : Nat) : Mir Sl := fun env g => match env[j]? with
  | some (some (.tb a)) => if a = P then .ok (.val (cloD k n)) env g else .bad
  | _ => .bad
section
variable {K : PySem.W.Frag} {pa : Bs} {O : List Addr} {H H1 : Hp} {σ : L2.St} {env : Env} {g : Pen}
/-- the table alone is written -/
theorem Rel.table (R : Rel K pa O H σ env g) {j : Nat} {P : Addr} (e : env[j]? = some (some (.tb P))) (keep : ∀ b o, b ≠ P → H b = some o → H1 b = some o) (T1 : TabS H1 P lamQ) : Rel K pa O H1 σ env g ∧ Same (mask pa O H) (mask pa O H1) ∧ (∀ c o, H1 c = some o → Muts (some o) = false → c ≠ pa.a → mask pa O H1 c = some o) ∧ H1 pa.a = H pa.a := by
  obtain ⟨v, hv, a, ps, rfl, hm, ha, tok, rfl⟩ := R.slot j _ e
  have s : Same (mask pa O H) (mask pa O H1) := fun b u eb => by
    obtain ⟨m1, m2, m3⟩ := mask_some eb
    exact mask_of m1 m2 (keep b u (fun z => m2 (by rw [z]; exact hm)) m3)
  have hno : a ∉ pa.hid := fun z => R.nohid j _ a e rfl z hv
  have same : ∀ b, b ≠ a → (H b).isSome = true → H1 b = H b := fun b hb hs => by
    cases q : H b with
    | none => rw [q] at hs; cases hs
    | some o => exact keep b o hb q
  have npa : pa.a ≠ a := fun z => R.nopa (by rw [z]; exact hm)
  obtain ⟨ps1, h1, h2, h3⟩ := T1
  have dom : ∀ b ∈ O, Muts (H1 b) = true := fun b hb => by
    by_cases hba : b = a
    · rw [hba, h1]; rfl
    · rw [same b hba (R.dom b hb)]
      exact R.bas.dom b hb
  have inm : ∀ c o, H1 c = some o → Muts (some o) = false → c ≠ pa.a → mask pa O H1 c = some o := fun c o hc hmu hp => mask_of hp (fun z => by
    have := dom c z
    rw [hc, hmu] at this
    cases this) hc
  have pen1 : H1 pa.a = H pa.a := same pa.a npa R.paS
  have notpen : ∀ c q, H1 c = some (CodeO c q) → c ≠ pa.a := fun c q hc z => by
    obtain ⟨ca, hp, _⟩ := R.pen
    rw [z, pen1, hp] at hc
    cases hc
  refine ⟨⟨R.len, ⟨R.nopa, dom, fun b hb => ?_, R.pen.mono s pen1⟩, fun i sl ei => ?_, R.apart, R.nohid⟩, s, inm, pen1⟩
  · obtain ⟨q1, q2⟩ := R.bas.hid b hb
    refine ⟨q1, ?_⟩
    rw [same b (fun z => hno (by rw [← z]; exact hb)) (R.dom b q1)]
    exact q2
  · obtain ⟨v, e1, r⟩ := R.slot i sl ei
    refine ⟨v, e1, ?_⟩
    by_cases ho : sl.own = true
    · obtain ⟨b, rfl, hb⟩ := r.owned ho
      by_cases hij : i = j
      · subst hij
        rw [e] at ei
        cases ei
        rw [hv] at e1
        cases e1
        refine ⟨a, ps1, rfl, hm, h1, ⟨h2, fun pos cv q => ?_⟩, rfl⟩
        obtain ⟨c, c1, c2⟩ := h3 pos cv q
        exact ⟨c, c1, inm c _ c2 rfl (notpen c _ c2)⟩
      · have hba : b ≠ a := fun z => hij (R.apart i j sl _ (.ref a) ei e (z ▸ e1) hv ho rfl)
        have hs := same b hba (R.dom b hb)
        cases sl with
        | val _ => cases ho
        | pen => cases ho
        | raw _ => cases ho
        | ol xs =>
          obtain ⟨c, us, ec, hc, hu, rr⟩ := r
          cases ec
          exact ⟨b, us, rfl, hc, hs.trans hu, rr.mono s⟩
        | ok xs =>
          obtain ⟨c, us, ec, hc, hu, rr⟩ := r
          cases ec
          exact ⟨b, us, rfl, hc, hs.trans hu, rr.mono s⟩
        | ot xs =>
          obtain ⟨c, us, ec, hc, hu, rr⟩ := r
          cases ec
          exact ⟨b, us, rfl, hc, hs.trans hu, rr.mono s⟩
        | tb =>
          obtain ⟨c, us, ec, hc, hu, rr⟩ := r
          cases ec
          exact ⟨b, us, rfl, hc, hs.trans hu, rr.1.mono s, rr.2⟩
    · exact r.later (by cases q : sl.own <;> simp_all) s
end
section
variable {X : Cx} {W : Wx} {params : Arguments} {body : Expr} {scope : Scope} {pos : Pos}
theorem zx_lam (j k n : Nat) {c P : Addr} (TB : TabB X.base X.mg c P) (hcode : X.env.code = .ref c) (hq : lamQ = X.env.qual ++ "<lambda>") (L : LamS X.env.scope scope) (hk : lawLams[k]? = some (params, body, scope)) (hcl : X.env.cells = cellsFrom (n + 1) lawNames []) (hdef : defaultsOf params X.env = ([], []) := by rfl) :
    PE X (.Lambda params body scope pos) (zE X.K W (mLam j P k n)) :=
  pe_weak (pe_lamT TB hcode hq L hdef) fun σ H Q ⟨pa, O, env, g, R, h⟩ => by
    unfold mLam at h
    split at h
    · rename_i a e
      by_cases ha : a = P
      · rw [if_pos ha] at h
        subst ha
        obtain ⟨v, hv, b, ps, rfl, hm, hb, tok, rfl⟩ := R.slot j _ e
        refine ⟨⟨ps, hb, tok.1, fun pos cv q => let ⟨c, e1, e2⟩ := tok.2 pos cv q; ⟨c, e1, mask_le _ _ e2⟩⟩, fun f c' H1 keep T1 hf hf1 hc1 => ?_⟩
        obtain ⟨R1, s1, inm, pen1⟩ := R.table e keep T1
        obtain ⟨ca, hp, _⟩ := R.pen
        have nf : f ≠ pa.a := fun z => by rw [z, hp] at hf; cases hf
        have nc : c' ≠ pa.a := fun z => by rw [z, pen1, hp] at hc1; cases hc1
        refine h O H1 s1 R1 (.ref f) (Out.plain ?_ rfl)
        show Rep X.K _ (.dict (cloKs k n)) (.ref f)
        simp only [Rep]
        exact ⟨f, { cls := .none, data := .fields #[] }, rfl, .inr (.inr ⟨k, n, _, rfl, inm f _ hf1 rfl nf, inm c' _ hc1 rfl nc, hk, rfl, by rw [hcl]⟩)⟩
      · rw [if_neg ha] at h; exact h.elim
    · exact h.elim
end
end Z
end
section
set_option linter.all false
set_option maxRecDepth 100000
set_option maxHeartbeats 2000000
/-! YB: what _law_fault makes of a closure. -/
namespace Z
open PySem PySem.Spec PyProof.Rows L2 LamX NdefX

/-- a clause: the class, the tag, the fields that are told -/
abbrev FTab := List (PySem.Str × PySem.Str × List PySem.Str)
def faultD : FTab → Xc → Option D
  | [], _ => none
  | q :: r, x => if x.name = q.1 then (match q.2.2, x.fields with
    | [f], [(f', d)] => if f' = f then some (.tuple [.str q.2.1, d]) else none
    | [f, g], [(g', e), (f', d)] => if f' = f ∧ g' = g ∧ f ≠ g then some (.tuple [.str q.2.1, d, e]) else none
    | _, _ => none) else faultD r x
def faultM (tb : FTab) (r : Res Sl) : FRes := match r with
  | .ok _ _ g => .ok (.val .none) g
  | .exc x g => (match faultD tb x with
    | some d => .ok (.val d) g
    | none => .bad)
  | .bad => .bad
/-- what a clause's suite reads -/
def suiteF (ca : PySem.Str → Addr) (q : PySem.Str × PySem.Str × List PySem.Str) : SuiteR := fun a cls d => match q.2.2 with
  | [f] => tRet (tTup (tCons (tC (.str q.2.1)) (tCons (tXf a cls d (ca q.1) f (tVar 1)) tNil)))
  | [f, g] => tRet (tTup (tCons (tC (.str q.2.1)) (tCons (tXf a cls d (ca q.1) f (tVar 1)) (tCons (tXf a cls d (ca q.1) g (tVar 1)) tNil))))
  | _ => fun _ _ _ => False
section
variable {K : PySem.W.Frag} {pa : Bs} {O : List Addr} {H : Hp} {σ : L2.St} {env : Env} {g : Pen} {ca : PySem.Str → Addr}
theorem lookup1 {f : PySem.Str} {v : V} : List.lookup f [(f, v)] = some v := by simp [List.lookup]
theorem lookup2 {f h : PySem.Str} {v u : V} (n : f ≠ h) : List.lookup f [(h, u), (f, v)] = some v := by
  have e : (f == h) = false := by simp [n]
  simp [List.lookup, e]
theorem lookup2' {f h : PySem.Str} {v u : V} : List.lookup h [(h, u), (f, v)] = some u := by simp [List.lookup]
/-- the clauses take an exception of theirs -/
theorem clauses_wish {tb : FTab} {x : Xc} {cls : Value} {dd : Option Addr} {dt : D} {Wout : WX} {Dn : Ends} (hex : ∀ q ∈ tb, PySem.W.exmOne K (.ref (ca x.name)) (.ref (ca q.1)) = some (decide (x.name = q.1))) (xr : XRep K pa ca H x cls dd) (hb : Bas pa pa.hid H g) (hl : 2 ≤ σ.length)
    (hd : faultD tb x = some dt) (hq : ∀ v H', Same (mask pa pa.hid H) (mask pa pa.hid H') → Bas pa pa.hid H' g → Rep K (mask pa pa.hid H') dt v → Dn.rt v H') : wClauses K 1 Wout Dn (tb.map fun q => (.ref (ca q.1), suiteF ca q)) cls dd σ H := by
  induction tb with
  | nil => cases hd
  | cons q r ih =>
    refine ⟨decide (x.name = q.1), by rw [xr.1]; exact hex q List.mem_cons_self, fun hyes a ha => ?_, fun hno => ?_⟩
    · have hxn := of_decide_eq_true hyes
      unfold faultD at hd
      rw [if_pos hxn] at hd
      obtain ⟨h1, d, fs, h2, h3, h4, h5⟩ := xr
      have hσ : (σ.set 1 (some (V.ref a)))[1]? = some (some (.ref a)) := List.getElem?_set_self hl
      have fin : ∀ (ds : List D) (vs : List V), Reps K (mask pa pa.hid H) ds vs → dt = .tuple ds → ∀ p, H p = none → Dn.rt (.ref p) (upd H p (.tup vs)) := fun ds vs rr edt p hp => by
        have R : Rel K pa pa.hid H [] [] g := ⟨rfl, hb, fun i sl e => by simp at e, fun i j sl sl' v e => by simp at e, fun i sl a e => by simp at e⟩
        obtain ⟨R2, s2, hp2⟩ := R.new (o := .tup vs) hp
        refine hq _ _ s2 R2.bas ?_
        rw [edt]
        simp only [Rep]
        exact ⟨p, vs, rfl, hp2, rr.mono s2⟩
      have hcls : cls = .ref (ca q.1) := by rw [h1, hxn]
      unfold suiteF
      split at hd
      · rename_i f f' d0 eq1 eq2
        rw [eq2] at h4 h5
        simp only [List.map_cons, List.map_nil] at h4 h5
        simp only [eq1]
        by_cases c : f' = f
        · rw [if_pos c] at hd
          cases hd
          subst c
          match fs, h4, h5 with
          | [(f2, v)], h4, h5 =>
            simp only [List.map_cons, List.map_nil, List.cons.injEq, and_true] at h4
            subst h4
            simp only [List.map_cons, List.map_nil, Reps] at h5
            obtain ⟨_, _, e, rv, rfl⟩ := h5
            cases e
            refine ⟨.ref a, hσ, rfl, hcls, d, _, v, h2, h3, lookup1, le_line (by show 2 ≤ 1000000; decide), fin _ _ (by simp only [Reps]; exact ⟨_, _, rfl, by simp only [Rep], _, _, rfl, rv, rfl⟩) rfl⟩
        · rw [if_neg c] at hd; cases hd
      · rename_i f g0 g' e0 f' d0 eq1 eq2
        rw [eq2] at h4 h5
        simp only [List.map_cons, List.map_nil] at h4 h5
        simp only [eq1]
        by_cases c : f' = f ∧ g' = g0 ∧ f ≠ g0
        · rw [if_pos c] at hd
          cases hd
          obtain ⟨rfl, rfl, hne⟩ := c
          match fs, h4, h5 with
          | [(f2, u), (f3, v)], h4, h5 =>
            simp only [List.map_cons, List.map_nil, List.cons.injEq, and_true] at h4
            obtain ⟨rfl, rfl⟩ := h4
            simp only [List.map_cons, List.map_nil, Reps] at h5
            obtain ⟨_, _, e, ru, _, _, e2, rv, rfl⟩ := h5
            cases e
            cases e2
            refine ⟨.ref a, hσ, rfl, hcls, d, _, v, h2, h3, lookup2 hne, .ref a, hσ, rfl, hcls, d, _, u, h2, h3, lookup2', le_line (by show 3 ≤ 1000000; decide), fin _ _ (by simp only [Reps]; exact ⟨_, _, rfl, by simp only [Rep], _, _, rfl, rv, _, _, rfl, ru, rfl⟩) rfl⟩
        · rw [if_neg c] at hd; cases hd
      · cases hd
    · have hxn := of_decide_eq_false hno
      unfold faultD at hd
      rw [if_neg hxn] at hd
      exact ih (fun q hq => hex q (List.mem_cons_of_mem _ hq)) hd
end
/-- a lambda of the law, by its mirror in the slots that it captured -/
structure LamOk (P : Program) (w : World) (K : PySem.W.Frag) (mg : PySem.Str → Option Value) (base : Heap) (ca : PySem.Str → Addr) (k : Nat) (fr : List PySem.Str) (m : Mir Sl) (j : Nat) : Prop where
  ex : ∃ params body scope, lawLams[k]? = some (params, body, scope) ∧ NScope fr [] fr scope ∧ (∀ q cl pm cv ctv, bindArgs (PySem.W.kla_fn "<lambda>" q params body scope cl pm cv ctv) ⟨[], []⟩ = pure []) ∧
    ∀ (F : NF) f A outer s H E, F.scope = scope → Exp (ncx (L2.CX P w) P w K mg base fr F f A outer s H E) E j → PE (ncx (L2.CX P w) P w K mg base fr F f A outer s H E) body (zE K (ca, E) m)
def spFault (P : Program) (w : World) (K : PySem.W.Frag) (mg : PySem.Str → Option Value) (base : Heap) (ca : PySem.Str → Addr) (tb : FTab) (j : Nat) : SpG := fun s vs H Q E => ∃ pa g f F k n fr ws m envL, vs = [.ref f] ∧ H f = some (LamO f F) ∧ H F.c = some (CodeO F.c F.qual) ∧ LamIs k n F ∧
  CellsAt F.cl fr ws s.heap H ∧ LamOk P w K mg base ca k fr m j ∧ Rel K pa pa.hid H (startF fr [] ws) envL g ∧ PostF K pa H (ca, E) (faultM tb (m envL g)) Q
/-- what is known of the classes that the clauses name -/
structure ClsX (K : PySem.W.Frag) (mg : PySem.Str → Option Value) (ca : PySem.Str → Addr) (tb : FTab) : Prop where
  at_ : ∀ q ∈ tb, mg q.1 = some (.ref (ca q.1))
  xf : ∀ q ∈ tb, XfC K (ca q.1)
  no : ∀ q ∈ tb, ∀ f ∈ q.2.2, PySem.W.findIn K (.ref (ca q.1)) f = some none
  exm : ∀ q ∈ tb, ∀ x, faultD tb x ≠ none → PySem.W.exmOne K (.ref (ca x.name)) (.ref (ca q.1)) = some (decide (x.name = q.1))
/-- the body of _law_fault keeps the promise -/
theorem fault_body {P : Program} {w : World} {K : PySem.W.Frag} {mg : PySem.Str → Option Value} {base : Heap} {ca : PySem.Str → Addr} {tb : FTab} {j : Nat} {sc : Scope} {qual : PySem.Str} {cd : Value} {fa : Addr} {A : Around} {outer : List PySem.Env} {s : Shared} {H : Hp} {vs : List V} {Q : VK} {E : XK} {hd : ExceptHandler} {hds : List ExceptHandler} {p1 p2 p3 p4 p5 p6 : Pos} {kn : Nat}
    (S : FnScope ["work", "fault"] ["work"] sc) (hw : Vis sc "work") (hf : sc.names.lookup ("fault" : PySem.Str) = some .local) (C : ClsX K mg ca tb) (hr : Room (j + 1) (A.deeper (envOfC qual sc s.heap.objs.size fa cd))) (hg : A.guards = some []) (h : spFault P w K mg base ca tb j s vs H Q E)
    (CR : ClausesRule (cxOf (L2.CX P w) P w K mg base ["work", "fault"] qual sc fa cd A outer s H E)) (hh : Clauses (cxOf (L2.CX P w) P w K mg base ["work", "fault"] qual sc fa cd A outer s H E) "fault" (hd :: hds) (tb.map fun q => (.ref (ca q.1), suiteF ca q))) :
    ∃ t, PSs (cxOf (L2.CX P w) P w K mg base ["work", "fault"] qual sc fa cd A outer s H E) [.Try [.Expr (.Call (.Name "work" p1) [] [] p2) p3] (hd :: hds) [] [] p4, .Return (some (.Constant .none kn p5)) p6] t ∧ t { nx := fun _ H' => Q .non H', rt := Q } (L2.start ["work", "fault"] vs) H := by
  obtain ⟨pa, g, f, F, k, n, fr, ws, m, envL, rfl, hf1, hc1, hL, hC, hO, R, hP⟩ := h
  obtain ⟨params, body, scope, e1, Sn, hb, hbody⟩ := hO.ex
  obtain ⟨e2, e3, e4⟩ := hL
  rw [e1] at e2
  simp only [Option.some.injEq, Prod.mk.injEq] at e2
  obtain ⟨rfl, rfl, rfl⟩ := e2
  have step : ∀ (W : WX) (pn : List (Addr × Obj)) (xe : Value → Shared → Prop), Takes ((cxOf (L2.CX P w) P w K mg base ["work", "fault"] qual sc fa cd A outer s H E).tr pn xe) W → PE ((cxOf (L2.CX P w) P w K mg base ["work", "fault"] qual sc fa cd A outer s H E).tr pn xe) (.Call (.Name "work" p1) [] [] p2)
      (tWork F f 0 fr ws (fun σ => WE W σ) fun E' => zE K (ca, E') m) := fun W pn xe tk =>
    pe_work (k := j) Sn (fun pm ctv => hb _ _ _ _ _) (fun σ => passAt tk σ) hr hC (fun y c _ z => by cases z) (fun A2 outer2 s2 H2 E' hk hgd => hbody F.nf f A2 outer2 s2 H2 E' rfl ⟨rfl, Sn.nd, passes_call (takes_of rfl rfl rfl rfl) fun _ _ _ _ h => h, hgd.trans hg, hk⟩) rfl hw
  refine ⟨_, pss_cons (CR [_] "fault" 1 hd hds _ p4 (fun W => tDrop (tWork F f 0 fr ws (fun σ => WE W σ) fun E' => zE K (ca, E') m)) _ S.nd rfl hf (takes_of rfl rfl rfl rfl) (fun W pn xe tk _ => pss_one (ps_expr (step W pn xe tk))) hh) (pss_one (ps_ret pe_non)), ?_⟩
  refine ⟨rfl, hf1, hc1, pa, pa.hid, envL, g, R, ?_⟩
  unfold faultM at hP
  cases em : m envL g with
  | bad => rw [em] at hP; exact hP.elim
  | ok sl env' g' =>
    rw [em] at hP
    intro O' H' s' R' v o
    exact hP .non O' H' s' R'.bas rep_non (fun z => by cases z)
  | exc x g' =>
    rw [em] at hP
    simp only [] at hP
    cases ed : faultD tb x with
    | none => rw [ed] at hP; exact hP.elim
    | some dt =>
      rw [ed] at hP
      intro cls dd H' s' B' xr
      refine clauses_wish (pa := pa) (fun q hq => C.exm q hq x (by rw [ed]; intro z; cases z)) xr B' (by show 2 ≤ (L2.start ["work", "fault"] [V.ref f]).length; exact Nat.le_refl 2) ed fun v H2 s2 B2 r2 => ?_
      exact hP v pa.hid H2 (Same.trans s' s2) B2 r2 (fun z => by cases z)
end Z
end
section
set_option linter.all false
set_option maxRecDepth 100000
set_option maxHeartbeats 2000000
/-! YC: _law_fault called. -/
namespace Z
open PySem PySem.Spec PyProof.Rows L2 LamX NdefX

/-- the captured slots -/
def capE (js : List Nat) (env : Env) : Env := js.map fun j => match env[j]? with
  | some o => keepO o
  | none => none
def cloOf (n : Nat) : Sl → Option Nat
  | .val (.dict [(.none, .int k), (.none, .int n')]) => if n' = (n : Int) ∧ 0 ≤ k then some k.toNat else none
  | _ => none
theorem cloOf_inv {n k : Nat} {sl : Sl} (h : cloOf n sl = some k) : sl = .val (cloD k n) := by
  unfold cloOf at h
  split at h
  · rename_i k' n'
    by_cases c : n' = (n : Int) ∧ 0 ≤ k'
    · rw [if_pos c] at h
      obtain ⟨rfl, c2⟩ := c
      have e := Option.some.inj h
      rw [← e]
      show Sl.val (.dict [(.none, .int k'), (.none, .int (n : Int))]) = Sl.val (.dict [(.none, .int (k'.toNat : Int)), (.none, .int (n : Int))])
      rw [Int.toNat_of_nonneg c2]
    · rw [if_neg c] at h; cases h
  · cases h
theorem cloOf_clo (k n : Nat) : cloOf n (.val (cloD k n)) = some k := by
  show (if (n : Int) = (n : Int) ∧ (0 : Int) ≤ (k : Int) then some (k : Int).toNat else none) = some k
  rw [if_pos ⟨rfl, Int.natCast_nonneg k⟩]
  rfl
abbrev LamT := Nat → Option (List Nat × Mir Sl)
def fFault (tb : FTab) (n : Nat) (lam : LamT) (l : List Sl) : Mir Sl := fun env g => match l with
  | [sl] => (match cloOf n sl with
    | some k => (match lam k with
      | some q => mFn (fun _ g => faultM tb (q.2 (capE q.1 env) g)) l env g
      | none => .bad)
    | none => .bad)
  | _ => .bad
section
variable {K : PySem.W.Frag} {pa : Bs} {O : List Addr} {H : Hp} {σ : L2.St} {env : Env} {g : Pen}
theorem capE_at {js : List Nat} {i : Nat} {sl : Sl} (e : (capE js env)[i]? = some (some sl)) : ∃ j, js[i]? = some j ∧ env[j]? = some (some sl) ∧ sl.own = false := by
  unfold capE at e
  rw [List.getElem?_map] at e
  cases ej : js[i]? with
  | none => rw [ej] at e; cases e
  | some j =>
    rw [ej] at e
    have e : (match env[j]? with
      | some o => keepO o
      | none => none) = some sl := Option.some.inj e
    cases en : env[j]? with
    | none => rw [en] at e; cases e
    | some o =>
      rw [en] at e
      cases o with
      | none => cases e
      | some s0 =>
        have e : (if s0.own = true then none else some s0) = some sl := e
        by_cases ho : s0.own = true
        · rw [if_pos ho] at e; cases e
        · rw [if_neg ho] at e
          cases e
          exact ⟨j, rfl, en, by simpa using ho⟩
theorem Rel.caps (R : Rel K pa O H σ env g) (js : List Nat) : Rel K (pa.under O H) O H (js.map (slotAt σ)) (capE js env) g where
  len := by unfold capE; rw [List.length_map, List.length_map]
  bas := ⟨R.nopa, R.bas.dom, fun a ha => ⟨ha, rfl⟩, R.pen⟩
  slot := fun i sl e => by
    obtain ⟨j, ej, en, ho⟩ := capE_at e
    obtain ⟨v, hv, r⟩ := R.slot j _ en
    refine ⟨v, ?_, SlRep.later (pa := pa) r ho (Same.refl _)⟩
    rw [List.getElem?_map, ej]
    show some (slotAt σ j) = some (some v)
    rw [slotAt_of hv]
  apart := fun i j sl sl' v e1 _ _ _ o1 => by
    obtain ⟨_, _, _, ho⟩ := capE_at e1
    rw [ho] at o1
    cases o1
  nohid := fun i sl a e1 o1 => by
    obtain ⟨_, _, _, ho⟩ := capE_at e1
    rw [ho] at o1
    cases o1
theorem clo_rep {k n : Nat} {v : V} (r : Rep K (mask pa O H) (cloD k n) v) : ∃ f L, v = .ref f ∧ H f = some (LamO f L) ∧ H L.c = some (CodeO L.c L.qual) ∧ LamIs k n L := by
  unfold cloD cloKs at r
  simp only [Rep] at r
  obtain ⟨a, o, rfl, ⟨ks, _, q⟩ | ⟨ks, _, q⟩ | c⟩ := r
  · simp only [RepK] at q
    obtain ⟨key, _, _, _, e, _⟩ := q
    cases key <;> cases e
  · simp only [RepT] at q
    obtain ⟨key, _, _, _, e, _⟩ := q
    cases e
  · obtain ⟨k', n', L, e, h1, h2, h3⟩ := c
    have e1 : k = k' ∧ n = n' := by
      simp only [cloKs, List.cons.injEq, Prod.mk.injEq, PyData.int.injEq, true_and, and_true] at e
      omega
    obtain ⟨rfl, rfl⟩ := e1
    exact ⟨a, L, rfl, mask_le _ _ h1, mask_le _ _ h2, h3⟩
end
structure FaultOk (P : Program) (w : World) (K : PySem.W.Frag) (mg : PySem.Str → Option Value) (base : Heap) (ca : PySem.Str → Addr) (tb : FTab) (j : Nat) : Prop where
  ex : ∃ f fd, FnG P w K mg base (L2.CX P w) (j + 2) f fd ["work"] (spFault P w K mg base ca tb j) ∧ mg "_law_fault" = some (.ref f) ∧ PySem.W.keepIn K (.ref f) = true ∧ Binds K fd ["work"] []
section
variable {X : Cx} {ca : PySem.Str → Addr} {E : XK} {e : Expr} {pos p : Pos} {ms : Mir (List Sl)} {tab : List (PySem.Str × NameKind)}
theorem zx_fault {j kk n : Nat} {tb : FTab} {lam : LamT} (jn : Nat) (t : Tab X tab) (B : Exp X E kk) (F : FaultOk X.prog X.w X.K X.mg X.base ca tb j) (hj : j + 2 ≤ kk)
    (hlam : ∀ k js m, lam k = some (js, m) → ∃ fr, LamOk X.prog X.w X.K X.mg X.base ca k fr m j ∧ ∀ L, LamIs k n L → X.Ok → Caps X L.cl fr js) (ha : PA X [e] (zA X.K (ca, E) ms)) (hjn : tab[jn]? = some (("_law_fault" : PySem.Str), NameKind.globalImplicit) := by rfl)
    (he : starEach [e] X.env = (false, eval e X.env) :: starEach [] X.env := by rfl) (hpl : (backTo pos (starEach [] X.env)).any (·.1) = false := by rfl) : PE X (.Call (.Name "_law_fault" p) [e] [] pos) (zE X.K (ca, E) (mCall (fFault tb n lam) ms)) := by
  obtain ⟨f0, fd, FG, hm, hk, hb⟩ := F.ex
  refine ⟨fun pins s σ H Q I h => ?_⟩
  obtain ⟨pa, O, env, g, R, h⟩ := h
  refine wpAny_Call_Name_kw (ld_glob I (t.gl jn hjn) hm ?_ (t.d jn hjn))
  refine PySem.W.callWith_K (h₀ := X.base) I.ok.mod.kin hk (thn (ha.run pos pins s σ H (fun vs H1 => ∃ pa O env g l, Rel X.K pa O H1 σ env g ∧ SlReps X.K pa O H1 l vs ∧ PostX X.K pa O H1 σ (ca, E) (fFault tb n lam l env g) Q) I
    ⟨pa, O, env, g, R, postG_bnd h fun l env' g' O' H' e s R' q vs hvs => ⟨pa, O', env', g', l, R', hvs, q⟩⟩) fun us s1 ⟨vs, H1, I1, r, pa1, O1, env1, g1, l, R1, hvs, q⟩ => ⟨I1.kIn, ?_⟩) he hpl
  unfold fFault at q
  split at q
  · rename_i sl
    cases ec : cloOf n sl with
    | none => rw [ec] at q; exact q.elim
    | some k =>
      rw [ec] at q
      simp only [] at q
      cases el : lam k with
      | none => rw [el] at q; exact q.elim
      | some jm =>
        obtain ⟨js, m⟩ := jm
        rw [el] at q
        simp only [] at q
        have esl := cloOf_inv ec
        subst esl
        obtain ⟨b, q⟩ := post_call R1 q
        obtain ⟨fr, LO1, cap⟩ := hlam k js m el
        cases hvs with
        | cons r1 t1 =>
          cases t1
          obtain ⟨f, L, rfl, hf, hc, hL⟩ := clo_rep (show Rep X.K (mask pa1 O1 H1) (cloD k n) _ from r1.2)
          have CA := cells_of I1 (cap L hL I1.ok)
          have es : startF fr [] (js.map (slotAt σ)) = js.map (slotAt σ) := by
            unfold startF
            rw [CA.len]
            simp
          refine run_fnG (FG.mono hj) B.room B.gd hb B.pass I1 r ⟨pa1.under O1 H1, g1, f, L, k, n, fr, js.map (slotAt σ), m, capE js env1, rfl, hf, hc, hL, CA, LO1, ?_, q⟩
          rw [es]
          exact R1.caps js
  · exact q.elim
end
end Z
end
section
set_option linter.all false
set_option maxRecDepth 100000
set_option maxHeartbeats 2000000
/-! YD: _law_pen. -/
namespace Z
open PySem PySem.Spec PyProof.Rows L2

def penKs (ns : List Int) (fold : Int) (l : Addr) : List (Key × V) := [(.inr "cells", .ref l), (.inr "at", .int 0), (.inr "digits", .int 0), (.inr "count", .int 0), (.inr "fold", .int fold)]
def spPen (K : PySem.W.Frag) : SpG := fun _ vs H Q _ => ∃ a ns, vs = [.ref a] ∧ SqL K H a (ns.map V.int) ∧ ns.length ≤ 1000 ∧ ∀ (H' : Hp) (l p : Addr) (fold : Int), Same H H' → H l = none → H p = none → H' l = some (.lst (ns.map V.int)) → H' p = some (.dK (penK ⟨ns, 0, 0, 0, fold⟩ l)) → 0 ≤ fold → fold < 1000000009 → Q (.ref p) H'
section
variable {P : Program} {w : World} {K : PySem.W.Frag} {mg : PySem.Str → Option Value} {base : Heap} {qual : PySem.Str} {sc : Scope} {fa : Addr} {cd : Value} {A : Around} {outer : List PySem.Env} {s : Shared} {H : Hp} {E : XK} {tab : List (PySem.Str × NameKind)} {k : Nat}
/-- what the body reads -/
def tPenBody (K : PySem.W.Frag) : TS := tSeq (tAsg (tC (.int 0)) (gName 1)) (tSeq (tFor (iList K (tVar 0)) (gName 2) (tAsg (tOp (rI (fun _ j => 0 < j) fun i j => .int (i % j)) (tCB (fun xs H Q => (∃ i, xs = [.int i] ∧ Q (.int i) H) ∨ ∃ k, xs = [.bl k] ∧ Q (.int (if k then 1 else 0)) H) (tCons (tOp (rI0 fun i j => .int (i + j)) (tOp (rI CMul fun i j => .int (i * j)) (tVar 1) (tC (.int 59))) (tVar 2)) tNil)) (tC (.int 1000000009))) (gName 1)))
  (tRet (tDisp [(tC (.str "cells"), tCB (fun xs H Q => ∃ p ys, xs = [.ref p] ∧ (SqL K H p ys ∨ SqT K H p ys) ∧ ∀ l, H l = none → Q (.ref l) (upd H l (.lst ys))) (tCons (tVar 0) tNil)), (tC (.str "at"), tC (.int 0)), (tC (.str "digits"), tC (.int 0)), (tC (.str "count"), tC (.int 0)), (tC (.str "fold"), tVar 1)])))
theorem pen_run {vs : List V} {Q : VK} (h : spPen K s vs H Q E) : tPenBody K { nx := fun _ H' => Q .non H', rt := Q } (L2.start ["script", "fold", "cell"] vs) H := by
  obtain ⟨a, ns, rfl, hS, hlen, q⟩ := h
  refine ⟨.ref a, rfl, a, rfl, ⟨_, hS⟩, for_list (K := K) (a := a) (xs := ns.map V.int) (fun i σ H' => H' = H ∧ ∃ (fold : Int) (c : Option V), σ = [some (.ref a), some (.int fold), c] ∧ 0 ≤ fold ∧ fold < 1000000009) ⟨rfl, 0, none, rfl, by omega, by omega⟩ (fun i σ H' _ z => by rw [z.1]; exact hS) ?_ ?_⟩
  · rintro i y σ H' hi ⟨rfl, fold, c, rfl, h1, h2⟩
    obtain ⟨z, hz, rfl⟩ : ∃ z, ns[i]? = some z ∧ y = V.int z := by
      rw [List.getElem?_map] at hi
      cases e : ns[i]? with
      | none => rw [e] at hi; cases hi
      | some z => rw [e] at hi; exact ⟨z, rfl, (Option.some.inj hi).symm⟩
    refine ⟨.int fold, rfl, fold, 59, rfl, rfl, .inl ⟨by omega, by omega⟩, .int z, rfl, fold * 59, z, rfl, rfl, .inl ⟨_, rfl, _, _, rfl, rfl, (by show (0 : Int) < 1000000009; decide), rfl, (fold * 59 + z) % 1000000009, some (.int z), rfl, Int.emod_nonneg _ (by decide), Int.emod_lt_of_pos _ (by decide)⟩⟩
  · rintro σ H' ⟨rfl, fold, c, rfl, h1, h2⟩
    intro p hp
    refine ⟨.ref a, rfl, a, ns.map V.int, rfl, .inl ?_, fun l hl => ?_⟩
    · have s1 : Same H' (upd H' p (.dK [])) := fun b o e => by
        rw [upd_ne (ne_of_none e hp)]
        exact e
      exact s1.seq hS
    · have npl : p ≠ l := fun z => by
        rw [z, upd_same] at hl
        cases hl
      have hl0 : H' l = none := by rw [upd_ne npl.symm] at hl; exact hl
      refine ⟨.int fold, rfl, by rw [upd_ne npl, upd_same], penKs ns fold l, rfl, by show 5 ≤ 15; decide, q _ l p fold (fun b o e => ?_) hl0 hp ?_ ?_ h1 h2⟩
      · rw [upd_ne (ne_of_none e hp), upd_ne (ne_of_none e hl0), upd_ne (ne_of_none e hp)]
        exact e
      · rw [upd_ne npl.symm, upd_same]
      · rw [upd_same]
        rfl
theorem pen_ok {st : Stmt} (D : DefAt K mg "_law_pen" st ["script"]) (S : FnScope ["script", "fold", "cell"] ["script"] (defScope st)) (ht : tabB (defScope st) tab = true)
    (hb : ∀ (f : Addr) (cd : Value) (A : Around) (outer : List PySem.Env) (s : Shared) (H : Hp) (E : XK), Exp (cxOf (L2.CX P w) P w K mg base ["script", "fold", "cell"] "_law_pen" (defScope st) f cd A outer s H E) E 0 → Tab (cxOf (L2.CX P w) P w K mg base ["script", "fold", "cell"] "_law_pen" (defScope st) f cd A outer s H E) tab →
      PSs (cxOf (L2.CX P w) P w K mg base ["script", "fold", "cell"] "_law_pen" (defScope st) f cd A outer s H E) (defBody st) (tPenBody K)) :
    ∃ f fd, FnG P w K mg base (L2.CX P w) 1 f fd ["script"] (spPen K) ∧ mg "_law_pen" = some (.ref f) ∧ PySem.W.keepIn K (.ref f) = true ∧ Binds K fd ["script"] [] := by
  obtain ⟨f, fd, h1, h2, h3⟩ := D.ex
  refine ⟨f, fd, fnG_of h1 S (fun s vs H Q E q => ?_) (fun cdv A outer s H vs Q E hr hg q => ⟨_, hb f cdv A outer s H E (exp_of S hr hg) (tab_of ht), pen_run q⟩), h2, h1.kp, h3⟩
  obtain ⟨a, ns, rfl, _⟩ := q
  rfl
end
end Z
end
section
set_option linter.all false
set_option maxRecDepth 100000
set_option maxHeartbeats 2000000
/-! YE: the law's start. -/
namespace Z
open PySem PySem.Spec PyProof.Rows L2 LamX NdefX
section
variable {X : Cx} {pins : List (Addr × Obj)} {σ : L2.St} {H : Hp} {s : Shared}
/-- a slot whose name the scope does not have may hold what one likes -/
theorem inv_ghost (I : Inv X pins σ H s) {j : Nat} {x : PySem.Str} {v : V} (hN : X.N[j]? = some x) (hv : X.env.scope.names.lookup x = none) : Inv X pins (σ.set j (some v)) H s :=
  { I with
    loc := by
      obtain ⟨m, hn, hl⟩ := I.loc
      refine ⟨m, hn, fun i y u e1 e2 e3 => ?_⟩
      by_cases hij : j = i
      · subst hij
        rw [hN] at e1
        cases e1
        exfalso
        rcases e3 with z | z | z <;> rw [hv] at z <;> cases z
      · rw [List.getElem?_set_ne hij] at e2
        exact hl i y u e1 e2 e3
    len := by rw [List.length_set]; exact I.len }
theorem pss_ghost {sts : List Stmt} {t : TS} {j : Nat} {x : PySem.Str} {v : V} (h : PSs X sts t) (hN : X.N[j]? = some x) (hv : X.env.scope.names.lookup x = none) : PSs X sts (fun D σ H => t D (σ.set j (some v)) H) := ⟨fun pins s σ H D I q => h.run pins s _ H D (inv_ghost I hN hv) q⟩
/-- a def called whose promise does not ask for the state -/
theorem pe_callG {E : XK} {k j : Nat} {f : Addr} {fd : FuncData} {ps : List PySem.Str} {sp : SpG} {x : PySem.Str} {e : Expr} {es : List Expr} {ta : TA} {p pos : Pos} (B : Exp X E k) (F : FnG X.prog X.w X.K X.mg X.base (L2.CX X.prog X.w) j f fd ps sp) (hj : j ≤ k) (hg : Gl X x) (hm : X.mg x = some (.ref f)) (hk : PySem.W.keepIn X.K (.ref f) = true) (hb : Binds X.K fd ps [])
    (ha : PA X (e :: es) ta) (hdb : (x == ("__debug__" : PySem.Str)) = false := by decide) (he : starEach (e :: es) X.env = (false, eval e X.env) :: starEach es X.env := by rfl) (hpl : (backTo pos (starEach es X.env)).any (·.1) = false := by rfl) :
    PE X (.Call (.Name x p) (e :: es) [] pos) (fun σ H Q => ta σ H fun vs H1 => ∀ s, sp s vs H1 Q E) := by
  refine ⟨fun pins s σ H Q I h => ?_⟩
  refine wpAny_Call_Name_kw (ld_glob I hg hm ?_ hdb)
  exact PySem.W.callWith_K (h₀ := X.base) I.ok.mod.kin hk (thn (ha.run pos pins s σ H _ I h) fun us s1 ⟨vs, H1, I1, r, q⟩ => ⟨I1.kIn, run_fnG (F.mono hj) B.room B.gd hb B.pass I1 r (q s1)⟩) he hpl
end
/-- the slots at the law's start: the pen in the first local, the table in the last slot -/
def lawEnv (N : Nat) (P : Addr) : Env := none :: some .pen :: (List.replicate (N - 3) none ++ [some (.tb P)])
/-- what the law is to do, by its mirror -/
def LawTrue (N : Nat) (b : Nat → Addr → Mir Ctl) : Prop := ∀ (n : Nat) (P : Addr) (ns : List Int) (fold : Int), ns.length ≤ 63 → 0 ≤ fold → fold < 1000000009 → ∃ env' g', b n P (lawEnv N P) ⟨ns, 0, 0, 0, fold⟩ = .ok (.rt (.val (.bool true))) env' g'
def spLaw (K : PySem.W.Frag) (P : Addr) : SpG := fun _ vs H Q _ => ∃ (a : Addr) (ns : List Int), vs = [.ref a] ∧ SqL K H a (ns.map V.int) ∧ ns.length ≤ 63 ∧ H P = some (.tbl #[]) ∧ ∀ H', Q (.bl true) H'
theorem law_start {K : PySem.W.Frag} {ca : PySem.Str → Addr} {E : XK} {N : List PySem.Str} {b : Nat → Addr → Mir Ctl} {s : Shared} {vs : List V} {H : Hp} {Q : VK} {P : Addr} {n : Nat} (hN : 3 ≤ N.length) (L : LawTrue N.length b) (h : spLaw K P s vs H Q E) :
    (tCons (tVar 0) tNil) (L2.start N vs) H fun vs1 H1 => ∀ s1, spPen K s1 vs1 H1 (fun x H2 => gName 1 x (L2.start N vs) H2 fun σ H3 => zS K (ca, E) (b n P) { nx := fun _ H' => Q .non H', rt := Q } (σ.set (N.length - 1) (some (.ref P))) H3) E := by
  obtain ⟨a, ns, rfl, hS, hl, hP, hq⟩ := h
  refine ⟨.ref a, rfl, fun s1 => ⟨a, ns, rfl, hS, by omega, fun H' l p fold sm hl0 hp0 hl1 hp1 f1 f2 => ?_⟩⟩
  have hP' : H' P = some (.tbl #[]) := sm _ _ hP
  have npP : p ≠ P := fun z => by rw [z, hP] at hp0; cases hp0
  have nlP : l ≠ P := fun z => by rw [z, hP] at hl0; cases hl0
  have nlp : l ≠ p := fun z => by rw [z, hp1] at hl1; cases hl1
  have len0 : (L2.start N [V.ref a]).length = N.length := by
    unfold L2.start
    simp
    omega
  obtain ⟨env', g', e⟩ := L n P ns fold hl f1 f2
  refine ⟨⟨p, [], H'⟩, [P], lawEnv N.length P, ⟨ns, 0, 0, 0, fold⟩, ⟨?_, ⟨by simpa using npP, ?_, fun b hb => (by cases hb), ⟨l, hp1, mask_of nlp (fun z => nlP (List.mem_singleton.mp z)) hl1⟩⟩, fun i sl ei => ?_, fun i j sl sl' v e1 e2 e3 e4 o1 o2 => ?_, fun i sl b _ _ hb => by cases hb⟩, ?_⟩
  · rw [List.length_set, List.length_set, len0]
    unfold lawEnv
    simp
    omega
  · intro b hb
    rw [List.mem_singleton.mp hb, hP']
    rfl
  · have hi : i < N.length := by
      have := (List.getElem?_eq_some_iff.mp ei).1
      unfold lawEnv at this
      simp at this
      omega
    unfold lawEnv at ei
    match i, ei with
    | 0, ei => cases ei
    | 1, ei =>
      cases ei
      refine ⟨.ref p, ?_, rfl⟩
      rw [List.getElem?_set_ne (by omega), List.getElem?_set_self (by rw [len0]; omega)]
    | i + 2, ei =>
      have ei : (List.replicate (N.length - 3) none ++ [some (Sl.tb P)] : Env)[i]? = some (some sl) := ei
      by_cases h3 : i < N.length - 3
      · rw [List.getElem?_append_left (by simpa using h3), List.getElem?_replicate] at ei
        split at ei <;> cases ei
      · have e3 : i = N.length - 3 := by omega
        rw [List.getElem?_append_right (by simp; omega), e3, List.length_replicate, Nat.sub_self] at ei
        cases ei
        refine ⟨.ref P, ?_, P, #[], rfl, by simp, hP', ⟨True.intro, fun pos cv q => ?_⟩, rfl⟩
        · have e4 : N.length - 3 + 2 = N.length - 1 := by omega
          rw [e3, e4, List.getElem?_set_self (by rw [List.length_set, len0]; omega)]
        · have z : codeAmong pos [] = some cv := q
          simp [codeAmong] at z
  · have key : ∀ {i : Nat} {sl : Sl}, (lawEnv N.length P)[i]? = some (some sl) → sl.own = true → i = N.length - 1 := fun {i sl} ei o => by
      have hi : i < N.length := by
        have := (List.getElem?_eq_some_iff.mp ei).1
        unfold lawEnv at this
        simp at this
        omega
      unfold lawEnv at ei
      match i, ei with
      | 0, ei => cases ei
      | 1, ei => cases ei; cases o
      | i + 2, ei =>
        have ei : (List.replicate (N.length - 3) none ++ [some (Sl.tb P)] : Env)[i]? = some (some sl) := ei
        by_cases h3 : i < N.length - 3
        · rw [List.getElem?_append_left (by simpa using h3), List.getElem?_replicate] at ei
          split at ei <;> cases ei
        · omega
    rw [key e1 o1, key e2 o2]
  · rw [e]
    intro v O2 H2 s2 B2 r2 _
    have r2 : Rep K (mask ⟨p, [], H'⟩ O2 H2) (.bool true) v := r2
    simp only [Rep] at r2
    rw [r2]
    exact hq H2
end Z
end
section
set_option linter.all false
set_option maxRecDepth 100000
set_option maxHeartbeats 2000000
/-! ZZD: what a lambda of the frame captured, seen from a block of that frame. -/
namespace Z
open PySem PySem.Spec PyProof.Rows L2 LamX NdefX

theorem in_of_lookup {β : Type} {y : PySem.Str} {c : β} : ∀ {l : List (PySem.Str × β)}, l.lookup y = some c → (y, c) ∈ l := by
  intro l
  induction l with
  | nil => intro h; cases h
  | cons p r ih =>
    obtain ⟨n, v⟩ := p
    intro h
    rw [List.lookup_cons] at h
    by_cases e : y == n
    · rw [e] at h
      cases h
      cases eq_of_beq e
      exact List.mem_cons_self
    · rw [Bool.eq_false_iff.mpr e] at h
      exact List.mem_cons_of_mem _ (ih h)
/-- the block's cell of a captured name is the frame's -/
theorem blk_cell {X : Cx} {scope : Scope} {s : Shared} {y : PySem.Str} (u : ∀ z ∈ scope.names, scope.names.lookup z.1 = some z.2) (hy : (y, NameKind.free) ∈ scope.names) : (blkEnv X scope s).cells.lookup y = some ((X.env.cells.lookup y).getD 0) := by
  have m : (y, (X.env.cells.lookup y).getD 0) ∈ (blkEnv X scope s).cells := cells_acc (cloFrom_has hy)
  obtain ⟨c, hc⟩ := mem_lookup m
  rw [hc]
  have mc : (y, c) ∈ cellsFrom (s.heap.push { cls := .none, data := .dict #[] }).objs.size scope.names (cloFrom X.env.cells scope.names []) := by
    have e : (s.heap.push { cls := .none, data := .dict #[] }).objs.size = s.heap.objs.size + 1 := by simp [Heap.push]
    rw [e]
    exact in_of_lookup hc
  rcases cells_mem mc with z | ⟨z, -⟩
  · rcases cloFrom_mem z with z | ⟨-, z⟩
    · cases z
    · rw [z]
  · have a := u _ hy
    have b := u _ z
    rw [a] at b
    cases b
theorem seen_free {f : PySem.Str → Bool} {y : PySem.Str} {names : List (PySem.Str × NameKind)} (h : names.lookup y = some NameKind.free) :
    (names.map fun (n, k) => if (k == NameKind.free && f n) then (n, NameKind.cell) else (n, k)).lookup y = some NameKind.cell ∨ (names.map fun (n, k) => if (k == NameKind.free && f n) then (n, NameKind.cell) else (n, k)).lookup y = some NameKind.free := by
  induction names with
  | nil => cases h
  | cons p r ih =>
    obtain ⟨n, k⟩ := p
    rw [List.lookup_cons] at h
    rw [List.map_cons]
    by_cases e : y == n
    · rw [e] at h
      cases h
      cases eq_of_beq e
      cases hf : f y <;> simp [hf]
    · rw [Bool.eq_false_iff.mpr e] at h
      have ih := ih h
      have e' : (y == n) = false := Bool.eq_false_iff.mpr e
      dsimp only
      split
      · rw [List.lookup_cons, e']
        exact ih
      · rw [List.lookup_cons, e']
        exact ih
theorem caps_blk {X : Cx} {scope : Scope} {own : List (PySem.Str × Nat)} {s : Shared} {H : Hp} {fp : List Addr} {cl : List (PySem.Str × Addr)} {fr : List PySem.Str} {js : List Nat} (ok : X.Ok) (C : Caps X cl fr js) (B : BlkOk X.N X.env.scope scope own)
    (hfr : ∀ y ∈ fr, (y, NameKind.free) ∈ scope.names) (hdom : ∀ y c, cl.lookup y = some c → y ∈ fr) : Caps (blkAt X scope s H fp) cl fr js where
  sub := fun y c e => by
    have a := blk_cell (X := X) (s := s) B.uniq (hfr y (hdom y c e))
    rw [C.sub y c e] at a
    exact a
  kin := fun y hy => by
    have a := seen_free (f := fun n => X.env.scope.kind == .function && X.env.kindOf n == some .cell) (B.uniq _ (hfr y hy))
    simp only [← Bool.and_assoc] at a
    exact a
  sup := fun y hy c e => by
    obtain ⟨c', e'⟩ : ∃ c', X.env.cells.lookup y = some c' := (C.kin y hy).elim (fun z => ok.has y (.inl z)) fun z => ok.has y (.inr z)
    have a := blk_cell (X := X) (s := s) B.uniq (hfr y hy)
    rw [e'] at a
    have b := e.symm.trans a
    cases b
    exact C.sup y hy _ e'
  at_ := C.at_
end Z
end
section
set_option linter.all false
set_option maxRecDepth 100000
set_option maxHeartbeats 2000000
/-! YF: _law_fault, from its text. -/
namespace Z
open PySem PySem.Spec PyProof.Rows L2 LamX NdefX
section
variable {X : Cx} {ca : PySem.Str → Addr} {cn tag f g : PySem.Str} {hds : List ExceptHandler} {l : List (Value × SuiteR)} {np p1 p2 p3 p4 p5 p6 p7 pos : Pos} {j : Nat} {k}
theorem fault_fld {a : Addr} {oe : Obj} {cls : Value} {d : Option Addr} {pn : List (Addr × Obj)} (xf : XfC X.K (ca cn)) (no : PySem.W.findIn X.K (.ref (ca cn)) f = some none) (hN : X.N[1]? = some ("fault" : PySem.Str)) (hl : X.env.kindOf "fault" = some .local) (z : Zc cls d oe) (hvs : ∃ vs, oe.data = .fields vs) :
    PE (X.suite a ((a, oe) :: pn)) (.Attribute (.Name "fault" p2) f p3) (tXf a cls d (ca cn) f (tVar 1)) :=
  pe_xf xf no z hvs (pe_var (i := 1) hN (.inl hl))
theorem clause_one (hg : Gl X cn) (hd : (cn == ("__debug__" : PySem.Str)) = false) (hm : X.mg cn = some (.ref (ca cn))) (xf : XfC X.K (ca cn)) (no : PySem.W.findIn X.K (.ref (ca cn)) f = some none) (hN : X.N[1]? = some ("fault" : PySem.Str)) (hl : X.env.kindOf "fault" = some .local) (r : Clauses X "fault" hds l) :
    Clauses X "fault" (.ExceptHandler (some (.Name cn np)) (some "fault") [.Return (some (.Tuple [.Constant (.str tag) j p1, .Attribute (.Name "fault" p2) f p3] k p4)) p5] pos :: hds) ((.ref (ca cn), suiteF ca (cn, tag, [f])) :: l) :=
  .cons ⟨hg, hd, .inl hm⟩ (fun a oe cls d pn z hvs => pss_one (ps_ret (pe_tup (pa_cons pe_str (pa_cons (fault_fld xf no hN hl z hvs) pa_nil))))) r
theorem clause_two (hg : Gl X cn) (hd : (cn == ("__debug__" : PySem.Str)) = false) (hm : X.mg cn = some (.ref (ca cn))) (xf : XfC X.K (ca cn)) (no : PySem.W.findIn X.K (.ref (ca cn)) f = some none) (no2 : PySem.W.findIn X.K (.ref (ca cn)) g = some none) (hN : X.N[1]? = some ("fault" : PySem.Str)) (hl : X.env.kindOf "fault" = some .local) (r : Clauses X "fault" hds l) :
    Clauses X "fault" (.ExceptHandler (some (.Name cn np)) (some "fault") [.Return (some (.Tuple [.Constant (.str tag) j p1, .Attribute (.Name "fault" p2) f p3, .Attribute (.Name "fault" p6) g p7] k p4)) p5] pos :: hds) ((.ref (ca cn), suiteF ca (cn, tag, [f, g])) :: l) :=
  .cons ⟨hg, hd, .inl hm⟩ (fun a oe cls d pn z hvs => pss_one (ps_ret (pe_tup (pa_cons pe_str (pa_cons (fault_fld xf no hN hl z hvs) (pa_cons (fault_fld xf no2 hN hl z hvs) pa_nil)))))) r
end
section
variable {P : Program} {w : World} {K : PySem.W.Frag} {mg : PySem.Str → Option Value} {base : Heap} {ca : PySem.Str → Addr} {tab : List (PySem.Str × NameKind)}
/-- _law_fault by the names of its classes and its text -/
theorem fault_ok {tb : FTab} {j kn : Nat} {st : Stmt} {hd : ExceptHandler} {hds : List ExceptHandler} {p1 p2 p3 p4 p5 p6 : Pos} (D : DefAt K mg "_law_fault" st ["work"]) (S : FnScope ["work", "fault"] ["work"] (defScope st)) (ht : tabB (defScope st) tab = true)
    (hbody : defBody st = [.Try [.Expr (.Call (.Name "work" p1) [] [] p2) p3] (hd :: hds) [] [] p4, .Return (some (.Constant .none kn p5)) p6]) (hf : (defScope st).names.lookup ("fault" : PySem.Str) = some .local) (hw : Vis (defScope st) "work") (C : ClsX K mg ca tb)
    (hh : ∀ (f : Addr) (cd : Value) (A : Around) (outer : List PySem.Env) (s : Shared) (H : Hp) (E : XK), Tab (cxOf (L2.CX P w) P w K mg base ["work", "fault"] "_law_fault" (defScope st) f cd A outer s H E) tab →
      Clauses (cxOf (L2.CX P w) P w K mg base ["work", "fault"] "_law_fault" (defScope st) f cd A outer s H E) "fault" (hd :: hds) (tb.map fun q => (.ref (ca q.1), suiteF ca q))) : FaultOk P w K mg base ca tb j := by
  obtain ⟨f, fd, h1, h2, h3⟩ := D.ex
  refine ⟨f, fd, fnG_of h1 S (fun s vs H Q E q => ?_) (fun cdv A outer s H vs Q E hr hg q => ?_), h2, h1.kp, h3⟩
  · obtain ⟨pa, g, f, F, k, n, fr, ws, m, envL, rfl, _⟩ := q
    rfl
  · rw [hbody]
    exact fault_body S hw hf C hr hg q (clauses_rule rfl rfl) (hh f cdv A outer s H E (tab_of ht))
end
end Z
end
section
set_option linter.all false
set_option maxRecDepth 100000
set_option maxHeartbeats 2000000
/-! ZZE: zx_lcK with tables of names. -/
namespace Z
open PySem PySem.Spec PyProof.Rows L2 LamX NdefX
theorem zx_lcKT {X : Cx} {ca : PySem.Str → Addr} {E : XK} {kk : Nat} {N : List PySem.Str} {tab tab2 : List (PySem.Str × NameKind)} {elt tg iter : Expr} {ifs : List Expr} {scope : Scope} {own : List (PySem.Str × Nat)} {pos : Pos} {gt : TG} {t0 : Tgt} {mi : Mir (List D)} {mt : Mir Bool} {me : Mir Sl}
    (t : Tab X tab) (B : Exp X E kk) (hNN : X.N = N) (hb : blkT N tab scope own tab2 = true) (hi : PI X tg iter (zI true X.K (ca, E) mi)) (tk : TgtOk X.K t0 gt) (ht' : ∀ j ∈ t0.slots, j ∈ own.map (·.2))
    (hg : ∀ s H fp, Tab (blkAt X scope s H fp) tab2 → PG (blkAt X scope s H fp) tg gt) (ht : ∀ s H fp, Tab (blkAt X scope s H fp) tab2 → PTs (blkAt X scope s H fp) ifs (zB X.K (ca, E0) mt))
    (he : ∀ s H fp, X.Ok → BlkOk X.N X.env.scope scope own → Tab (blkAt X scope s H fp) tab2 → PE (blkAt X scope s H fp) elt (zE X.K (ca, E0) me)) (hs : ∀ x, foldedSetIterable iter X.env x = pure x := by intro _; rfl) :
    PE X (.ListComp elt [⟨tg, iter, ifs, 0⟩] scope pos) (zE X.K (ca, E) (mLc mi (own.map (·.2)) t0 mt me)) :=
  have q := blkT_ok t hNN hb
  zx_lcK B.calm B.nd hi q.1 tk ht' (fun s H fp _ => hg s H fp (tab_blk q.2 ..)) (fun s H fp _ => ht s H fp (tab_blk q.2 ..)) (fun s H fp ok => he s H fp ok q.1 (tab_blk q.2 ..)) hs
end Z
end
section
set_option linter.all false
set_option maxRecDepth 100000
set_option maxHeartbeats 2000000
/-! YG: the end of a law whose promise holds where no repr is under way. -/
namespace Z
open PySem PySem.Spec PyProof.Rows L2 LamX NdefX

/-- the heap ahead of the law: the table of its code object; the script, where K does not know it -/
def lawH (K : PySem.W.Frag) (a T : Addr) (o : Obj) (xs : List V) : Hp := fun b => if b = T then some (.tbl #[]) else if b = a ∧ K.lookup a = none then some (.frz o (.lst xs)) else none
section
variable {P : Program} {w : World} {K : PySem.W.Frag} {a T b : Addr} {o ob : Obj} {xs : List V} {u : HO} {h : Heap}
theorem lawH_tab : lawH K a T o xs T = some (.tbl #[]) := if_pos rfl
theorem lawH_inv (e : lawH K a T o xs b = some u) : (b = T ∧ u = .tbl #[]) ∨ (b = a ∧ b ≠ T ∧ K.lookup a = none ∧ u = .frz o (.lst xs)) := by
  unfold lawH at e
  split at e
  · rename_i c
    exact .inl ⟨c, (Option.some.inj e).symm⟩
  · rename_i c
    split at e
    · rename_i d
      exact .inr ⟨d.1, c, d.2, (Option.some.inj e).symm⟩
    · cases e
/-- what is neither the script nor the table is no part of it -/
theorem lawH_out (hT : h.get? T = some { cls := .none, data := .fields #[] }) (ha : h.get? a = some o) (e : h.get? b = some ob) (n1 : ob.data ≠ .fields #[]) (n2 : ob.data ≠ o.data) : lawH K a T o xs b = none := by
  cases q : lawH K a T o xs b with
  | none => rfl
  | some u =>
    rcases lawH_inv q with ⟨rfl, _⟩ | ⟨rfl, _⟩
    · rw [e] at hT
      exact absurd (congrArg Obj.data (Option.some.inj hT)) n1
    · rw [e] at ha
      exact absurd (congrArg Obj.data (Option.some.inj ha)) n2
/-- behind the law the table may have grown, all else is as it was -/
theorem old_of {h' : Heap} {H' : Hp} {c : Addr} (hT : h.get? T = some { cls := .none, data := .fields #[] }) (C : PySem.W.CodeHd h c T) (un : Un (frs []) [] (lawH K a T o xs) H' h h') (ok : HOk P w (lawH K a T o xs) h) (ok' : HOk P w H' h') : OldK h h' := by
  obtain ⟨more, hm⟩ := un.tbls T #[] lawH_tab
  have grown : h'.get? T = some { cls := .none, data := .fields (#[] ++ more) } := ok' T _ hm
  have rest : ∀ b ob, b ≠ T → h.get? b = some ob → h'.get? b = some ob := fun b ob hb e => by
    cases q : lawH K a T o xs b with
    | none => exact un.keep b ob e q (fun z => nomatch (show b ∈ ([] : List Addr) from z)) (fun z => nomatch z)
    | some u =>
      rcases lawH_inv q with ⟨z, _⟩ | ⟨_, _, _, rfl⟩
      · exact absurd z hb
      · have e1 := (ok b _ q).1
        rw [e] at e1
        cases e1
        exact (ok' b _ (un.frzs b _ _ q)).1
  refine ⟨fun b ob e => ?_, fun b ob e => ?_⟩
  · by_cases hb : b = T
    · subst hb
      rw [hT] at e
      cases e
      exact .inr (.inl ⟨(C.tab hT).isCodeTable, rfl, #[], more, rfl, grown⟩)
    · exact .inl (rest b ob hb e)
  · by_cases hb : b = T
    · exact ⟨_, hb ▸ grown⟩
    · exact ⟨ob, rest b ob hb e⟩
end
section
variable {P : Program} {w : World} {K : PySem.W.Frag} {mg mb : PySem.Str → Option Value} {k : Nat} {fa a c T : Addr} {fd : FuncData} {x : PySem.Str} {sp : SpG} {s : Shared} {vs : List Value} {ns : List Int}
theorem law_callG (KX : K.In s.heap) (hns : s.heap.Ns mainGlobals mg) (hb : s.heap.Ns builtinsNs mb) (hbb : ∀ x : PySem.Str, x ≠ "__name__" → mb x = bootBuiltins x) (hlim : s.heap.NoLimit) (hg : s.gens = #[])
    (hT : s.heap.get? T = some { cls := .none, data := .fields #[] }) (nT : K.lookup T = none) (C : PySem.W.CodeHd s.heap c T)
    (hbm : ∃ (bm : Addr) (ob : Obj), mg "__builtins__" = some (.ref bm) ∧ bm ≠ builtinsNs ∧ s.heap.get? bm = some ob ∧ ob.cls = .type "module" ∧ ob.dict = some builtinsNs ∧ ob.data = .plain)
    (ha : s.heap.get? a = some { cls := .type "list", data := .seq vs.toArray }) (hi : IntsAre vs ns) (hl : ns.length ≤ sizeLine) (hr : Room k callerA)
    (F : ∀ base : Heap, K.In base → base.Ns mainGlobals mg → TabB base mg c T → FnG P w K mg base (L2.CX P w) k fa fd [x] sp) (hbind : ∀ (s : Shared) (u : Value), BindsTo s fd ⟨[u], []⟩ [(x, u)])
    (hsp : ∀ H : Hp, H T = some (.tbl #[]) → SqL K H a (ns.map V.int) → sp s [.ref a] H (fun v _ => v = .bl true) fun _ _ _ => False) :
    codeAny (model P w) callerA (.call (.ref fa) ⟨[.ref a], []⟩) (fun r s' => r = .ok (.ret (.bool true)) ∧ OldK s.heap s'.heap ∧ s'.os = s.os ∧ AllBare s'.gens) s := by
  let H : Hp := lawH K a T { cls := .type "list", data := .seq vs.toArray } (ns.map V.int)
  have rv := vals_ints hi
  have len : vs.length = ns.length := hi.length
  have out : ∀ {b : Addr} {ob : Obj}, s.heap.get? b = some ob → ob.data ≠ .fields #[] → ob.data ≠ .seq vs.toArray → (hidT s.heap H).get? b = some ob := fun e n1 n2 => hidT_get e (lawH_out hT ha e n1 n2)
  have ok : HOk P w H s.heap := fun b u e => by
    rcases lawH_inv e with ⟨rfl, rfl⟩ | ⟨rfl, _, _, rfl⟩
    · exact hT
    · exact ⟨ha, by rw [List.length_map]; exact hl, vs, _, rv, ha⟩
  have script : SqL K H a (ns.map V.int) := by
    cases q : K.lookup a with
    | some o =>
      have e := KX a o q
      rw [ha] at e
      cases e
      exact .inr ⟨_, vs.toArray, _, q, rfl, rfl, rfl, by rw [List.size_toArray, len]; exact hl, by simpa using rv⟩
    | none =>
      refine .inl (.inr ⟨{ cls := .type "list", data := .seq vs.toArray }, ?_⟩)
      have hne : a ≠ T := fun z => by
        rw [z, hT] at ha
        cases ha
      show (if a = T then _ else _) = _
      rw [if_neg hne, if_pos ⟨rfl, q⟩]
  have ns_ : ∀ {b : Addr} {m : PySem.Str → Option Value}, s.heap.Ns b m → (hidT s.heap H).Ns b m := fun ⟨o, es, ep, e, d, r⟩ => ⟨o, es, ep, out e (by rw [d]; exact fun z => nomatch z) (by rw [d]; exact fun z => nomatch z), d, r⟩
  have kin : K.In (hidT s.heap H) := fun b ob e => hidT_get (KX b ob e) (by
    cases q : H b with
    | none => rfl
    | some u =>
      rcases lawH_inv q with ⟨rfl, _⟩ | ⟨rfl, _, z, _⟩
      · rw [nT] at e; cases e
      · rw [z] at e; cases e)
  have tb : TabB (hidT s.heap H) mg c T := by
    refine ⟨?_, ?_, fun z => ?_⟩
    · obtain ⟨o, us, file, tf, flags, tg, inF, text, tt, e1, r1, r2, r3, rest⟩ := C
      refine ⟨o, us, file, tf, flags, tg, inF, text, tt, out e1 ?_ ?_, r1, r2, r3, rest⟩
      · rw [r2]
        intro z
        cases z
        simp at r3
      · rw [r2]
        exact fun z => nomatch z
    · obtain ⟨bm, ob, b1, b2, b3, b4, b5, b6⟩ := hbm
      refine ⟨bm, ob, b1, b2, fun z => ?_, fun z => ?_, out b3 (by rw [b6]; exact fun z => nomatch z) (by rw [b6]; exact fun z => nomatch z), b4, b5, b6⟩
      · obtain ⟨o, es, ep, e, d, _⟩ := hns
        rw [z, e] at b3
        cases b3
        rw [d] at b6
        cases b6
      · rw [z, hT] at b3
        cases b3
        cases b6
    · obtain ⟨o, es, ep, e, d, _⟩ := hns
      rw [z, hT] at e
      cases e
      cases d
  have e0 : Env0 P w K mg (hidT s.heap H) callerA [] s H :=
    { frames := rfl, mod := ⟨kin, ns_ hns, ⟨mb, ns_ hb, hbb⟩, hlim.elim fun mc q => ⟨mc, ns_ q.1, q.2⟩⟩, bs := fun b o e => of_hidT e, bsz := Nat.le_of_eq (hidT_size _ _), funs := trivial, frf := fun b hb => (nomatch (show b ∈ ([] : List Addr) from hb)), hok := ok, bare := .of_eq hg }
  refine codeAny_mono ((F _ kin (ns_ hns) tb).run callerA [] s H ⟨[.ref a], []⟩ [.ref a] [.ref a] _ _ hr rfl e0 (hbind s (.ref a)) (.cons rfl .nil) (hsp H lawH_tab script)) fun r s' q => ?_
  match r, q with
  | .ok (.ret u), ⟨v, H', os, bare, un, ok', r', q⟩ =>
    have q : v = .bl true := q
    subst q
    obtain rfl : u = Value.bool true := r'
    exact ⟨rfl, old_of hT C un ok ok', os, bare⟩
  | .error e, q =>
    obtain ⟨_, _, _, _, _, _, _, _, _, _, _, _, z⟩ := q
    exact z.elim
end
end Z
end
section
set_option linter.all false
set_option maxRecDepth 100000
set_option maxHeartbeats 2000000
/-! YH: the facts that a head tells: defs, own exceptions; the walk. -/
namespace Z
open PySem PySem.Spec PyProof.Rows L2 LamX NdefX

def caK (K : PySem.W.Frag) : PySem.Str → Addr := He.ga K
/-! ### defs -/
abbrev dTop (x : PySem.Str) (st : Stmt) : He.DefD := ⟨(x, none), x, x, defArgs st, defBody st, defScope st, [], []⟩
abbrev dInit (x : PySem.Str) (st : Stmt) : He.DefD := ⟨(x, some "__init__"), "__init__", x ++ ".__init__", defArgs st, defBody st, defScope st, [], []⟩
section
variable {fa : List He.Fa} {fn : List He.DefD} {K : PySem.W.Frag} {h : Heap} {mg : PySem.Str → Option Value} {x : PySem.Str} {st : Stmt} {ps : List PySem.Str}
theorem at_top (c : He.SaysD fa fn K) (X : K.In h) (G : h.Ns mainGlobals mg) (i j : Nat) (hi : fn[i]? = some (dTop x st)) (hj : fa[j]? = some (.glo x))
    (b : ∀ (kV doc pm : Value) (an : Option Addr) (cdv ct : Value) (us : List Value), us.length = ps.length → bindArgs (PySem.W.fnOf x x (defArgs st) (defBody st) (defScope st) .none kV doc pm an cdv ct) ⟨us, []⟩ = pure (ps.zip us)) : DefAt K mg x st ps := by
  obtain ⟨fd, F⟩ := c.def_ i hi
  exact ⟨_, fd, F, He.glo_ok X G (c.fact j hj), F.bindsN b⟩
theorem code_is {p : PySem.Str × Option PySem.Str} {y q : PySem.Str} {a : Arguments} {b : List Stmt} {sc : Scope} {fd : FuncData} (F : FunD K y q a b sc [] [] (He.fAd K p) fd) : fd.code = .ref (He.codeOf K p) := by
  obtain ⟨oc, od, dV, kV, doc, pm, an, cdv, ct, osl, rfl, lk, hcd, _, _⟩ := F.ex
  obtain ⟨c, rfl⟩ := He.codeIn_ref hcd
  show Value.ref c = _
  rw [He.codeOf_eq lk rfl]
end
/-! ### own exceptions -/
def oexB (K : PySem.W.Frag) (C : Addr) : Bool := (match K.lookup C with
  | some ⟨.type "type", _, .cls ⟨_, _, .ref C' :: bm, _, _, true, _, _, _, _, false⟩, ⟨[_, _, _, _, some (.builtin "ValueError.__new__"), _]⟩⟩ => C' == C && PySem.HandSPX.refsVE bm
  | _ => false) && (decide (PySem.W.findIn K (.ref C) "__setattr__" = some (some (.builtin "object.__setattr__"))) && (decide (PySem.W.subIn K (.ref C) (.type "BaseException") = some true) && (decide (PySem.W.typeIn K (.ref C) = some (.type "type")) && PySem.W.keepIn K (.ref C))))
theorem oexB_ok {K : PySem.W.Frag} {C : Addr} (h : oexB K C = true) : OexC K C := by
  obtain ⟨h1, h⟩ := He.ba h
  obtain ⟨h2, h⟩ := He.ba h
  obtain ⟨h3, h⟩ := He.ba h
  obtain ⟨h4, h5⟩ := He.ba h
  refine ⟨?_, of_decide_eq_true h2, of_decide_eq_true h3, of_decide_eq_true h4, h5⟩
  split at h1
  · rename_i e
    obtain ⟨e1, e2⟩ := He.ba h1
    cases eq_of_beq e1
    exact ⟨_, _, _, _, _, _, _, _, _, _, _, _, _, _, _, e, e2⟩
  · cases h1
def baseB (K : PySem.W.Frag) (C : Addr) : Bool := decide (PySem.W.specialIn K (.ref C) "__getattribute__" = some (some (.builtin "type.__getattribute__"))) && (PySem.W.readsIn K C (.type "type") && (match PySem.W.findCls K (.ref C) (.type "type") "__init__" with
  | some (.val (.builtin "ValueError.__init__")) => true
  | _ => false))
theorem baseB_ok {K : PySem.W.Frag} {mg : PySem.Str → Option Value} {x : PySem.Str} {C : Addr} (m : mg x = some (.ref C)) (h : baseB K C = true) : BaseX K mg x C := by
  obtain ⟨h1, h⟩ := He.ba h
  obtain ⟨h2, h3⟩ := He.ba h
  refine ⟨m, of_decide_eq_true h1, h2, ?_⟩
  split at h3
  · rename_i e
    exact e
  · cases h3
/-- a class with its __init__ -/
def iniB (K : PySem.W.Frag) (C : Addr) : Bool := decide (PySem.W.findIn K (.ref C) "__init__" = some (some (.ref (He.ma K C "__init__")))) && decide (PySem.W.typeIn K (.ref (He.ma K C "__init__")) = some (.type "function"))
abbrev ExcL := List (PySem.Str × List PySem.Str)
/-- what is looked up of the exceptions, all at once -/
def exsB (base : PySem.Str) (xs : ExcL) (K : PySem.W.Frag) : Bool := baseB K (He.ga K base) && ((xs.all fun q => oexB K (He.ga K q.1) && (xfB K (He.ga K q.1) && (iniB K (He.ga K q.1) && q.2.all fun f => decide (PySem.W.findIn K (.ref (He.ga K q.1)) f = some none)))) &&
  xs.all fun q => xs.all fun p => decide (PySem.W.exmOne K (.ref (He.ga K q.1)) (.ref (He.ga K p.1)) = some (decide (q.1 = p.1))))
structure ExsOk (K : PySem.W.Frag) (q : PySem.Str × List PySem.Str) : Prop where
  oex : OexC K (caK K q.1)
  xf : XfC K (caK K q.1)
  no : ∀ f ∈ q.2, PySem.W.findIn K (.ref (caK K q.1)) f = some none
  ini : PySem.W.findIn K (.ref (caK K q.1)) "__init__" = some (some (.ref (He.ma K (caK K q.1) "__init__")))
  ty : PySem.W.typeIn K (.ref (He.ma K (caK K q.1) "__init__")) = some (.type "function")
theorem exs_base {K : PySem.W.Frag} {base : PySem.Str} {xs : ExcL} {mg : PySem.Str → Option Value} (h : exsB base xs K = true) (m : mg base = some (.ref (He.ga K base))) : BaseX K mg base (He.ga K base) := baseB_ok m (He.ba h).1
theorem exs_ok {K : PySem.W.Frag} {base : PySem.Str} {xs : ExcL} (h : exsB base xs K = true) {q : PySem.Str × List PySem.Str} (hq : q ∈ xs) : ExsOk K q := by
  have z := List.all_eq_true.mp (He.ba (He.ba h).2).1 q hq
  obtain ⟨h1, z⟩ := He.ba z
  obtain ⟨h2, z⟩ := He.ba z
  obtain ⟨h3, h4⟩ := He.ba z
  obtain ⟨h5, h6⟩ := He.ba h3
  exact ⟨oexB_ok h1, xfB_ok h2, fun f hf => of_decide_eq_true (List.all_eq_true.mp h4 f hf), of_decide_eq_true h5, of_decide_eq_true h6⟩
theorem exs_exm {K : PySem.W.Frag} {base : PySem.Str} {xs : ExcL} (h : exsB base xs K = true) {q p : PySem.Str × List PySem.Str} (hq : q ∈ xs) (hp : p ∈ xs) : PySem.W.exmOne K (.ref (caK K q.1)) (.ref (caK K p.1)) = some (decide (q.1 = p.1)) :=
  of_decide_eq_true (List.all_eq_true.mp (List.all_eq_true.mp (He.ba (He.ba h).2).2 q hq) p hp)
/-- the classes that _law_fault names -/
theorem clsX_of {K : PySem.W.Frag} {mg : PySem.Str → Option Value} {base : PySem.Str} {tb : FTab} {xs : ExcL} (h : exsB base xs K = true) (e : ∀ q ∈ tb, (q.1, q.2.2) ∈ xs) (m : ∀ q ∈ tb, mg q.1 = some (.ref (caK K q.1))) : ClsX K mg (caK K) tb where
  at_ := m
  xf := fun q hq => (exs_ok h (e q hq)).xf
  no := fun q hq => (exs_ok h (e q hq)).no
  exm := fun q hq x hx => by
    have key : ∀ l : FTab, faultD l x ≠ none → ∃ p ∈ l, p.1 = x.name := fun l => by
      induction l with
      | nil => exact fun z => absurd rfl z
      | cons p r ih =>
        intro z
        unfold faultD at z
        by_cases c : x.name = p.1
        · exact ⟨p, List.mem_cons_self, c.symm⟩
        · rw [if_neg c] at z
          obtain ⟨p', h1, h2⟩ := ih z
          exact ⟨p', List.mem_cons_of_mem _ h1, h2⟩
    obtain ⟨p, hp, ep⟩ := key tb hx
    rw [← ep]
    exact exs_exm h (e p hp) (e q hq)
/-- .. and as it is raised -/
theorem excAt_of {P : Program} {w : World} {K : PySem.W.Frag} {mg : PySem.Str → Option Value} {base : Heap} {fa : List He.Fa} {fn : List He.DefD} {x : PySem.Str} {fs : List PySem.Str} {st : Stmt} (T : ExsOk K (x, fs)) (m : mg x = some (.ref (caK K x))) (c : He.SaysD fa fn K) (i : Nat) (hi : fn[i]? = some (dInit x st))
    (F : ∀ fd, FunD K "__init__" (x ++ ".__init__") (defArgs st) (defBody st) (defScope st) [] [] (He.ma K (caK K x) "__init__") fd → FnOk P w K mg base (L2.CX P w) 1 (He.ma K (caK K x) "__init__") fd ("self" :: fs) (spInit (caK K x) fs))
    (b : ∀ (kV doc pm : Value) (an : Option Addr) (cdv ct : Value) (us : List Value), us.length = (("self" : PySem.Str) :: fs).length → bindArgs (PySem.W.fnOf "__init__" (x ++ ".__init__") (defArgs st) (defBody st) (defScope st) .none kV doc pm an cdv ct) ⟨us, []⟩ = pure ((("self" : PySem.Str) :: fs).zip us)) : ExcAt P w K mg base (caK K) x fs := by
  obtain ⟨fd, D⟩ := c.def_ i hi
  exact ⟨⟨T.oex, He.ma K (caK K x) "__init__", fd, T.ini, T.ty, F fd D, FunD.bindsN D b⟩, m⟩
/-! ### the hook: the statics are looked at too -/
def frY (g : Addr → Option Obj) (n : Nat) : PySem.W.Frag := He.frT g (cStatics :: He.asD g n)
def obsY (n : Nat) (fa : List He.Fa) (fn : List He.DefD) (tf : List He.Defn) (ex : PySem.W.Frag → Bool) (g : Addr → Option Obj) : He.AlX := (He.obsT fa fn [] (frY g n), ex (frY g n) && He.tabsB g tf (frY g n))
theorem says_of {as : List Addr} {fa : List He.Fa} {fn : List He.DefD} {tf : List He.Defn} {ex : PySem.W.Frag → Bool} {w : World} {h : Heap} (e1 : He.obsT fa fn [] (He.frT h.get? as) = He.valT fn [] w) (e2 : (ex (He.frT h.get? as) && He.tabsB h.get? tf (He.frT h.get? as)) = true) : He.SaysX fa fn [] tf ex w h (He.frT h.get? as) := by
  obtain ⟨e3, e4⟩ := Bool.and_eq_true_iff.mp e2
  have tab : ∀ p ∈ tf, PySem.W.codeHdIn (He.frT h.get? as) (He.cT (He.frT h.get? as) p).1 (He.cT (He.frT h.get? as) p).2 = true ∧ ∃ o, h.get? (He.cT (He.frT h.get? as) p).2 = some o ∧ He.emptyTab o = true := fun p hp => by
    have z := List.all_eq_true.mp e4 p hp
    obtain ⟨z1, z2⟩ := Bool.and_eq_true_iff.mp z
    refine ⟨z1, ?_⟩
    split at z2
    · rename_i o eo
      exact ⟨o, eo, z2⟩
    · cases z2
  exact { t := e1, more := e3, hd := fun p hp => (tab p hp).1
          out := fun p hp => (tab p hp).2.elim fun o q => He.frT_none q.1 q.2
          empty := fun p hp => (tab p hp).2.elim fun o q => by rw [q.1, He.emptyTab_eq q.2] }
def hookY (n : Nat) (fa : List He.Fa) (fn : List He.DefD) (tf : List He.Defn) (ex : PySem.W.Frag → Bool) : PySem.W.Hook where
  α := He.AlX
  obs := fun s => obsY n fa fn tf ex s.heap.get?
  val := fun w => He.valX fn [] w
  says := fun w h => ∃ K : PySem.W.Frag, K.In h ∧ He.SaysX fa fn [] tf ex w h K
  of := fun _ _ e => ⟨_, He.frT_in, says_of (congrArg Prod.fst e) (congrArg Prod.snd e)⟩
  keeps := fun _ _ _ ⟨K, hK, c⟩ k => ⟨K, PySem.W.Frag.In.keeps hK k, { c with empty := fun p hp => k _ _ (c.empty p hp) }⟩
theorem obsY_eq {n : Nat} {fa : List He.Fa} {fn : List He.DefD} {tf : List He.Defn} {ex : PySem.W.Frag → Bool} {g : Addr → Option Obj} {s : Shared} (h : ∀ a, g a = s.heap.get? a) : obsY n fa fn tf ex g = (hookY n fa fn tf ex).obs s := by
  cases (funext h : g = s.heap.get?)
  rfl
/-! ### the walk -/
theorem walkG {l : PySem.W.OpenLaw} {n k : Nat} {q : Program} {loose : List PySem.Str} {XP : (PySem.Str → Option Value) → Heap → Prop} {YP : World → Heap → Prop} {d : DefRec} {x : PySem.Str}
    (hn : l.most = some n) (hn2 : n ≤ sizeLine) (hdf : d.params.defaults = []) (hr : Room k callerA)
    (F : ∀ (w : World) (mg : PySem.Str → Option Value) (fa : Addr) (h : Heap), YP w h → h.Ns mainGlobals mg → mg d.name = some (.ref fa) → ∃ (K : PySem.W.Frag) (c T : Addr) (fd : FuncData) (sp : SpG), K.In h ∧ h.get? T = some { cls := .none, data := .fields #[] } ∧ K.lookup T = none ∧ PySem.W.CodeHd h c T ∧
      (∀ (s : Shared) (u : Value), BindsTo s fd ⟨[u], []⟩ [(x, u)]) ∧ (∀ (H : Hp) (s : Shared) (a : Addr) (ns : List Int), ns.length ≤ n → H T = some (.tbl #[]) → SqL K H a (ns.map V.int) → sp s [.ref a] H (fun v _ => v = .bl true) fun _ _ _ => False) ∧
      ∀ base : Heap, K.In base → base.Ns mainGlobals mg → TabB base mg c T → FnG l.prog w K mg base (L2.CX l.prog w) k fa fd [x] sp) : PySem.W.WalkO q loose XP YP l.row.toRowW d [] (fun f vs => PySem.call f vs) := by
  refine Att.attach_callB hn hdf fun w s₀ s₁ mg mb fa o pm cd doc a vs ns G Y ho hd hcd hmg hobj hints hlen hbits hg => ?_
  obtain ⟨K, c, T, fd, sp, KX, hT, nT, C, hb, hsp, hF⟩ := F w mg fa _ Y G.T.g hmg
  exact law_callG KX G.T.g G.T.b G.T.builtins G.T.nolimit hg hT nT C G.T.bmain hobj hints (Nat.le_trans hlen hn2) hr hF hb fun H hH hS => hsp H s₁ a ns hlen hH hS
end Z
end
section
set_option linter.all false
set_option maxRecDepth 100000
set_option maxHeartbeats 2000000
/-! YI: what a law's own derivation leans on: its lambdas. -/
namespace Z
open PySem PySem.Spec PyProof.Rows L2 LamX NdefX

instance : Inhabited LamW := ⟨⟨[], [], none, [], [], none, []⟩, .Constant .none 0 ⟨0, 0, 0, 0⟩, ⟨.function, [], false, false, []⟩⟩
def lamAt (k : Nat) : LamW := lawLams.getD k default
theorem lamAt_of {k n : Nat} (hn : lawLams.length = n) (h : k < n) : lawLams[k]? = some ((lamAt k).1, (lamAt k).2.1, (lamAt k).2.2) := by
  have h : k < lawLams.length := by rw [hn]; exact h
  unfold lamAt
  rw [List.getElem?_eq_getElem h, List.getD_eq_getElem?_getD, List.getElem?_eq_getElem h]
  rfl
/-- the table of a lambda's names -/
theorem tab_ncx {P : Program} {w : World} {K : PySem.W.Frag} {mg : PySem.Str → Option Value} {base : Heap} {fr : List PySem.Str} {F : NF} {f : Addr} {A : Around} {outer : List PySem.Env} {s : Shared} {H : Hp} {E : XK} {tab : List (PySem.Str × NameKind)} {sc : Scope} (e : F.scope = sc) (h : tabB sc tab = true) (n : tab.all (fun p => decide (p.2 ≠ .cell)) = true) :
    Tab (ncx (L2.CX P w) P w K mg base fr F f A outer s H E) tab := ⟨fun j x k q => by
  obtain ⟨h1, h2, h3, h4⟩ := tabB_at h q
  refine ⟨.inl ?_, fun z => ?_, h2, h3, h4⟩
  · show F.scope.names.lookup x = some k
    rw [e]
    exact h1
  · have y := List.all_eq_true.mp n _ (List.mem_of_getElem? q)
    exact absurd z (of_decide_eq_true y)⟩
/-- what a lambda of the frame captured, seen from the block that calls it -/
def capB (N fr : List PySem.Str) (js : List Nat) (lawSc sc bsc : Scope) : Bool :=
  (sc.names.all fun y => !decide (y.2 = .free) || (decide (y.1 ∈ fr) && (decide (lawSc.names.lookup y.1 = some .cell) || decide (lawSc.names.lookup y.1 = some .free)))) &&
  ((fr.all fun y => decide ((y, NameKind.free) ∈ sc.names) && decide ((y, NameKind.free) ∈ bsc.names)) && decide (js.map (fun j => N[j]?) = fr.map some))
theorem caps_of {X : Cx} {scope : Scope} {own : List (PySem.Str × Nat)} {s : Shared} {H : Hp} {fp : List Addr} {k n m : Nat} {fr : List PySem.Str} {js : List Nat} {L : LO} (ok : X.Ok) (bk : BlkOk X.N X.env.scope scope own) (hcl : X.env.cells = cellsFrom (n + 1) lawNames []) (hm : lawLams.length = m) (hk : k < m)
    (c : capB X.N fr js X.env.scope (lamAt k).2.2 scope = true) (h : LamIs k n L) : Caps (blkAt X scope s H fp) L.cl fr js := by
  obtain ⟨e1, _, e3⟩ := h
  rw [lamAt_of hm hk] at e1
  simp only [Option.some.injEq, Prod.mk.injEq] at e1
  obtain ⟨_, _, e2⟩ := e1
  rw [← hcl, ← e2] at e3
  obtain ⟨c1, c⟩ := Bool.and_eq_true_iff.mp c
  obtain ⟨c2, c3⟩ := Bool.and_eq_true_iff.mp c
  have free : ∀ y ∈ (lamAt k).2.2.names, y.2 = .free → y.1 ∈ fr ∧ (X.env.scope.names.lookup y.1 = some .cell ∨ X.env.scope.names.lookup y.1 = some .free) := fun y hy e => by
    have z := List.all_eq_true.mp c1 y hy
    simp only [e, decide_true, Bool.not_true, Bool.false_or, Bool.and_eq_true, Bool.or_eq_true, decide_eq_true_eq] at z
    exact z
  have both : ∀ y ∈ fr, (y, NameKind.free) ∈ (lamAt k).2.2.names ∧ (y, NameKind.free) ∈ scope.names := fun y hy => by
    have z := List.all_eq_true.mp c2 y hy
    simp only [Bool.and_eq_true, decide_eq_true_eq] at z
    exact z
  rw [e3]
  refine caps_blk ok (Caps.made ok (fun y hy e => (free y hy e).2) (fun y hy => (both y hy).1) (of_decide_eq_true c3)) bk (fun y hy => (both y hy).2) fun y c e => ?_
  rcases cloFrom_mem (in_of_lookup e) with z | ⟨z, _⟩
  · cases z
  · exact (free _ z rfl).1
end Z
end
section
set_option linter.all false
set_option maxRecDepth 100000
set_option maxHeartbeats 8000000
/-! KA: mirrors and derivations, printed. -/
namespace Z
open PySem PySem.Spec PyProof.Rows L2 LamX NdefX
/-- is_whole: slots value -/
def b_is_whole : Mir Ctl := (sRet (mAnd (mIsi "int" (mVar 0)) (mNot (mIsi "bool" (mVar 0)))))
def m_is_whole : FMir := mBody 1 b_is_whole
/-- is_row: slots value -/
def b_is_row : Mir Ctl := (sRet (mIsi2 "tuple" "list" (mVar 0)))
def m_is_row : FMir := mBody 1 b_is_row
/-- is_integers_row: slots value many item -/
def b_is_integers_row : Mir Ctl := (sRet (mAnd (mIsi "tuple" (mVar 0)) (mAnd (mOp (fEq false) (mCall (g1 fLen) (mCons (mVar 0) mNil)) (mVar 1)) (mCall (g1 fAll) (mCons (mFz (mLc (itVal (mVar 0)) [2] (.name 2) mYes (mCall (mFn m_is_whole) (mCons (mVar 2) mNil)))) mNil)))))
def m_is_integers_row : FMir := mBody 3 b_is_integers_row
/-- is_integers: slots value row wide -/
def b_is_integers : Mir Ctl := (sSeq (sIf (mOrB (mNotB (mTest (mIsi "tuple" (mVar 0)))) (mTest (mOp (fEq false) (mCall (g1 fLen) (mCons (mVar 0) mNil)) (mC (.int 0))))) (sRet (mC (.bool false))) sNil)
    (sSeq (sIf (mNotB (mTest (mCall (g1 fAll) (mCons (mFz (mLc (itVal (mVar 0)) [1] (.name 1) mYes (mAnd (mIsi "tuple" (mVar 1)) (mOp fGt (mCall (g1 fLen) (mCons (mVar 1) mNil)) (mC (.int 0)))))) mNil)))) (sRet (mC (.bool false))) sNil)
    (sSeq (sSet 2 (mCall (g1 fLen) (mCons (mOp fIx (mVar 0) (mC (.int 0))) mNil)))
    (sRet (mCall (g1 fAll) (mCons (mFz (mLc (itVal (mVar 0)) [1] (.name 1) mYes (mCall (mFn m_is_integers_row) (mCons (mVar 1) (mCons (mVar 2) mNil))))) mNil))))))
def m_is_integers : FMir := mBody 3 b_is_integers
/-- is_table: slots value row -/
def b_is_table : Mir Ctl := (sRet (mAnd (mCall (mFn m_is_integers) (mCons (mVar 0) mNil)) (mCall (g1 fAll) (mCons (mFz (mLc (itVal (mVar 0)) [1] (.name 1) mYes (mAnd (mOp fLe (mCall (g1 (fBest maxI)) (mCons (mVar 1) mNil)) (mC (.int 1))) (mOp fGe (mCall (g1 (fBest minI)) (mCons (mVar 1) mNil)) (mNeg (mC (.int 1))))))) mNil))))
def m_is_table : FMir := mBody 2 b_is_table
/-- integers_of: slots table made row -/
def b_integers_of : Mir Ctl := (sSeq (sSet 1 (mVar 0))
    (sSeq (sIf (mAndB (mTest (mCall (mFn m_is_row) (mCons (mVar 0) mNil))) (mTest (mCall (g1 fAll) (mCons (mFz (mLc (itVal (mVar 0)) [2] (.name 2) mYes (mCall (mFn m_is_row) (mCons (mVar 2) mNil)))) mNil)))) (sSet 1 (mCall (g1 fTuple) (mCons (mFz (mLc (itVal (mVar 0)) [2] (.name 2) mYes (mCall (g1 fTuple) (mCons (mVar 2) mNil)))) mNil))) sNil)
    (sSeq (sIf (mNotB (mTest (mCall (mFn m_is_integers) (mCons (mVar 1) mNil)))) (sRaise "BadTable" ["table"] (mCons (mVar 0) mNil)) sNil)
    (sRet (mVar 1)))))
def m_integers_of : FMir := mBody 3 b_integers_of
/-- table_from: slots table made -/
def b_table_from : Mir Ctl := (sSeq (sSet 1 (mCall (mFn m_integers_of) (mCons (mVar 0) mNil)))
    (sSeq (sIf (mNotB (mTest (mCall (mFn m_is_table) (mCons (mVar 1) mNil)))) (sRaise "BadTable" ["table"] (mCons (mVar 0) mNil)) sNil)
    (sRet (mVar 1))))
def m_table_from : FMir := mBody 2 b_table_from
/-- sign_rows: slots many out k row sign -/
def b_sign_rows : Mir Ctl := (sSeq (sSet 1 (mFz (mLst (mCons (mTup (mCons (mC (.int 1)) mNil)) mNil))))
    (sSeq (sFor (itRng1 (mCons (mOp fSub (mVar 0) (mC (.int 1))) mNil)) (.name 2) (sAfter [1] (sSet 1 (mLc2 (itVal (mVar 1)) [3, 4] [4] (.name 3) mYes (itVal (mTup (mCons (mC (.int 1)) (mCons (mNeg (mC (.int 1))) mNil)))) (.name 4) mYes (mOp fAdd (mVar 3) (mTup (mCons (mVar 4) mNil)))))))
    (sRet (mVar 1))))
def m_sign_rows : FMir := mBody 5 b_sign_rows
/-- lots_of: slots many out k row sized size -/
def b_lots_of : Mir Ctl := (sSeq (sSet 1 (mFz (mLst (mCons (mTup mNil) mNil))))
    (sSeq (sFor (itRng1 (mCons (mVar 0) mNil)) (.name 2) (sSet 1 (mFz (mOp fAdd (mVar 1) (mFz (mLc (itVal (mVar 1)) [3] (.name 3) mYes (mOp fAdd (mVar 3) (mTup (mCons (mVar 2) mNil)))))))))
    (sSeq (sSet 4 (mFz (mCall (g1 fSorted) (mCons (mFz (mLc (itVal (mFz (mSl (mVar 1) (some (mC (.int 1))) none))) [3] (.name 3) mYes (mTup (mCons (mCall (g1 fLen) (mCons (mVar 3) mNil)) (mCons (mVar 3) mNil))))) mNil))))
    (sRet (mFz (mLc (itVal (mVar 4)) [5, 3] (.two 5 3) mYes (mVar 3)))))))
def m_lots_of : FMir := mBody 6 b_lots_of
/-- is_even: slots made lot signs j sign i -/
def b_is_even : Mir Ctl := (sSeq (sFor (itRng1 (mCons (mCall (g1 fLen) (mCons (mOp fIx (mVar 0) (mC (.int 0))) mNil)) mNil)) (.name 3) (sIf (mTest (mOp fGt (mCall (g1 fAbs) (mCons (mCall (g1 fSum) (mCons (mFz (mLc (itZip (mCons (mVar 2) (mCons (mVar 1) mNil))) [4, 5] (.two 4 5) mYes (mOp fMul (mVar 4) (mOp fIx (mOp fIx (mVar 0) (mVar 5)) (mVar 3))))) mNil)) mNil)) (mC (.int 1)))) (sRet (mC (.bool false))) sNil))
    (sRet (mC (.bool true))))
def m_is_even : FMir := mBody 6 b_is_even
/-- is_within: slots lot other i -/
def b_is_within : Mir Ctl := (sRet (mCall (g1 fAll) (mCons (mFz (mLc (itVal (mVar 0)) [2] (.name 2) mYes (mOp (fIn false) (mVar 2) (mVar 1)))) mNil)))
def m_is_within : FMir := mBody 3 b_is_within
/-- least_bad_lots: slots table made out lot other signs -/
def b_least_bad_lots : Mir Ctl := (sSeq (sPar 1 2 (mCall (mFn m_table_from) (mCons (mVar 0) mNil)) (mLst mNil))
    (sSeq (sFor (itVal (mCall (mFn m_lots_of) (mCons (mCall (g1 fLen) (mCons (mVar 1) mNil)) mNil))) (.name 3) (sSeq (sIf (mTest (mCall (g1 fAny) (mCons (mFz (mLc (itOwn 2) [4] (.name 4) mYes (mCall (mFn m_is_within) (mCons (mVar 4) (mCons (mVar 3) mNil))))) mNil))) sCont sNil)
    (sIf (mNotB (mTest (mCall (g1 fAny) (mCons (mFz (mLc (itVal (mCall (mFn m_sign_rows) (mCons (mCall (g1 fLen) (mCons (mVar 3) mNil)) mNil))) [5] (.name 5) mYes (mCall (mFn m_is_even) (mCons (mVar 1) (mCons (mVar 3) (mCons (mVar 5) mNil)))))) mNil)))) (sExpr (mAppend 2 (mVar 3))) sNil)))
    (sRet (mCall (g1 fTuple) (mCons (mVar 2) mNil)))))
def m_least_bad_lots : FMir := mBody 6 b_least_bad_lots
/-- greatest_whole_lots: slots table made barred out lot other i more wide -/
def b_greatest_whole_lots : Mir Ctl := (sSeq (sSet 1 (mCall (mFn m_table_from) (mCons (mVar 0) mNil)))
    (sSeq (sPar 2 3 (mCall (mFn m_least_bad_lots) (mCons (mVar 1) mNil)) (mLst mNil))
    (sSeq (sFor (itVal (mCall (mFn m_lots_of) (mCons (mCall (g1 fLen) (mCons (mVar 1) mNil)) mNil))) (.name 4) (sSeq (sIf (mTest (mCall (g1 fAny) (mCons (mFz (mLc (itVal (mVar 2)) [5] (.name 5) mYes (mCall (mFn m_is_within) (mCons (mVar 5) (mCons (mVar 4) mNil))))) mNil))) sCont sNil)
    (sSeq (sAfter [7] (sSet 7 (mLc (itRng1 (mCons (mCall (g1 fLen) (mCons (mVar 1) mNil)) mNil)) [6] (.name 6) (mTest (mOp (fIn true) (mVar 6) (mVar 4))) (mCall (g1 fTuple) (mCons (mFz (mCall (g1 fSorted) (mCons (mOp fAdd (mVar 4) (mTup (mCons (mVar 6) mNil))) mNil))) mNil)))))
    (sIf (mTest (mCall (g1 fAll) (mCons (mFz (mLc (itVal (mVar 7)) [8] (.name 8) mYes (mCall (g1 fAny) (mCons (mFz (mLc (itVal (mVar 2)) [5] (.name 5) mYes (mCall (mFn m_is_within) (mCons (mVar 5) (mCons (mVar 8) mNil))))) mNil)))) mNil))) (sExpr (mAppend 3 (mVar 4))) sNil))))
    (sRet (mCall (g1 fTuple) (mCons (mVar 3) mNil))))))
def m_greatest_whole_lots : FMir := mBody 9 b_greatest_whole_lots
/-- _law_draw: slots pen many cell digit blend -/
def b__law_draw : Mir Ctl := (sSeq (sPenPut 0 .count (mOp fAdd (mPenGet 0 .count) (mC (.int 1))))
    (sSeq (sIf (mAndB (mTest (mOp (fEq false) (mPenGet 0 .digits) (mC (.int 0)))) (mTest (mOp fLt (mPenGet 0 .at_) (mCall (g1 fLen) (mCons (mPenGet 0 .cells) mNil))))) (sSeq (sSet 2 (mOp fIx (mPenGet 0 .cells) (mPenGet 0 .at_)))
    (sSeq (sPenPut 0 .at_ (mOp fAdd (mPenGet 0 .at_) (mC (.int 1))))
    (sIf (mTest (mOp fGe (mVar 2) (mOp fPow (mC (.int 10)) (mC (.int 18))))) (sPenPut 0 .digits (mOp fSub (mVar 2) (mOp fPow (mC (.int 10)) (mC (.int 18))))) (sPenPut 0 .fold (mOp fMod (mCall (g1 fInt1) (mCons (mOp fAdd (mOp fMul (mPenGet 0 .fold) (mC (.int 48271))) (mVar 2)) mNil)) (mC (.int 2147483563))))))) sNil)
    (sSeq (sIf (mTest (mOp fGt (mPenGet 0 .digits) (mC (.int 0)))) (sSeq (sSet 3 (mOp fMod (mCall (g1 fInt1) (mCons (mPenGet 0 .digits) mNil)) (mVar 1)))
    (sSeq (sPenPut 0 .digits (mOp fDiv (mPenGet 0 .digits) (mVar 1)))
    (sRet (mVar 3)))) sNil)
    (sSeq (sSet 4 (mOp fAdd (mOp fAdd (mPenGet 0 .fold) (mOp fMul (mPenGet 0 .count) (mC (.int 8513)))) (mC (.int 61))))
    (sRet (mOp fMod (mOp fDiv (mCall (g1 fInt1) (mCons (mOp fMod (mOp fPow (mVar 4) (mC (.int 19))) (mC (.int 2305843009213693951))) mNil)) (mC (.int 256))) (mVar 1)))))))
def m__law_draw : FMir := mBody 5 b__law_draw
/-- _law_pick: slots pen some -/
def b__law_pick : Mir Ctl := (sRet (mOp fIx (mVar 1) (mCall (mFn m__law_draw) (mCons (mVar 0) (mCons (mCall (g1 fLen) (mCons (mVar 1) mNil)) mNil)))))
def m__law_pick : FMir := mBody 2 b__law_pick
/-- _law_shuffled: slots pen some left found lap -/
def b__law_shuffled : Mir Ctl := (sSeq (sPar 2 3 (mCall (g1 fList) (mCons (mVar 1) mNil)) (mLst mNil))
    (sSeq (sFor (itRng1 (mCons (mCall (g1 fLen) (mCons (mVar 1) mNil)) mNil)) (.name 4) (sExpr (mAppend 3 (mPop 2 (mCall (mFn m__law_draw) (mCons (mVar 0) (mCons (mLenO 2) mNil)))))))
    (sRet (mVar 3))))
def m__law_shuffled : FMir := mBody 5 b__law_shuffled
/-- _law_as_passed: slots pen table way row -/
def b__law_as_passed : Mir Ctl := (sSeq (sSet 2 (mCall (mFn m__law_draw) (mCons (mVar 0) (mCons (mC (.int 3)) mNil))))
    (sSeq (sIf (mTest (mOp (fEq false) (mVar 2) (mC (.int 0)))) (sRet (mVar 1)) sNil)
    (sRet (mFz (mIfx (mTest (mOp (fEq false) (mVar 2) (mC (.int 1)))) (mFz (mLc (itVal (mVar 1)) [3] (.name 3) mYes (mFz (mCall (g1 fList) (mCons (mVar 3) mNil))))) (mCall (g1 fTuple) (mCons (mFz (mLc (itVal (mVar 1)) [3] (.name 3) mYes (mFz (mCall (g1 fList) (mCons (mVar 3) mNil))))) mNil)))))))
def m__law_as_passed : FMir := mBody 4 b__law_as_passed
/-- _law_table: slots pen tall wide much rows i j -/
def b__law_table : Mir Ctl := (sSeq (sSet 3 (mCall (mFn m__law_pick) (mCons (mVar 0) (mCons (mFz (mLst (mCons (mC (.int 2)) (mCons (mC (.int 3)) (mCons (mC (.int 3)) (mCons (mC (.int 5)) mNil)))))) mNil))))
    (sSeq (sSet 4 (mLst mNil))
    (sSeq (sFor (itRng1 (mCons (mVar 1) mNil)) (.name 5) (sExpr (mAppend 4 (mCall (g1 fTuple) (mCons (mFz (mLc (itRng1 (mCons (mVar 2) mNil)) [6] (.name 6) mYes (mOp fIx (mFz (mLst (mCons (mC (.int 1)) (mCons (mNeg (mC (.int 1))) (mCons (mC (.int 0)) (mCons (mC (.int 0)) (mCons (mC (.int 0)) mNil))))))) (mCall (mFn m__law_draw) (mCons (mVar 0) (mCons (mVar 3) mNil)))))) mNil)))))
    (sRet (mCall (g1 fTuple) (mCons (mVar 4) mNil))))))
def m__law_table : FMir := mBody 7 b__law_table
/-- _law_turned: slots table j row -/
def b__law_turned : Mir Ctl := (sRet (mCall (g1 fTuple) (mCons (mFz (mLc (itRng1 (mCons (mCall (g1 fLen) (mCons (mOp fIx (mVar 0) (mC (.int 0))) mNil)) mNil)) [1] (.name 1) mYes (mCall (g1 fTuple) (mCons (mFz (mLc (itVal (mVar 0)) [2] (.name 2) mYes (mOp fIx (mVar 2) (mVar 1)))) mNil)))) mNil)))
def m__law_turned : FMir := mBody 3 b__law_turned
/-- _law_dual: slots table row entry -/
def b__law_dual : Mir Ctl := (sRet (mCall (g1 fTuple) (mCons (mFz (mLc (itVal (mCall (mFn m__law_turned) (mCons (mVar 0) mNil))) [1] (.name 1) mYes (mCall (g1 fTuple) (mCons (mFz (mLc (itVal (mVar 1)) [2] (.name 2) mYes (mNeg (mVar 2)))) mNil)))) mNil)))
def m__law_dual : FMir := mBody 3 b__law_dual
/-- _law_lots: slots many found k row sized size -/
def b__law_lots : Mir Ctl := (sSeq (sSet 1 (mFz (mLst (mCons (mTup mNil) mNil))))
    (sSeq (sFor (itRng1 (mCons (mVar 0) mNil)) (.name 2) (sSet 1 (mFz (mOp fAdd (mVar 1) (mFz (mLc (itVal (mVar 1)) [3] (.name 3) mYes (mOp fAdd (mVar 3) (mTup (mCons (mVar 2) mNil)))))))))
    (sSeq (sSet 4 (mFz (mCall (g1 fSorted) (mCons (mFz (mLc (itVal (mFz (mSl (mVar 1) (some (mC (.int 1))) none))) [3] (.name 3) mYes (mTup (mCons (mCall (g1 fLen) (mCons (mVar 3) mNil)) (mCons (mVar 3) mNil))))) mNil))))
    (sRet (mFz (mLc (itVal (mVar 4)) [5, 3] (.two 5 3) mYes (mVar 3)))))))
def m__law_lots : FMir := mBody 6 b__law_lots
/-- _law_split: slots table lot sums i more one a b -/
def b__law_split : Mir Ctl := (sSeq (sSet 2 (mFz (mDispT (mOp fMul (mTup (mCons (mC (.int 0)) mNil)) (mCall (g1 fLen) (mCons (mOp fIx (mVar 0) (mC (.int 0))) mNil))) (mC (.bool true)))))
    (sSeq (sFor (itVal (mVar 1)) (.name 3) (sSeq (sSet 4 mDnewT)
    (sSeq (sFor (itVal (mVar 2)) (.name 5) (sSeq (sDput 4 (mCall (g1 fTuple) (mCons (mFz (mLc (itZip (mCons (mVar 5) (mCons (mOp fIx (mVar 0) (mVar 3)) mNil))) [6, 7] (.two 6 7) mYes (mOp fAdd (mVar 6) (mVar 7)))) mNil)) (mC (.bool true)))
    (sDput 4 (mCall (g1 fTuple) (mCons (mFz (mLc (itZip (mCons (mVar 5) (mCons (mOp fIx (mVar 0) (mVar 3)) mNil))) [6, 7] (.two 6 7) mYes (mOp fSub (mVar 6) (mVar 7)))) mNil)) (mC (.bool true)))))
    (sSet 2 (mVar 4)))))
    (sRet (mCall (g1 fAny) (mCons (mFz (mLc (itVal (mVar 2)) [5] (.name 5) mYes (mAnd (mOp fLe (mCall (g1 (fBest maxI)) (mCons (mVar 5) mNil)) (mC (.int 1))) (mOp fGe (mCall (g1 (fBest minI)) (mCons (mVar 5) mNil)) (mNeg (mC (.int 1))))))) mNil)))))
def m__law_split : FMir := mBody 8 b__law_split
/-- _law_pivot: slots table i j one found k by n row entry -/
def b__law_pivot : Mir Ctl := (sSeq (sPar 3 4 (mOp fIx (mOp fIx (mVar 0) (mVar 1)) (mVar 2)) (mLst mNil))
    (sSeq (sFor (itRng1 (mCons (mCall (g1 fLen) (mCons (mVar 0) mNil)) mNil)) (.name 5) (sSeq (sSet 6 (mOp fMul (mVar 3) (mOp fIx (mOp fIx (mVar 0) (mVar 5)) (mVar 2))))
    (sSeq (sSet 8 (mLc (itRng1 (mCons (mCall (g1 fLen) (mCons (mOp fIx (mVar 0) (mC (.int 0))) mNil)) mNil)) [7] (.name 7) mYes (mOp fSub (mOp fIx (mOp fIx (mVar 0) (mVar 5)) (mVar 7)) (mOp fMul (mVar 6) (mOp fIx (mOp fIx (mVar 0) (mVar 1)) (mVar 7))))))
    (sSeq (sIf (mTest (mOp (fEq false) (mVar 5) (mVar 1))) (sSet 8 (mLc (itVal (mOp fIx (mVar 0) (mVar 1))) [9] (.name 9) mYes (mOp fMul (mVar 3) (mVar 9)))) sNil)
    (sSeq (sSetAt 8 (mVar 2) (mIfx (mTest (mOp (fEq false) (mVar 5) (mVar 1))) (mVar 3) (mNeg (mVar 6))))
    (sExpr (mAppend 4 (mCall (g1 fTuple) (mCons (mVar 8) mNil)))))))))
    (sRet (mCall (g1 fTuple) (mCons (mVar 4) mNil)))))
def m__law_pivot : FMir := mBody 10 b__law_pivot
/-- _law_places: slots table found i j -/
def b__law_places : Mir Ctl := (sSeq (sSet 1 (mFz (mLst mNil)))
    (sSeq (sFor (itRng1 (mCons (mCall (g1 fLen) (mCons (mVar 0) mNil)) mNil)) (.name 2) (sSet 1 (mFz (mOp fAdd (mVar 1) (mFz (mLc (itRng1 (mCons (mCall (g1 fLen) (mCons (mOp fIx (mVar 0) (mC (.int 0))) mNil)) mNil)) [3] (.name 3) (mTest (mOp (fEq true) (mOp fIx (mOp fIx (mVar 0) (mVar 2)) (mVar 3)) (mC (.int 0)))) (mTup (mCons (mVar 2) (mCons (mVar 3) mNil)))))))))
    (sRet (mVar 1))))
def m__law_places : FMir := mBody 4 b__law_places
/-- _law_signed: slots pen table tall wide rows columns i j one two a b -/
def b__law_signed : Mir Ctl := (sSeq (sPar 2 3 (mCall (g1 fLen) (mCons (mVar 1) mNil)) (mCall (g1 fLen) (mCons (mOp fIx (mVar 1) (mC (.int 0))) mNil)))
    (sSeq (sPar 4 5 (mCall (mFn m__law_shuffled) (mCons (mVar 0) (mCons (mFz (mListRange (mVar 2))) mNil))) (mCall (mFn m__law_shuffled) (mCons (mVar 0) (mCons (mFz (mListRange (mVar 3))) mNil))))
    (sSeq (sPar 8 9 (mFz (mLc (itVal (mVar 4)) [6] (.name 6) mYes (mCall (mFn m__law_pick) (mCons (mVar 0) (mCons (mFz (mLst (mCons (mC (.int 1)) (mCons (mNeg (mC (.int 1))) mNil)))) mNil))))) (mFz (mLc (itVal (mVar 5)) [7] (.name 7) mYes (mCall (mFn m__law_pick) (mCons (mVar 0) (mCons (mFz (mLst (mCons (mC (.int 1)) (mCons (mNeg (mC (.int 1))) mNil)))) mNil))))))
    (sRet (mCall (g1 fTuple) (mCons (mFz (mLc (itZip (mCons (mVar 8) (mCons (mVar 4) mNil))) [10, 6] (.two 10 6) mYes (mCall (g1 fTuple) (mCons (mFz (mLc (itZip (mCons (mVar 9) (mCons (mVar 5) mNil))) [11, 7] (.two 11 7) mYes (mOp fMul (mOp fMul (mVar 10) (mOp fIx (mOp fIx (mVar 1) (mVar 6)) (mVar 7))) (mVar 11)))) mNil)))) mNil))))))
def m__law_signed : FMir := mBody 12 b__law_signed
/-- _law_tree: slots pen many ties k old -/
def b__law_tree : Mir Ctl := (sSeq (sSet 2 (mLst mNil))
    (sSeq (sFor (itRng1 (mCons (mVar 1) mNil)) (.name 3) (sSeq (sSet 4 (mCall (mFn m__law_pick) (mCons (mVar 0) (mCons (mFz (mLst (mCons (mVar 3) (mCons (mVar 3) (mCons (mC (.int 0)) (mCons (mCall (mFn m__law_draw) (mCons (mVar 0) (mCons (mOp fAdd (mVar 3) (mC (.int 1))) mNil))) mNil)))))) mNil))))
    (sExpr (mAppend 2 (mIfx (mTest (mOp (fEq false) (mCall (mFn m__law_draw) (mCons (mVar 0) (mCons (mC (.int 2)) mNil))) (mC (.int 0)))) (mTup (mCons (mVar 4) (mCons (mOp fAdd (mVar 3) (mC (.int 1))) mNil))) (mTup (mCons (mOp fAdd (mVar 3) (mC (.int 1))) (mCons (mVar 4) mNil))))))))
    (sRet (mVar 2))))
def m__law_tree : FMir := mBody 5 b__law_tree
/-- _law_way: slots ties one two reached lap k near far sign row -/
def b__law_way : Mir Ctl := (sSeq (sSet 3 (mDispK (mVar 1) (mFz (mOp fMul (mFz (mLst (mCons (mC (.int 0)) mNil))) (mCall (g1 fLen) (mCons (mVar 0) mNil))))))
    (sSeq (sFor (itRng1 (mCons (mOp fAdd (mCall (g1 fLen) (mCons (mVar 0) mNil)) (mC (.int 1))) mNil)) (.name 4) (sFor (itRng1 (mCons (mCall (g1 fLen) (mCons (mVar 0) mNil)) mNil)) (.name 5) (sFor (itVal (mFz (mLst (mCons (mTup (mCons (mOp fIx (mOp fIx (mVar 0) (mVar 5)) (mC (.int 0))) (mCons (mOp fIx (mOp fIx (mVar 0) (mVar 5)) (mC (.int 1))) (mCons (mC (.int 1)) mNil)))) (mCons (mTup (mCons (mOp fIx (mOp fIx (mVar 0) (mVar 5)) (mC (.int 1))) (mCons (mOp fIx (mOp fIx (mVar 0) (mVar 5)) (mC (.int 0))) (mCons (mNeg (mC (.int 1))) mNil)))) mNil))))) (.three 6 7 8) (sIf (mAndB (mTest (mOwnR (fDin false) (mVar 6) 3)) (mTest (mOwnR (fDin true) (mVar 7) 3))) (sSeq (sSet 9 (mCall (g1 fList) (mCons (mOwn fDg 3 (mVar 6)) mNil)))
    (sSeq (sSetAt 9 (mVar 5) (mVar 8))
    (sDput 3 (mVar 7) (mVar 9)))) sNil))))
    (sRet (mOwn fDg 3 (mVar 2)))))
def m__law_way : FMir := mBody 10 b__law_way
/-- _law_web: slots pen tall wide ties j -/
def b__law_web : Mir Ctl := (sSeq (sSet 3 (mCall (mFn m__law_tree) (mCons (mVar 0) (mCons (mVar 1) mNil))))
    (sRet (mTup (mCons (mVar 3) (mCons (mFz (mLc (itRng1 (mCons (mVar 2) mNil)) [4] (.name 4) mYes (mTup (mCons (mCall (mFn m__law_draw) (mCons (mVar 0) (mCons (mOp fAdd (mVar 1) (mC (.int 1))) mNil))) (mCons (mCall (mFn m__law_draw) (mCons (mVar 0) (mCons (mOp fAdd (mVar 1) (mC (.int 1))) mNil))) mNil))))) mNil)))))
def m__law_web : FMir := mBody 5 b__law_web
/-- _law_web_table: slots ties others a b -/
def b__law_web_table : Mir Ctl := (sRet (mCall (mFn m__law_turned) (mCons (mFz (mLc (itVal (mVar 1)) [2, 3] (.two 2 3) mYes (mCall (mFn m__law_way) (mCons (mVar 0) (mCons (mVar 2) (mCons (mVar 3) mNil)))))) mNil)))
def m__law_web_table : FMir := mBody 4 b__law_web_table
/-- _law_five: slots  -/
def b__law_five : Mir Ctl := (sRet (mTup (mCons (mTup (mCons (mC (.int 1)) (mCons (mNeg (mC (.int 1))) (mCons (mC (.int 0)) (mCons (mC (.int 0)) (mCons (mNeg (mC (.int 1))) mNil)))))) (mCons (mTup (mCons (mNeg (mC (.int 1))) (mCons (mC (.int 1)) (mCons (mNeg (mC (.int 1))) (mCons (mC (.int 0)) (mCons (mC (.int 0)) mNil)))))) (mCons (mTup (mCons (mC (.int 0)) (mCons (mNeg (mC (.int 1))) (mCons (mC (.int 1)) (mCons (mNeg (mC (.int 1))) (mCons (mC (.int 0)) mNil)))))) (mCons (mTup (mCons (mC (.int 0)) (mCons (mC (.int 0)) (mCons (mNeg (mC (.int 1))) (mCons (mC (.int 1)) (mCons (mNeg (mC (.int 1))) mNil)))))) (mCons (mTup (mCons (mNeg (mC (.int 1))) (mCons (mC (.int 0)) (mCons (mC (.int 0)) (mCons (mNeg (mC (.int 1))) (mCons (mC (.int 1)) mNil)))))) mNil)))))))
def m__law_five : FMir := mBody 0 b__law_five
/-- _law_joined: slots pen one two a b j i row entry other rows -/
def b__law_joined : Mir Ctl := (sSeq (sPar 3 4 (mFz (mOp fMul (mFz (mLst (mCons (mC (.int 0)) mNil))) (mCall (g1 fLen) (mCons (mVar 1) mNil)))) (mFz (mOp fMul (mFz (mLst (mCons (mC (.int 0)) mNil))) (mCall (g1 fLen) (mCons (mOp fIx (mVar 2) (mC (.int 0))) mNil)))))
    (sSeq (sIf (mTest (mOp fGt (mCall (mFn m__law_draw) (mCons (mVar 0) (mCons (mC (.int 3)) mNil))) (mC (.int 0)))) (sSeq (sPar 5 6 (mCall (mFn m__law_draw) (mCons (mVar 0) (mCons (mCall (g1 fLen) (mCons (mOp fIx (mVar 1) (mC (.int 0))) mNil)) mNil))) (mCall (mFn m__law_draw) (mCons (mVar 0) (mCons (mCall (g1 fLen) (mCons (mVar 2) mNil)) mNil))))
    (sPar 3 4 (mFz (mLc (itVal (mVar 1)) [7] (.name 7) mYes (mOp fIx (mVar 7) (mVar 5)))) (mFz (mCall (g1 fList) (mCons (mOp fIx (mVar 2) (mVar 6)) mNil))))) sNil)
    (sSeq (sAfter [10] (sSet 10 (mLc (itZip (mCons (mVar 1) (mCons (mVar 3) mNil))) [7, 8] (.two 7 8) mYes (mOp fAdd (mCall (g1 fTuple) (mCons (mVar 7) mNil)) (mCall (g1 fTuple) (mCons (mFz (mLc (itVal (mVar 4)) [9] (.name 9) mYes (mOp fMul (mVar 8) (mVar 9)))) mNil))))))
    (sRet (mCall (g1 fTuple) (mCons (mFz (mOp fAdd (mVar 10) (mFz (mLc (itVal (mVar 2)) [7] (.name 7) mYes (mOp fAdd (mOp fMul (mTup (mCons (mC (.int 0)) mNil)) (mCall (g1 fLen) (mCons (mOp fIx (mVar 1) (mC (.int 0))) mNil))) (mCall (g1 fTuple) (mCons (mVar 7) mNil))))))) mNil))))))
def m__law_joined : FMir := mBody 11 b__law_joined
/-- _law_whole_table: slots pen tall wide way made i j one two web lap places -/
def b__law_whole_table : Mir Ctl := (sSeq (sSet 3 (mCall (mFn m__law_draw) (mCons (mVar 0) (mCons (mC (.int 7)) mNil))))
    (sSeq (sIf (mAndB (mTest (mOp (fEq false) (mVar 3) (mC (.int 0)))) (mAndB (mTest (mOp fGe (mVar 1) (mC (.int 5)))) (mTest (mOp fGe (mVar 2) (mC (.int 5)))))) (sSet 4 (mCall (mFn m__law_five) mNil)) (sIf (mAndB (mTest (mOp (fIn false) (mVar 3) (mTup (mCons (mC (.int 1)) (mCons (mC (.int 2)) mNil))))) (mAndB (mTest (mOp fGe (mVar 1) (mC (.int 2)))) (mTest (mOp fGe (mVar 2) (mC (.int 2)))))) (sSeq (sPar 5 6 (mOp fAdd (mC (.int 1)) (mCall (mFn m__law_draw) (mCons (mVar 0) (mCons (mOp fSub (mVar 1) (mC (.int 1))) mNil)))) (mOp fAdd (mC (.int 1)) (mCall (mFn m__law_draw) (mCons (mVar 0) (mCons (mOp fSub (mVar 2) (mC (.int 1))) mNil)))))
    (sSeq (sPar 7 8 (mCall (mFn m__law_web) (mCons (mVar 0) (mCons (mVar 5) (mCons (mVar 6) mNil)))) (mCall (mFn m__law_web) (mCons (mVar 0) (mCons (mOp fSub (mVar 2) (mVar 6)) (mCons (mOp fSub (mVar 1) (mVar 5)) mNil)))))
    (sSet 4 (mCall (mFn m__law_joined) (mCons (mVar 0) (mCons (mCall (mFn m__law_web_table) (mCons (mOp fIx (mVar 7) (mC (.int 0))) (mCons (mOp fIx (mVar 7) (mC (.int 1))) mNil))) (mCons (mCall (mFn m__law_dual) (mCons (mCall (mFn m__law_web_table) (mCons (mOp fIx (mVar 8) (mC (.int 0))) (mCons (mOp fIx (mVar 8) (mC (.int 1))) mNil))) mNil)) mNil))))))) (sIf (mTest (mOp (fIn false) (mVar 3) (mTup (mCons (mC (.int 3)) (mCons (mC (.int 4)) mNil))))) (sSeq (sSet 9 (mCall (mFn m__law_web) (mCons (mVar 0) (mCons (mVar 2) (mCons (mVar 1) mNil)))))
    (sSet 4 (mCall (mFn m__law_dual) (mCons (mCall (mFn m__law_web_table) (mCons (mOp fIx (mVar 9) (mC (.int 0))) (mCons (mOp fIx (mVar 9) (mC (.int 1))) mNil))) mNil)))) (sSeq (sSet 9 (mCall (mFn m__law_web) (mCons (mVar 0) (mCons (mVar 1) (mCons (mVar 2) mNil)))))
    (sSet 4 (mCall (mFn m__law_web_table) (mCons (mOp fIx (mVar 9) (mC (.int 0))) (mCons (mOp fIx (mVar 9) (mC (.int 1))) mNil))))))))
    (sSeq (sFor (itRng1 (mCons (mCall (mFn m__law_draw) (mCons (mVar 0) (mCons (mC (.int 4)) mNil))) mNil)) (.name 10) (sSeq (sSet 11 (mCall (mFn m__law_places) (mCons (mVar 4) mNil)))
    (sSeq (sIf (mTest (mOp (fEq false) (mVar 11) (mFz (mLst mNil)))) sBreak sNil)
    (sSeq (sBind (.two 5 6) (mCall (mFn m__law_pick) (mCons (mVar 0) (mCons (mVar 11) mNil))))
    (sSet 4 (mCall (mFn m__law_pivot) (mCons (mVar 4) (mCons (mVar 5) (mCons (mVar 6) mNil)))))))))
    (sRet (mCall (mFn m__law_signed) (mCons (mVar 0) (mCons (mVar 4) mNil)))))))
def m__law_whole_table : FMir := mBody 12 b__law_whole_table
/-- _law_bent: slots pen table i j one entry -/
def b__law_bent : Mir Ctl := (sSeq (sPar 2 3 (mCall (mFn m__law_draw) (mCons (mVar 0) (mCons (mCall (g1 fLen) (mCons (mVar 1) mNil)) mNil))) (mCall (mFn m__law_draw) (mCons (mVar 0) (mCons (mCall (g1 fLen) (mCons (mOp fIx (mVar 1) (mC (.int 0))) mNil)) mNil))))
    (sSeq (sSet 5 (mCall (mFn m__law_pick) (mCons (mVar 0) (mCons (mFz (mLc (itVal (mTup (mCons (mNeg (mC (.int 1))) (mCons (mC (.int 0)) (mCons (mC (.int 1)) mNil))))) [4] (.name 4) (mTest (mOp (fEq true) (mVar 4) (mOp fIx (mOp fIx (mVar 1) (mVar 2)) (mVar 3)))) (mVar 4))) mNil))))
    (sRet (mOp fAdd (mOp fAdd (mFz (mSl (mVar 1) none (some (mVar 2)))) (mTup (mCons (mOp fAdd (mOp fAdd (mFz (mSl (mOp fIx (mVar 1) (mVar 2)) none (some (mVar 3)))) (mTup (mCons (mVar 5) mNil))) (mFz (mSl (mOp fIx (mVar 1) (mVar 2)) (some (mOp fAdd (mVar 3) (mC (.int 1)))) none))) mNil))) (mFz (mSl (mVar 1) (some (mOp fAdd (mVar 2) (mC (.int 1)))) none))))))
def m__law_bent : FMir := mBody 6 b__law_bent
/-- _law_rings: slots pen rows wide lap size row i -/
def b__law_rings : Mir Ctl := (sSeq (sPar 1 2 (mLst mNil) (mC (.int 0)))
    (sSeq (sFor (itRng1 (mCons (mOp fAdd (mC (.int 1)) (mCall (mFn m__law_draw) (mCons (mVar 0) (mCons (mC (.int 2)) mNil)))) mNil)) (.name 3) (sSeq (sSet 4 (mOp fAdd (mC (.int 2)) (mCall (mFn m__law_draw) (mCons (mVar 0) (mCons (mC (.int 2)) mNil)))))
    (sSeq (sSet 1 (mLc (itOwn 1) [5] (.name 5) mYes (mOp fAdd (mVar 5) (mOp fMul (mTup (mCons (mC (.int 0)) mNil)) (mVar 4)))))
    (sSeq (sFor (itRng1 (mCons (mVar 4) mNil)) (.name 6) (sSeq (sSet 5 (mOp fMul (mFz (mLst (mCons (mC (.int 0)) mNil))) (mOp fAdd (mVar 2) (mVar 4))))
    (sSeq (sSetAt 5 (mOp fAdd (mVar 2) (mVar 6)) (mC (.int 1)))
    (sSeq (sSetAt 5 (mOp fAdd (mVar 2) (mOp fMod (mCall (g1 fInt1) (mCons (mOp fAdd (mVar 6) (mC (.int 1))) mNil)) (mVar 4))) (mCall (mFn m__law_pick) (mCons (mVar 0) (mCons (mFz (mLst (mCons (mC (.int 1)) (mCons (mNeg (mC (.int 1))) mNil)))) mNil))))
    (sExpr (mAppend 1 (mCall (g1 fTuple) (mCons (mVar 5) mNil))))))))
    (sSet 2 (mOp fAdd (mVar 2) (mVar 4)))))))
    (sRet (mCall (mFn m__law_signed) (mCons (mVar 0) (mCons (mCall (g1 fTuple) (mCons (mVar 1) mNil)) mNil))))))
def m__law_rings : FMir := mBody 7 b__law_rings
/-- _law_is_part: slots one other k -/
def b__law_is_part : Mir Ctl := (sRet (mCall (g1 fAll) (mCons (mFz (mLc (itVal (mVar 0)) [2] (.name 2) mYes (mOp (fIn false) (mVar 2) (mVar 1)))) mNil)))
def m__law_is_part : FMir := mBody 3 b__law_is_part
/-- _law_least: slots some one other -/
def b__law_least : Mir Ctl := (sRet (mFz (mLc (itVal (mVar 0)) [1] (.name 1) (mNotB (mTest (mCall (g1 fAny) (mCons (mFz (mLc (itVal (mVar 0)) [2] (.name 2) mYes (mAnd (mOp (fEq true) (mVar 2) (mVar 1)) (mCall (mFn m__law_is_part) (mCons (mVar 2) (mCons (mVar 1) mNil)))))) mNil)))) (mVar 1))))
def m__law_least : FMir := mBody 3 b__law_least
/-- _law_greatest: slots some one other -/
def b__law_greatest : Mir Ctl := (sRet (mFz (mLc (itVal (mVar 0)) [1] (.name 1) (mNotB (mTest (mCall (g1 fAny) (mCons (mFz (mLc (itVal (mVar 0)) [2] (.name 2) mYes (mAnd (mOp (fEq true) (mVar 2) (mVar 1)) (mCall (mFn m__law_is_part) (mCons (mVar 1) (mCons (mVar 2) mNil)))))) mNil)))) (mVar 1))))
def m__law_greatest : FMir := mBody 3 b__law_greatest
abbrev N_is_whole : List PySem.Str := ["value"]
theorem sc_is_whole : FnScope N_is_whole ["value"] (defScope (topS 8)) := ⟨rfl, rfl, rfl, by decide +kernel, rfl, by decide +kernel, by decide +kernel⟩
abbrev N_is_row : List PySem.Str := ["value"]
theorem sc_is_row : FnScope N_is_row ["value"] (defScope (topS 10)) := ⟨rfl, rfl, rfl, by decide +kernel, rfl, by decide +kernel, by decide +kernel⟩
abbrev N_is_integers_row : List PySem.Str := ["value", "many", "item"]
theorem sc_is_integers_row : FnScope N_is_integers_row ["value", "many"] (defScope (topS 11)) := ⟨rfl, rfl, rfl, by decide +kernel, rfl, by decide +kernel, by decide +kernel⟩
abbrev N_is_integers : List PySem.Str := ["value", "row", "wide"]
theorem sc_is_integers : FnScope N_is_integers ["value"] (defScope (topS 13)) := ⟨rfl, rfl, rfl, by decide +kernel, rfl, by decide +kernel, by decide +kernel⟩
abbrev N_is_table : List PySem.Str := ["value", "row"]
theorem sc_is_table : FnScope N_is_table ["value"] (defScope (topS 14)) := ⟨rfl, rfl, rfl, by decide +kernel, rfl, by decide +kernel, by decide +kernel⟩
abbrev N_integers_of : List PySem.Str := ["table", "made", "row"]
theorem sc_integers_of : FnScope N_integers_of ["table"] (defScope (topS 15)) := ⟨rfl, rfl, rfl, by decide +kernel, rfl, by decide +kernel, by decide +kernel⟩
abbrev N_table_from : List PySem.Str := ["table", "made"]
theorem sc_table_from : FnScope N_table_from ["table"] (defScope (topS 16)) := ⟨rfl, rfl, rfl, by decide +kernel, rfl, by decide +kernel, by decide +kernel⟩
abbrev N_sign_rows : List PySem.Str := ["many", "out", "k", "row", "sign"]
theorem sc_sign_rows : FnScope N_sign_rows ["many"] (defScope (topS 18)) := ⟨rfl, rfl, rfl, by decide +kernel, rfl, by decide +kernel, by decide +kernel⟩
abbrev N_lots_of : List PySem.Str := ["many", "out", "k", "row", "sized", "size"]
theorem sc_lots_of : FnScope N_lots_of ["many"] (defScope (topS 19)) := ⟨rfl, rfl, rfl, by decide +kernel, rfl, by decide +kernel, by decide +kernel⟩
abbrev N_is_even : List PySem.Str := ["made", "lot", "signs", "j", "sign", "i"]
theorem sc_is_even : FnScope N_is_even ["made", "lot", "signs"] (defScope (topS 20)) := ⟨rfl, rfl, rfl, by decide +kernel, rfl, by decide +kernel, by decide +kernel⟩
abbrev N_is_within : List PySem.Str := ["lot", "other", "i"]
theorem sc_is_within : FnScope N_is_within ["lot", "other"] (defScope (topS 22)) := ⟨rfl, rfl, rfl, by decide +kernel, rfl, by decide +kernel, by decide +kernel⟩
abbrev N_least_bad_lots : List PySem.Str := ["table", "made", "out", "lot", "other", "signs"]
theorem sc_least_bad_lots : FnScope N_least_bad_lots ["table"] (defScope (topS 23)) := ⟨rfl, rfl, rfl, by decide +kernel, rfl, by decide +kernel, by decide +kernel⟩
abbrev N_greatest_whole_lots : List PySem.Str := ["table", "made", "barred", "out", "lot", "other", "i", "more", "wide"]
theorem sc_greatest_whole_lots : FnScope N_greatest_whole_lots ["table"] (defScope (topS 24)) := ⟨rfl, rfl, rfl, by decide +kernel, rfl, by decide +kernel, by decide +kernel⟩
abbrev N__law_draw : List PySem.Str := ["pen", "many", "cell", "digit", "blend"]
theorem sc__law_draw : FnScope N__law_draw ["pen", "many"] (defScope (topS 27)) := ⟨rfl, rfl, rfl, by decide +kernel, rfl, by decide +kernel, by decide +kernel⟩
abbrev N__law_pick : List PySem.Str := ["pen", "some"]
theorem sc__law_pick : FnScope N__law_pick ["pen", "some"] (defScope (topS 28)) := ⟨rfl, rfl, rfl, by decide +kernel, rfl, by decide +kernel, by decide +kernel⟩
abbrev N__law_shuffled : List PySem.Str := ["pen", "some", "left", "found", "lap"]
theorem sc__law_shuffled : FnScope N__law_shuffled ["pen", "some"] (defScope (topS 29)) := ⟨rfl, rfl, rfl, by decide +kernel, rfl, by decide +kernel, by decide +kernel⟩
abbrev N__law_as_passed : List PySem.Str := ["pen", "table", "way", "row"]
theorem sc__law_as_passed : FnScope N__law_as_passed ["pen", "table"] (defScope (topS 30)) := ⟨rfl, rfl, rfl, by decide +kernel, rfl, by decide +kernel, by decide +kernel⟩
abbrev N__law_table : List PySem.Str := ["pen", "tall", "wide", "much", "rows", "i", "j"]
theorem sc__law_table : FnScope N__law_table ["pen", "tall", "wide"] (defScope (topS 31)) := ⟨rfl, rfl, rfl, by decide +kernel, rfl, by decide +kernel, by decide +kernel⟩
abbrev N__law_turned : List PySem.Str := ["table", "j", "row"]
theorem sc__law_turned : FnScope N__law_turned ["table"] (defScope (topS 32)) := ⟨rfl, rfl, rfl, by decide +kernel, rfl, by decide +kernel, by decide +kernel⟩
abbrev N__law_dual : List PySem.Str := ["table", "row", "entry"]
theorem sc__law_dual : FnScope N__law_dual ["table"] (defScope (topS 33)) := ⟨rfl, rfl, rfl, by decide +kernel, rfl, by decide +kernel, by decide +kernel⟩
abbrev N__law_lots : List PySem.Str := ["many", "found", "k", "row", "sized", "size"]
theorem sc__law_lots : FnScope N__law_lots ["many"] (defScope (topS 34)) := ⟨rfl, rfl, rfl, by decide +kernel, rfl, by decide +kernel, by decide +kernel⟩
abbrev N__law_split : List PySem.Str := ["table", "lot", "sums", "i", "more", "one", "a", "b"]
theorem sc__law_split : FnScope N__law_split ["table", "lot"] (defScope (topS 35)) := ⟨rfl, rfl, rfl, by decide +kernel, rfl, by decide +kernel, by decide +kernel⟩
abbrev N__law_pivot : List PySem.Str := ["table", "i", "j", "one", "found", "k", "by", "n", "row", "entry"]
theorem sc__law_pivot : FnScope N__law_pivot ["table", "i", "j"] (defScope (topS 36)) := ⟨rfl, rfl, rfl, by decide +kernel, rfl, by decide +kernel, by decide +kernel⟩
abbrev N__law_places : List PySem.Str := ["table", "found", "i", "j"]
theorem sc__law_places : FnScope N__law_places ["table"] (defScope (topS 37)) := ⟨rfl, rfl, rfl, by decide +kernel, rfl, by decide +kernel, by decide +kernel⟩
abbrev N__law_signed : List PySem.Str := ["pen", "table", "tall", "wide", "rows", "columns", "i", "j", "one", "two", "a", "b"]
theorem sc__law_signed : FnScope N__law_signed ["pen", "table"] (defScope (topS 38)) := ⟨rfl, rfl, rfl, by decide +kernel, rfl, by decide +kernel, by decide +kernel⟩
abbrev N__law_tree : List PySem.Str := ["pen", "many", "ties", "k", "old"]
theorem sc__law_tree : FnScope N__law_tree ["pen", "many"] (defScope (topS 39)) := ⟨rfl, rfl, rfl, by decide +kernel, rfl, by decide +kernel, by decide +kernel⟩
abbrev N__law_way : List PySem.Str := ["ties", "one", "two", "reached", "lap", "k", "near", "far", "sign", "row"]
theorem sc__law_way : FnScope N__law_way ["ties", "one", "two"] (defScope (topS 40)) := ⟨rfl, rfl, rfl, by decide +kernel, rfl, by decide +kernel, by decide +kernel⟩
abbrev N__law_web : List PySem.Str := ["pen", "tall", "wide", "ties", "j"]
theorem sc__law_web : FnScope N__law_web ["pen", "tall", "wide"] (defScope (topS 41)) := ⟨rfl, rfl, rfl, by decide +kernel, rfl, by decide +kernel, by decide +kernel⟩
abbrev N__law_web_table : List PySem.Str := ["ties", "others", "a", "b"]
theorem sc__law_web_table : FnScope N__law_web_table ["ties", "others"] (defScope (topS 42)) := ⟨rfl, rfl, rfl, by decide +kernel, rfl, by decide +kernel, by decide +kernel⟩
abbrev N__law_five : List PySem.Str := []
theorem sc__law_five : FnScope N__law_five [] (defScope (topS 43)) := ⟨rfl, rfl, rfl, by decide +kernel, rfl, by decide +kernel, by decide +kernel⟩
abbrev N__law_joined : List PySem.Str := ["pen", "one", "two", "a", "b", "j", "i", "row", "entry", "other", "rows"]
theorem sc__law_joined : FnScope N__law_joined ["pen", "one", "two"] (defScope (topS 44)) := ⟨rfl, rfl, rfl, by decide +kernel, rfl, by decide +kernel, by decide +kernel⟩
abbrev N__law_whole_table : List PySem.Str := ["pen", "tall", "wide", "way", "made", "i", "j", "one", "two", "web", "lap", "places"]
theorem sc__law_whole_table : FnScope N__law_whole_table ["pen", "tall", "wide"] (defScope (topS 45)) := ⟨rfl, rfl, rfl, by decide +kernel, rfl, by decide +kernel, by decide +kernel⟩
abbrev N__law_bent : List PySem.Str := ["pen", "table", "i", "j", "one", "entry"]
theorem sc__law_bent : FnScope N__law_bent ["pen", "table"] (defScope (topS 46)) := ⟨rfl, rfl, rfl, by decide +kernel, rfl, by decide +kernel, by decide +kernel⟩
abbrev N__law_rings : List PySem.Str := ["pen", "rows", "wide", "lap", "size", "row", "i"]
theorem sc__law_rings : FnScope N__law_rings ["pen"] (defScope (topS 48)) := ⟨rfl, rfl, rfl, by decide +kernel, rfl, by decide +kernel, by decide +kernel⟩
abbrev N__law_is_part : List PySem.Str := ["one", "other", "k"]
theorem sc__law_is_part : FnScope N__law_is_part ["one", "other"] (defScope (topS 49)) := ⟨rfl, rfl, rfl, by decide +kernel, rfl, by decide +kernel, by decide +kernel⟩
abbrev N__law_least : List PySem.Str := ["some", "one", "other"]
theorem sc__law_least : FnScope N__law_least ["some"] (defScope (topS 50)) := ⟨rfl, rfl, rfl, by decide +kernel, rfl, by decide +kernel, by decide +kernel⟩
abbrev N__law_greatest : List PySem.Str := ["some", "one", "other"]
theorem sc__law_greatest : FnScope N__law_greatest ["some"] (defScope (topS 51)) := ⟨rfl, rfl, rfl, by decide +kernel, rfl, by decide +kernel, by decide +kernel⟩
section
variable {P : Program} {w : World} {K : PySem.W.Frag} {mg : PySem.Str → Option Value} {base : Heap} {ca : PySem.Str → Addr} (b : Bl mg)
include b
theorem ok_is_whole (D : DefAt K mg "is_whole" (topS 8) ["value"]) : DefOk P w K mg base ca "is_whole" ["value"] m_is_whole 1 :=
  def_okT (k := 0) (tab := [("value", .«local»), ("isinstance", .globalImplicit), ("int", .globalImplicit), ("bool", .globalImplicit)]) D sc_is_whole (by decide) (by decide +kernel) fun f cd A outer s H E B t => (zs_one (zs_ret (zx_and (zx_isiT 1 2 t in_int bb_int b.isinstance b.int (zx_varT 0 0 t)) (zx_one (zx_not (zx_isiT 1 3 t in_bool bb_bool b.isinstance b.bool (zx_varT 0 0 t)))))))
theorem ok_is_row (D : DefAt K mg "is_row" (topS 10) ["value"]) : DefOk P w K mg base ca "is_row" ["value"] m_is_row 1 :=
  def_okT (k := 0) (tab := [("value", .«local»), ("isinstance", .globalImplicit), ("tuple", .globalImplicit), ("list", .globalImplicit)]) D sc_is_row (by decide) (by decide +kernel) fun f cd A outer s H E B t => (zs_one (zs_ret (zx_isi2T 1 2 3 t in_tuple bb_tuple in_list bb_list b.isinstance b.tuple b.list (zx_varT 0 0 t))))
theorem ok_is_integers_row (D : DefAt K mg "is_integers_row" (topS 11) ["value", "many"]) (F_is_whole : DefOk P w K mg base ca "is_whole" ["value"] m_is_whole 1) : DefOk P w K mg base ca "is_integers_row" ["value", "many"] m_is_integers_row 2 :=
  def_okT (k := 1) (tab := [("value", .«local»), ("isinstance", .globalImplicit), ("tuple", .globalImplicit), ("len", .globalImplicit), ("many", .«local»), ("all", .globalImplicit)]) D sc_is_integers_row (by decide) (by decide +kernel) fun f cd A outer s H E B t => (zs_one (zs_ret (zx_and (zx_isiT 1 2 t in_tuple bb_tuple b.isinstance b.tuple (zx_varT 0 0 t)) (zx_and (zx_eq B.u64 (zx_len (hm := b.len) (hg := (t.gl 3 rfl)) (za_cons (zx_varT 0 0 t) za_nil)) (zx_varT 1 4 t)) (zx_one (zx_all B.calm b.all (t.gl 5 rfl) (za_cons (zx_fz (zx_lcT (N := N_is_integers_row) (hNN := rfl) (tab := [("value", .«local»), ("isinstance", .globalImplicit), ("tuple", .globalImplicit), ("len", .globalImplicit), ("many", .«local»), ("all", .globalImplicit)]) (tab2 := [("item", .«local»), ("is_whole", .globalImplicit)]) (own := [("item", 2)]) (t := t) (B := B) (hb := by decide +kernel) (hi := (zi_val (zx_varT 0 0 t))) (tk := tok_name) (ht' := by decide) (hg := fun _ _ _ _ _ t1 => (pg_nameT (nd := B.blk.nd) 2 0 t1)) (ht := fun _ _ _ _ _ t1 => zt_yes) (he := fun _ _ _ _ _ t1 => (zx_defT 1 t1 B.blk F_is_whole (by decide) (za_cons (zx_varT 2 0 t1) za_nil) (alen_cons alen_nil))))) za_nil)))))))
theorem ok_is_integers (D : DefAt K mg "is_integers" (topS 13) ["value"]) (F_is_integers_row : DefOk P w K mg base ca "is_integers_row" ["value", "many"] m_is_integers_row 2) : DefOk P w K mg base ca "is_integers" ["value"] m_is_integers 3 :=
  def_okT (k := 2) (tab := [("value", .«local»), ("wide", .cell), ("all", .globalImplicit), ("len", .globalImplicit), ("isinstance", .globalImplicit), ("tuple", .globalImplicit)]) D sc_is_integers (by decide) (by decide +kernel) fun f cd A outer s H E B t => (zs_cons (zs_if (zw_or (zt_not (zt_val (zx_isiT 4 5 t in_tuple bb_tuple b.isinstance b.tuple (zx_varT 0 0 t)))) (zw_or1 (zt_eq B.u64 (zx_len (hm := b.len) (hg := (t.gl 3 rfl)) (za_cons (zx_varT 0 0 t) za_nil)) zx_int))).pt (zs_one (zs_ret zx_bool)) zs_nil)
    (zs_cons (zs_if (zt_not (zt_val (zx_all B.calm b.all (t.gl 2 rfl) (za_cons (zx_fz (zx_lcT (N := N_is_integers) (hNN := rfl) (tab := [("value", .«local»), ("wide", .cell), ("all", .globalImplicit), ("len", .globalImplicit), ("isinstance", .globalImplicit), ("tuple", .globalImplicit)]) (tab2 := [("row", .«local»), ("isinstance", .globalImplicit), ("tuple", .globalImplicit), ("len", .globalImplicit)]) (own := [("row", 1)]) (t := t) (B := B) (hb := by decide +kernel) (hi := (zi_val (zx_varT 0 0 t))) (tk := tok_name) (ht' := by decide) (hg := fun _ _ _ _ _ t1 => (pg_nameT (nd := B.blk.nd) 1 0 t1)) (ht := fun _ _ _ _ _ t1 => zt_yes) (he := fun _ _ _ _ _ t1 => (zx_and (zx_isiT 1 2 t1 in_tuple bb_tuple b.isinstance b.tuple (zx_varT 1 0 t1)) (zx_one (zx_gt (zx_len (hm := b.len) (hg := (t1.gl 3 rfl)) (za_cons (zx_varT 1 0 t1) za_nil)) zx_int)))))) za_nil)))) (zs_one (zs_ret zx_bool)) zs_nil)
    (zs_cons (zs_setT 2 1 t B.nd (zx_len (hm := b.len) (hg := (t.gl 3 rfl)) (za_cons (zx_ix (zx_varT 0 0 t) zx_int) za_nil)))
    (zs_one (zs_ret (zx_all B.calm b.all (t.gl 2 rfl) (za_cons (zx_fz (zx_lcT (N := N_is_integers) (hNN := rfl) (tab := [("value", .«local»), ("wide", .cell), ("all", .globalImplicit), ("len", .globalImplicit), ("isinstance", .globalImplicit), ("tuple", .globalImplicit)]) (tab2 := [("row", .«local»), ("wide", .free), ("is_integers_row", .globalImplicit)]) (own := [("row", 1)]) (t := t) (B := B) (hb := by decide +kernel) (hi := (zi_val (zx_varT 0 0 t))) (tk := tok_name) (ht' := by decide) (hg := fun _ _ _ _ _ t1 => (pg_nameT (nd := B.blk.nd) 1 0 t1)) (ht := fun _ _ _ _ _ t1 => zt_yes) (he := fun _ _ _ _ _ t1 => (zx_defT 2 t1 B.blk F_is_integers_row (by decide) (za_cons (zx_varT 1 0 t1) (za_cons (zx_varT 2 1 t1) za_nil)) (alen_cons (alen_cons alen_nil)))))) za_nil)))))))
theorem ok_is_table (D : DefAt K mg "is_table" (topS 14) ["value"]) (F_is_integers : DefOk P w K mg base ca "is_integers" ["value"] m_is_integers 3) : DefOk P w K mg base ca "is_table" ["value"] m_is_table 4 :=
  def_okT (k := 3) (tab := [("value", .«local»), ("is_integers", .globalImplicit), ("all", .globalImplicit)]) D sc_is_table (by decide) (by decide +kernel) fun f cd A outer s H E B t => (zs_one (zs_ret (zx_and (zx_defT 1 t B F_is_integers (by decide) (za_cons (zx_varT 0 0 t) za_nil) (alen_cons alen_nil)) (zx_one (zx_all B.calm b.all (t.gl 2 rfl) (za_cons (zx_fz (zx_lcT (N := N_is_table) (hNN := rfl) (tab := [("value", .«local»), ("is_integers", .globalImplicit), ("all", .globalImplicit)]) (tab2 := [("row", .«local»), ("max", .globalImplicit), ("min", .globalImplicit)]) (own := [("row", 1)]) (t := t) (B := B) (hb := by decide +kernel) (hi := (zi_val (zx_varT 0 0 t))) (tk := tok_name) (ht' := by decide) (hg := fun _ _ _ _ _ t1 => (pg_nameT (nd := B.blk.nd) 1 0 t1)) (ht := fun _ _ _ _ _ t1 => zt_yes) (he := fun _ _ _ _ _ t1 => (zx_and (zx_le (zx_max B.blk b.max (t1.gl 1 rfl) (za_cons (zx_varT 1 0 t1) za_nil)) zx_int) (zx_one (zx_ge (zx_min B.blk b.min (t1.gl 2 rfl) (za_cons (zx_varT 1 0 t1) za_nil)) (zx_neg zx_int))))))) za_nil))))))
theorem ok_integers_of (D : DefAt K mg "integers_of" (topS 15) ["table"]) (F_is_integers : DefOk P w K mg base ca "is_integers" ["value"] m_is_integers 3) (F_is_row : DefOk P w K mg base ca "is_row" ["value"] m_is_row 1) (T_BadTable : ExcAt P w K mg base ca "BadTable" ["table"]) : DefOk P w K mg base ca "integers_of" ["table"] m_integers_of 4 :=
  def_okT (k := 3) (tab := [("made", .«local»), ("is_integers", .globalImplicit), ("table", .«local»), ("BadTable", .globalImplicit), ("is_row", .globalImplicit), ("all", .globalImplicit), ("tuple", .globalImplicit)]) D sc_integers_of (by decide) (by decide +kernel) fun f cd A outer s H E B t => (zs_cons (zs_setT 1 0 t B.nd (zx_varT 0 2 t))
    (zs_cons (zs_if (zw_and (zt_val (zx_defT 4 t B F_is_row (by decide) (za_cons (zx_varT 0 2 t) za_nil) (alen_cons alen_nil))) (zw_and1 (zt_val (zx_all B.calm b.all (t.gl 5 rfl) (za_cons (zx_fz (zx_lcT (N := N_integers_of) (hNN := rfl) (tab := [("made", .«local»), ("is_integers", .globalImplicit), ("table", .«local»), ("BadTable", .globalImplicit), ("is_row", .globalImplicit), ("all", .globalImplicit), ("tuple", .globalImplicit)]) (tab2 := [("row", .«local»), ("is_row", .globalImplicit)]) (own := [("row", 2)]) (t := t) (B := B) (hb := by decide +kernel) (hi := (zi_val (zx_varT 0 2 t))) (tk := tok_name) (ht' := by decide) (hg := fun _ _ _ _ _ t1 => (pg_nameT (nd := B.blk.nd) 2 0 t1)) (ht := fun _ _ _ _ _ t1 => zt_yes) (he := fun _ _ _ _ _ t1 => (zx_defT 1 t1 B.blk F_is_row (by decide) (za_cons (zx_varT 2 0 t1) za_nil) (alen_cons alen_nil))))) za_nil))))).pt (zs_one (zs_setT 1 0 t B.nd (zx_tuple b.tuple (t.gl 6 rfl) (za_cons (zx_fz (zx_lcT (N := N_integers_of) (hNN := rfl) (tab := [("made", .«local»), ("is_integers", .globalImplicit), ("table", .«local»), ("BadTable", .globalImplicit), ("is_row", .globalImplicit), ("all", .globalImplicit), ("tuple", .globalImplicit)]) (tab2 := [("row", .«local»), ("tuple", .globalImplicit)]) (own := [("row", 2)]) (t := t) (B := B) (hb := by decide +kernel) (hi := (zi_val (zx_varT 0 2 t))) (tk := tok_name) (ht' := by decide) (hg := fun _ _ _ _ _ t1 => (pg_nameT (nd := B.blk.nd) 2 0 t1)) (ht := fun _ _ _ _ _ t1 => zt_yes) (he := fun _ _ _ _ _ t1 => (zx_tuple b.tuple (t1.gl 1 rfl) (za_cons (zx_varT 2 0 t1) za_nil))))) za_nil)))) zs_nil)
    (zs_cons (zs_if (zt_not (zt_val (zx_defT 1 t B F_is_integers (by decide) (za_cons (zx_varT 1 0 t) za_nil) (alen_cons alen_nil)))) (zs_one (zs_raise 3 t B (by decide) (takes_of rfl rfl rfl rfl) T_BadTable.c T_BadTable.m (za_cons (zx_varT 0 2 t) za_nil))) zs_nil)
    (zs_one (zs_ret (zx_varT 1 0 t))))))
theorem ok_table_from (D : DefAt K mg "table_from" (topS 16) ["table"]) (F_is_table : DefOk P w K mg base ca "is_table" ["value"] m_is_table 4) (F_integers_of : DefOk P w K mg base ca "integers_of" ["table"] m_integers_of 4) (T_BadTable : ExcAt P w K mg base ca "BadTable" ["table"]) : DefOk P w K mg base ca "table_from" ["table"] m_table_from 5 :=
  def_okT (k := 4) (tab := [("made", .«local»), ("is_table", .globalImplicit), ("table", .«local»), ("BadTable", .globalImplicit), ("integers_of", .globalImplicit)]) D sc_table_from (by decide) (by decide +kernel) fun f cd A outer s H E B t => (zs_cons (zs_setT 1 0 t B.nd (zx_defT 4 t B F_integers_of (by decide) (za_cons (zx_varT 0 2 t) za_nil) (alen_cons alen_nil)))
    (zs_cons (zs_if (zt_not (zt_val (zx_defT 1 t B F_is_table (by decide) (za_cons (zx_varT 1 0 t) za_nil) (alen_cons alen_nil)))) (zs_one (zs_raise 3 t B (by decide) (takes_of rfl rfl rfl rfl) T_BadTable.c T_BadTable.m (za_cons (zx_varT 0 2 t) za_nil))) zs_nil)
    (zs_one (zs_ret (zx_varT 1 0 t)))))
theorem ok_sign_rows (D : DefAt K mg "sign_rows" (topS 18) ["many"]) : DefOk P w K mg base ca "sign_rows" ["many"] m_sign_rows 1 :=
  def_okT (k := 0) (tab := [("out", .«local»), ("many", .«local»), ("range", .globalImplicit), ("k", .«local»)]) D sc_sign_rows (by decide) (by decide +kernel) fun f cd A outer s H E B t => (zs_cons (zs_setT 1 0 t B.nd (zx_fz (zx_lst (za_cons (zx_tup (za_cons zx_int za_nil)) za_nil))))
    (zs_cons (zs_for loops_of B.calm (zi_range1 (t.gl 2 rfl) b.range (za_cons (zx_sub (zx_varT 0 1 t) zx_int) za_nil)) (pg_nameT (nd := B.nd) 2 3 t) tok_name (zs_one (zs_after (is := [1]) (zs_setLc2T 1 0 (hno := by decide +kernel) (N := N_sign_rows) (hNN := rfl) (tab := [("out", .«local»), ("many", .«local»), ("range", .globalImplicit), ("k", .«local»)]) (tab2 := [("row", .«local»), ("sign", .«local»)]) (own := [("row", 3), ("sign", 4)]) (t := t) (B := B) (hb := by decide +kernel) (hv := by decide) (hi := (zi_val (zx_varT 1 0 t))) (tk := tok_name) (ht' := by decide) (tk1 := tok_name) (ht1' := by decide) (hg := fun _ _ _ _ _ t1 => (pg_nameT (nd := B.blk.nd) 3 0 t1)) (ht := fun _ _ _ _ _ t1 => zt_yes) (hi1 := fun _ _ _ _ _ t1 => (zi_val (zx_tup (za_cons zx_int (za_cons (zx_neg zx_int) za_nil))))) (hg1 := fun _ _ _ _ _ t1 => (pg_nameT (nd := B.blk.nd) 4 1 t1)) (ht1 := fun _ _ _ _ _ t1 => zt_yes) (he := fun _ _ _ _ _ t1 => (zx_add (zx_varT 3 0 t1) (zx_tup (za_cons (zx_varT 4 1 t1) za_nil))))))))
    (zs_one (zs_ret (zx_varT 1 0 t)))))
theorem ok_lots_of (D : DefAt K mg "lots_of" (topS 19) ["many"]) : DefOk P w K mg base ca "lots_of" ["many"] m_lots_of 1 :=
  def_okT (k := 0) (tab := [("sized", .«local»), ("out", .«local»), ("sorted", .globalImplicit), ("many", .«local»), ("range", .globalImplicit), ("k", .cell)]) D sc_lots_of (by decide) (by decide +kernel) fun f cd A outer s H E B t => (zs_cons (zs_setT 1 1 t B.nd (zx_fz (zx_lst (za_cons (zx_tup za_nil) za_nil))))
    (zs_cons (zs_for loops_of B.calm (zi_range1 (t.gl 4 rfl) b.range (za_cons (zx_varT 0 3 t) za_nil)) (pg_nameT (nd := B.nd) 2 5 t) tok_name (zs_one (zs_setT 1 1 t B.nd (zx_fz (zx_add (zx_varT 1 1 t) (zx_fz (zx_lcT (N := N_lots_of) (hNN := rfl) (tab := [("sized", .«local»), ("out", .«local»), ("sorted", .globalImplicit), ("many", .«local»), ("range", .globalImplicit), ("k", .cell)]) (tab2 := [("row", .«local»), ("k", .free)]) (own := [("row", 3)]) (t := t) (B := B) (hb := by decide +kernel) (hi := (zi_val (zx_varT 1 1 t))) (tk := tok_name) (ht' := by decide) (hg := fun _ _ _ _ _ t1 => (pg_nameT (nd := B.blk.nd) 3 0 t1)) (ht := fun _ _ _ _ _ t1 => zt_yes) (he := fun _ _ _ _ _ t1 => (zx_add (zx_varT 3 0 t1) (zx_tup (za_cons (zx_varT 2 1 t1) za_nil)))))))))))
    (zs_cons (zs_setT 4 0 t B.nd (zx_fz (zx_sorted B b.sorted (t.gl 2 rfl) (za_cons (zx_fz (zx_lcT (N := N_lots_of) (hNN := rfl) (tab := [("sized", .«local»), ("out", .«local»), ("sorted", .globalImplicit), ("many", .«local»), ("range", .globalImplicit), ("k", .cell)]) (tab2 := [("row", .«local»), ("len", .globalImplicit)]) (own := [("row", 3)]) (t := t) (B := B) (hb := by decide +kernel) (hi := (zi_val (zx_fz (zx_sl (zx_varT 1 1 t) (.yes zx_int) .no)))) (tk := tok_name) (ht' := by decide) (hg := fun _ _ _ _ _ t1 => (pg_nameT (nd := B.blk.nd) 3 0 t1)) (ht := fun _ _ _ _ _ t1 => zt_yes) (he := fun _ _ _ _ _ t1 => (zx_tup (za_cons (zx_len (hm := b.len) (hg := (t1.gl 1 rfl)) (za_cons (zx_varT 3 0 t1) za_nil)) (za_cons (zx_varT 3 0 t1) za_nil)))))) za_nil))))
    (zs_one (zs_ret (zx_fz (zx_lcT (N := N_lots_of) (hNN := rfl) (tab := [("sized", .«local»), ("out", .«local»), ("sorted", .globalImplicit), ("many", .«local»), ("range", .globalImplicit), ("k", .cell)]) (tab2 := [("row", .«local»), ("size", .«local»)]) (own := [("size", 5), ("row", 3)]) (t := t) (B := B) (hb := by decide +kernel) (hi := (zi_val (zx_varT 4 0 t))) (tk := tok_two) (ht' := by decide) (hg := fun _ _ _ _ _ t1 => (pg_tup rfl (pgs_cons (pg_nameT (nd := B.blk.nd) 5 1 t1) (pgs_cons (pg_nameT (nd := B.blk.nd) 3 0 t1) pgs_nil)))) (ht := fun _ _ _ _ _ t1 => zt_yes) (he := fun _ _ _ _ _ t1 => (zx_varT 3 0 t1)))))))))
theorem ok_is_even (D : DefAt K mg "is_even" (topS 20) ["made", "lot", "signs"]) : DefOk P w K mg base ca "is_even" ["made", "lot", "signs"] m_is_even 1 :=
  def_okT (k := 0) (tab := [("made", .cell), ("len", .globalImplicit), ("range", .globalImplicit), ("j", .cell), ("lot", .«local»), ("signs", .«local»), ("zip", .globalImplicit), ("sum", .globalImplicit), ("abs", .globalImplicit)]) D sc_is_even (by decide) (by decide +kernel) fun f cd A outer s H E B t => (zs_cons (zs_for loops_of B.calm (zi_range1 (t.gl 2 rfl) b.range (za_cons (zx_len (hm := b.len) (hg := (t.gl 1 rfl)) (za_cons (zx_ix (zx_varT 0 0 t) zx_int) za_nil)) za_nil)) (pg_nameT (nd := B.nd) 3 3 t) tok_name (zs_one (zs_if (zt_gt (zx_abs b.abs (t.gl 8 rfl) (za_cons (zx_sum B.calm b.sum (t.gl 7 rfl) (za_cons (zx_fz (zx_lcT (N := N_is_even) (hNN := rfl) (tab := [("made", .cell), ("len", .globalImplicit), ("range", .globalImplicit), ("j", .cell), ("lot", .«local»), ("signs", .«local»), ("zip", .globalImplicit), ("sum", .globalImplicit), ("abs", .globalImplicit)]) (tab2 := [("i", .«local»), ("sign", .«local»), ("j", .free), ("made", .free)]) (own := [("sign", 4), ("i", 5)]) (t := t) (B := B) (hb := by decide +kernel) (hi := (zi_zip (t.gl 6 rfl) b.zip (za_cons (zx_varT 2 5 t) (za_cons (zx_varT 1 4 t) za_nil)))) (tk := tok_two) (ht' := by decide) (hg := fun _ _ _ _ _ t1 => (pg_tup rfl (pgs_cons (pg_nameT (nd := B.blk.nd) 4 1 t1) (pgs_cons (pg_nameT (nd := B.blk.nd) 5 0 t1) pgs_nil)))) (ht := fun _ _ _ _ _ t1 => zt_yes) (he := fun _ _ _ _ _ t1 => (zx_mul (zx_varT 4 1 t1) (zx_ix (zx_ix (zx_varT 0 3 t1) (zx_varT 5 0 t1)) (zx_varT 3 2 t1)))))) za_nil)) za_nil)) zx_int) (zs_one (zs_ret zx_bool)) zs_nil)))
    (zs_one (zs_ret zx_bool)))
theorem ok_is_within (D : DefAt K mg "is_within" (topS 22) ["lot", "other"]) : DefOk P w K mg base ca "is_within" ["lot", "other"] m_is_within 1 :=
  def_okT (k := 0) (tab := [("lot", .«local»), ("other", .cell), ("all", .globalImplicit)]) D sc_is_within (by decide) (by decide +kernel) fun f cd A outer s H E B t => (zs_one (zs_ret (zx_all B.calm b.all (t.gl 2 rfl) (za_cons (zx_fz (zx_lcT (N := N_is_within) (hNN := rfl) (tab := [("lot", .«local»), ("other", .cell), ("all", .globalImplicit)]) (tab2 := [("i", .«local»), ("other", .free)]) (own := [("i", 2)]) (t := t) (B := B) (hb := by decide +kernel) (hi := (zi_val (zx_varT 0 0 t))) (tk := tok_name) (ht' := by decide) (hg := fun _ _ _ _ _ t1 => (pg_nameT (nd := B.blk.nd) 2 0 t1)) (ht := fun _ _ _ _ _ t1 => zt_yes) (he := fun _ _ _ _ _ t1 => (zx_in B.blk.u65 (zx_varT 2 0 t1) (zx_varT 1 1 t1))))) za_nil))))
theorem ok_least_bad_lots (D : DefAt K mg "least_bad_lots" (topS 23) ["table"]) (F_lots_of : DefOk P w K mg base ca "lots_of" ["many"] m_lots_of 1) (F_sign_rows : DefOk P w K mg base ca "sign_rows" ["many"] m_sign_rows 1) (F_is_even : DefOk P w K mg base ca "is_even" ["made", "lot", "signs"] m_is_even 1) (F_is_within : DefOk P w K mg base ca "is_within" ["lot", "other"] m_is_within 1) (F_table_from : DefOk P w K mg base ca "table_from" ["table"] m_table_from 5) : DefOk P w K mg base ca "least_bad_lots" ["table"] m_least_bad_lots 6 :=
  def_okT (k := 5) (tab := [("out", .«local»), ("tuple", .globalImplicit), ("made", .cell), ("len", .globalImplicit), ("lots_of", .globalImplicit), ("lot", .cell), ("sign_rows", .globalImplicit), ("any", .globalImplicit), ("table", .«local»), ("table_from", .globalImplicit)]) D sc_least_bad_lots (by decide) (by decide +kernel) fun f cd A outer s H E B t => (zs_cons (zs_parCT 1 2 2 0 t B.calm B.nd (zx_defT 9 t B F_table_from (by decide) (za_cons (zx_varT 0 8 t) za_nil) (alen_cons alen_nil)) (zx_lst za_nil))
    (zs_cons (zs_for loops_of B.calm (zi_val (zx_defT 4 t B F_lots_of (by decide) (za_cons (zx_len (hm := b.len) (hg := (t.gl 3 rfl)) (za_cons (zx_varT 1 2 t) za_nil)) za_nil) (alen_cons alen_nil))) (pg_nameT (nd := B.nd) 3 5 t) tok_name (zs_cons (zs_if (zt_val (zx_any B.calm b.any (t.gl 7 rfl) (za_cons (zx_fz (zx_lcT (N := N_least_bad_lots) (hNN := rfl) (tab := [("out", .«local»), ("tuple", .globalImplicit), ("made", .cell), ("len", .globalImplicit), ("lots_of", .globalImplicit), ("lot", .cell), ("sign_rows", .globalImplicit), ("any", .globalImplicit), ("table", .«local»), ("table_from", .globalImplicit)]) (tab2 := [("other", .«local»), ("lot", .free), ("is_within", .globalImplicit)]) (own := [("other", 4)]) (t := t) (B := B) (hb := by decide +kernel) (hi := (zi_ownT 2 0 t)) (tk := tok_name) (ht' := by decide) (hg := fun _ _ _ _ _ t1 => (pg_nameT (nd := B.blk.nd) 4 0 t1)) (ht := fun _ _ _ _ _ t1 => zt_yes) (he := fun _ _ _ _ _ t1 => (zx_defT 2 t1 B.blk F_is_within (by decide) (za_cons (zx_varT 4 0 t1) (za_cons (zx_varT 3 1 t1) za_nil)) (alen_cons (alen_cons alen_nil)))))) za_nil))) (zs_one zs_continue) zs_nil)
    (zs_one (zs_if (zt_not (zt_val (zx_any B.calm b.any (t.gl 7 rfl) (za_cons (zx_fz (zx_lcT (N := N_least_bad_lots) (hNN := rfl) (tab := [("out", .«local»), ("tuple", .globalImplicit), ("made", .cell), ("len", .globalImplicit), ("lots_of", .globalImplicit), ("lot", .cell), ("sign_rows", .globalImplicit), ("any", .globalImplicit), ("table", .«local»), ("table_from", .globalImplicit)]) (tab2 := [("signs", .«local»), ("lot", .free), ("made", .free), ("is_even", .globalImplicit)]) (own := [("signs", 5)]) (t := t) (B := B) (hb := by decide +kernel) (hi := (zi_val (zx_defT 6 t B F_sign_rows (by decide) (za_cons (zx_len (hm := b.len) (hg := (t.gl 3 rfl)) (za_cons (zx_varT 3 5 t) za_nil)) za_nil) (alen_cons alen_nil)))) (tk := tok_name) (ht' := by decide) (hg := fun _ _ _ _ _ t1 => (pg_nameT (nd := B.blk.nd) 5 0 t1)) (ht := fun _ _ _ _ _ t1 => zt_yes) (he := fun _ _ _ _ _ t1 => (zx_defT 3 t1 B.blk F_is_even (by decide) (za_cons (zx_varT 1 2 t1) (za_cons (zx_varT 3 1 t1) (za_cons (zx_varT 5 0 t1) za_nil))) (alen_cons (alen_cons (alen_cons alen_nil))))))) za_nil)))) (zs_one (zs_expr (zx_append 2 (he := (zx_varT 3 5 t)) (hN := rfl) (hv := t.vis 0 rfl rfl) (hd := t.d 0 rfl) (hcd := t.c 0 rfl)))) zs_nil))))
    (zs_one (zs_ret (zx_tuple b.tuple (t.gl 1 rfl) (za_cons (zx_varT 2 0 t) za_nil))))))
theorem ok_greatest_whole_lots (D : DefAt K mg "greatest_whole_lots" (topS 24) ["table"]) (F_lots_of : DefOk P w K mg base ca "lots_of" ["many"] m_lots_of 1) (F_is_within : DefOk P w K mg base ca "is_within" ["lot", "other"] m_is_within 1) (F_least_bad_lots : DefOk P w K mg base ca "least_bad_lots" ["table"] m_least_bad_lots 6) (F_table_from : DefOk P w K mg base ca "table_from" ["table"] m_table_from 5) : DefOk P w K mg base ca "greatest_whole_lots" ["table"] m_greatest_whole_lots 7 :=
  def_okT (k := 6) (tab := [("out", .«local»), ("tuple", .globalImplicit), ("made", .«local»), ("len", .globalImplicit), ("lots_of", .globalImplicit), ("lot", .cell), ("more", .«local»), ("barred", .cell), ("all", .globalImplicit), ("range", .globalImplicit), ("any", .globalImplicit), ("least_bad_lots", .globalImplicit), ("table", .«local»), ("table_from", .globalImplicit)]) D sc_greatest_whole_lots (by decide) (by decide +kernel) fun f cd A outer s H E B t => (zs_cons (zs_setT 1 2 t B.nd (zx_defT 13 t B F_table_from (by decide) (za_cons (zx_varT 0 12 t) za_nil) (alen_cons alen_nil)))
    (zs_cons (zs_parCT 2 3 7 0 t B.calm B.nd (zx_defT 11 t B F_least_bad_lots (by decide) (za_cons (zx_varT 1 2 t) za_nil) (alen_cons alen_nil)) (zx_lst za_nil))
    (zs_cons (zs_for loops_of B.calm (zi_val (zx_defT 4 t B F_lots_of (by decide) (za_cons (zx_len (hm := b.len) (hg := (t.gl 3 rfl)) (za_cons (zx_varT 1 2 t) za_nil)) za_nil) (alen_cons alen_nil))) (pg_nameT (nd := B.nd) 4 5 t) tok_name (zs_cons (zs_if (zt_val (zx_any B.calm b.any (t.gl 10 rfl) (za_cons (zx_fz (zx_lcT (N := N_greatest_whole_lots) (hNN := rfl) (tab := [("out", .«local»), ("tuple", .globalImplicit), ("made", .«local»), ("len", .globalImplicit), ("lots_of", .globalImplicit), ("lot", .cell), ("more", .«local»), ("barred", .cell), ("all", .globalImplicit), ("range", .globalImplicit), ("any", .globalImplicit), ("least_bad_lots", .globalImplicit), ("table", .«local»), ("table_from", .globalImplicit)]) (tab2 := [("other", .«local»), ("lot", .free), ("is_within", .globalImplicit)]) (own := [("other", 5)]) (t := t) (B := B) (hb := by decide +kernel) (hi := (zi_val (zx_varT 2 7 t))) (tk := tok_name) (ht' := by decide) (hg := fun _ _ _ _ _ t1 => (pg_nameT (nd := B.blk.nd) 5 0 t1)) (ht := fun _ _ _ _ _ t1 => zt_yes) (he := fun _ _ _ _ _ t1 => (zx_defT 2 t1 B.blk F_is_within (by decide) (za_cons (zx_varT 5 0 t1) (za_cons (zx_varT 4 1 t1) za_nil)) (alen_cons (alen_cons alen_nil)))))) za_nil))) (zs_one zs_continue) zs_nil)
    (zs_cons (zs_after (is := [7]) (zs_setLcT 7 6 (hno := by decide +kernel) (N := N_greatest_whole_lots) (hNN := rfl) (tab := [("out", .«local»), ("tuple", .globalImplicit), ("made", .«local»), ("len", .globalImplicit), ("lots_of", .globalImplicit), ("lot", .cell), ("more", .«local»), ("barred", .cell), ("all", .globalImplicit), ("range", .globalImplicit), ("any", .globalImplicit), ("least_bad_lots", .globalImplicit), ("table", .«local»), ("table_from", .globalImplicit)]) (tab2 := [("i", .«local»), ("lot", .free), ("sorted", .globalImplicit), ("tuple", .globalImplicit)]) (own := [("i", 6)]) (t := t) (B := B) (hb := by decide +kernel) (hi := (zi_range1 (t.gl 9 rfl) b.range (za_cons (zx_len (hm := b.len) (hg := (t.gl 3 rfl)) (za_cons (zx_varT 1 2 t) za_nil)) za_nil))) (tk := tok_name) (ht' := by decide) (hg := fun _ _ _ _ _ t1 => (pg_nameT (nd := B.blk.nd) 6 0 t1)) (ht := fun _ _ _ _ _ t1 => (zt_one (zt_notIn B.blk.u65 (zx_varT 6 0 t1) (zx_varT 4 1 t1)))) (he := fun _ _ _ _ _ t1 => (zx_tuple b.tuple (t1.gl 3 rfl) (za_cons (zx_fz (zx_sorted B.blk b.sorted (t1.gl 2 rfl) (za_cons (zx_add (zx_varT 4 1 t1) (zx_tup (za_cons (zx_varT 6 0 t1) za_nil))) za_nil))) za_nil)))))
    (zs_one (zs_if (zt_val (zx_all B.calm b.all (t.gl 8 rfl) (za_cons (zx_fz (zx_lcT (N := N_greatest_whole_lots) (hNN := rfl) (tab := [("out", .«local»), ("tuple", .globalImplicit), ("made", .«local»), ("len", .globalImplicit), ("lots_of", .globalImplicit), ("lot", .cell), ("more", .«local»), ("barred", .cell), ("all", .globalImplicit), ("range", .globalImplicit), ("any", .globalImplicit), ("least_bad_lots", .globalImplicit), ("table", .«local»), ("table_from", .globalImplicit)]) (tab2 := [("wide", .cell), ("barred", .free), ("any", .globalImplicit)]) (own := [("wide", 8)]) (t := t) (B := B) (hb := by decide +kernel) (hi := (zi_val (zx_varT 7 6 t))) (tk := tok_name) (ht' := by decide) (hg := fun _ _ _ _ _ t1 => (pg_nameT (nd := B.blk.nd) 8 0 t1)) (ht := fun _ _ _ _ _ t1 => zt_yes) (he := fun _ _ _ _ _ t1 => (zx_any B.blk.calm b.any (t1.gl 2 rfl) (za_cons (zx_fz (zx_lcT (N := N_greatest_whole_lots) (hNN := rfl) (tab := [("wide", .cell), ("barred", .free), ("any", .globalImplicit)]) (tab2 := [("other", .«local»), ("wide", .free), ("is_within", .globalImplicit)]) (own := [("other", 5)]) (t := t1) (B := B.blk) (hb := by decide +kernel) (hi := (zi_val (zx_varT 2 1 t1))) (tk := tok_name) (ht' := by decide) (hg := fun _ _ _ _ _ t1' => (pg_nameT (nd := B.blk.blk.nd) 5 0 t1')) (ht := fun _ _ _ _ _ t1' => zt_yes) (he := fun _ _ _ _ _ t1' => (zx_defT 2 t1' B.blk.blk F_is_within (by decide) (za_cons (zx_varT 5 0 t1') (za_cons (zx_varT 8 1 t1') za_nil)) (alen_cons (alen_cons alen_nil)))))) za_nil))))) za_nil))) (zs_one (zs_expr (zx_append 3 (he := (zx_varT 4 5 t)) (hN := rfl) (hv := t.vis 0 rfl rfl) (hd := t.d 0 rfl) (hcd := t.c 0 rfl)))) zs_nil)))))
    (zs_one (zs_ret (zx_tuple b.tuple (t.gl 1 rfl) (za_cons (zx_varT 3 0 t) za_nil)))))))
theorem ok__law_draw (D : DefAt K mg "_law_draw" (topS 27) ["pen", "many"]) : DefOk P w K mg base ca "_law_draw" ["pen", "many"] m__law_draw 1 :=
  def_okT (k := 0) (tab := [("blend", .«local»), ("int", .globalImplicit), ("many", .«local»), ("pen", .«local»), ("digit", .«local»), ("len", .globalImplicit), ("cell", .«local»)]) D sc__law_draw (by decide) (by decide +kernel) fun f cd A outer s H E B t => (zs_cons (zs_penPut .count 0 3 t B (zx_add (zx_penGet .count 0 3 t B) zx_int))
    (zs_cons (zs_if (zw_and (zt_eq B.u64 (zx_penGet .digits 0 3 t B) zx_int) (zw_and1 (zt_lt (zx_penGet .at_ 0 3 t B) (zx_len (hm := b.len) (hg := (t.gl 5 rfl)) (za_cons (zx_penGet .cells 0 3 t B) za_nil))))).pt (zs_cons (zs_setT 2 6 t B.nd (zx_ix (zx_penGet .cells 0 3 t B) (zx_penGet .at_ 0 3 t B)))
    (zs_cons (zs_penPut .at_ 0 3 t B (zx_add (zx_penGet .at_ 0 3 t B) zx_int))
    (zs_one (zs_if (zt_ge (zx_varT 2 6 t) (zx_pow zx_int zx_int)) (zs_one (zs_penPut .digits 0 3 t B (zx_sub (zx_varT 2 6 t) (zx_pow zx_int zx_int)))) (zs_one (zs_penPut .fold 0 3 t B (zx_mod (zx_int1 b.int (t.gl 1 rfl) (za_cons (zx_add (zx_mul (zx_penGet .fold 0 3 t B) zx_int) (zx_varT 2 6 t)) za_nil)) zx_int))))))) zs_nil)
    (zs_cons (zs_if (zt_gt (zx_penGet .digits 0 3 t B) zx_int) (zs_cons (zs_setT 3 4 t B.nd (zx_mod (zx_int1 b.int (t.gl 1 rfl) (za_cons (zx_penGet .digits 0 3 t B) za_nil)) (zx_varT 1 2 t)))
    (zs_cons (zs_penPut .digits 0 3 t B (zx_div (zx_penGet .digits 0 3 t B) (zx_varT 1 2 t)))
    (zs_one (zs_ret (zx_varT 3 4 t))))) zs_nil)
    (zs_cons (zs_setT 4 0 t B.nd (zx_add (zx_add (zx_penGet .fold 0 3 t B) (zx_mul (zx_penGet .count 0 3 t B) zx_int)) zx_int))
    (zs_one (zs_ret (zx_mod (zx_div (zx_int1 b.int (t.gl 1 rfl) (za_cons (zx_mod (zx_pow (zx_varT 4 0 t) zx_int) zx_int) za_nil)) zx_int) (zx_varT 1 2 t))))))))
theorem ok__law_pick (D : DefAt K mg "_law_pick" (topS 28) ["pen", "some"]) (F__law_draw : DefOk P w K mg base ca "_law_draw" ["pen", "many"] m__law_draw 1) : DefOk P w K mg base ca "_law_pick" ["pen", "some"] m__law_pick 2 :=
  def_okT (k := 1) (tab := [("some", .«local»), ("len", .globalImplicit), ("pen", .«local»), ("_law_draw", .globalImplicit)]) D sc__law_pick (by decide) (by decide +kernel) fun f cd A outer s H E B t => (zs_one (zs_ret (zx_ix (zx_varT 1 0 t) (zx_defT 3 t B F__law_draw (by decide) (za_cons (zx_varT 0 2 t) (za_cons (zx_len (hm := b.len) (hg := (t.gl 1 rfl)) (za_cons (zx_varT 1 0 t) za_nil)) za_nil)) (alen_cons (alen_cons alen_nil))))))
theorem ok__law_shuffled (D : DefAt K mg "_law_shuffled" (topS 29) ["pen", "some"]) (F__law_draw : DefOk P w K mg base ca "_law_draw" ["pen", "many"] m__law_draw 1) : DefOk P w K mg base ca "_law_shuffled" ["pen", "some"] m__law_shuffled 2 :=
  def_okT (k := 1) (tab := [("found", .«local»), ("some", .«local»), ("len", .globalImplicit), ("range", .globalImplicit), ("lap", .«local»), ("left", .«local»), ("pen", .«local»), ("_law_draw", .globalImplicit), ("list", .globalImplicit)]) D sc__law_shuffled (by decide) (by decide +kernel) fun f cd A outer s H E B t => (zs_cons (zs_parT 2 3 5 0 t B.calm B.nd (zx_list b.list (t.gl 8 rfl) (za_cons (zx_varT 1 1 t) za_nil)) (zx_lst za_nil))
    (zs_cons (zs_for loops_of B.calm (zi_range1 (t.gl 3 rfl) b.range (za_cons (zx_len (hm := b.len) (hg := (t.gl 2 rfl)) (za_cons (zx_varT 1 1 t) za_nil)) za_nil)) (pg_nameT (nd := B.nd) 4 4 t) tok_name (zs_one (zs_expr (zx_append 3 (he := (zx_pop 2 (he := (zx_defT 7 t B F__law_draw (by decide) (za_cons (zx_varT 0 6 t) (za_cons (zx_lenO 2 b.len (t.gl 2 rfl) (hN := rfl) (hv := t.vis 5 rfl rfl) (hd := t.d 5 rfl) (hcd := t.c 5 rfl)) za_nil)) (alen_cons (alen_cons alen_nil)))) (hN := rfl) (hv := t.vis 5 rfl rfl) (hd := t.d 5 rfl) (hcd := t.c 5 rfl))) (hN := rfl) (hv := t.vis 0 rfl rfl) (hd := t.d 0 rfl) (hcd := t.c 0 rfl)))))
    (zs_one (zs_ret (zx_varT 3 0 t)))))
theorem ok__law_as_passed (D : DefAt K mg "_law_as_passed" (topS 30) ["pen", "table"]) (F__law_draw : DefOk P w K mg base ca "_law_draw" ["pen", "many"] m__law_draw 1) : DefOk P w K mg base ca "_law_as_passed" ["pen", "table"] m__law_as_passed 2 :=
  def_okT (k := 1) (tab := [("way", .«local»), ("table", .«local»), ("tuple", .globalImplicit), ("pen", .«local»), ("_law_draw", .globalImplicit)]) D sc__law_as_passed (by decide) (by decide +kernel) fun f cd A outer s H E B t => (zs_cons (zs_setT 2 0 t B.nd (zx_defT 4 t B F__law_draw (by decide) (za_cons (zx_varT 0 3 t) (za_cons zx_int za_nil)) (alen_cons (alen_cons alen_nil))))
    (zs_cons (zs_if (zt_eq B.u64 (zx_varT 2 0 t) zx_int) (zs_one (zs_ret (zx_varT 1 1 t))) zs_nil)
    (zs_one (zs_ret (zx_fz (zx_if (zt_eq B.u64 (zx_varT 2 0 t) zx_int) (zx_fz (zx_lcT (N := N__law_as_passed) (hNN := rfl) (tab := [("way", .«local»), ("table", .«local»), ("tuple", .globalImplicit), ("pen", .«local»), ("_law_draw", .globalImplicit)]) (tab2 := [("row", .«local»), ("list", .globalImplicit)]) (own := [("row", 3)]) (t := t) (B := B) (hb := by decide +kernel) (hi := (zi_val (zx_varT 1 1 t))) (tk := tok_name) (ht' := by decide) (hg := fun _ _ _ _ _ t1 => (pg_nameT (nd := B.blk.nd) 3 0 t1)) (ht := fun _ _ _ _ _ t1 => zt_yes) (he := fun _ _ _ _ _ t1 => (zx_fz (zx_list b.list (t1.gl 1 rfl) (za_cons (zx_varT 3 0 t1) za_nil)))))) (zx_tuple b.tuple (t.gl 2 rfl) (za_cons (zx_fz (zx_lcT (N := N__law_as_passed) (hNN := rfl) (tab := [("way", .«local»), ("table", .«local»), ("tuple", .globalImplicit), ("pen", .«local»), ("_law_draw", .globalImplicit)]) (tab2 := [("row", .«local»), ("list", .globalImplicit)]) (own := [("row", 3)]) (t := t) (B := B) (hb := by decide +kernel) (hi := (zi_val (zx_varT 1 1 t))) (tk := tok_name) (ht' := by decide) (hg := fun _ _ _ _ _ t1 => (pg_nameT (nd := B.blk.nd) 3 0 t1)) (ht := fun _ _ _ _ _ t1 => zt_yes) (he := fun _ _ _ _ _ t1 => (zx_fz (zx_list b.list (t1.gl 1 rfl) (za_cons (zx_varT 3 0 t1) za_nil)))))) za_nil))))))))
theorem ok__law_table (D : DefAt K mg "_law_table" (topS 31) ["pen", "tall", "wide"]) (F__law_draw : DefOk P w K mg base ca "_law_draw" ["pen", "many"] m__law_draw 1) (F__law_pick : DefOk P w K mg base ca "_law_pick" ["pen", "some"] m__law_pick 2) : DefOk P w K mg base ca "_law_table" ["pen", "tall", "wide"] m__law_table 3 :=
  def_okT (k := 2) (tab := [("rows", .«local»), ("tuple", .globalImplicit), ("tall", .«local»), ("range", .globalImplicit), ("i", .«local»), ("wide", .«local»), ("much", .cell), ("pen", .cell), ("_law_pick", .globalImplicit)]) D sc__law_table (by decide) (by decide +kernel) fun f cd A outer s H E B t => (zs_cons (zs_setT 3 6 t B.nd (zx_defT 8 t B F__law_pick (by decide) (za_cons (zx_varT 0 7 t) (za_cons (zx_fz (zx_lst (za_cons zx_int (za_cons zx_int (za_cons zx_int (za_cons zx_int za_nil)))))) za_nil)) (alen_cons (alen_cons alen_nil))))
    (zs_cons (zs_setT 4 0 t B.nd (zx_lst za_nil))
    (zs_cons (zs_for loops_of B.calm (zi_range1 (t.gl 3 rfl) b.range (za_cons (zx_varT 1 2 t) za_nil)) (pg_nameT (nd := B.nd) 5 4 t) tok_name (zs_one (zs_expr (zx_append 4 (he := (zx_tuple b.tuple (t.gl 1 rfl) (za_cons (zx_fz (zx_lcT (N := N__law_table) (hNN := rfl) (tab := [("rows", .«local»), ("tuple", .globalImplicit), ("tall", .«local»), ("range", .globalImplicit), ("i", .«local»), ("wide", .«local»), ("much", .cell), ("pen", .cell), ("_law_pick", .globalImplicit)]) (tab2 := [("j", .«local»), ("much", .free), ("pen", .free), ("_law_draw", .globalImplicit)]) (own := [("j", 6)]) (t := t) (B := B) (hb := by decide +kernel) (hi := (zi_range1 (t.gl 3 rfl) b.range (za_cons (zx_varT 2 5 t) za_nil))) (tk := tok_name) (ht' := by decide) (hg := fun _ _ _ _ _ t1 => (pg_nameT (nd := B.blk.nd) 6 0 t1)) (ht := fun _ _ _ _ _ t1 => zt_yes) (he := fun _ _ _ _ _ t1 => (zx_ix (zx_fz (zx_lst (za_cons zx_int (za_cons (zx_neg zx_int) (za_cons zx_int (za_cons zx_int (za_cons zx_int za_nil))))))) (zx_defT 3 t1 B.blk F__law_draw (by decide) (za_cons (zx_varT 0 2 t1) (za_cons (zx_varT 3 1 t1) za_nil)) (alen_cons (alen_cons alen_nil))))))) za_nil))) (hN := rfl) (hv := t.vis 0 rfl rfl) (hd := t.d 0 rfl) (hcd := t.c 0 rfl)))))
    (zs_one (zs_ret (zx_tuple b.tuple (t.gl 1 rfl) (za_cons (zx_varT 4 0 t) za_nil)))))))
theorem ok__law_turned (D : DefAt K mg "_law_turned" (topS 32) ["table"]) : DefOk P w K mg base ca "_law_turned" ["table"] m__law_turned 1 :=
  def_okT (k := 0) (tab := [("table", .cell), ("len", .globalImplicit), ("range", .globalImplicit), ("tuple", .globalImplicit)]) D sc__law_turned (by decide) (by decide +kernel) fun f cd A outer s H E B t => (zs_one (zs_ret (zx_tuple b.tuple (t.gl 3 rfl) (za_cons (zx_fz (zx_lcT (N := N__law_turned) (hNN := rfl) (tab := [("table", .cell), ("len", .globalImplicit), ("range", .globalImplicit), ("tuple", .globalImplicit)]) (tab2 := [("j", .cell), ("table", .free), ("tuple", .globalImplicit)]) (own := [("j", 1)]) (t := t) (B := B) (hb := by decide +kernel) (hi := (zi_range1 (t.gl 2 rfl) b.range (za_cons (zx_len (hm := b.len) (hg := (t.gl 1 rfl)) (za_cons (zx_ix (zx_varT 0 0 t) zx_int) za_nil)) za_nil))) (tk := tok_name) (ht' := by decide) (hg := fun _ _ _ _ _ t1 => (pg_nameT (nd := B.blk.nd) 1 0 t1)) (ht := fun _ _ _ _ _ t1 => zt_yes) (he := fun _ _ _ _ _ t1 => (zx_tuple b.tuple (t1.gl 2 rfl) (za_cons (zx_fz (zx_lcT (N := N__law_turned) (hNN := rfl) (tab := [("j", .cell), ("table", .free), ("tuple", .globalImplicit)]) (tab2 := [("row", .«local»), ("j", .free)]) (own := [("row", 2)]) (t := t1) (B := B.blk) (hb := by decide +kernel) (hi := (zi_val (zx_varT 0 1 t1))) (tk := tok_name) (ht' := by decide) (hg := fun _ _ _ _ _ t1' => (pg_nameT (nd := B.blk.blk.nd) 2 0 t1')) (ht := fun _ _ _ _ _ t1' => zt_yes) (he := fun _ _ _ _ _ t1' => (zx_ix (zx_varT 2 0 t1') (zx_varT 1 1 t1'))))) za_nil))))) za_nil))))
theorem ok__law_dual (D : DefAt K mg "_law_dual" (topS 33) ["table"]) (F__law_turned : DefOk P w K mg base ca "_law_turned" ["table"] m__law_turned 1) : DefOk P w K mg base ca "_law_dual" ["table"] m__law_dual 2 :=
  def_okT (k := 1) (tab := [("table", .«local»), ("_law_turned", .globalImplicit), ("tuple", .globalImplicit)]) D sc__law_dual (by decide) (by decide +kernel) fun f cd A outer s H E B t => (zs_one (zs_ret (zx_tuple b.tuple (t.gl 2 rfl) (za_cons (zx_fz (zx_lcT (N := N__law_dual) (hNN := rfl) (tab := [("table", .«local»), ("_law_turned", .globalImplicit), ("tuple", .globalImplicit)]) (tab2 := [("row", .«local»), ("tuple", .globalImplicit)]) (own := [("row", 1)]) (t := t) (B := B) (hb := by decide +kernel) (hi := (zi_val (zx_defT 1 t B F__law_turned (by decide) (za_cons (zx_varT 0 0 t) za_nil) (alen_cons alen_nil)))) (tk := tok_name) (ht' := by decide) (hg := fun _ _ _ _ _ t1 => (pg_nameT (nd := B.blk.nd) 1 0 t1)) (ht := fun _ _ _ _ _ t1 => zt_yes) (he := fun _ _ _ _ _ t1 => (zx_tuple b.tuple (t1.gl 1 rfl) (za_cons (zx_fz (zx_lcT (N := N__law_dual) (hNN := rfl) (tab := [("row", .«local»), ("tuple", .globalImplicit)]) (tab2 := [("entry", .«local»)]) (own := [("entry", 2)]) (t := t1) (B := B.blk) (hb := by decide +kernel) (hi := (zi_val (zx_varT 1 0 t1))) (tk := tok_name) (ht' := by decide) (hg := fun _ _ _ _ _ t1' => (pg_nameT (nd := B.blk.blk.nd) 2 0 t1')) (ht := fun _ _ _ _ _ t1' => zt_yes) (he := fun _ _ _ _ _ t1' => (zx_neg (zx_varT 2 0 t1'))))) za_nil))))) za_nil))))
theorem ok__law_lots (D : DefAt K mg "_law_lots" (topS 34) ["many"]) : DefOk P w K mg base ca "_law_lots" ["many"] m__law_lots 1 :=
  def_okT (k := 0) (tab := [("sized", .«local»), ("found", .«local»), ("sorted", .globalImplicit), ("many", .«local»), ("range", .globalImplicit), ("k", .cell)]) D sc__law_lots (by decide) (by decide +kernel) fun f cd A outer s H E B t => (zs_cons (zs_setT 1 1 t B.nd (zx_fz (zx_lst (za_cons (zx_tup za_nil) za_nil))))
    (zs_cons (zs_for loops_of B.calm (zi_range1 (t.gl 4 rfl) b.range (za_cons (zx_varT 0 3 t) za_nil)) (pg_nameT (nd := B.nd) 2 5 t) tok_name (zs_one (zs_setT 1 1 t B.nd (zx_fz (zx_add (zx_varT 1 1 t) (zx_fz (zx_lcT (N := N__law_lots) (hNN := rfl) (tab := [("sized", .«local»), ("found", .«local»), ("sorted", .globalImplicit), ("many", .«local»), ("range", .globalImplicit), ("k", .cell)]) (tab2 := [("row", .«local»), ("k", .free)]) (own := [("row", 3)]) (t := t) (B := B) (hb := by decide +kernel) (hi := (zi_val (zx_varT 1 1 t))) (tk := tok_name) (ht' := by decide) (hg := fun _ _ _ _ _ t1 => (pg_nameT (nd := B.blk.nd) 3 0 t1)) (ht := fun _ _ _ _ _ t1 => zt_yes) (he := fun _ _ _ _ _ t1 => (zx_add (zx_varT 3 0 t1) (zx_tup (za_cons (zx_varT 2 1 t1) za_nil)))))))))))
    (zs_cons (zs_setT 4 0 t B.nd (zx_fz (zx_sorted B b.sorted (t.gl 2 rfl) (za_cons (zx_fz (zx_lcT (N := N__law_lots) (hNN := rfl) (tab := [("sized", .«local»), ("found", .«local»), ("sorted", .globalImplicit), ("many", .«local»), ("range", .globalImplicit), ("k", .cell)]) (tab2 := [("row", .«local»), ("len", .globalImplicit)]) (own := [("row", 3)]) (t := t) (B := B) (hb := by decide +kernel) (hi := (zi_val (zx_fz (zx_sl (zx_varT 1 1 t) (.yes zx_int) .no)))) (tk := tok_name) (ht' := by decide) (hg := fun _ _ _ _ _ t1 => (pg_nameT (nd := B.blk.nd) 3 0 t1)) (ht := fun _ _ _ _ _ t1 => zt_yes) (he := fun _ _ _ _ _ t1 => (zx_tup (za_cons (zx_len (hm := b.len) (hg := (t1.gl 1 rfl)) (za_cons (zx_varT 3 0 t1) za_nil)) (za_cons (zx_varT 3 0 t1) za_nil)))))) za_nil))))
    (zs_one (zs_ret (zx_fz (zx_lcT (N := N__law_lots) (hNN := rfl) (tab := [("sized", .«local»), ("found", .«local»), ("sorted", .globalImplicit), ("many", .«local»), ("range", .globalImplicit), ("k", .cell)]) (tab2 := [("row", .«local»), ("size", .«local»)]) (own := [("size", 5), ("row", 3)]) (t := t) (B := B) (hb := by decide +kernel) (hi := (zi_val (zx_varT 4 0 t))) (tk := tok_two) (ht' := by decide) (hg := fun _ _ _ _ _ t1 => (pg_tup rfl (pgs_cons (pg_nameT (nd := B.blk.nd) 5 1 t1) (pgs_cons (pg_nameT (nd := B.blk.nd) 3 0 t1) pgs_nil)))) (ht := fun _ _ _ _ _ t1 => zt_yes) (he := fun _ _ _ _ _ t1 => (zx_varT 3 0 t1)))))))))
theorem ok__law_split (D : DefAt K mg "_law_split" (topS 35) ["table", "lot"]) : DefOk P w K mg base ca "_law_split" ["table", "lot"] m__law_split 1 :=
  def_okT (k := 0) (tab := [("sums", .«local»), ("any", .globalImplicit), ("lot", .«local»), ("i", .«local»), ("more", .«local»), ("one", .«local»), ("table", .«local»), ("zip", .globalImplicit), ("tuple", .globalImplicit), ("len", .globalImplicit)]) D sc__law_split (by decide) (by decide +kernel) fun f cd A outer s H E B t => (zs_cons (zs_setT 2 0 t B.nd (zx_fz (zx_dispT B (zx_mul (zx_tup (za_cons zx_int za_nil)) (zx_len (hm := b.len) (hg := (t.gl 9 rfl)) (za_cons (zx_ix (zx_varT 0 6 t) zx_int) za_nil))) zx_bool)))
    (zs_cons (zs_for loops_of B.calm (zi_val (zx_varT 1 2 t)) (pg_nameT (nd := B.nd) 3 3 t) tok_name (zs_cons (zs_setT 4 4 t B.nd zx_dnewT)
    (zs_cons (zs_for loops_of B.calm (zi_val (zx_varT 2 0 t)) (pg_nameT (nd := B.nd) 5 5 t) tok_name (zs_cons (zs_dput 4 B (hk := (zx_tuple b.tuple (t.gl 8 rfl) (za_cons (zx_fz (zx_lcT (N := N__law_split) (hNN := rfl) (tab := [("sums", .«local»), ("any", .globalImplicit), ("lot", .«local»), ("i", .«local»), ("more", .«local»), ("one", .«local»), ("table", .«local»), ("zip", .globalImplicit), ("tuple", .globalImplicit), ("len", .globalImplicit)]) (tab2 := [("b", .«local»), ("a", .«local»)]) (own := [("a", 6), ("b", 7)]) (t := t) (B := B) (hb := by decide +kernel) (hi := (zi_zip (t.gl 7 rfl) b.zip (za_cons (zx_varT 5 5 t) (za_cons (zx_ix (zx_varT 0 6 t) (zx_varT 3 3 t)) za_nil)))) (tk := tok_two) (ht' := by decide) (hg := fun _ _ _ _ _ t1 => (pg_tup rfl (pgs_cons (pg_nameT (nd := B.blk.nd) 6 1 t1) (pgs_cons (pg_nameT (nd := B.blk.nd) 7 0 t1) pgs_nil)))) (ht := fun _ _ _ _ _ t1 => zt_yes) (he := fun _ _ _ _ _ t1 => (zx_add (zx_varT 6 1 t1) (zx_varT 7 0 t1))))) za_nil))) (he := zx_bool) (hN := rfl) (hv := t.vis 4 rfl rfl) (hd := t.d 4 rfl) (hcd := t.c 4 rfl))
    (zs_one (zs_dput 4 B (hk := (zx_tuple b.tuple (t.gl 8 rfl) (za_cons (zx_fz (zx_lcT (N := N__law_split) (hNN := rfl) (tab := [("sums", .«local»), ("any", .globalImplicit), ("lot", .«local»), ("i", .«local»), ("more", .«local»), ("one", .«local»), ("table", .«local»), ("zip", .globalImplicit), ("tuple", .globalImplicit), ("len", .globalImplicit)]) (tab2 := [("b", .«local»), ("a", .«local»)]) (own := [("a", 6), ("b", 7)]) (t := t) (B := B) (hb := by decide +kernel) (hi := (zi_zip (t.gl 7 rfl) b.zip (za_cons (zx_varT 5 5 t) (za_cons (zx_ix (zx_varT 0 6 t) (zx_varT 3 3 t)) za_nil)))) (tk := tok_two) (ht' := by decide) (hg := fun _ _ _ _ _ t1 => (pg_tup rfl (pgs_cons (pg_nameT (nd := B.blk.nd) 6 1 t1) (pgs_cons (pg_nameT (nd := B.blk.nd) 7 0 t1) pgs_nil)))) (ht := fun _ _ _ _ _ t1 => zt_yes) (he := fun _ _ _ _ _ t1 => (zx_sub (zx_varT 6 1 t1) (zx_varT 7 0 t1))))) za_nil))) (he := zx_bool) (hN := rfl) (hv := t.vis 4 rfl rfl) (hd := t.d 4 rfl) (hcd := t.c 4 rfl)))))
    (zs_one (zs_setT 2 0 t B.nd (zx_varT 4 4 t))))))
    (zs_one (zs_ret (zx_any B.calm b.any (t.gl 1 rfl) (za_cons (zx_fz (zx_lcT (N := N__law_split) (hNN := rfl) (tab := [("sums", .«local»), ("any", .globalImplicit), ("lot", .«local»), ("i", .«local»), ("more", .«local»), ("one", .«local»), ("table", .«local»), ("zip", .globalImplicit), ("tuple", .globalImplicit), ("len", .globalImplicit)]) (tab2 := [("one", .«local»), ("max", .globalImplicit), ("min", .globalImplicit)]) (own := [("one", 5)]) (t := t) (B := B) (hb := by decide +kernel) (hi := (zi_val (zx_varT 2 0 t))) (tk := tok_name) (ht' := by decide) (hg := fun _ _ _ _ _ t1 => (pg_nameT (nd := B.blk.nd) 5 0 t1)) (ht := fun _ _ _ _ _ t1 => zt_yes) (he := fun _ _ _ _ _ t1 => (zx_and (zx_le (zx_max B.blk b.max (t1.gl 1 rfl) (za_cons (zx_varT 5 0 t1) za_nil)) zx_int) (zx_one (zx_ge (zx_min B.blk b.min (t1.gl 2 rfl) (za_cons (zx_varT 5 0 t1) za_nil)) (zx_neg zx_int))))))) za_nil))))))
theorem ok__law_pivot (D : DefAt K mg "_law_pivot" (topS 36) ["table", "i", "j"]) : DefOk P w K mg base ca "_law_pivot" ["table", "i", "j"] m__law_pivot 1 :=
  def_okT (k := 0) (tab := [("found", .«local»), ("tuple", .globalImplicit), ("table", .cell), ("len", .globalImplicit), ("range", .globalImplicit), ("k", .cell), ("row", .«local»), ("j", .«local»), ("i", .cell), ("one", .cell), ("by", .cell)]) D sc__law_pivot (by decide) (by decide +kernel) fun f cd A outer s H E B t => (zs_cons (zs_parCT 3 4 9 0 t B.calm B.nd (zx_ix (zx_ix (zx_varT 0 2 t) (zx_varT 1 8 t)) (zx_varT 2 7 t)) (zx_lst za_nil))
    (zs_cons (zs_for loops_of B.calm (zi_range1 (t.gl 4 rfl) b.range (za_cons (zx_len (hm := b.len) (hg := (t.gl 3 rfl)) (za_cons (zx_varT 0 2 t) za_nil)) za_nil)) (pg_nameT (nd := B.nd) 5 5 t) tok_name (zs_cons (zs_setT 6 10 t B.nd (zx_mul (zx_varT 3 9 t) (zx_ix (zx_ix (zx_varT 0 2 t) (zx_varT 5 5 t)) (zx_varT 2 7 t))))
    (zs_cons (zs_setLcT 8 6 (hno := by decide +kernel) (N := N__law_pivot) (hNN := rfl) (tab := [("found", .«local»), ("tuple", .globalImplicit), ("table", .cell), ("len", .globalImplicit), ("range", .globalImplicit), ("k", .cell), ("row", .«local»), ("j", .«local»), ("i", .cell), ("one", .cell), ("by", .cell)]) (tab2 := [("n", .«local»), ("k", .free), ("table", .free), ("by", .free), ("i", .free)]) (own := [("n", 7)]) (t := t) (B := B) (hb := by decide +kernel) (hi := (zi_range1 (t.gl 4 rfl) b.range (za_cons (zx_len (hm := b.len) (hg := (t.gl 3 rfl)) (za_cons (zx_ix (zx_varT 0 2 t) zx_int) za_nil)) za_nil))) (tk := tok_name) (ht' := by decide) (hg := fun _ _ _ _ _ t1 => (pg_nameT (nd := B.blk.nd) 7 0 t1)) (ht := fun _ _ _ _ _ t1 => zt_yes) (he := fun _ _ _ _ _ t1 => (zx_sub (zx_ix (zx_ix (zx_varT 0 2 t1) (zx_varT 5 1 t1)) (zx_varT 7 0 t1)) (zx_mul (zx_varT 6 3 t1) (zx_ix (zx_ix (zx_varT 0 2 t1) (zx_varT 1 4 t1)) (zx_varT 7 0 t1))))))
    (zs_cons (zs_if (zt_eq B.u64 (zx_varT 5 5 t) (zx_varT 1 8 t)) (zs_one (zs_setLcT 8 6 (hno := by decide +kernel) (N := N__law_pivot) (hNN := rfl) (tab := [("found", .«local»), ("tuple", .globalImplicit), ("table", .cell), ("len", .globalImplicit), ("range", .globalImplicit), ("k", .cell), ("row", .«local»), ("j", .«local»), ("i", .cell), ("one", .cell), ("by", .cell)]) (tab2 := [("entry", .«local»), ("one", .free)]) (own := [("entry", 9)]) (t := t) (B := B) (hb := by decide +kernel) (hi := (zi_val (zx_ix (zx_varT 0 2 t) (zx_varT 1 8 t)))) (tk := tok_name) (ht' := by decide) (hg := fun _ _ _ _ _ t1 => (pg_nameT (nd := B.blk.nd) 9 0 t1)) (ht := fun _ _ _ _ _ t1 => zt_yes) (he := fun _ _ _ _ _ t1 => (zx_mul (zx_varT 3 1 t1) (zx_varT 9 0 t1))))) zs_nil)
    (zs_cons (zs_setAt 8 (hk := (zx_varT 2 7 t)) (he := (zx_if (zt_eq B.u64 (zx_varT 5 5 t) (zx_varT 1 8 t)) (zx_varT 3 9 t) (zx_neg (zx_varT 6 10 t)))) (hN := rfl) (hv := t.vis 6 rfl rfl) (hd := t.d 6 rfl) (hcd := t.c 6 rfl))
    (zs_one (zs_expr (zx_append 4 (he := (zx_tuple b.tuple (t.gl 1 rfl) (za_cons (zx_varT 8 6 t) za_nil))) (hN := rfl) (hv := t.vis 0 rfl rfl) (hd := t.d 0 rfl) (hcd := t.c 0 rfl)))))))))
    (zs_one (zs_ret (zx_tuple b.tuple (t.gl 1 rfl) (za_cons (zx_varT 4 0 t) za_nil))))))
theorem ok__law_places (D : DefAt K mg "_law_places" (topS 37) ["table"]) : DefOk P w K mg base ca "_law_places" ["table"] m__law_places 1 :=
  def_okT (k := 0) (tab := [("found", .«local»), ("table", .cell), ("len", .globalImplicit), ("range", .globalImplicit), ("i", .cell)]) D sc__law_places (by decide) (by decide +kernel) fun f cd A outer s H E B t => (zs_cons (zs_setT 1 0 t B.nd (zx_fz (zx_lst za_nil)))
    (zs_cons (zs_for loops_of B.calm (zi_range1 (t.gl 3 rfl) b.range (za_cons (zx_len (hm := b.len) (hg := (t.gl 2 rfl)) (za_cons (zx_varT 0 1 t) za_nil)) za_nil)) (pg_nameT (nd := B.nd) 2 4 t) tok_name (zs_one (zs_setT 1 0 t B.nd (zx_fz (zx_add (zx_varT 1 0 t) (zx_fz (zx_lcT (N := N__law_places) (hNN := rfl) (tab := [("found", .«local»), ("table", .cell), ("len", .globalImplicit), ("range", .globalImplicit), ("i", .cell)]) (tab2 := [("j", .«local»), ("i", .free), ("table", .free)]) (own := [("j", 3)]) (t := t) (B := B) (hb := by decide +kernel) (hi := (zi_range1 (t.gl 3 rfl) b.range (za_cons (zx_len (hm := b.len) (hg := (t.gl 2 rfl)) (za_cons (zx_ix (zx_varT 0 1 t) zx_int) za_nil)) za_nil))) (tk := tok_name) (ht' := by decide) (hg := fun _ _ _ _ _ t1 => (pg_nameT (nd := B.blk.nd) 3 0 t1)) (ht := fun _ _ _ _ _ t1 => (zt_one (zt_ne B.blk.u64 (zx_ix (zx_ix (zx_varT 0 2 t1) (zx_varT 2 1 t1)) (zx_varT 3 0 t1)) zx_int))) (he := fun _ _ _ _ _ t1 => (zx_tup (za_cons (zx_varT 2 1 t1) (za_cons (zx_varT 3 0 t1) za_nil)))))))))))
    (zs_one (zs_ret (zx_varT 1 0 t)))))
theorem ok__law_signed (D : DefAt K mg "_law_signed" (topS 38) ["pen", "table"]) (F__law_pick : DefOk P w K mg base ca "_law_pick" ["pen", "some"] m__law_pick 2) (F__law_shuffled : DefOk P w K mg base ca "_law_shuffled" ["pen", "some"] m__law_shuffled 2) : DefOk P w K mg base ca "_law_signed" ["pen", "table"] m__law_signed 3 :=
  def_okT (k := 2) (tab := [("rows", .«local»), ("one", .«local»), ("zip", .globalImplicit), ("columns", .cell), ("two", .cell), ("table", .cell), ("tuple", .globalImplicit), ("pen", .cell), ("tall", .«local»), ("list", .globalImplicit), ("range", .globalImplicit), ("_law_shuffled", .globalImplicit), ("wide", .«local»), ("len", .globalImplicit)]) D sc__law_signed (by decide) (by decide +kernel) fun f cd A outer s H E B t => (zs_cons (zs_parT 2 3 8 12 t B.calm B.nd (zx_len (hm := b.len) (hg := (t.gl 13 rfl)) (za_cons (zx_varT 1 5 t) za_nil)) (zx_len (hm := b.len) (hg := (t.gl 13 rfl)) (za_cons (zx_ix (zx_varT 1 5 t) zx_int) za_nil)))
    (zs_cons (zs_parCT 4 5 0 3 t B.calm B.nd (zx_defT 11 t B F__law_shuffled (by decide) (za_cons (zx_varT 0 7 t) (za_cons (zx_fz (zx_listRange B.calm b.list (t.gl 9 rfl) b.range (t.gl 10 rfl) (zx_varT 2 8 t))) za_nil)) (alen_cons (alen_cons alen_nil))) (zx_defT 11 t B F__law_shuffled (by decide) (za_cons (zx_varT 0 7 t) (za_cons (zx_fz (zx_listRange B.calm b.list (t.gl 9 rfl) b.range (t.gl 10 rfl) (zx_varT 3 12 t))) za_nil)) (alen_cons (alen_cons alen_nil))))
    (zs_cons (zs_parCT 8 9 1 4 t B.calm B.nd (zx_fz (zx_lcT (N := N__law_signed) (hNN := rfl) (tab := [("rows", .«local»), ("one", .«local»), ("zip", .globalImplicit), ("columns", .cell), ("two", .cell), ("table", .cell), ("tuple", .globalImplicit), ("pen", .cell), ("tall", .«local»), ("list", .globalImplicit), ("range", .globalImplicit), ("_law_shuffled", .globalImplicit), ("wide", .«local»), ("len", .globalImplicit)]) (tab2 := [("i", .«local»), ("pen", .free), ("_law_pick", .globalImplicit)]) (own := [("i", 6)]) (t := t) (B := B) (hb := by decide +kernel) (hi := (zi_val (zx_varT 4 0 t))) (tk := tok_name) (ht' := by decide) (hg := fun _ _ _ _ _ t1 => (pg_nameT (nd := B.blk.nd) 6 0 t1)) (ht := fun _ _ _ _ _ t1 => zt_yes) (he := fun _ _ _ _ _ t1 => (zx_defT 2 t1 B.blk F__law_pick (by decide) (za_cons (zx_varT 0 1 t1) (za_cons (zx_fz (zx_lst (za_cons zx_int (za_cons (zx_neg zx_int) za_nil)))) za_nil)) (alen_cons (alen_cons alen_nil)))))) (zx_fz (zx_lcT (N := N__law_signed) (hNN := rfl) (tab := [("rows", .«local»), ("one", .«local»), ("zip", .globalImplicit), ("columns", .cell), ("two", .cell), ("table", .cell), ("tuple", .globalImplicit), ("pen", .cell), ("tall", .«local»), ("list", .globalImplicit), ("range", .globalImplicit), ("_law_shuffled", .globalImplicit), ("wide", .«local»), ("len", .globalImplicit)]) (tab2 := [("j", .«local»), ("pen", .free), ("_law_pick", .globalImplicit)]) (own := [("j", 7)]) (t := t) (B := B) (hb := by decide +kernel) (hi := (zi_val (zx_varT 5 3 t))) (tk := tok_name) (ht' := by decide) (hg := fun _ _ _ _ _ t1 => (pg_nameT (nd := B.blk.nd) 7 0 t1)) (ht := fun _ _ _ _ _ t1 => zt_yes) (he := fun _ _ _ _ _ t1 => (zx_defT 2 t1 B.blk F__law_pick (by decide) (za_cons (zx_varT 0 1 t1) (za_cons (zx_fz (zx_lst (za_cons zx_int (za_cons (zx_neg zx_int) za_nil)))) za_nil)) (alen_cons (alen_cons alen_nil)))))))
    (zs_one (zs_ret (zx_tuple b.tuple (t.gl 6 rfl) (za_cons (zx_fz (zx_lcT (N := N__law_signed) (hNN := rfl) (tab := [("rows", .«local»), ("one", .«local»), ("zip", .globalImplicit), ("columns", .cell), ("two", .cell), ("table", .cell), ("tuple", .globalImplicit), ("pen", .cell), ("tall", .«local»), ("list", .globalImplicit), ("range", .globalImplicit), ("_law_shuffled", .globalImplicit), ("wide", .«local»), ("len", .globalImplicit)]) (tab2 := [("i", .cell), ("a", .cell), ("columns", .free), ("two", .free), ("zip", .globalImplicit), ("table", .free), ("tuple", .globalImplicit)]) (own := [("a", 10), ("i", 6)]) (t := t) (B := B) (hb := by decide +kernel) (hi := (zi_zip (t.gl 2 rfl) b.zip (za_cons (zx_varT 8 1 t) (za_cons (zx_varT 4 0 t) za_nil)))) (tk := tok_two) (ht' := by decide) (hg := fun _ _ _ _ _ t1 => (pg_tup rfl (pgs_cons (pg_nameT (nd := B.blk.nd) 10 1 t1) (pgs_cons (pg_nameT (nd := B.blk.nd) 6 0 t1) pgs_nil)))) (ht := fun _ _ _ _ _ t1 => zt_yes) (he := fun _ _ _ _ _ t1 => (zx_tuple b.tuple (t1.gl 6 rfl) (za_cons (zx_fz (zx_lcT (N := N__law_signed) (hNN := rfl) (tab := [("i", .cell), ("a", .cell), ("columns", .free), ("two", .free), ("zip", .globalImplicit), ("table", .free), ("tuple", .globalImplicit)]) (tab2 := [("j", .«local»), ("b", .«local»), ("a", .free), ("i", .free), ("table", .free)]) (own := [("b", 11), ("j", 7)]) (t := t1) (B := B.blk) (hb := by decide +kernel) (hi := (zi_zip (t1.gl 4 rfl) b.zip (za_cons (zx_varT 9 3 t1) (za_cons (zx_varT 5 2 t1) za_nil)))) (tk := tok_two) (ht' := by decide) (hg := fun _ _ _ _ _ t1' => (pg_tup rfl (pgs_cons (pg_nameT (nd := B.blk.blk.nd) 11 1 t1') (pgs_cons (pg_nameT (nd := B.blk.blk.nd) 7 0 t1') pgs_nil)))) (ht := fun _ _ _ _ _ t1' => zt_yes) (he := fun _ _ _ _ _ t1' => (zx_mul (zx_mul (zx_varT 10 2 t1') (zx_ix (zx_ix (zx_varT 1 4 t1') (zx_varT 6 3 t1')) (zx_varT 7 0 t1'))) (zx_varT 11 1 t1'))))) za_nil))))) za_nil)))))))
theorem ok__law_tree (D : DefAt K mg "_law_tree" (topS 39) ["pen", "many"]) (F__law_draw : DefOk P w K mg base ca "_law_draw" ["pen", "many"] m__law_draw 1) (F__law_pick : DefOk P w K mg base ca "_law_pick" ["pen", "some"] m__law_pick 2) : DefOk P w K mg base ca "_law_tree" ["pen", "many"] m__law_tree 3 :=
  def_okT (k := 2) (tab := [("ties", .«local»), ("many", .«local»), ("range", .globalImplicit), ("k", .«local»), ("pen", .«local»), ("_law_draw", .globalImplicit), ("old", .«local»), ("_law_pick", .globalImplicit)]) D sc__law_tree (by decide) (by decide +kernel) fun f cd A outer s H E B t => (zs_cons (zs_setT 2 0 t B.nd (zx_lst za_nil))
    (zs_cons (zs_for loops_of B.calm (zi_range1 (t.gl 2 rfl) b.range (za_cons (zx_varT 1 1 t) za_nil)) (pg_nameT (nd := B.nd) 3 3 t) tok_name (zs_cons (zs_setT 4 6 t B.nd (zx_defT 7 t B F__law_pick (by decide) (za_cons (zx_varT 0 4 t) (za_cons (zx_fz (zx_lst (za_cons (zx_varT 3 3 t) (za_cons (zx_varT 3 3 t) (za_cons zx_int (za_cons (zx_defT 5 t B F__law_draw (by decide) (za_cons (zx_varT 0 4 t) (za_cons (zx_add (zx_varT 3 3 t) zx_int) za_nil)) (alen_cons (alen_cons alen_nil))) za_nil)))))) za_nil)) (alen_cons (alen_cons alen_nil))))
    (zs_one (zs_expr (zx_append 2 (he := (zx_if (zt_eq B.u64 (zx_defT 5 t B F__law_draw (by decide) (za_cons (zx_varT 0 4 t) (za_cons zx_int za_nil)) (alen_cons (alen_cons alen_nil))) zx_int) (zx_tup (za_cons (zx_varT 4 6 t) (za_cons (zx_add (zx_varT 3 3 t) zx_int) za_nil))) (zx_tup (za_cons (zx_add (zx_varT 3 3 t) zx_int) (za_cons (zx_varT 4 6 t) za_nil))))) (hN := rfl) (hv := t.vis 0 rfl rfl) (hd := t.d 0 rfl) (hcd := t.c 0 rfl))))))
    (zs_one (zs_ret (zx_varT 2 0 t)))))
theorem ok__law_way (D : DefAt K mg "_law_way" (topS 40) ["ties", "one", "two"]) : DefOk P w K mg base ca "_law_way" ["ties", "one", "two"] m__law_way 1 :=
  def_okT (k := 0) (tab := [("two", .«local»), ("reached", .«local»), ("ties", .«local»), ("len", .globalImplicit), ("range", .globalImplicit), ("lap", .«local»), ("k", .«local»), ("sign", .«local»), ("far", .«local»), ("near", .«local»), ("row", .«local»), ("list", .globalImplicit), ("one", .«local»)]) D sc__law_way (by decide) (by decide +kernel) fun f cd A outer s H E B t => (zs_cons (zs_setT 3 1 t B.nd (zx_dispK (zx_varT 1 12 t) (zx_fz (zx_mul (zx_fz (zx_lst (za_cons zx_int za_nil))) (zx_len (hm := b.len) (hg := (t.gl 3 rfl)) (za_cons (zx_varT 0 2 t) za_nil))))))
    (zs_cons (zs_for loops_of B.calm (zi_range1 (t.gl 4 rfl) b.range (za_cons (zx_add (zx_len (hm := b.len) (hg := (t.gl 3 rfl)) (za_cons (zx_varT 0 2 t) za_nil)) zx_int) za_nil)) (pg_nameT (nd := B.nd) 4 5 t) tok_name (zs_one (zs_for loops_of B.calm (zi_range1 (t.gl 4 rfl) b.range (za_cons (zx_len (hm := b.len) (hg := (t.gl 3 rfl)) (za_cons (zx_varT 0 2 t) za_nil)) za_nil)) (pg_nameT (nd := B.nd) 5 6 t) tok_name (zs_one (zs_for loops_of B.calm (zi_val (zx_fz (zx_lst (za_cons (zx_tup (za_cons (zx_ix (zx_ix (zx_varT 0 2 t) (zx_varT 5 6 t)) zx_int) (za_cons (zx_ix (zx_ix (zx_varT 0 2 t) (zx_varT 5 6 t)) zx_int) (za_cons zx_int za_nil)))) (za_cons (zx_tup (za_cons (zx_ix (zx_ix (zx_varT 0 2 t) (zx_varT 5 6 t)) zx_int) (za_cons (zx_ix (zx_ix (zx_varT 0 2 t) (zx_varT 5 6 t)) zx_int) (za_cons (zx_neg zx_int) za_nil)))) za_nil))))) (pg_tup rfl (pgs_cons (pg_nameT (nd := B.nd) 6 9 t) (pgs_cons (pg_nameT (nd := B.nd) 7 8 t) (pgs_cons (pg_nameT (nd := B.nd) 8 7 t) pgs_nil)))) tok_three (zs_one (zs_if (zw_and (zt_din 3 B.u1 (zx_varT 6 9 t) (hN := rfl) (hv := t.vis 1 rfl rfl) (hd := t.d 1 rfl) (hcd := t.c 1 rfl)) (zw_and1 (zt_dnotin 3 B.u1 (zx_varT 7 8 t) (hN := rfl) (hv := t.vis 1 rfl rfl) (hd := t.d 1 rfl) (hcd := t.c 1 rfl)))).pt (zs_cons (zs_setT 9 10 t B.nd (zx_list b.list (t.gl 11 rfl) (za_cons (zx_dgO 3 B.u1 (zx_varT 6 9 t) (hN := rfl) (hv := t.vis 1 rfl rfl) (hd := t.d 1 rfl) (hcd := t.c 1 rfl)) za_nil)))
    (zs_cons (zs_setAt 9 (hk := (zx_varT 5 6 t)) (he := (zx_varT 8 7 t)) (hN := rfl) (hv := t.vis 10 rfl rfl) (hd := t.d 10 rfl) (hcd := t.c 10 rfl))
    (zs_one (zs_dput 3 B (hk := (zx_varT 7 8 t)) (he := (zx_varT 9 10 t)) (hN := rfl) (hv := t.vis 1 rfl rfl) (hd := t.d 1 rfl) (hcd := t.c 1 rfl))))) zs_nil)))))))
    (zs_one (zs_ret (zx_dgO 3 B.u1 (zx_varT 2 0 t) (hN := rfl) (hv := t.vis 1 rfl rfl) (hd := t.d 1 rfl) (hcd := t.c 1 rfl))))))
theorem ok__law_web (D : DefAt K mg "_law_web" (topS 41) ["pen", "tall", "wide"]) (F__law_draw : DefOk P w K mg base ca "_law_draw" ["pen", "many"] m__law_draw 1) (F__law_tree : DefOk P w K mg base ca "_law_tree" ["pen", "many"] m__law_tree 3) : DefOk P w K mg base ca "_law_web" ["pen", "tall", "wide"] m__law_web 4 :=
  def_okT (k := 3) (tab := [("wide", .«local»), ("range", .globalImplicit), ("tall", .cell), ("pen", .cell), ("ties", .«local»), ("_law_tree", .globalImplicit)]) D sc__law_web (by decide) (by decide +kernel) fun f cd A outer s H E B t => (zs_cons (zs_setT 3 4 t B.nd (zx_defT 5 t B F__law_tree (by decide) (za_cons (zx_varT 0 3 t) (za_cons (zx_varT 1 2 t) za_nil)) (alen_cons (alen_cons alen_nil))))
    (zs_one (zs_ret (zx_tup (za_cons (zx_varT 3 4 t) (za_cons (zx_fz (zx_lcT (N := N__law_web) (hNN := rfl) (tab := [("wide", .«local»), ("range", .globalImplicit), ("tall", .cell), ("pen", .cell), ("ties", .«local»), ("_law_tree", .globalImplicit)]) (tab2 := [("j", .«local»), ("tall", .free), ("pen", .free), ("_law_draw", .globalImplicit)]) (own := [("j", 4)]) (t := t) (B := B) (hb := by decide +kernel) (hi := (zi_range1 (t.gl 1 rfl) b.range (za_cons (zx_varT 2 0 t) za_nil))) (tk := tok_name) (ht' := by decide) (hg := fun _ _ _ _ _ t1 => (pg_nameT (nd := B.blk.nd) 4 0 t1)) (ht := fun _ _ _ _ _ t1 => zt_yes) (he := fun _ _ _ _ _ t1 => (zx_tup (za_cons (zx_defT 3 t1 B.blk F__law_draw (by decide) (za_cons (zx_varT 0 2 t1) (za_cons (zx_add (zx_varT 1 1 t1) zx_int) za_nil)) (alen_cons (alen_cons alen_nil))) (za_cons (zx_defT 3 t1 B.blk F__law_draw (by decide) (za_cons (zx_varT 0 2 t1) (za_cons (zx_add (zx_varT 1 1 t1) zx_int) za_nil)) (alen_cons (alen_cons alen_nil))) za_nil)))))) za_nil))))))
theorem ok__law_web_table (D : DefAt K mg "_law_web_table" (topS 42) ["ties", "others"]) (F__law_turned : DefOk P w K mg base ca "_law_turned" ["table"] m__law_turned 1) (F__law_way : DefOk P w K mg base ca "_law_way" ["ties", "one", "two"] m__law_way 1) : DefOk P w K mg base ca "_law_web_table" ["ties", "others"] m__law_web_table 2 :=
  def_okT (k := 1) (tab := [("others", .«local»), ("ties", .cell), ("_law_turned", .globalImplicit)]) D sc__law_web_table (by decide) (by decide +kernel) fun f cd A outer s H E B t => (zs_one (zs_ret (zx_defT 2 t B F__law_turned (by decide) (za_cons (zx_fz (zx_lcT (N := N__law_web_table) (hNN := rfl) (tab := [("others", .«local»), ("ties", .cell), ("_law_turned", .globalImplicit)]) (tab2 := [("b", .«local»), ("a", .«local»), ("ties", .free), ("_law_way", .globalImplicit)]) (own := [("a", 2), ("b", 3)]) (t := t) (B := B) (hb := by decide +kernel) (hi := (zi_val (zx_varT 1 0 t))) (tk := tok_two) (ht' := by decide) (hg := fun _ _ _ _ _ t1 => (pg_tup rfl (pgs_cons (pg_nameT (nd := B.blk.nd) 2 1 t1) (pgs_cons (pg_nameT (nd := B.blk.nd) 3 0 t1) pgs_nil)))) (ht := fun _ _ _ _ _ t1 => zt_yes) (he := fun _ _ _ _ _ t1 => (zx_defT 3 t1 B.blk F__law_way (by decide) (za_cons (zx_varT 0 2 t1) (za_cons (zx_varT 2 1 t1) (za_cons (zx_varT 3 0 t1) za_nil))) (alen_cons (alen_cons (alen_cons alen_nil))))))) za_nil) (alen_cons alen_nil))))
theorem ok__law_five (D : DefAt K mg "_law_five" (topS 43) []) : DefOk P w K mg base ca "_law_five" [] m__law_five 1 :=
  def_okT (k := 0) (tab := []) D sc__law_five (by decide) (by decide +kernel) fun f cd A outer s H E B t => (zs_one (zs_ret (zx_tup (za_cons (zx_tup (za_cons zx_int (za_cons (zx_neg zx_int) (za_cons zx_int (za_cons zx_int (za_cons (zx_neg zx_int) za_nil)))))) (za_cons (zx_tup (za_cons (zx_neg zx_int) (za_cons zx_int (za_cons (zx_neg zx_int) (za_cons zx_int (za_cons zx_int za_nil)))))) (za_cons (zx_tup (za_cons zx_int (za_cons (zx_neg zx_int) (za_cons zx_int (za_cons (zx_neg zx_int) (za_cons zx_int za_nil)))))) (za_cons (zx_tup (za_cons zx_int (za_cons zx_int (za_cons (zx_neg zx_int) (za_cons zx_int (za_cons (zx_neg zx_int) za_nil)))))) (za_cons (zx_tup (za_cons (zx_neg zx_int) (za_cons zx_int (za_cons zx_int (za_cons (zx_neg zx_int) (za_cons zx_int za_nil)))))) za_nil))))))))
theorem ok__law_joined (D : DefAt K mg "_law_joined" (topS 44) ["pen", "one", "two"]) (F__law_draw : DefOk P w K mg base ca "_law_draw" ["pen", "many"] m__law_draw 1) : DefOk P w K mg base ca "_law_joined" ["pen", "one", "two"] m__law_joined 2 :=
  def_okT (k := 1) (tab := [("rows", .«local»), ("two", .«local»), ("one", .cell), ("tuple", .globalImplicit), ("a", .«local»), ("zip", .globalImplicit), ("b", .cell), ("pen", .«local»), ("_law_draw", .globalImplicit), ("j", .cell), ("i", .«local»), ("list", .globalImplicit), ("len", .globalImplicit)]) D sc__law_joined (by decide) (by decide +kernel) fun f cd A outer s H E B t => (zs_cons (zs_parCT 3 4 4 6 t B.calm B.nd (zx_fz (zx_mul (zx_fz (zx_lst (za_cons zx_int za_nil))) (zx_len (hm := b.len) (hg := (t.gl 12 rfl)) (za_cons (zx_varT 1 2 t) za_nil)))) (zx_fz (zx_mul (zx_fz (zx_lst (za_cons zx_int za_nil))) (zx_len (hm := b.len) (hg := (t.gl 12 rfl)) (za_cons (zx_ix (zx_varT 2 1 t) zx_int) za_nil)))))
    (zs_cons (zs_if (zt_gt (zx_defT 8 t B F__law_draw (by decide) (za_cons (zx_varT 0 7 t) (za_cons zx_int za_nil)) (alen_cons (alen_cons alen_nil))) zx_int) (zs_cons (zs_parCT 5 6 9 10 t B.calm B.nd (zx_defT 8 t B F__law_draw (by decide) (za_cons (zx_varT 0 7 t) (za_cons (zx_len (hm := b.len) (hg := (t.gl 12 rfl)) (za_cons (zx_ix (zx_varT 1 2 t) zx_int) za_nil)) za_nil)) (alen_cons (alen_cons alen_nil))) (zx_defT 8 t B F__law_draw (by decide) (za_cons (zx_varT 0 7 t) (za_cons (zx_len (hm := b.len) (hg := (t.gl 12 rfl)) (za_cons (zx_varT 2 1 t) za_nil)) za_nil)) (alen_cons (alen_cons alen_nil))))
    (zs_one (zs_parCT 3 4 4 6 t B.calm B.nd (zx_fz (zx_lcT (N := N__law_joined) (hNN := rfl) (tab := [("rows", .«local»), ("two", .«local»), ("one", .cell), ("tuple", .globalImplicit), ("a", .«local»), ("zip", .globalImplicit), ("b", .cell), ("pen", .«local»), ("_law_draw", .globalImplicit), ("j", .cell), ("i", .«local»), ("list", .globalImplicit), ("len", .globalImplicit)]) (tab2 := [("row", .«local»), ("j", .free)]) (own := [("row", 7)]) (t := t) (B := B) (hb := by decide +kernel) (hi := (zi_val (zx_varT 1 2 t))) (tk := tok_name) (ht' := by decide) (hg := fun _ _ _ _ _ t1 => (pg_nameT (nd := B.blk.nd) 7 0 t1)) (ht := fun _ _ _ _ _ t1 => zt_yes) (he := fun _ _ _ _ _ t1 => (zx_ix (zx_varT 7 0 t1) (zx_varT 5 1 t1))))) (zx_fz (zx_list b.list (t.gl 11 rfl) (za_cons (zx_ix (zx_varT 2 1 t) (zx_varT 6 10 t)) za_nil)))))) zs_nil)
    (zs_cons (zs_after (is := [10]) (zs_setLcT 10 0 (hno := by decide +kernel) (N := N__law_joined) (hNN := rfl) (tab := [("rows", .«local»), ("two", .«local»), ("one", .cell), ("tuple", .globalImplicit), ("a", .«local»), ("zip", .globalImplicit), ("b", .cell), ("pen", .«local»), ("_law_draw", .globalImplicit), ("j", .cell), ("i", .«local»), ("list", .globalImplicit), ("len", .globalImplicit)]) (tab2 := [("entry", .cell), ("row", .«local»), ("tuple", .globalImplicit), ("b", .free)]) (own := [("row", 7), ("entry", 8)]) (t := t) (B := B) (hb := by decide +kernel) (hi := (zi_zip (t.gl 5 rfl) b.zip (za_cons (zx_varT 1 2 t) (za_cons (zx_varT 3 4 t) za_nil)))) (tk := tok_two) (ht' := by decide) (hg := fun _ _ _ _ _ t1 => (pg_tup rfl (pgs_cons (pg_nameT (nd := B.blk.nd) 7 1 t1) (pgs_cons (pg_nameT (nd := B.blk.nd) 8 0 t1) pgs_nil)))) (ht := fun _ _ _ _ _ t1 => zt_yes) (he := fun _ _ _ _ _ t1 => (zx_add (zx_tuple b.tuple (t1.gl 2 rfl) (za_cons (zx_varT 7 1 t1) za_nil)) (zx_tuple b.tuple (t1.gl 2 rfl) (za_cons (zx_fz (zx_lcT (N := N__law_joined) (hNN := rfl) (tab := [("entry", .cell), ("row", .«local»), ("tuple", .globalImplicit), ("b", .free)]) (tab2 := [("other", .«local»), ("entry", .free)]) (own := [("other", 9)]) (t := t1) (B := B.blk) (hb := by decide +kernel) (hi := (zi_val (zx_varT 4 3 t1))) (tk := tok_name) (ht' := by decide) (hg := fun _ _ _ _ _ t1' => (pg_nameT (nd := B.blk.blk.nd) 9 0 t1')) (ht := fun _ _ _ _ _ t1' => zt_yes) (he := fun _ _ _ _ _ t1' => (zx_mul (zx_varT 8 1 t1') (zx_varT 9 0 t1'))))) za_nil))))))
    (zs_one (zs_ret (zx_tuple b.tuple (t.gl 3 rfl) (za_cons (zx_fz (zx_add (zx_varT 10 0 t) (zx_fz (zx_lcT (N := N__law_joined) (hNN := rfl) (tab := [("rows", .«local»), ("two", .«local»), ("one", .cell), ("tuple", .globalImplicit), ("a", .«local»), ("zip", .globalImplicit), ("b", .cell), ("pen", .«local»), ("_law_draw", .globalImplicit), ("j", .cell), ("i", .«local»), ("list", .globalImplicit), ("len", .globalImplicit)]) (tab2 := [("row", .«local»), ("one", .free), ("len", .globalImplicit), ("tuple", .globalImplicit)]) (own := [("row", 7)]) (t := t) (B := B) (hb := by decide +kernel) (hi := (zi_val (zx_varT 2 1 t))) (tk := tok_name) (ht' := by decide) (hg := fun _ _ _ _ _ t1 => (pg_nameT (nd := B.blk.nd) 7 0 t1)) (ht := fun _ _ _ _ _ t1 => zt_yes) (he := fun _ _ _ _ _ t1 => (zx_add (zx_mul (zx_tup (za_cons zx_int za_nil)) (zx_len (hm := b.len) (hg := (t1.gl 2 rfl)) (za_cons (zx_ix (zx_varT 1 1 t1) zx_int) za_nil))) (zx_tuple b.tuple (t1.gl 3 rfl) (za_cons (zx_varT 7 0 t1) za_nil)))))))) za_nil)))))))
theorem ok__law_whole_table (D : DefAt K mg "_law_whole_table" (topS 45) ["pen", "tall", "wide"]) (F__law_signed : DefOk P w K mg base ca "_law_signed" ["pen", "table"] m__law_signed 3) (F__law_draw : DefOk P w K mg base ca "_law_draw" ["pen", "many"] m__law_draw 1) (F__law_pivot : DefOk P w K mg base ca "_law_pivot" ["table", "i", "j"] m__law_pivot 1) (F__law_pick : DefOk P w K mg base ca "_law_pick" ["pen", "some"] m__law_pick 2) (F__law_places : DefOk P w K mg base ca "_law_places" ["table"] m__law_places 1) (F__law_five : DefOk P w K mg base ca "_law_five" [] m__law_five 1) (F__law_joined : DefOk P w K mg base ca "_law_joined" ["pen", "one", "two"] m__law_joined 2) (F__law_dual : DefOk P w K mg base ca "_law_dual" ["table"] m__law_dual 2) (F__law_web_table : DefOk P w K mg base ca "_law_web_table" ["ties", "others"] m__law_web_table 2) (F__law_web : DefOk P w K mg base ca "_law_web" ["pen", "tall", "wide"] m__law_web 4) : DefOk P w K mg base ca "_law_whole_table" ["pen", "tall", "wide"] m__law_whole_table 5 :=
  def_okT (k := 4) (tab := [("made", .«local»), ("pen", .«local»), ("_law_signed", .globalImplicit), ("_law_draw", .globalImplicit), ("range", .globalImplicit), ("lap", .«local»), ("j", .«local»), ("i", .«local»), ("_law_pivot", .globalImplicit), ("places", .«local»), ("_law_pick", .globalImplicit), ("_law_places", .globalImplicit), ("way", .«local»), ("tall", .«local»), ("wide", .«local»), ("_law_five", .globalImplicit), ("two", .«local»), ("_law_web_table", .globalImplicit), ("_law_dual", .globalImplicit), ("one", .«local»), ("_law_joined", .globalImplicit), ("_law_web", .globalImplicit), ("web", .«local»)]) D sc__law_whole_table (by decide) (by decide +kernel) fun f cd A outer s H E B t => (zs_cons (zs_setT 3 12 t B.nd (zx_defT 3 t B F__law_draw (by decide) (za_cons (zx_varT 0 1 t) (za_cons zx_int za_nil)) (alen_cons (alen_cons alen_nil))))
    (zs_cons (zs_if (zw_and (zt_eq B.u64 (zx_varT 3 12 t) zx_int) (zw_and (zt_ge (zx_varT 1 13 t) zx_int) (zw_and1 (zt_ge (zx_varT 2 14 t) zx_int)))).pt (zs_one (zs_setT 4 0 t B.nd (zx_def0T 15 t B F__law_five (by decide)))) (zs_one (zs_if (zw_and (zt_in B.u65 (zx_varT 3 12 t) (zx_tup (za_cons zx_int (za_cons zx_int za_nil)))) (zw_and (zt_ge (zx_varT 1 13 t) zx_int) (zw_and1 (zt_ge (zx_varT 2 14 t) zx_int)))).pt (zs_cons (zs_parT 5 6 7 6 t B.calm B.nd (zx_add zx_int (zx_defT 3 t B F__law_draw (by decide) (za_cons (zx_varT 0 1 t) (za_cons (zx_sub (zx_varT 1 13 t) zx_int) za_nil)) (alen_cons (alen_cons alen_nil)))) (zx_add zx_int (zx_defT 3 t B F__law_draw (by decide) (za_cons (zx_varT 0 1 t) (za_cons (zx_sub (zx_varT 2 14 t) zx_int) za_nil)) (alen_cons (alen_cons alen_nil)))))
    (zs_cons (zs_parT 7 8 19 16 t B.calm B.nd (zx_defT 21 t B F__law_web (by decide) (za_cons (zx_varT 0 1 t) (za_cons (zx_varT 5 7 t) (za_cons (zx_varT 6 6 t) za_nil))) (alen_cons (alen_cons (alen_cons alen_nil)))) (zx_defT 21 t B F__law_web (by decide) (za_cons (zx_varT 0 1 t) (za_cons (zx_sub (zx_varT 2 14 t) (zx_varT 6 6 t)) (za_cons (zx_sub (zx_varT 1 13 t) (zx_varT 5 7 t)) za_nil))) (alen_cons (alen_cons (alen_cons alen_nil)))))
    (zs_one (zs_setT 4 0 t B.nd (zx_defT 20 t B F__law_joined (by decide) (za_cons (zx_varT 0 1 t) (za_cons (zx_defT 17 t B F__law_web_table (by decide) (za_cons (zx_ix (zx_varT 7 19 t) zx_int) (za_cons (zx_ix (zx_varT 7 19 t) zx_int) za_nil)) (alen_cons (alen_cons alen_nil))) (za_cons (zx_defT 18 t B F__law_dual (by decide) (za_cons (zx_defT 17 t B F__law_web_table (by decide) (za_cons (zx_ix (zx_varT 8 16 t) zx_int) (za_cons (zx_ix (zx_varT 8 16 t) zx_int) za_nil)) (alen_cons (alen_cons alen_nil))) za_nil) (alen_cons alen_nil)) za_nil))) (alen_cons (alen_cons (alen_cons alen_nil)))))))) (zs_one (zs_if (zt_in B.u65 (zx_varT 3 12 t) (zx_tup (za_cons zx_int (za_cons zx_int za_nil)))) (zs_cons (zs_setT 9 22 t B.nd (zx_defT 21 t B F__law_web (by decide) (za_cons (zx_varT 0 1 t) (za_cons (zx_varT 2 14 t) (za_cons (zx_varT 1 13 t) za_nil))) (alen_cons (alen_cons (alen_cons alen_nil)))))
    (zs_one (zs_setT 4 0 t B.nd (zx_defT 18 t B F__law_dual (by decide) (za_cons (zx_defT 17 t B F__law_web_table (by decide) (za_cons (zx_ix (zx_varT 9 22 t) zx_int) (za_cons (zx_ix (zx_varT 9 22 t) zx_int) za_nil)) (alen_cons (alen_cons alen_nil))) za_nil) (alen_cons alen_nil))))) (zs_cons (zs_setT 9 22 t B.nd (zx_defT 21 t B F__law_web (by decide) (za_cons (zx_varT 0 1 t) (za_cons (zx_varT 1 13 t) (za_cons (zx_varT 2 14 t) za_nil))) (alen_cons (alen_cons (alen_cons alen_nil)))))
    (zs_one (zs_setT 4 0 t B.nd (zx_defT 17 t B F__law_web_table (by decide) (za_cons (zx_ix (zx_varT 9 22 t) zx_int) (za_cons (zx_ix (zx_varT 9 22 t) zx_int) za_nil)) (alen_cons (alen_cons alen_nil)))))))))))
    (zs_cons (zs_for loops_of B.calm (zi_range1 (t.gl 4 rfl) b.range (za_cons (zx_defT 3 t B F__law_draw (by decide) (za_cons (zx_varT 0 1 t) (za_cons zx_int za_nil)) (alen_cons (alen_cons alen_nil))) za_nil)) (pg_nameT (nd := B.nd) 10 5 t) tok_name (zs_cons (zs_setT 11 9 t B.nd (zx_defT 11 t B F__law_places (by decide) (za_cons (zx_varT 4 0 t) za_nil) (alen_cons alen_nil)))
    (zs_cons (zs_if (zt_eq B.u64 (zx_varT 11 9 t) (zx_fz (zx_lst za_nil))) (zs_one zs_break) zs_nil)
    (zs_cons (zs_bind (zx_defT 10 t B F__law_pick (by decide) (za_cons (zx_varT 0 1 t) (za_cons (zx_varT 11 9 t) za_nil)) (alen_cons (alen_cons alen_nil))) (pg_tup rfl (pgs_cons (pg_nameT (nd := B.nd) 5 7 t) (pgs_cons (pg_nameT (nd := B.nd) 6 6 t) pgs_nil))) tok_two)
    (zs_one (zs_setT 4 0 t B.nd (zx_defT 8 t B F__law_pivot (by decide) (za_cons (zx_varT 4 0 t) (za_cons (zx_varT 5 7 t) (za_cons (zx_varT 6 6 t) za_nil))) (alen_cons (alen_cons (alen_cons alen_nil))))))))))
    (zs_one (zs_ret (zx_defT 2 t B F__law_signed (by decide) (za_cons (zx_varT 0 1 t) (za_cons (zx_varT 4 0 t) za_nil)) (alen_cons (alen_cons alen_nil))))))))
theorem ok__law_bent (D : DefAt K mg "_law_bent" (topS 46) ["pen", "table"]) (F__law_pick : DefOk P w K mg base ca "_law_pick" ["pen", "some"] m__law_pick 2) (F__law_draw : DefOk P w K mg base ca "_law_draw" ["pen", "many"] m__law_draw 1) : DefOk P w K mg base ca "_law_bent" ["pen", "table"] m__law_bent 3 :=
  def_okT (k := 2) (tab := [("table", .cell), ("i", .cell), ("j", .cell), ("entry", .«local»), ("pen", .«local»), ("_law_pick", .globalImplicit), ("len", .globalImplicit), ("_law_draw", .globalImplicit)]) D sc__law_bent (by decide) (by decide +kernel) fun f cd A outer s H E B t => (zs_cons (zs_parCT 2 3 1 2 t B.calm B.nd (zx_defT 7 t B F__law_draw (by decide) (za_cons (zx_varT 0 4 t) (za_cons (zx_len (hm := b.len) (hg := (t.gl 6 rfl)) (za_cons (zx_varT 1 0 t) za_nil)) za_nil)) (alen_cons (alen_cons alen_nil))) (zx_defT 7 t B F__law_draw (by decide) (za_cons (zx_varT 0 4 t) (za_cons (zx_len (hm := b.len) (hg := (t.gl 6 rfl)) (za_cons (zx_ix (zx_varT 1 0 t) zx_int) za_nil)) za_nil)) (alen_cons (alen_cons alen_nil))))
    (zs_cons (zs_setT 5 3 t B.nd (zx_defT 5 t B F__law_pick (by decide) (za_cons (zx_varT 0 4 t) (za_cons (zx_fz (zx_lcT (N := N__law_bent) (hNN := rfl) (tab := [("table", .cell), ("i", .cell), ("j", .cell), ("entry", .«local»), ("pen", .«local»), ("_law_pick", .globalImplicit), ("len", .globalImplicit), ("_law_draw", .globalImplicit)]) (tab2 := [("one", .«local»), ("j", .free), ("i", .free), ("table", .free)]) (own := [("one", 4)]) (t := t) (B := B) (hb := by decide +kernel) (hi := (zi_val (zx_tup (za_cons (zx_neg zx_int) (za_cons zx_int (za_cons zx_int za_nil)))))) (tk := tok_name) (ht' := by decide) (hg := fun _ _ _ _ _ t1 => (pg_nameT (nd := B.blk.nd) 4 0 t1)) (ht := fun _ _ _ _ _ t1 => (zt_one (zt_ne B.blk.u64 (zx_varT 4 0 t1) (zx_ix (zx_ix (zx_varT 1 3 t1) (zx_varT 2 2 t1)) (zx_varT 3 1 t1))))) (he := fun _ _ _ _ _ t1 => (zx_varT 4 0 t1)))) za_nil)) (alen_cons (alen_cons alen_nil))))
    (zs_one (zs_ret (zx_add (zx_add (zx_fz (zx_sl (zx_varT 1 0 t) .no (.yes (zx_varT 2 1 t)))) (zx_tup (za_cons (zx_add (zx_add (zx_fz (zx_sl (zx_ix (zx_varT 1 0 t) (zx_varT 2 1 t)) .no (.yes (zx_varT 3 2 t)))) (zx_tup (za_cons (zx_varT 5 3 t) za_nil))) (zx_fz (zx_sl (zx_ix (zx_varT 1 0 t) (zx_varT 2 1 t)) (.yes (zx_add (zx_varT 3 2 t) zx_int)) .no))) za_nil))) (zx_fz (zx_sl (zx_varT 1 0 t) (.yes (zx_add (zx_varT 2 1 t) zx_int)) .no)))))))
theorem ok__law_rings (D : DefAt K mg "_law_rings" (topS 48) ["pen"]) (F__law_signed : DefOk P w K mg base ca "_law_signed" ["pen", "table"] m__law_signed 3) (F__law_draw : DefOk P w K mg base ca "_law_draw" ["pen", "many"] m__law_draw 1) (F__law_pick : DefOk P w K mg base ca "_law_pick" ["pen", "some"] m__law_pick 2) : DefOk P w K mg base ca "_law_rings" ["pen"] m__law_rings 4 :=
  def_okT (k := 3) (tab := [("rows", .«local»), ("tuple", .globalImplicit), ("pen", .«local»), ("_law_signed", .globalImplicit), ("_law_draw", .globalImplicit), ("range", .globalImplicit), ("lap", .«local»), ("wide", .«local»), ("size", .cell), ("i", .«local»), ("row", .«local»), ("int", .globalImplicit), ("_law_pick", .globalImplicit)]) D sc__law_rings (by decide) (by decide +kernel) fun f cd A outer s H E B t => (zs_cons (zs_parT 1 2 0 7 t B.calm B.nd (zx_lst za_nil) zx_int)
    (zs_cons (zs_for loops_of B.calm (zi_range1 (t.gl 5 rfl) b.range (za_cons (zx_add zx_int (zx_defT 4 t B F__law_draw (by decide) (za_cons (zx_varT 0 2 t) (za_cons zx_int za_nil)) (alen_cons (alen_cons alen_nil)))) za_nil)) (pg_nameT (nd := B.nd) 3 6 t) tok_name (zs_cons (zs_setT 4 8 t B.nd (zx_add zx_int (zx_defT 4 t B F__law_draw (by decide) (za_cons (zx_varT 0 2 t) (za_cons zx_int za_nil)) (alen_cons (alen_cons alen_nil)))))
    (zs_cons (zs_setLcT 1 0 (hno := by decide +kernel) (N := N__law_rings) (hNN := rfl) (tab := [("rows", .«local»), ("tuple", .globalImplicit), ("pen", .«local»), ("_law_signed", .globalImplicit), ("_law_draw", .globalImplicit), ("range", .globalImplicit), ("lap", .«local»), ("wide", .«local»), ("size", .cell), ("i", .«local»), ("row", .«local»), ("int", .globalImplicit), ("_law_pick", .globalImplicit)]) (tab2 := [("row", .«local»), ("size", .free)]) (own := [("row", 5)]) (t := t) (B := B) (hb := by decide +kernel) (hi := (zi_ownT 1 0 t)) (tk := tok_name) (ht' := by decide) (hg := fun _ _ _ _ _ t1 => (pg_nameT (nd := B.blk.nd) 5 0 t1)) (ht := fun _ _ _ _ _ t1 => zt_yes) (he := fun _ _ _ _ _ t1 => (zx_add (zx_varT 5 0 t1) (zx_mul (zx_tup (za_cons zx_int za_nil)) (zx_varT 4 1 t1)))))
    (zs_cons (zs_for loops_of B.calm (zi_range1 (t.gl 5 rfl) b.range (za_cons (zx_varT 4 8 t) za_nil)) (pg_nameT (nd := B.nd) 6 9 t) tok_name (zs_cons (zs_setT 5 10 t B.nd (zx_mul (zx_fz (zx_lst (za_cons zx_int za_nil))) (zx_add (zx_varT 2 7 t) (zx_varT 4 8 t))))
    (zs_cons (zs_setAt 5 (hk := (zx_add (zx_varT 2 7 t) (zx_varT 6 9 t))) (he := zx_int) (hN := rfl) (hv := t.vis 10 rfl rfl) (hd := t.d 10 rfl) (hcd := t.c 10 rfl))
    (zs_cons (zs_setAt 5 (hk := (zx_add (zx_varT 2 7 t) (zx_mod (zx_int1 b.int (t.gl 11 rfl) (za_cons (zx_add (zx_varT 6 9 t) zx_int) za_nil)) (zx_varT 4 8 t)))) (he := (zx_defT 12 t B F__law_pick (by decide) (za_cons (zx_varT 0 2 t) (za_cons (zx_fz (zx_lst (za_cons zx_int (za_cons (zx_neg zx_int) za_nil)))) za_nil)) (alen_cons (alen_cons alen_nil)))) (hN := rfl) (hv := t.vis 10 rfl rfl) (hd := t.d 10 rfl) (hcd := t.c 10 rfl))
    (zs_one (zs_expr (zx_append 1 (he := (zx_tuple b.tuple (t.gl 1 rfl) (za_cons (zx_varT 5 10 t) za_nil))) (hN := rfl) (hv := t.vis 0 rfl rfl) (hd := t.d 0 rfl) (hcd := t.c 0 rfl))))))))
    (zs_one (zs_setT 2 7 t B.nd (zx_add (zx_varT 2 7 t) (zx_varT 4 8 t))))))))
    (zs_one (zs_ret (zx_defT 3 t B F__law_signed (by decide) (za_cons (zx_varT 0 2 t) (za_cons (zx_tuple b.tuple (t.gl 1 rfl) (za_cons (zx_varT 1 0 t) za_nil)) za_nil)) (alen_cons (alen_cons alen_nil)))))))
theorem ok__law_is_part (D : DefAt K mg "_law_is_part" (topS 49) ["one", "other"]) : DefOk P w K mg base ca "_law_is_part" ["one", "other"] m__law_is_part 1 :=
  def_okT (k := 0) (tab := [("one", .«local»), ("other", .cell), ("all", .globalImplicit)]) D sc__law_is_part (by decide) (by decide +kernel) fun f cd A outer s H E B t => (zs_one (zs_ret (zx_all B.calm b.all (t.gl 2 rfl) (za_cons (zx_fz (zx_lcT (N := N__law_is_part) (hNN := rfl) (tab := [("one", .«local»), ("other", .cell), ("all", .globalImplicit)]) (tab2 := [("k", .«local»), ("other", .free)]) (own := [("k", 2)]) (t := t) (B := B) (hb := by decide +kernel) (hi := (zi_val (zx_varT 0 0 t))) (tk := tok_name) (ht' := by decide) (hg := fun _ _ _ _ _ t1 => (pg_nameT (nd := B.blk.nd) 2 0 t1)) (ht := fun _ _ _ _ _ t1 => zt_yes) (he := fun _ _ _ _ _ t1 => (zx_in B.blk.u65 (zx_varT 2 0 t1) (zx_varT 1 1 t1))))) za_nil))))
theorem ok__law_least (D : DefAt K mg "_law_least" (topS 50) ["some"]) (F__law_is_part : DefOk P w K mg base ca "_law_is_part" ["one", "other"] m__law_is_part 1) : DefOk P w K mg base ca "_law_least" ["some"] m__law_least 2 :=
  def_okT (k := 1) (tab := [("some", .cell)]) D sc__law_least (by decide) (by decide +kernel) fun f cd A outer s H E B t => (zs_one (zs_ret (zx_fz (zx_lcT (N := N__law_least) (hNN := rfl) (tab := [("some", .cell)]) (tab2 := [("one", .cell), ("some", .free), ("any", .globalImplicit)]) (own := [("one", 1)]) (t := t) (B := B) (hb := by decide +kernel) (hi := (zi_val (zx_varT 0 0 t))) (tk := tok_name) (ht' := by decide) (hg := fun _ _ _ _ _ t1 => (pg_nameT (nd := B.blk.nd) 1 0 t1)) (ht := fun _ _ _ _ _ t1 => (zt_one (zt_not (zt_val (zx_any B.blk.calm b.any (t1.gl 2 rfl) (za_cons (zx_fz (zx_lcT (N := N__law_least) (hNN := rfl) (tab := [("one", .cell), ("some", .free), ("any", .globalImplicit)]) (tab2 := [("other", .«local»), ("one", .free), ("_law_is_part", .globalImplicit)]) (own := [("other", 2)]) (t := t1) (B := B.blk) (hb := by decide +kernel) (hi := (zi_val (zx_varT 0 1 t1))) (tk := tok_name) (ht' := by decide) (hg := fun _ _ _ _ _ t1' => (pg_nameT (nd := B.blk.blk.nd) 2 0 t1')) (ht := fun _ _ _ _ _ t1' => zt_yes) (he := fun _ _ _ _ _ t1' => (zx_and (zx_ne B.blk.blk.u64 (zx_varT 2 0 t1') (zx_varT 1 1 t1')) (zx_one (zx_defT 2 t1' B.blk.blk F__law_is_part (by decide) (za_cons (zx_varT 2 0 t1') (za_cons (zx_varT 1 1 t1') za_nil)) (alen_cons (alen_cons alen_nil)))))))) za_nil)))))) (he := fun _ _ _ _ _ t1 => (zx_varT 1 0 t1))))))
theorem ok__law_greatest (D : DefAt K mg "_law_greatest" (topS 51) ["some"]) (F__law_is_part : DefOk P w K mg base ca "_law_is_part" ["one", "other"] m__law_is_part 1) : DefOk P w K mg base ca "_law_greatest" ["some"] m__law_greatest 2 :=
  def_okT (k := 1) (tab := [("some", .cell)]) D sc__law_greatest (by decide) (by decide +kernel) fun f cd A outer s H E B t => (zs_one (zs_ret (zx_fz (zx_lcT (N := N__law_greatest) (hNN := rfl) (tab := [("some", .cell)]) (tab2 := [("one", .cell), ("some", .free), ("any", .globalImplicit)]) (own := [("one", 1)]) (t := t) (B := B) (hb := by decide +kernel) (hi := (zi_val (zx_varT 0 0 t))) (tk := tok_name) (ht' := by decide) (hg := fun _ _ _ _ _ t1 => (pg_nameT (nd := B.blk.nd) 1 0 t1)) (ht := fun _ _ _ _ _ t1 => (zt_one (zt_not (zt_val (zx_any B.blk.calm b.any (t1.gl 2 rfl) (za_cons (zx_fz (zx_lcT (N := N__law_greatest) (hNN := rfl) (tab := [("one", .cell), ("some", .free), ("any", .globalImplicit)]) (tab2 := [("other", .«local»), ("one", .free), ("_law_is_part", .globalImplicit)]) (own := [("other", 2)]) (t := t1) (B := B.blk) (hb := by decide +kernel) (hi := (zi_val (zx_varT 0 1 t1))) (tk := tok_name) (ht' := by decide) (hg := fun _ _ _ _ _ t1' => (pg_nameT (nd := B.blk.blk.nd) 2 0 t1')) (ht := fun _ _ _ _ _ t1' => zt_yes) (he := fun _ _ _ _ _ t1' => (zx_and (zx_ne B.blk.blk.u64 (zx_varT 2 0 t1') (zx_varT 1 1 t1')) (zx_one (zx_defT 2 t1' B.blk.blk F__law_is_part (by decide) (za_cons (zx_varT 1 1 t1') (za_cons (zx_varT 2 0 t1') za_nil)) (alen_cons (alen_cons alen_nil)))))))) za_nil)))))) (he := fun _ _ _ _ _ t1 => (zx_varT 1 0 t1))))))
end
end Z
end
section
set_option linter.all false
set_option maxRecDepth 100000
set_option maxHeartbeats 8000000
/-! KB: the pen, _law_fault, the law; printed. -/
namespace Z
open PySem PySem.Spec PyProof.Rows L2 LamX NdefX
def faultTb : FTab := [("BadTable", "table", ["table"]), ("BadNumber", "number", ["what", "number"]), ("BadRow", "row", ["row"]), ("BadWish", "wish", ["what", "value"]), ("Unlike", "unlike", ["what"])]
abbrev N_law : List PySem.Str := ["script", "pen", "lap", "table", "lots", "handed", "lot", "bad", "least", "one", "good", "before", "found", "odd", "calls", "call", "<tab>"]
def lamM0 : Mir Sl := (mCall (mFn m_least_bad_lots) (mCons (mVar 0) mNil))
def lamM1 : Mir Sl := (mCall (mFn m_greatest_whole_lots) (mCons (mVar 0) mNil))
def lamT : LamT := fun k => match k with
  | 0 => some ([13], lamM0)
  | 1 => some ([13], lamM1)
  | _ => none
def b_law (n : Nat) (T : Addr) : Mir Ctl := (sSeq (sFor (itRng1 (mCons (mC (.int 2)) mNil)) (.name 2) (sSeq (sSet 3 (mCall (mFn m__law_table) (mCons (mVar 1) (mCons (mOp fAdd (mC (.int 2)) (mCall (mFn m__law_draw) (mCons (mVar 1) (mCons (mC (.int 5)) mNil)))) (mCons (mOp fAdd (mC (.int 1)) (mCall (mFn m__law_draw) (mCons (mVar 1) (mCons (mC (.int 5)) mNil)))) mNil)))))
    (sSeq (sIf (mTest (mOp (fEq false) (mCall (mFn m__law_draw) (mCons (mVar 1) (mCons (mC (.int 3)) mNil))) (mC (.int 0)))) (sSet 3 (mCall (mFn m__law_rings) (mCons (mVar 1) mNil))) sNil)
    (sSeq (sIf (mTest (mOp (fEq false) (mCall (mFn m__law_draw) (mCons (mVar 1) (mCons (mC (.int 3)) mNil))) (mC (.int 0)))) (sSet 3 (mCall (mFn m__law_bent) (mCons (mVar 1) (mCons (mCall (mFn m__law_whole_table) (mCons (mVar 1) (mCons (mOp fAdd (mC (.int 1)) (mCall (mFn m__law_draw) (mCons (mVar 1) (mCons (mC (.int 6)) mNil)))) (mCons (mOp fAdd (mC (.int 1)) (mCall (mFn m__law_draw) (mCons (mVar 1) (mCons (mC (.int 5)) mNil)))) mNil)))) mNil)))) sNil)
    (sSeq (sPar 4 5 (mCall (mFn m__law_lots) (mCons (mCall (g1 fLen) (mCons (mVar 3) mNil)) mNil)) (mCall (mFn m__law_as_passed) (mCons (mVar 1) (mCons (mVar 3) mNil))))
    (sSeq (sAfter [7] (sSet 7 (mLc (itVal (mVar 4)) [6] (.name 6) (mNotB (mTest (mCall (mFn m__law_split) (mCons (mVar 3) (mCons (mVar 6) mNil))))) (mVar 6))))
    (sSeq (sSet 8 (mCall (mFn m__law_least) (mCons (mVar 7) mNil)))
    (sSeq (sAfter [10] (sSet 10 (mLc (itVal (mVar 4)) [6] (.name 6) (mNotB (mTest (mCall (g1 fAny) (mCons (mFz (mLc (itVal (mVar 8)) [9] (.name 9) mYes (mCall (mFn m__law_is_part) (mCons (mVar 9) (mCons (mVar 6) mNil))))) mNil)))) (mVar 6))))
    (sSeq (sSet 11 (mCall (g1 fRepr) (mCons (mVar 5) mNil)))
    (sSeq (sSet 12 (mTup (mCons (mCall (mFn m_least_bad_lots) (mCons (mVar 5) mNil)) (mCons (mCall (mFn m_greatest_whole_lots) (mCons (mVar 5) mNil)) mNil))))
    (sIf (mOrB (mTest (mOp (fEq true) (mCall (g1 fRepr) (mCons (mVar 12) mNil)) (mCall (g1 fRepr) (mCons (mTup (mCons (mCall (g1 fTuple) (mCons (mVar 8) mNil)) (mCons (mCall (g1 fTuple) (mCons (mCall (mFn m__law_greatest) (mCons (mVar 10) mNil)) mNil)) mNil))) mNil)))) (mTest (mOp (fEq true) (mCall (g1 fRepr) (mCons (mVar 5) mNil)) (mVar 11)))) (sRet (mC (.bool false))) sNil)))))))))))
    (sSeq (sSet 13 (mCall (mFn m__law_pick) (mCons (mVar 1) (mCons (mFz (mLst (mCons (mC .none) (mCons (mTup mNil) (mCons (mTup (mCons (mTup (mCons (mC (.int 2)) mNil)) mNil)) (mCons (mTup (mCons (mTup (mCons (mC (.int 1)) (mCons (mC (.int 0)) mNil))) (mCons (mTup (mCons (mC (.int 1)) mNil)) mNil))) (mCons (mC (.str "1")) (mCons (mTup (mCons (mTup (mCons (mC (.bool true)) mNil)) mNil)) mNil)))))))) mNil))))
    (sSeq (sSet 14 (mLst (mCons (mLam 16 T 0 n) mNil)))
    (sSeq (sExpr (mAppend 14 (mLam 16 T 1 n)))
    (sRet (mCall (g1 fAll) (mCons (mFz (mLc (itOwn 14) [15] (.name 15) mYes (mOp (fEq false) (mCall (g1 fRepr) (mCons (mCall (fFault faultTb n lamT) (mCons (mVar 15) mNil)) mNil)) (mCall (g1 fRepr) (mCons (mTup (mCons (mC (.str "table")) (mCons (mVar 13) mNil))) mNil))))) mNil)))))))
theorem sc__law_pen : FnScope ["script", "fold", "cell"] ["script"] (defScope (topS 26)) := ⟨rfl, rfl, rfl, by decide +kernel, rfl, by decide +kernel, by decide +kernel⟩
theorem sc__law_fault : FnScope ["work", "fault"] ["work"] (defScope (topS 47)) := ⟨rfl, rfl, rfl, by decide +kernel, rfl, by decide +kernel, by decide +kernel⟩
theorem sc_law : FnScope N_law ["script"] (defScope lawSt) := ⟨rfl, rfl, rfl, by decide +kernel, rfl, by decide +kernel, by decide +kernel⟩
def capAll (sc : Scope) : Bool := capB N_law ["odd"] [13] (defScope lawSt) (lamAt 0).2.2 sc && (capB N_law ["odd"] [13] (defScope lawSt) (lamAt 1).2.2 sc)
theorem lams_len : lawLams.length = 2 := by decide +kernel
section
variable {P : Program} {w : World} {K : PySem.W.Frag} {mg : PySem.Str → Option Value} {base : Heap} {ca : PySem.Str → Addr} (b : Bl mg)
include b
theorem ok__law_pen (D : DefAt K mg "_law_pen" (topS 26) ["script"]) : ∃ f fd, FnG P w K mg base (L2.CX P w) 1 f fd ["script"] (spPen K) ∧ mg "_law_pen" = some (.ref f) ∧ PySem.W.keepIn K (.ref f) = true ∧ Binds K fd ["script"] [] :=
  pen_ok (tab := [("script", .«local»), ("fold", .«local»), ("cell", .«local»), ("int", .globalImplicit), ("list", .globalImplicit)]) D sc__law_pen (by decide +kernel) fun f cd A outer s H E B t =>
    pss_cons (ps_set (i := 1) B.nd rfl (t.loc 1 rfl rfl) pe_int (hf := t.fn 1 rfl rfl)) (pss_cons (ps_for (passes_of rfl) rfl (pi_list (pe_var (i := 0) rfl (t.vis 0 rfl rfl) (t.d 0 rfl) (t.c 0 rfl))) (pg_nameT (nd := B.nd) 2 2 t)
      (pss_one (ps_set (i := 1) B.nd rfl (t.loc 1 rfl rfl) (pe_op op_mod (pe_callTy call_int1 (t.gl 3 rfl) b.int bb_int (pa_cons (pe_op op_add (pe_op op_mul (pe_var (i := 1) rfl (t.vis 1 rfl rfl) (t.d 1 rfl) (t.c 1 rfl)) pe_int) (pe_var (i := 2) rfl (t.vis 2 rfl rfl) (t.d 2 rfl) (t.c 2 rfl))) pa_nil)) pe_int) (hf := t.fn 1 rfl rfl))))
    (pss_one (ps_ret (pe_disp (pps_cons pe_str (pe_callTy call_list_of (t.gl 4 rfl) b.list bb_list (pa_cons (pe_var (i := 0) rfl (t.vis 0 rfl rfl) (t.d 0 rfl) (t.c 0 rfl)) pa_nil)) (pps_cons pe_str pe_int (pps_cons pe_str pe_int (pps_cons pe_str pe_int (pps_cons pe_str (pe_var (i := 1) rfl (t.vis 1 rfl rfl) (t.d 1 rfl) (t.c 1 rfl)) pps_nil))))) rfl rfl (by intro z; cases z) (by show 5 ≤ 15; decide)))))
omit b in
theorem ok__law_fault {j : Nat} (C : ClsX K mg ca faultTb) (D : DefAt K mg "_law_fault" (topS 47) ["work"]) : FaultOk P w K mg base ca faultTb j :=
  fault_ok (tab := [("work", .«local»), ("fault", .«local»), ("BadTable", .globalImplicit), ("BadNumber", .globalImplicit), ("BadRow", .globalImplicit), ("BadWish", .globalImplicit), ("Unlike", .globalImplicit)]) D sc__law_fault (by decide +kernel) rfl rfl (.inl rfl) C fun f cd A outer s H E t => (clause_one (t.gl 2 rfl) (t.d 2 rfl) (C.at_ ("BadTable", "table", ["table"]) (by simp [faultTb])) (C.xf ("BadTable", "table", ["table"]) (by simp [faultTb])) (C.no ("BadTable", "table", ["table"]) (by simp [faultTb]) _ (by simp)) rfl rfl (clause_two (t.gl 3 rfl) (t.d 3 rfl) (C.at_ ("BadNumber", "number", ["what", "number"]) (by simp [faultTb])) (C.xf ("BadNumber", "number", ["what", "number"]) (by simp [faultTb])) (C.no ("BadNumber", "number", ["what", "number"]) (by simp [faultTb]) _ (by simp)) (C.no ("BadNumber", "number", ["what", "number"]) (by simp [faultTb]) _ (by simp)) rfl rfl (clause_one (t.gl 4 rfl) (t.d 4 rfl) (C.at_ ("BadRow", "row", ["row"]) (by simp [faultTb])) (C.xf ("BadRow", "row", ["row"]) (by simp [faultTb])) (C.no ("BadRow", "row", ["row"]) (by simp [faultTb]) _ (by simp)) rfl rfl (clause_two (t.gl 5 rfl) (t.d 5 rfl) (C.at_ ("BadWish", "wish", ["what", "value"]) (by simp [faultTb])) (C.xf ("BadWish", "wish", ["what", "value"]) (by simp [faultTb])) (C.no ("BadWish", "wish", ["what", "value"]) (by simp [faultTb]) _ (by simp)) (C.no ("BadWish", "wish", ["what", "value"]) (by simp [faultTb]) _ (by simp)) rfl rfl (clause_one (t.gl 6 rfl) (t.d 6 rfl) (C.at_ ("Unlike", "unlike", ["what"]) (by simp [faultTb])) (C.xf ("Unlike", "unlike", ["what"]) (by simp [faultTb])) (C.no ("Unlike", "unlike", ["what"]) (by simp [faultTb]) _ (by simp)) rfl rfl .nil)))))
theorem ok_lam0 (F_least_bad_lots : DefOk P w K mg base ca "least_bad_lots" ["table"] m_least_bad_lots 6) : LamOk P w K mg base ca 0 ["odd"] lamM0 7 :=
  ⟨_, _, _, lamAt_of lams_len (by decide), nscope_by (by decide +kernel), fun _ _ _ _ _ => rfl, fun F f A outer s H E hsc B =>
    have t := tab_ncx (P := P) (w := w) (K := K) (mg := mg) (base := base) (fr := ["odd"]) (F := F) (f := f) (A := A) (outer := outer) (s := s) (H := H) (E := E) (tab := [("odd", .free), ("least_bad_lots", .globalImplicit)]) hsc (by decide +kernel) (by decide)
    (zx_defT 1 t B F_least_bad_lots (by decide) (za_cons (zx_varT 0 0 t) za_nil) (alen_cons alen_nil))⟩
theorem ok_lam1 (F_greatest_whole_lots : DefOk P w K mg base ca "greatest_whole_lots" ["table"] m_greatest_whole_lots 7) : LamOk P w K mg base ca 1 ["odd"] lamM1 7 :=
  ⟨_, _, _, lamAt_of lams_len (by decide), nscope_by (by decide +kernel), fun _ _ _ _ _ => rfl, fun F f A outer s H E hsc B =>
    have t := tab_ncx (P := P) (w := w) (K := K) (mg := mg) (base := base) (fr := ["odd"]) (F := F) (f := f) (A := A) (outer := outer) (s := s) (H := H) (E := E) (tab := [("odd", .free), ("greatest_whole_lots", .globalImplicit)]) hsc (by decide +kernel) (by decide)
    (zx_defT 1 t B F_greatest_whole_lots (by decide) (za_cons (zx_varT 0 0 t) za_nil) (alen_cons alen_nil))⟩
theorem ok_law {f c T : Addr} {fd : FuncData} (D : FunD K "law" "law" (defArgs lawSt) (defBody lawSt) (defScope lawSt) [] [] f fd) (hc : fd.code = .ref c) (TB : TabB base mg c T) (F_pen : ∃ f fd, FnG P w K mg base (L2.CX P w) 1 f fd ["script"] (spPen K) ∧ mg "_law_pen" = some (.ref f) ∧ PySem.W.keepIn K (.ref f) = true ∧ Binds K fd ["script"] [])
    (FF : FaultOk P w K mg base ca faultTb 7) (F__law_pick : DefOk P w K mg base ca "_law_pick" ["pen", "some"] m__law_pick 2) (F__law_greatest : DefOk P w K mg base ca "_law_greatest" ["some"] m__law_greatest 2) (F_greatest_whole_lots : DefOk P w K mg base ca "greatest_whole_lots" ["table"] m_greatest_whole_lots 7) (F_least_bad_lots : DefOk P w K mg base ca "least_bad_lots" ["table"] m_least_bad_lots 6) (F__law_is_part : DefOk P w K mg base ca "_law_is_part" ["one", "other"] m__law_is_part 1) (F__law_least : DefOk P w K mg base ca "_law_least" ["some"] m__law_least 2) (F__law_split : DefOk P w K mg base ca "_law_split" ["table", "lot"] m__law_split 1) (F__law_lots : DefOk P w K mg base ca "_law_lots" ["many"] m__law_lots 1) (F__law_as_passed : DefOk P w K mg base ca "_law_as_passed" ["pen", "table"] m__law_as_passed 2) (F__law_draw : DefOk P w K mg base ca "_law_draw" ["pen", "many"] m__law_draw 1) (F__law_bent : DefOk P w K mg base ca "_law_bent" ["pen", "table"] m__law_bent 3) (F__law_whole_table : DefOk P w K mg base ca "_law_whole_table" ["pen", "tall", "wide"] m__law_whole_table 5) (F__law_rings : DefOk P w K mg base ca "_law_rings" ["pen"] m__law_rings 4) (F__law_table : DefOk P w K mg base ca "_law_table" ["pen", "tall", "wide"] m__law_table 3) (LT : LawTrue N_law.length b_law) : FnG P w K mg base (L2.CX P w) 10 f fd ["script"] (spLaw K T) := by
  obtain ⟨pf, pfd, PF, pm, pk, pb⟩ := F_pen
  refine fnG_ofC D sc_law (fun s vs H Q E q => by obtain ⟨a, ns, rfl, _⟩ := q; rfl) fun cdv A outer s H vs Q E hr hg q hcd => ?_
  have B : Exp (cxOf (L2.CX P w) P w K mg base N_law "law" (defScope lawSt) f cdv A outer s H E) E 9 := exp_of sc_law hr hg
  have t : Tab (cxOf (L2.CX P w) P w K mg base N_law "law" (defScope lawSt) f cdv A outer s H E) [("pen", .«local»), ("_law_pen", .globalImplicit), ("script", .«local»), ("calls", .«local»), ("odd", .cell), ("all", .globalImplicit), ("_law_pick", .globalImplicit), ("range", .globalImplicit), ("lap", .«local»), ("found", .«local»), ("repr", .globalImplicit), ("good", .«local»), ("_law_greatest", .globalImplicit), ("tuple", .globalImplicit), ("least", .cell), ("handed", .«local»), ("before", .«local»), ("greatest_whole_lots", .globalImplicit), ("least_bad_lots", .globalImplicit), ("lots", .«local»), ("bad", .«local»), ("_law_least", .globalImplicit), ("table", .cell), ("len", .globalImplicit), ("_law_lots", .globalImplicit), ("_law_as_passed", .globalImplicit), ("_law_draw", .globalImplicit), ("_law_whole_table", .globalImplicit), ("_law_bent", .globalImplicit), ("_law_rings", .globalImplicit), ("_law_table", .globalImplicit)] := tab_of (by decide +kernel)
  have hcode : (cxOf (L2.CX P w) P w K mg base N_law "law" (defScope lawSt) f cdv A outer s H E).env.code = .ref c := by
    show cdv = .ref c
    rw [← hcd, hc]
  have L0 := ok_lam0 (P := P) (w := w) (K := K) (mg := mg) (base := base) (ca := ca) b F_least_bad_lots
  have L1 := ok_lam1 (P := P) (w := w) (K := K) (mg := mg) (base := base) (ca := ca) b F_greatest_whole_lots
  have HLAM : ∀ {sc : Scope} {own : List (PySem.Str × Nat)} {s2 : Shared} {H2 : Hp} {fp : List Addr}, (cxOf (L2.CX P w) P w K mg base N_law "law" (defScope lawSt) f cdv A outer s H E).Ok → BlkOk N_law (defScope lawSt) sc own → capAll sc = true → ∀ k js m, lamT k = some (js, m) → ∃ fr, LamOk P w K mg base ca k fr m 7 ∧ ∀ L, LamIs k s.heap.objs.size L → (blkAt (cxOf (L2.CX P w) P w K mg base N_law "law" (defScope lawSt) f cdv A outer s H E) sc s2 H2 fp).Ok → Caps (blkAt (cxOf (L2.CX P w) P w K mg base N_law "law" (defScope lawSt) f cdv A outer s H E) sc s2 H2 fp) L.cl fr js := by
    intro sc own s2 H2 fp ok bk hcap k js m e
    have hcap' := hcap
    simp only [capAll, Bool.and_eq_true] at hcap'
    match k, e with
    | 0, e => cases Option.some.inj e; exact ⟨_, L0, fun L h _ => caps_of ok bk rfl lams_len (by decide) hcap'.1 h⟩
    | 1, e => cases Option.some.inj e; exact ⟨_, L1, fun L h _ => caps_of ok bk rfl lams_len (by decide) hcap'.2 h⟩
  refine ⟨_, pss_cons (ps_set (i := 1) B.nd rfl (t.loc 0 rfl rfl) (pe_callG B PF (by decide) (t.gl 1 rfl) pm pk pb (pa_cons (pe_var (i := 0) rfl (t.vis 2 rfl rfl) (t.d 2 rfl) (t.c 2 rfl)) pa_nil)) (hf := t.fn 0 rfl rfl))
    (pss_ghost (j := 16) (x := "<tab>") (v := .ref T) (t := zS K (ca, E) (b_law s.heap.objs.size T)) ((zs_cons (zs_for loops_of B.calm (zi_range1 (t.gl 7 rfl) b.range (za_cons zx_int za_nil)) (pg_nameT (nd := B.nd) 2 8 t) tok_name (zs_cons (zs_setT 3 22 t B.nd (zx_defT 30 t B F__law_table (by decide) (za_cons (zx_varT 1 0 t) (za_cons (zx_add zx_int (zx_defT 26 t B F__law_draw (by decide) (za_cons (zx_varT 1 0 t) (za_cons zx_int za_nil)) (alen_cons (alen_cons alen_nil)))) (za_cons (zx_add zx_int (zx_defT 26 t B F__law_draw (by decide) (za_cons (zx_varT 1 0 t) (za_cons zx_int za_nil)) (alen_cons (alen_cons alen_nil)))) za_nil))) (alen_cons (alen_cons (alen_cons alen_nil)))))
    (zs_cons (zs_if (zt_eq B.u64 (zx_defT 26 t B F__law_draw (by decide) (za_cons (zx_varT 1 0 t) (za_cons zx_int za_nil)) (alen_cons (alen_cons alen_nil))) zx_int) (zs_one (zs_setT 3 22 t B.nd (zx_defT 29 t B F__law_rings (by decide) (za_cons (zx_varT 1 0 t) za_nil) (alen_cons alen_nil)))) zs_nil)
    (zs_cons (zs_if (zt_eq B.u64 (zx_defT 26 t B F__law_draw (by decide) (za_cons (zx_varT 1 0 t) (za_cons zx_int za_nil)) (alen_cons (alen_cons alen_nil))) zx_int) (zs_one (zs_setT 3 22 t B.nd (zx_defT 28 t B F__law_bent (by decide) (za_cons (zx_varT 1 0 t) (za_cons (zx_defT 27 t B F__law_whole_table (by decide) (za_cons (zx_varT 1 0 t) (za_cons (zx_add zx_int (zx_defT 26 t B F__law_draw (by decide) (za_cons (zx_varT 1 0 t) (za_cons zx_int za_nil)) (alen_cons (alen_cons alen_nil)))) (za_cons (zx_add zx_int (zx_defT 26 t B F__law_draw (by decide) (za_cons (zx_varT 1 0 t) (za_cons zx_int za_nil)) (alen_cons (alen_cons alen_nil)))) za_nil))) (alen_cons (alen_cons (alen_cons alen_nil)))) za_nil)) (alen_cons (alen_cons alen_nil))))) zs_nil)
    (zs_cons (zs_parT 4 5 19 15 t B.calm B.nd (zx_defT 24 t B F__law_lots (by decide) (za_cons (zx_len (hm := b.len) (hg := (t.gl 23 rfl)) (za_cons (zx_varT 3 22 t) za_nil)) za_nil) (alen_cons alen_nil)) (zx_defT 25 t B F__law_as_passed (by decide) (za_cons (zx_varT 1 0 t) (za_cons (zx_varT 3 22 t) za_nil)) (alen_cons (alen_cons alen_nil))))
    (zs_cons (zs_after (is := [7]) (zs_setLcT 7 20 (hno := by decide +kernel) (N := N_law) (hNN := rfl) (tab := [("pen", .«local»), ("_law_pen", .globalImplicit), ("script", .«local»), ("calls", .«local»), ("odd", .cell), ("all", .globalImplicit), ("_law_pick", .globalImplicit), ("range", .globalImplicit), ("lap", .«local»), ("found", .«local»), ("repr", .globalImplicit), ("good", .«local»), ("_law_greatest", .globalImplicit), ("tuple", .globalImplicit), ("least", .cell), ("handed", .«local»), ("before", .«local»), ("greatest_whole_lots", .globalImplicit), ("least_bad_lots", .globalImplicit), ("lots", .«local»), ("bad", .«local»), ("_law_least", .globalImplicit), ("table", .cell), ("len", .globalImplicit), ("_law_lots", .globalImplicit), ("_law_as_passed", .globalImplicit), ("_law_draw", .globalImplicit), ("_law_whole_table", .globalImplicit), ("_law_bent", .globalImplicit), ("_law_rings", .globalImplicit), ("_law_table", .globalImplicit)]) (tab2 := [("lot", .«local»), ("table", .free), ("_law_split", .globalImplicit)]) (own := [("lot", 6)]) (t := t) (B := B) (hb := by decide +kernel) (hi := (zi_val (zx_varT 4 19 t))) (tk := tok_name) (ht' := by decide) (hg := fun _ _ _ _ _ t1 => (pg_nameT (nd := B.blk.nd) 6 0 t1)) (ht := fun _ _ _ _ _ t1 => (zt_one (zt_not (zt_val (zx_defT 2 t1 B.blk F__law_split (by decide) (za_cons (zx_varT 3 1 t1) (za_cons (zx_varT 6 0 t1) za_nil)) (alen_cons (alen_cons alen_nil))))))) (he := fun _ _ _ _ _ t1 => (zx_varT 6 0 t1))))
    (zs_cons (zs_setT 8 14 t B.nd (zx_defT 21 t B F__law_least (by decide) (za_cons (zx_varT 7 20 t) za_nil) (alen_cons alen_nil)))
    (zs_cons (zs_after (is := [10]) (zs_setLcT 10 11 (hno := by decide +kernel) (N := N_law) (hNN := rfl) (tab := [("pen", .«local»), ("_law_pen", .globalImplicit), ("script", .«local»), ("calls", .«local»), ("odd", .cell), ("all", .globalImplicit), ("_law_pick", .globalImplicit), ("range", .globalImplicit), ("lap", .«local»), ("found", .«local»), ("repr", .globalImplicit), ("good", .«local»), ("_law_greatest", .globalImplicit), ("tuple", .globalImplicit), ("least", .cell), ("handed", .«local»), ("before", .«local»), ("greatest_whole_lots", .globalImplicit), ("least_bad_lots", .globalImplicit), ("lots", .«local»), ("bad", .«local»), ("_law_least", .globalImplicit), ("table", .cell), ("len", .globalImplicit), ("_law_lots", .globalImplicit), ("_law_as_passed", .globalImplicit), ("_law_draw", .globalImplicit), ("_law_whole_table", .globalImplicit), ("_law_bent", .globalImplicit), ("_law_rings", .globalImplicit), ("_law_table", .globalImplicit)]) (tab2 := [("lot", .cell), ("least", .free), ("any", .globalImplicit)]) (own := [("lot", 6)]) (t := t) (B := B) (hb := by decide +kernel) (hi := (zi_val (zx_varT 4 19 t))) (tk := tok_name) (ht' := by decide) (hg := fun _ _ _ _ _ t1 => (pg_nameT (nd := B.blk.nd) 6 0 t1)) (ht := fun _ _ _ _ _ t1 => (zt_one (zt_not (zt_val (zx_any B.blk.calm b.any (t1.gl 2 rfl) (za_cons (zx_fz (zx_lcT (N := N_law) (hNN := rfl) (tab := [("lot", .cell), ("least", .free), ("any", .globalImplicit)]) (tab2 := [("one", .«local»), ("lot", .free), ("_law_is_part", .globalImplicit)]) (own := [("one", 9)]) (t := t1) (B := B.blk) (hb := by decide +kernel) (hi := (zi_val (zx_varT 8 1 t1))) (tk := tok_name) (ht' := by decide) (hg := fun _ _ _ _ _ t1' => (pg_nameT (nd := B.blk.blk.nd) 9 0 t1')) (ht := fun _ _ _ _ _ t1' => zt_yes) (he := fun _ _ _ _ _ t1' => (zx_defT 2 t1' B.blk.blk F__law_is_part (by decide) (za_cons (zx_varT 9 0 t1') (za_cons (zx_varT 6 1 t1') za_nil)) (alen_cons (alen_cons alen_nil)))))) za_nil)))))) (he := fun _ _ _ _ _ t1 => (zx_varT 6 0 t1))))
    (zs_cons (zs_setT 11 16 t B.nd (zx_repr B b.repr (t.gl 10 rfl) (za_cons (zx_varT 5 15 t) za_nil)))
    (zs_cons (zs_setT 12 9 t B.nd (zx_tup (za_cons (zx_defT 18 t B F_least_bad_lots (by decide) (za_cons (zx_varT 5 15 t) za_nil) (alen_cons alen_nil)) (za_cons (zx_defT 17 t B F_greatest_whole_lots (by decide) (za_cons (zx_varT 5 15 t) za_nil) (alen_cons alen_nil)) za_nil))))
    (zs_one (zs_if (zw_or (zt_ne B.u64 (zx_repr B b.repr (t.gl 10 rfl) (za_cons (zx_varT 12 9 t) za_nil)) (zx_repr B b.repr (t.gl 10 rfl) (za_cons (zx_tup (za_cons (zx_tuple b.tuple (t.gl 13 rfl) (za_cons (zx_varT 8 14 t) za_nil)) (za_cons (zx_tuple b.tuple (t.gl 13 rfl) (za_cons (zx_defT 12 t B F__law_greatest (by decide) (za_cons (zx_varT 10 11 t) za_nil) (alen_cons alen_nil)) za_nil)) za_nil))) za_nil))) (zw_or1 (zt_ne B.u64 (zx_repr B b.repr (t.gl 10 rfl) (za_cons (zx_varT 5 15 t) za_nil)) (zx_varT 11 16 t)))).pt (zs_one (zs_ret zx_bool)) zs_nil))))))))))))
    (zs_cons (zs_setT 13 4 t B.nd (zx_defT 6 t B F__law_pick (by decide) (za_cons (zx_varT 1 0 t) (za_cons (zx_fz (zx_lst (za_cons zx_none (za_cons (zx_tup za_nil) (za_cons (zx_tup (za_cons (zx_tup (za_cons zx_int za_nil)) za_nil)) (za_cons (zx_tup (za_cons (zx_tup (za_cons zx_int (za_cons zx_int za_nil))) (za_cons (zx_tup (za_cons zx_int za_nil)) za_nil))) (za_cons zx_str (za_cons (zx_tup (za_cons (zx_tup (za_cons zx_bool za_nil)) za_nil)) za_nil)))))))) za_nil)) (alen_cons (alen_cons alen_nil))))
    (zs_cons (zs_setT 14 3 t B.nd (zx_lst (za_cons (zx_lam 16 0 s.heap.objs.size TB hcode (by rfl) (lamS_by (by show lamSB (defScope lawSt) _ = true; decide +kernel)) (by rfl) (by rfl)) za_nil)))
    (zs_cons (zs_expr (zx_append 14 (he := (zx_lam 16 1 s.heap.objs.size TB hcode (by rfl) (lamS_by (by show lamSB (defScope lawSt) _ = true; decide +kernel)) (by rfl) (by rfl))) (hN := rfl) (hv := t.vis 3 rfl rfl) (hd := t.d 3 rfl) (hcd := t.c 3 rfl)))
    (zs_one (zs_ret (zx_all B.calm b.all (t.gl 5 rfl) (za_cons (zx_fz (zx_lcKT (N := N_law) (hNN := rfl) (tab := [("pen", .«local»), ("_law_pen", .globalImplicit), ("script", .«local»), ("calls", .«local»), ("odd", .cell), ("all", .globalImplicit), ("_law_pick", .globalImplicit), ("range", .globalImplicit), ("lap", .«local»), ("found", .«local»), ("repr", .globalImplicit), ("good", .«local»), ("_law_greatest", .globalImplicit), ("tuple", .globalImplicit), ("least", .cell), ("handed", .«local»), ("before", .«local»), ("greatest_whole_lots", .globalImplicit), ("least_bad_lots", .globalImplicit), ("lots", .«local»), ("bad", .«local»), ("_law_least", .globalImplicit), ("table", .cell), ("len", .globalImplicit), ("_law_lots", .globalImplicit), ("_law_as_passed", .globalImplicit), ("_law_draw", .globalImplicit), ("_law_whole_table", .globalImplicit), ("_law_bent", .globalImplicit), ("_law_rings", .globalImplicit), ("_law_table", .globalImplicit)]) (tab2 := [("call", .«local»), ("_law_fault", .globalImplicit), ("repr", .globalImplicit), ("odd", .free)]) (own := [("call", 15)]) (t := t) (B := B) (hb := by decide +kernel) (hi := (zi_ownT 14 3 t)) (tk := tok_name) (ht' := by decide) (hg := fun _ _ _ t1 => (pg_nameT (nd := B.blk.nd) 15 0 t1)) (ht := fun _ _ _ t1 => zt_yes) (he := fun _ _ _ ok bk t1 => (zx_eq B.blk.u64 (zx_repr B.blk b.repr (t1.gl 2 rfl) (za_cons (zx_fault 1 t1 B.blk FF (by decide) (HLAM ok bk (by decide +kernel)) (za_cons (zx_varT 15 0 t1) za_nil)) za_nil)) (zx_repr B.blk b.repr (t1.gl 2 rfl) (za_cons (zx_tup (za_cons zx_str (za_cons (zx_varT 13 3 t1) za_nil))) za_nil)))))) za_nil))))))))) rfl rfl), ?_⟩
  exact law_start (by decide) LT q
end
end Z
end
section
set_option linter.all false
set_option maxRecDepth 100000
set_option maxHeartbeats 8000000
/-! KC: the head, the end; printed. -/
namespace Z
open PySem PySem.Spec PyProof.Rows L2 LamX NdefX
def clsB : Stmt → List Stmt
  | .ClassDef (body := b) .. => b
  | _ => []
def ini_BadTable : Stmt := (clsB (topS 2)).getD 0 (.Pass ⟨0, 0, 0, 0⟩)
def ini_BadNumber : Stmt := (clsB (topS 3)).getD 0 (.Pass ⟨0, 0, 0, 0⟩)
def ini_BadRow : Stmt := (clsB (topS 4)).getD 0 (.Pass ⟨0, 0, 0, 0⟩)
def ini_BadWish : Stmt := (clsB (topS 5)).getD 0 (.Pass ⟨0, 0, 0, 0⟩)
def ini_Unlike : Stmt := (clsB (topS 6)).getD 0 (.Pass ⟨0, 0, 0, 0⟩)
def fnL : List He.DefD := [dTop "is_whole" (topS 8), dTop "is_row" (topS 10), dTop "is_integers_row" (topS 11), dTop "is_integers" (topS 13), dTop "is_table" (topS 14), dTop "integers_of" (topS 15), dTop "table_from" (topS 16), dTop "sign_rows" (topS 18), dTop "lots_of" (topS 19), dTop "is_even" (topS 20), dTop "is_within" (topS 22), dTop "least_bad_lots" (topS 23), dTop "greatest_whole_lots" (topS 24), dTop "_law_draw" (topS 27), dTop "_law_pick" (topS 28), dTop "_law_shuffled" (topS 29), dTop "_law_as_passed" (topS 30), dTop "_law_table" (topS 31), dTop "_law_turned" (topS 32), dTop "_law_dual" (topS 33), dTop "_law_lots" (topS 34), dTop "_law_split" (topS 35), dTop "_law_pivot" (topS 36), dTop "_law_places" (topS 37), dTop "_law_signed" (topS 38), dTop "_law_tree" (topS 39), dTop "_law_way" (topS 40), dTop "_law_web" (topS 41), dTop "_law_web_table" (topS 42), dTop "_law_five" (topS 43), dTop "_law_joined" (topS 44), dTop "_law_whole_table" (topS 45), dTop "_law_bent" (topS 46), dTop "_law_rings" (topS 48), dTop "_law_is_part" (topS 49), dTop "_law_least" (topS 50), dTop "_law_greatest" (topS 51), dTop "_law_pen" (topS 26), dTop "_law_fault" (topS 47), dTop "law" lawSt, dInit "BadTable" ini_BadTable, dInit "BadNumber" ini_BadNumber, dInit "BadRow" ini_BadRow, dInit "BadWish" ini_BadWish, dInit "Unlike" ini_Unlike]
def faG : List He.Fa := [.glo "CornerError", .glo "BadTable", .glo "BadNumber", .glo "BadRow", .glo "BadWish", .glo "Unlike", .glo "is_whole", .glo "is_row", .glo "is_integers_row", .glo "is_integers", .glo "is_table", .glo "integers_of", .glo "table_from", .glo "sign_rows", .glo "lots_of", .glo "is_even", .glo "is_within", .glo "least_bad_lots", .glo "greatest_whole_lots", .glo "_law_draw", .glo "_law_pick", .glo "_law_shuffled", .glo "_law_as_passed", .glo "_law_table", .glo "_law_turned", .glo "_law_dual", .glo "_law_lots", .glo "_law_split", .glo "_law_pivot", .glo "_law_places", .glo "_law_signed", .glo "_law_tree", .glo "_law_way", .glo "_law_web", .glo "_law_web_table", .glo "_law_five", .glo "_law_joined", .glo "_law_whole_table", .glo "_law_bent", .glo "_law_rings", .glo "_law_is_part", .glo "_law_least", .glo "_law_greatest", .glo "_law_pen", .glo "_law_fault", .glo "law"]
def faF : List He.Fa := [.free "len", .free "abs", .free "int", .free "sum", .free "all", .free "any", .free "tuple", .free "list", .free "max", .free "min", .free "sorted", .free "isinstance", .free "repr", .free "zip", .free "range", .free "bool", .free "str"]
def faL : List He.Fa := faG ++ faF
def exL : ExcL := [("BadTable", ["table"]), ("BadNumber", ["what", "number"]), ("BadRow", ["row"]), ("BadWish", ["what", "value"]), ("Unlike", ["what"])]
def loose0 : List PySem.Str := ["CornerError", "BadTable", "BadNumber", "BadRow", "BadWish", "Unlike", "is_whole", "is_row", "is_integers_row", "is_integers", "is_table", "integers_of", "table_from", "sign_rows", "lots_of", "is_even", "is_within", "least_bad_lots", "greatest_whole_lots", "_law_pen", "_law_draw", "_law_pick", "_law_shuffled", "_law_as_passed", "_law_table", "_law_turned", "_law_dual", "_law_lots", "_law_split", "_law_pivot"]
def loose1 : List PySem.Str := ["_law_places", "_law_signed", "_law_tree", "_law_way", "_law_web", "_law_web_table", "_law_five", "_law_joined", "_law_whole_table", "_law_bent", "_law_fault", "_law_rings", "_law_is_part", "_law_least", "_law_greatest"]
def looseL : List PySem.Str := loose0 ++ loose1
theorem sc_BadTable : FnScope ["self", "table"] ["self", "table"] (defScope ini_BadTable) := ⟨rfl, rfl, rfl, by decide +kernel, rfl, by decide +kernel, by decide +kernel⟩
theorem sc_BadNumber : FnScope ["self", "what", "number"] ["self", "what", "number"] (defScope ini_BadNumber) := ⟨rfl, rfl, rfl, by decide +kernel, rfl, by decide +kernel, by decide +kernel⟩
theorem sc_BadRow : FnScope ["self", "row"] ["self", "row"] (defScope ini_BadRow) := ⟨rfl, rfl, rfl, by decide +kernel, rfl, by decide +kernel, by decide +kernel⟩
theorem sc_BadWish : FnScope ["self", "what", "value"] ["self", "what", "value"] (defScope ini_BadWish) := ⟨rfl, rfl, rfl, by decide +kernel, rfl, by decide +kernel, by decide +kernel⟩
theorem sc_Unlike : FnScope ["self", "what"] ["self", "what"] (defScope ini_Unlike) := ⟨rfl, rfl, rfl, by decide +kernel, rfl, by decide +kernel, by decide +kernel⟩
section
variable {P : Program} {w : World} {K : PySem.W.Frag} {mg : PySem.Str → Option Value} {base : Heap} {ca : PySem.Str → Addr}
theorem ok_ini_BadTable {mg : PySem.Str → Option Value} {CE C f : Addr} {fd : FuncData} (Bx : BaseX K mg "CornerError" CE) (T : ExsOk K ("BadTable", ["table"])) (D : FunD K "__init__" ("BadTable" ++ ".__init__") (defArgs ini_BadTable) (defBody ini_BadTable) (defScope ini_BadTable) [] [] f fd) : FnOk P w K mg base (L2.CX P w) 1 f fd ("self" :: ["table"]) (spInit (caK K "BadTable") ["table"]) :=
  init_one D sc_BadTable Bx T.oex (T.no "table" (by simp)) fun cd A outer s H E =>
    have t : Tab (cxOf (L2.CX P w) P w K mg base ["self", "table"] ("BadTable" ++ ".__init__") (defScope ini_BadTable) f cd A outer s H E) [("self", .«local»), ("table", .«local»), ("CornerError", .globalImplicit)] := tab_of (by decide +kernel)
    pss_cons (ps_expr (pe_ceinit (t.gl 2 rfl) Bx.at_ Bx.sp Bx.rd Bx.ini (pa_cons (pe_var (i := 0) rfl (t.vis 0 rfl rfl) (t.d 0 rfl) (t.c 0 rfl)) (pa_cons pe_str pa_nil)))) ((pss_one (ps_ost (pe_var (i := 0) rfl (t.vis 0 rfl rfl) (t.d 0 rfl) (t.c 0 rfl)) (pe_var (i := 1) rfl (t.vis 1 rfl rfl) (t.d 1 rfl) (t.c 1 rfl)))))
theorem ok_ini_BadNumber {mg : PySem.Str → Option Value} {CE C f : Addr} {fd : FuncData} (Bx : BaseX K mg "CornerError" CE) (T : ExsOk K ("BadNumber", ["what", "number"])) (D : FunD K "__init__" ("BadNumber" ++ ".__init__") (defArgs ini_BadNumber) (defBody ini_BadNumber) (defScope ini_BadNumber) [] [] f fd) : FnOk P w K mg base (L2.CX P w) 1 f fd ("self" :: ["what", "number"]) (spInit (caK K "BadNumber") ["what", "number"]) :=
  init_two D sc_BadNumber Bx T.oex (T.no "what" (by simp)) (T.no "number" (by simp)) fun cd A outer s H E =>
    have t : Tab (cxOf (L2.CX P w) P w K mg base ["self", "what", "number"] ("BadNumber" ++ ".__init__") (defScope ini_BadNumber) f cd A outer s H E) [("self", .«local»), ("what", .«local»), ("number", .«local»), ("CornerError", .globalImplicit)] := tab_of (by decide +kernel)
    pss_cons (ps_expr (pe_ceinit (t.gl 3 rfl) Bx.at_ Bx.sp Bx.rd Bx.ini (pa_cons (pe_var (i := 0) rfl (t.vis 0 rfl rfl) (t.d 0 rfl) (t.c 0 rfl)) (pa_cons pe_str pa_nil)))) (pss_cons (ps_ost (pe_var (i := 0) rfl (t.vis 0 rfl rfl) (t.d 0 rfl) (t.c 0 rfl)) (pe_var (i := 1) rfl (t.vis 1 rfl rfl) (t.d 1 rfl) (t.c 1 rfl))) (pss_one (ps_ost (pe_var (i := 0) rfl (t.vis 0 rfl rfl) (t.d 0 rfl) (t.c 0 rfl)) (pe_var (i := 2) rfl (t.vis 2 rfl rfl) (t.d 2 rfl) (t.c 2 rfl)))))
theorem ok_ini_BadRow {mg : PySem.Str → Option Value} {CE C f : Addr} {fd : FuncData} (Bx : BaseX K mg "CornerError" CE) (T : ExsOk K ("BadRow", ["row"])) (D : FunD K "__init__" ("BadRow" ++ ".__init__") (defArgs ini_BadRow) (defBody ini_BadRow) (defScope ini_BadRow) [] [] f fd) : FnOk P w K mg base (L2.CX P w) 1 f fd ("self" :: ["row"]) (spInit (caK K "BadRow") ["row"]) :=
  init_one D sc_BadRow Bx T.oex (T.no "row" (by simp)) fun cd A outer s H E =>
    have t : Tab (cxOf (L2.CX P w) P w K mg base ["self", "row"] ("BadRow" ++ ".__init__") (defScope ini_BadRow) f cd A outer s H E) [("self", .«local»), ("row", .«local»), ("CornerError", .globalImplicit)] := tab_of (by decide +kernel)
    pss_cons (ps_expr (pe_ceinit (t.gl 2 rfl) Bx.at_ Bx.sp Bx.rd Bx.ini (pa_cons (pe_var (i := 0) rfl (t.vis 0 rfl rfl) (t.d 0 rfl) (t.c 0 rfl)) (pa_cons pe_str pa_nil)))) ((pss_one (ps_ost (pe_var (i := 0) rfl (t.vis 0 rfl rfl) (t.d 0 rfl) (t.c 0 rfl)) (pe_var (i := 1) rfl (t.vis 1 rfl rfl) (t.d 1 rfl) (t.c 1 rfl)))))
theorem ok_ini_BadWish {mg : PySem.Str → Option Value} {CE C f : Addr} {fd : FuncData} (Bx : BaseX K mg "CornerError" CE) (T : ExsOk K ("BadWish", ["what", "value"])) (D : FunD K "__init__" ("BadWish" ++ ".__init__") (defArgs ini_BadWish) (defBody ini_BadWish) (defScope ini_BadWish) [] [] f fd) : FnOk P w K mg base (L2.CX P w) 1 f fd ("self" :: ["what", "value"]) (spInit (caK K "BadWish") ["what", "value"]) :=
  init_two D sc_BadWish Bx T.oex (T.no "what" (by simp)) (T.no "value" (by simp)) fun cd A outer s H E =>
    have t : Tab (cxOf (L2.CX P w) P w K mg base ["self", "what", "value"] ("BadWish" ++ ".__init__") (defScope ini_BadWish) f cd A outer s H E) [("self", .«local»), ("what", .«local»), ("value", .«local»), ("CornerError", .globalImplicit)] := tab_of (by decide +kernel)
    pss_cons (ps_expr (pe_ceinit (t.gl 3 rfl) Bx.at_ Bx.sp Bx.rd Bx.ini (pa_cons (pe_var (i := 0) rfl (t.vis 0 rfl rfl) (t.d 0 rfl) (t.c 0 rfl)) (pa_cons pe_str pa_nil)))) (pss_cons (ps_ost (pe_var (i := 0) rfl (t.vis 0 rfl rfl) (t.d 0 rfl) (t.c 0 rfl)) (pe_var (i := 1) rfl (t.vis 1 rfl rfl) (t.d 1 rfl) (t.c 1 rfl))) (pss_one (ps_ost (pe_var (i := 0) rfl (t.vis 0 rfl rfl) (t.d 0 rfl) (t.c 0 rfl)) (pe_var (i := 2) rfl (t.vis 2 rfl rfl) (t.d 2 rfl) (t.c 2 rfl)))))
theorem ok_ini_Unlike {mg : PySem.Str → Option Value} {CE C f : Addr} {fd : FuncData} (Bx : BaseX K mg "CornerError" CE) (T : ExsOk K ("Unlike", ["what"])) (D : FunD K "__init__" ("Unlike" ++ ".__init__") (defArgs ini_Unlike) (defBody ini_Unlike) (defScope ini_Unlike) [] [] f fd) : FnOk P w K mg base (L2.CX P w) 1 f fd ("self" :: ["what"]) (spInit (caK K "Unlike") ["what"]) :=
  init_one D sc_Unlike Bx T.oex (T.no "what" (by simp)) fun cd A outer s H E =>
    have t : Tab (cxOf (L2.CX P w) P w K mg base ["self", "what"] ("Unlike" ++ ".__init__") (defScope ini_Unlike) f cd A outer s H E) [("self", .«local»), ("what", .«local»), ("CornerError", .globalImplicit)] := tab_of (by decide +kernel)
    pss_cons (ps_expr (pe_ceinit (t.gl 2 rfl) Bx.at_ Bx.sp Bx.rd Bx.ini (pa_cons (pe_var (i := 0) rfl (t.vis 0 rfl rfl) (t.d 0 rfl) (t.c 0 rfl)) (pa_cons pe_str pa_nil)))) ((pss_one (ps_ost (pe_var (i := 0) rfl (t.vis 0 rfl rfl) (t.d 0 rfl) (t.c 0 rfl)) (pe_var (i := 1) rfl (t.vis 1 rfl rfl) (t.d 1 rfl) (t.c 1 rfl)))))
end
theorem all_facts {P : Program} {w : World} {K : PySem.W.Frag} {h : Heap} {mg : PySem.Str → Option Value} {fa : Addr} (LT : LawTrue N_law.length b_law) (X : K.In h) (G : h.Ns mainGlobals mg) (hfa : mg "law" = some (.ref fa)) (c : He.SaysD faL fnL K) (ex : exsB "CornerError" exL K = true) :
    ∃ fd : FuncData, (∀ (s : Shared) (u : Value), BindsTo s fd ⟨[u], []⟩ [("script", u)]) ∧ ∀ (base : Heap) (T : Addr), K.In base → base.Ns mainGlobals mg → TabB base mg (He.codeOf K ("law", none)) T → FnG P w K mg base (L2.CX P w) 10 fa fd ["script"] (spLaw K T) := by
  have b : Bl mg := ⟨He.free_ok X G (c.fact 46 rfl), He.free_ok X G (c.fact 47 rfl), He.free_ok X G (c.fact 48 rfl), He.free_ok X G (c.fact 49 rfl), He.free_ok X G (c.fact 50 rfl), He.free_ok X G (c.fact 51 rfl), He.free_ok X G (c.fact 52 rfl), He.free_ok X G (c.fact 53 rfl), He.free_ok X G (c.fact 54 rfl), He.free_ok X G (c.fact 55 rfl), He.free_ok X G (c.fact 56 rfl), He.free_ok X G (c.fact 57 rfl), He.free_ok X G (c.fact 58 rfl), He.free_ok X G (c.fact 59 rfl), He.free_ok X G (c.fact 60 rfl), He.free_ok X G (c.fact 61 rfl), He.free_ok X G (c.fact 62 rfl)⟩
  have Bx := exs_base ex (He.glo_ok X G (c.fact 0 (f := .glo "CornerError") rfl))
  obtain ⟨fd, F⟩ := c.def_ 39 (d := dTop "law" lawSt) rfl
  have e := hfa.symm.trans (He.glo_ok X G (c.fact 45 (f := .glo "law") rfl))
  cases e
  have hc := code_is F
  have bd := FunD.bindsA (ps := ["script"]) F (fun _ _ _ _ _ _ us hl => match us, hl with | [_], _ => rfl)
  refine ⟨fd, fun s v => bd s [v] rfl, fun base T _ _ TB => ?_⟩
  have T_BadTable : ExcAt P w K mg base (caK K) "BadTable" ["table"] := excAt_of (st := ini_BadTable) (exs_ok ex (by simp [exL])) (He.glo_ok X G (c.fact 1 (f := .glo "BadTable") rfl)) c 40 rfl (fun fd D => ok_ini_BadTable (C := caK K "BadTable") Bx (exs_ok ex (by simp [exL])) D) (fun _ _ _ _ _ _ us hl => match us, hl with | [_, _], _ => rfl)
  have D_is_whole : DefAt K mg "is_whole" (topS 8) ["value"] := at_top c X G 0 6 rfl rfl (fun _ _ _ _ _ _ us hl => match us, hl with | [_], _ => rfl)
  have D_is_row : DefAt K mg "is_row" (topS 10) ["value"] := at_top c X G 1 7 rfl rfl (fun _ _ _ _ _ _ us hl => match us, hl with | [_], _ => rfl)
  have D_is_integers_row : DefAt K mg "is_integers_row" (topS 11) ["value", "many"] := at_top c X G 2 8 rfl rfl (fun _ _ _ _ _ _ us hl => match us, hl with | [_, _], _ => rfl)
  have D_is_integers : DefAt K mg "is_integers" (topS 13) ["value"] := at_top c X G 3 9 rfl rfl (fun _ _ _ _ _ _ us hl => match us, hl with | [_], _ => rfl)
  have D_is_table : DefAt K mg "is_table" (topS 14) ["value"] := at_top c X G 4 10 rfl rfl (fun _ _ _ _ _ _ us hl => match us, hl with | [_], _ => rfl)
  have D_integers_of : DefAt K mg "integers_of" (topS 15) ["table"] := at_top c X G 5 11 rfl rfl (fun _ _ _ _ _ _ us hl => match us, hl with | [_], _ => rfl)
  have D_table_from : DefAt K mg "table_from" (topS 16) ["table"] := at_top c X G 6 12 rfl rfl (fun _ _ _ _ _ _ us hl => match us, hl with | [_], _ => rfl)
  have D_sign_rows : DefAt K mg "sign_rows" (topS 18) ["many"] := at_top c X G 7 13 rfl rfl (fun _ _ _ _ _ _ us hl => match us, hl with | [_], _ => rfl)
  have D_lots_of : DefAt K mg "lots_of" (topS 19) ["many"] := at_top c X G 8 14 rfl rfl (fun _ _ _ _ _ _ us hl => match us, hl with | [_], _ => rfl)
  have D_is_even : DefAt K mg "is_even" (topS 20) ["made", "lot", "signs"] := at_top c X G 9 15 rfl rfl (fun _ _ _ _ _ _ us hl => match us, hl with | [_, _, _], _ => rfl)
  have D_is_within : DefAt K mg "is_within" (topS 22) ["lot", "other"] := at_top c X G 10 16 rfl rfl (fun _ _ _ _ _ _ us hl => match us, hl with | [_, _], _ => rfl)
  have D_least_bad_lots : DefAt K mg "least_bad_lots" (topS 23) ["table"] := at_top c X G 11 17 rfl rfl (fun _ _ _ _ _ _ us hl => match us, hl with | [_], _ => rfl)
  have D_greatest_whole_lots : DefAt K mg "greatest_whole_lots" (topS 24) ["table"] := at_top c X G 12 18 rfl rfl (fun _ _ _ _ _ _ us hl => match us, hl with | [_], _ => rfl)
  have D__law_draw : DefAt K mg "_law_draw" (topS 27) ["pen", "many"] := at_top c X G 13 19 rfl rfl (fun _ _ _ _ _ _ us hl => match us, hl with | [_, _], _ => rfl)
  have D__law_pick : DefAt K mg "_law_pick" (topS 28) ["pen", "some"] := at_top c X G 14 20 rfl rfl (fun _ _ _ _ _ _ us hl => match us, hl with | [_, _], _ => rfl)
  have D__law_shuffled : DefAt K mg "_law_shuffled" (topS 29) ["pen", "some"] := at_top c X G 15 21 rfl rfl (fun _ _ _ _ _ _ us hl => match us, hl with | [_, _], _ => rfl)
  have D__law_as_passed : DefAt K mg "_law_as_passed" (topS 30) ["pen", "table"] := at_top c X G 16 22 rfl rfl (fun _ _ _ _ _ _ us hl => match us, hl with | [_, _], _ => rfl)
  have D__law_table : DefAt K mg "_law_table" (topS 31) ["pen", "tall", "wide"] := at_top c X G 17 23 rfl rfl (fun _ _ _ _ _ _ us hl => match us, hl with | [_, _, _], _ => rfl)
  have D__law_turned : DefAt K mg "_law_turned" (topS 32) ["table"] := at_top c X G 18 24 rfl rfl (fun _ _ _ _ _ _ us hl => match us, hl with | [_], _ => rfl)
  have D__law_dual : DefAt K mg "_law_dual" (topS 33) ["table"] := at_top c X G 19 25 rfl rfl (fun _ _ _ _ _ _ us hl => match us, hl with | [_], _ => rfl)
  have D__law_lots : DefAt K mg "_law_lots" (topS 34) ["many"] := at_top c X G 20 26 rfl rfl (fun _ _ _ _ _ _ us hl => match us, hl with | [_], _ => rfl)
  have D__law_split : DefAt K mg "_law_split" (topS 35) ["table", "lot"] := at_top c X G 21 27 rfl rfl (fun _ _ _ _ _ _ us hl => match us, hl with | [_, _], _ => rfl)
  have D__law_pivot : DefAt K mg "_law_pivot" (topS 36) ["table", "i", "j"] := at_top c X G 22 28 rfl rfl (fun _ _ _ _ _ _ us hl => match us, hl with | [_, _, _], _ => rfl)
  have D__law_places : DefAt K mg "_law_places" (topS 37) ["table"] := at_top c X G 23 29 rfl rfl (fun _ _ _ _ _ _ us hl => match us, hl with | [_], _ => rfl)
  have D__law_signed : DefAt K mg "_law_signed" (topS 38) ["pen", "table"] := at_top c X G 24 30 rfl rfl (fun _ _ _ _ _ _ us hl => match us, hl with | [_, _], _ => rfl)
  have D__law_tree : DefAt K mg "_law_tree" (topS 39) ["pen", "many"] := at_top c X G 25 31 rfl rfl (fun _ _ _ _ _ _ us hl => match us, hl with | [_, _], _ => rfl)
  have D__law_way : DefAt K mg "_law_way" (topS 40) ["ties", "one", "two"] := at_top c X G 26 32 rfl rfl (fun _ _ _ _ _ _ us hl => match us, hl with | [_, _, _], _ => rfl)
  have D__law_web : DefAt K mg "_law_web" (topS 41) ["pen", "tall", "wide"] := at_top c X G 27 33 rfl rfl (fun _ _ _ _ _ _ us hl => match us, hl with | [_, _, _], _ => rfl)
  have D__law_web_table : DefAt K mg "_law_web_table" (topS 42) ["ties", "others"] := at_top c X G 28 34 rfl rfl (fun _ _ _ _ _ _ us hl => match us, hl with | [_, _], _ => rfl)
  have D__law_five : DefAt K mg "_law_five" (topS 43) [] := at_top c X G 29 35 rfl rfl (fun _ _ _ _ _ _ us hl => match us, hl with | [], _ => rfl)
  have D__law_joined : DefAt K mg "_law_joined" (topS 44) ["pen", "one", "two"] := at_top c X G 30 36 rfl rfl (fun _ _ _ _ _ _ us hl => match us, hl with | [_, _, _], _ => rfl)
  have D__law_whole_table : DefAt K mg "_law_whole_table" (topS 45) ["pen", "tall", "wide"] := at_top c X G 31 37 rfl rfl (fun _ _ _ _ _ _ us hl => match us, hl with | [_, _, _], _ => rfl)
  have D__law_bent : DefAt K mg "_law_bent" (topS 46) ["pen", "table"] := at_top c X G 32 38 rfl rfl (fun _ _ _ _ _ _ us hl => match us, hl with | [_, _], _ => rfl)
  have D__law_rings : DefAt K mg "_law_rings" (topS 48) ["pen"] := at_top c X G 33 39 rfl rfl (fun _ _ _ _ _ _ us hl => match us, hl with | [_], _ => rfl)
  have D__law_is_part : DefAt K mg "_law_is_part" (topS 49) ["one", "other"] := at_top c X G 34 40 rfl rfl (fun _ _ _ _ _ _ us hl => match us, hl with | [_, _], _ => rfl)
  have D__law_least : DefAt K mg "_law_least" (topS 50) ["some"] := at_top c X G 35 41 rfl rfl (fun _ _ _ _ _ _ us hl => match us, hl with | [_], _ => rfl)
  have D__law_greatest : DefAt K mg "_law_greatest" (topS 51) ["some"] := at_top c X G 36 42 rfl rfl (fun _ _ _ _ _ _ us hl => match us, hl with | [_], _ => rfl)
  have F_is_whole := ok_is_whole (P := P) (w := w) (base := base) (ca := caK K) b D_is_whole 
  have F_is_row := ok_is_row (P := P) (w := w) (base := base) (ca := caK K) b D_is_row 
  have F_is_integers_row := ok_is_integers_row (P := P) (w := w) (base := base) (ca := caK K) b D_is_integers_row F_is_whole
  have F_is_integers := ok_is_integers (P := P) (w := w) (base := base) (ca := caK K) b D_is_integers F_is_integers_row
  have F_is_table := ok_is_table (P := P) (w := w) (base := base) (ca := caK K) b D_is_table F_is_integers
  have F_integers_of := ok_integers_of (P := P) (w := w) (base := base) (ca := caK K) b D_integers_of F_is_integers F_is_row T_BadTable
  have F_table_from := ok_table_from (P := P) (w := w) (base := base) (ca := caK K) b D_table_from F_is_table F_integers_of T_BadTable
  have F_sign_rows := ok_sign_rows (P := P) (w := w) (base := base) (ca := caK K) b D_sign_rows 
  have F_lots_of := ok_lots_of (P := P) (w := w) (base := base) (ca := caK K) b D_lots_of 
  have F_is_even := ok_is_even (P := P) (w := w) (base := base) (ca := caK K) b D_is_even 
  have F_is_within := ok_is_within (P := P) (w := w) (base := base) (ca := caK K) b D_is_within 
  have F_least_bad_lots := ok_least_bad_lots (P := P) (w := w) (base := base) (ca := caK K) b D_least_bad_lots F_lots_of F_sign_rows F_is_even F_is_within F_table_from
  have F_greatest_whole_lots := ok_greatest_whole_lots (P := P) (w := w) (base := base) (ca := caK K) b D_greatest_whole_lots F_lots_of F_is_within F_least_bad_lots F_table_from
  have F__law_draw := ok__law_draw (P := P) (w := w) (base := base) (ca := caK K) b D__law_draw 
  have F__law_pick := ok__law_pick (P := P) (w := w) (base := base) (ca := caK K) b D__law_pick F__law_draw
  have F__law_shuffled := ok__law_shuffled (P := P) (w := w) (base := base) (ca := caK K) b D__law_shuffled F__law_draw
  have F__law_as_passed := ok__law_as_passed (P := P) (w := w) (base := base) (ca := caK K) b D__law_as_passed F__law_draw
  have F__law_table := ok__law_table (P := P) (w := w) (base := base) (ca := caK K) b D__law_table F__law_draw F__law_pick
  have F__law_turned := ok__law_turned (P := P) (w := w) (base := base) (ca := caK K) b D__law_turned 
  have F__law_dual := ok__law_dual (P := P) (w := w) (base := base) (ca := caK K) b D__law_dual F__law_turned
  have F__law_lots := ok__law_lots (P := P) (w := w) (base := base) (ca := caK K) b D__law_lots 
  have F__law_split := ok__law_split (P := P) (w := w) (base := base) (ca := caK K) b D__law_split 
  have F__law_pivot := ok__law_pivot (P := P) (w := w) (base := base) (ca := caK K) b D__law_pivot 
  have F__law_places := ok__law_places (P := P) (w := w) (base := base) (ca := caK K) b D__law_places 
  have F__law_signed := ok__law_signed (P := P) (w := w) (base := base) (ca := caK K) b D__law_signed F__law_pick F__law_shuffled
  have F__law_tree := ok__law_tree (P := P) (w := w) (base := base) (ca := caK K) b D__law_tree F__law_draw F__law_pick
  have F__law_way := ok__law_way (P := P) (w := w) (base := base) (ca := caK K) b D__law_way 
  have F__law_web := ok__law_web (P := P) (w := w) (base := base) (ca := caK K) b D__law_web F__law_draw F__law_tree
  have F__law_web_table := ok__law_web_table (P := P) (w := w) (base := base) (ca := caK K) b D__law_web_table F__law_turned F__law_way
  have F__law_five := ok__law_five (P := P) (w := w) (base := base) (ca := caK K) b D__law_five 
  have F__law_joined := ok__law_joined (P := P) (w := w) (base := base) (ca := caK K) b D__law_joined F__law_draw
  have F__law_whole_table := ok__law_whole_table (P := P) (w := w) (base := base) (ca := caK K) b D__law_whole_table F__law_signed F__law_draw F__law_pivot F__law_pick F__law_places F__law_five F__law_joined F__law_dual F__law_web_table F__law_web
  have F__law_bent := ok__law_bent (P := P) (w := w) (base := base) (ca := caK K) b D__law_bent F__law_pick F__law_draw
  have F__law_rings := ok__law_rings (P := P) (w := w) (base := base) (ca := caK K) b D__law_rings F__law_signed F__law_draw F__law_pick
  have F__law_is_part := ok__law_is_part (P := P) (w := w) (base := base) (ca := caK K) b D__law_is_part 
  have F__law_least := ok__law_least (P := P) (w := w) (base := base) (ca := caK K) b D__law_least F__law_is_part
  have F__law_greatest := ok__law_greatest (P := P) (w := w) (base := base) (ca := caK K) b D__law_greatest F__law_is_part
  have F_pen := ok__law_pen (P := P) (w := w) (base := base) b (at_top c X G 37 43 rfl rfl (fun _ _ _ _ _ _ us hl => match us, hl with | [_], _ => rfl))
  have CX := clsX_of (tb := faultTb) ex (by simp [faultTb, exL]) (fun q hq => by
    simp only [faultTb, List.mem_cons, List.not_mem_nil, or_false] at hq
    rcases hq with rfl | rfl | rfl | rfl | rfl
    · exact He.glo_ok X G (c.fact 1 (f := .glo "BadTable") rfl)
    · exact He.glo_ok X G (c.fact 2 (f := .glo "BadNumber") rfl)
    · exact He.glo_ok X G (c.fact 3 (f := .glo "BadRow") rfl)
    · exact He.glo_ok X G (c.fact 4 (f := .glo "BadWish") rfl)
    · exact He.glo_ok X G (c.fact 5 (f := .glo "Unlike") rfl))
  have FF := ok__law_fault (P := P) (w := w) (base := base) (j := 7) CX (at_top c X G 38 44 rfl rfl (fun _ _ _ _ _ _ us hl => match us, hl with | [_], _ => rfl))
  exact ok_law b F hc TB F_pen FF F__law_pick F__law_greatest F_greatest_whole_lots F_least_bad_lots F__law_is_part F__law_least F__law_split F__law_lots F__law_as_passed F__law_draw F__law_bent F__law_whole_table F__law_rings F__law_table LT
end Z
end
section
set_option linter.all false
set_option maxRecDepth 100000
set_option maxHeartbeats 8000000
/-! KD: the head, the end; printed. -/
namespace Z
open PySem PySem.Spec PyProof.Rows L2 LamX NdefX
/-! ### the head -/
abbrev RWL : PySem.W.OpenLaw := PySem.Challenge.rw_wholecorners_k80_least_bad_and_greatest
abbrev HR : PySem.W.OpenRow := PySem.W.OpenLaw.row RWL
def exK (K : PySem.W.Frag) : Bool := exsB "CornerError" exL K
def hookL : PySem.W.Hook := hookY 4 faL fnL [("law", none)] exK
def obL (s : PySem.W.SharedT) : hookL.α := obsY 4 faL fnL [("law", none)] exK (HandSHeadRun.getT s)
theorem obL_eq (s : PySem.W.SharedT) : obL s = hookL.obs s.abs := obsY_eq (HandSHeadRun.getT_eq s)
theorem runL (w : World) : HandSHeadRun.RunEq HR (PySem.W.view HR.prog [52]) hookL obL 6000 looseL w := by
  intro os
  kernel_rfl
end Z
open PySem PySem.W PySem.Calls PyProof.Rows
theorem Z.law_holds (LT : Z.LawTrue Z.N_law.length Z.b_law) : PySem.Challenge.rw_wholecorners_k80_least_bad_and_greatest.Holds := by
  w_on; o_law
  refine HandSHeadRun.head_any (r := OpenLaw.row PySem.Challenge.rw_wholecorners_k80_least_bad_and_greatest) (q := view (OpenLaw.row PySem.Challenge.rw_wholecorners_k80_least_bad_and_greatest).prog [52]) (H := Z.hookL) (ob := Z.obL) (M := 6000) (loose := Z.looseL) (d := HandSHeadRun.topDef (OpenLaw.row PySem.Challenge.rw_wholecorners_k80_least_bad_and_greatest).prog 52) (kwd := []) Z.obL_eq
    (by kernel_rfl) (fun s => by kernel_rfl) Z.runL (by kernel_rfl) (by kernel_rfl) (by kernel_rfl) (by rfl) (by first | assumption | decide +kernel) (by decide +kernel) ⟨rfl, rfl, rfl, rfl, rfl, by decide +kernel⟩ ?hw ?hc
  case hw => w_witness2
  case hc =>
    refine Z.walkG (l := PySem.Challenge.rw_wholecorners_k80_least_bad_and_greatest) (n := 63) (k := 10) (x := "script") rfl (by decide) (by kernel_rfl) ⟨rfl, by decide, by decide⟩ ?F
    intro w mg fa h Y G hmg0
    obtain ⟨K, KX, c⟩ := Y
    have hmg : mg ("law" : PySem.Str) = some (.ref fa) := by
      have e : (HandSHeadRun.topDef (OpenLaw.row PySem.Challenge.rw_wholecorners_k80_least_bad_and_greatest).prog 52).name = ("law" : PySem.Str) := by kernel_rfl
      rw [← e]
      exact hmg0
    obtain ⟨fd, hb, hF⟩ := Z.all_facts (P := (PySem.Challenge.rw_wholecorners_k80_least_bad_and_greatest).prog) (w := w) LT KX G hmg c.t.d c.more
    exact ⟨K, _, _, fd, Z.spLaw K (He.cT K ("law", none)).2, KX, c.empty ("law", none) (by simp), c.out ("law", none) (by simp), PySem.W.codeHd_of_K KX (c.hd ("law", none) (by simp)), hb, fun H s a ns hl hT hS => ⟨a, ns, rfl, hS, hl, hT, fun _ => rfl⟩, fun base k1 k2 k3 => hF base _ k1 k2 k3⟩
end
section
/-! M1: least things of a kind, gathered by size. Plain Lean, no program in sight. -/
namespace M
variable {α : Type} [DecidableEq α]
/-- what the program does: a thing that has a gathered one within is passed over -/
def gather (sub : α → α → Bool) (bad : α → Bool) : List α → List α → List α
  | out, [] => out
  | out, x :: r => gather sub bad (if (out.any fun y => sub y x) = true then out else if bad x = true then out ++ [x] else out) r
/-- what the law asks -/
def least (sub : α → α → Bool) (some : List α) : List α := some.filter fun x => !some.any fun y => decide (y ≠ x) && sub y x
/-- sub is an order, and what lies within another one comes ahead of it -/
structure Ahead (sub : α → α → Bool) (l : List α) : Prop where
  refl : ∀ x, sub x x = true
  trans : ∀ x y z, sub x y = true → sub y z = true → sub x z = true
  pre : ∀ a b x y, l = a ++ x :: b → y ∈ l → y ≠ x → sub y x = true → y ∈ a
  nd : l.Nodup
theorem gather_least {sub : α → α → Bool} {bad : α → Bool} {l : List α} (A : Ahead sub l) :
    ∀ (b a out : List α), l = a ++ b → out = a.filter (fun x => bad x && !l.any fun y => bad y && (decide (y ≠ x) && sub y x)) → (∀ y ∈ a, bad y = true → ∃ z ∈ out, sub z y = true) →
      gather sub bad out b = l.filter (fun x => bad x && !l.any fun y => bad y && (decide (y ≠ x) && sub y x))
  | [], a, out, e, ho, _ => by
    rw [List.append_nil] at e
    rw [gather, ho, e]
  | x :: r, a, out, e, ho, hc => by
    have mem : ∀ z ∈ out, z ∈ a ∧ bad z = true := fun z hz => by
      rw [ho, List.mem_filter] at hz
      have q := hz.2
      simp only [Bool.and_eq_true] at q
      exact ⟨hz.1, q.1⟩
    have xa : x ∉ a := fun h => by
      have nd := A.nd
      rw [e] at nd
      exact (List.nodup_append.mp nd).2.2 x h x List.mem_cons_self rfl
    have inl : ∀ y ∈ a, y ∈ l := fun y hy => by rw [e]; exact List.mem_append_left _ hy
    have e2 : l = (a ++ [x]) ++ r := by rw [e]; simp
    -- an earlier one within x
    have key : (out.any fun y => sub y x) = true ↔ (l.any fun y => bad y && (decide (y ≠ x) && sub y x)) = true := by
      simp only [List.any_eq_true, Bool.and_eq_true, decide_eq_true_eq]
      constructor
      · rintro ⟨z, hz, hs⟩
        exact ⟨z, inl z (mem z hz).1, (mem z hz).2, fun q => xa (q ▸ (mem z hz).1), hs⟩
      · rintro ⟨y, hy, hb, hn, hs⟩
        obtain ⟨z, hz, hzs⟩ := hc y (A.pre a r x y e hy hn hs) hb
        exact ⟨z, hz, A.trans z y x hzs hs⟩
    rw [gather]
    by_cases c : (out.any fun y => sub y x) = true
    · rw [if_pos c]
      refine gather_least A r (a ++ [x]) out e2 ?_ fun y hy hb => ?_
      · rw [List.filter_append, ← ho, List.filter_cons, key.mp c]
        simp
      · rcases List.mem_append.mp hy with h | h
        · exact hc y h hb
        · rw [List.mem_singleton.mp h]
          obtain ⟨z, hz, hs⟩ := List.any_eq_true.mp c
          exact ⟨z, hz, hs⟩
    · have c' : (l.any fun y => bad y && (decide (y ≠ x) && sub y x)) = false := by
        cases q : (l.any fun y => bad y && (decide (y ≠ x) && sub y x)) with
        | false => rfl
        | true => exact absurd (key.mpr q) c
      rw [if_neg c]
      by_cases hb : bad x = true
      · rw [if_pos hb]
        refine gather_least A r (a ++ [x]) (out ++ [x]) e2 ?_ fun y hy hby => ?_
        · rw [List.filter_append, ← ho, List.filter_cons, c', hb]
          simp
        · rcases List.mem_append.mp hy with h | h
          · obtain ⟨z, hz, hs⟩ := hc y h hby
            exact ⟨z, List.mem_append_left _ hz, hs⟩
          · rw [List.mem_singleton.mp h]
            exact ⟨x, List.mem_append_right _ List.mem_cons_self, A.refl x⟩
      · rw [if_neg hb]
        refine gather_least A r (a ++ [x]) out e2 ?_ fun y hy hby => ?_
        · rw [List.filter_append, ← ho, List.filter_cons, Bool.eq_false_iff.mpr hb]
          simp
        · rcases List.mem_append.mp hy with h | h
          · exact hc y h hby
          · rw [List.mem_singleton.mp h] at hby
            exact absurd hby hb
/-- the program's least ones are the law's -/
theorem gather_is_least {sub : α → α → Bool} {bad : α → Bool} {l : List α} (A : Ahead sub l) : gather sub bad [] l = least sub (l.filter bad) := by
  rw [gather_least A l [] [] rfl rfl (fun y hy => by cases hy)]
  unfold least
  rw [List.filter_filter]
  refine List.filter_congr fun x _ => ?_
  rw [List.any_filter]
  exact Bool.and_comm _ _
end M
end
section
/-! M2: tables whose pivots keep to -1, 0, 1. Plain Lean, no program in sight. -/
namespace M

/-! ### sums -/
def sum : Nat → (Nat → Int) → Int
  | 0, _ => 0
  | n + 1, f => sum n f + f n
section
variable {n m : Nat} {f g : Nat → Int}
theorem sum_congr (h : ∀ i, i < n → f i = g i) : sum n f = sum n g := by
  induction n with
  | zero => rfl
  | succ n ih => rw [sum, sum, ih fun i hi => h i (by omega), h n (by omega)]
theorem sum_add : sum n (fun i => f i + g i) = sum n f + sum n g := by
  induction n with
  | zero => rfl
  | succ n ih => rw [sum, sum, sum, ih]; omega
theorem sum_mul (c : Int) : sum n (fun i => c * f i) = c * sum n f := by
  induction n with
  | zero => simp [sum]
  | succ n ih => rw [sum, sum, ih, Int.mul_add]
theorem sum_zero (h : ∀ i, i < n → f i = 0) : sum n f = 0 := by
  induction n with
  | zero => rfl
  | succ n ih => rw [sum, ih fun i hi => h i (by omega), h n (by omega)]; rfl
theorem sum_split {i : Nat} (hi : i < n) : sum n f = f i + sum n (fun k => if k = i then 0 else f k) := by
  induction n with
  | zero => omega
  | succ n ih =>
    rw [sum, sum]
    by_cases e : i = n
    · subst e
      rw [if_pos rfl, sum_congr (g := f) fun k hk => if_neg (by omega)]
      omega
    · rw [ih (by omega), if_neg (by omega)]
      omega
theorem sum_single {i : Nat} (hi : i < n) (h : ∀ k, k < n → k ≠ i → f k = 0) : sum n f = f i := by
  rw [sum_split hi, sum_zero, Int.add_zero]
  intro k hk
  by_cases e : k = i
  · rw [if_pos e]
  · rw [if_neg e]; exact h k hk e
theorem sum_append : sum (n + m) f = sum n f + sum m (fun k => f (n + k)) := by
  induction m with
  | zero => simp [sum]
  | succ m ih => rw [← Nat.add_assoc, sum, sum, ih]; omega
end

abbrev Tb := Nat → Nat → Int
def V3 (z : Int) : Prop := z = -1 ∨ z = 0 ∨ z = 1
theorem V3.neg {z : Int} (h : V3 z) : V3 (-z) := by unfold V3 at *; omega
theorem V3.mul {z w : Int} (h : V3 z) (k : V3 w) : V3 (z * w) := by
  unfold V3 at *
  rcases h with rfl | rfl | rfl <;> omega
theorem V3.one {z : Int} (h : V3 z) (n : z ≠ 0) : z = 1 ∨ z = -1 := by unfold V3 at *; omega
/-- the columns' numbers of a mixture of rows -/
def yv (m : Nat) (T : Tb) (x : Nat → Int) (j : Nat) : Int := sum m fun i => x i * T i j
/-- whole numbers that stand lie about rows of -1, 0, 1 -/
def Pp (m n : Nat) (T : Tb) : Prop := ∀ x : Nat → Int, (∃ i, i < m ∧ x i ≠ 0) → ∃ z : Nat → Int, (∃ i, i < m ∧ z i ≠ 0) ∧
  (∀ i, i < m → V3 (z i) ∧ (x i = 0 → z i = 0)) ∧ ∀ j, j < n → V3 (yv m T z j) ∧ (yv m T x j = 0 → yv m T z j = 0)
def Ent (m n : Nat) (T : Tb) : Prop := ∀ i j, i < m → j < n → V3 (T i j)
def pvt (T : Tb) (i j : Nat) : Tb := fun k l => if k = i then (if l = j then T i j else T i j * T i l) else (if l = j then -(T i j * T k j) else T k l - T i j * T k j * T i l)
def Rn (m n : Nat) : Nat → Tb → Prop
  | 0, T => Ent m n T
  | k + 1, T => Ent m n T ∧ ∀ i j, i < m → j < n → T i j ≠ 0 → Rn m n k (pvt T i j)
def dl (T : Tb) : Tb := fun j i => -T i j

section
variable {m n : Nat} {T : Tb}
theorem yv_unit {k j : Nat} (hk : k < m) : yv m T (fun i => if i = k then 1 else 0) j = T k j := by
  unfold yv
  rw [sum_single hk fun i _ hne => by simp [hne]]
  simp
theorem yv_only {x : Nat → Int} {k j : Nat} (hk : k < m) (h : ∀ i, i < m → i ≠ k → x i = 0) : yv m T x j = x k * T k j := by
  unfold yv
  rw [sum_single hk fun i hi hne => by rw [h i hi hne, Int.zero_mul]]
theorem Pp.ent (h : Pp m n T) : Ent m n T := fun k j hk hj => by
  obtain ⟨z, ⟨i, hi, hz⟩, h1, h2⟩ := h (fun i => if i = k then 1 else 0) ⟨k, hk, by simp⟩
  have h0 : ∀ i, i < m → i ≠ k → z i = 0 := fun i hi hne => (h1 i hi).2 (by simp [hne])
  have hik : i = k := by
    by_cases e : i = k
    · exact e
    · exact absurd (h0 i hi e) hz
  subst hik
  have e := (h2 j hj).1
  rw [yv_only hi h0] at e
  rcases (h1 i hi).1.one hz with q | q
  · rw [q, Int.one_mul] at e; exact e
  · rw [q, Int.neg_mul, Int.one_mul] at e
    have := e.neg
    rw [Int.neg_neg] at this
    exact this
theorem pvt_pvt {i j : Nat} (ho : T i j = 1 ∨ T i j = -1) : pvt (pvt T i j) i j = T := by
  funext k l
  unfold pvt
  by_cases hk : k = i
  · subst hk
    by_cases hl : l = j
    · subst hl; simp
    · simp only [if_true, if_neg hl]
      rcases ho with o | o <;> rw [o] <;> omega
  · by_cases hl : l = j
    · subst hl
      simp only [if_true, if_neg hk]
      rcases ho with o | o <;> rw [o] <;> omega
    · simp only [if_true, if_neg hk, if_neg hl]
      rcases ho with o | o <;> rw [o] <;> grind
/-- a mixture behind a pivot, seen ahead of it -/
theorem yv_pvt {i j : Nat} (hi : i < m) (ho : T i j = 1 ∨ T i j = -1) (x : Nat → Int) :
    yv m T (fun k => if k = i then yv m (pvt T i j) x j else x k) j = x i ∧ ∀ l, l ≠ j → yv m T (fun k => if k = i then yv m (pvt T i j) x j else x k) l = yv m (pvt T i j) x l := by
  have S : ∀ l, yv m T (fun k => if k = i then yv m (pvt T i j) x j else x k) l = yv m (pvt T i j) x j * T i l + sum m (fun k => if k = i then 0 else x k * T k l) := fun l => by
    unfold yv
    rw [sum_split hi]
    simp only [if_true]
    congr 1
    exact sum_congr fun k _ => by by_cases e : k = i <;> simp [e]
  have A : yv m (pvt T i j) x j = x i * T i j + -(T i j) * sum m (fun k => if k = i then 0 else x k * T k j) := by
    show sum m _ = _
    rw [sum_split hi, ← sum_mul]
    simp only [pvt, if_true]
    congr 1
    exact sum_congr fun k _ => by
      by_cases e : k = i
      · simp [e]
      · simp only [if_neg e]; grind
  have Bq : ∀ l, l ≠ j → yv m (pvt T i j) x l = x i * (T i j * T i l) + (sum m (fun k => if k = i then 0 else x k * T k l) + -(T i j * T i l) * sum m (fun k => if k = i then 0 else x k * T k j)) := fun l hl => by
    show sum m _ = _
    rw [sum_split hi, ← sum_mul, ← sum_add]
    simp only [pvt, if_true, if_neg hl]
    congr 1
    exact sum_congr fun k _ => by
      by_cases e : k = i
      · simp [e]
      · simp only [if_neg e]; grind
  refine ⟨?_, fun l hl => ?_⟩
  · rw [S, A]
    rcases ho with o | o <;> rw [o] <;> omega
  · rw [S, Bq l hl, A]
    rcases ho with o | o <;> rw [o] <;> grind
theorem Pp.pvt (h : Pp m n T) {i j : Nat} (hi : i < m) (hj : j < n) (ho : T i j = 1 ∨ T i j = -1) : Pp m n (pvt T i j) := fun x hx => by
  obtain ⟨e1, e2⟩ := yv_pvt hi ho x
  have hne : ∃ k, k < m ∧ (fun k => if k = i then yv m (M.pvt T i j) x j else x k) k ≠ 0 := by
    obtain ⟨k, hk, hz⟩ := hx
    by_cases e : k = i
    · subst e
      refine Classical.byContradiction fun q => hz ?_
      rw [← e1]
      exact sum_zero fun l hl => by
        have := Classical.byContradiction fun z => q ⟨l, hl, z⟩
        rw [this, Int.zero_mul]
    · exact ⟨k, hk, by simpa [e] using hz⟩
  obtain ⟨z, ⟨a, ha, hza⟩, h1, h2⟩ := h _ hne
  have ho' : M.pvt T i j i j = 1 ∨ M.pvt T i j i j = -1 := by simpa [M.pvt] using ho
  obtain ⟨d1, d2⟩ := yv_pvt hi ho' z
  rw [pvt_pvt ho] at d1 d2
  refine ⟨fun k => if k = i then yv m T z j else z k, ?_, fun k hk => ?_, fun l hl => ?_⟩
  · by_cases e : a = i
    · subst e
      refine Classical.byContradiction fun q => hza ?_
      rw [← d1]
      exact sum_zero fun l hl => by
        have := Classical.byContradiction fun z => q ⟨l, hl, z⟩
        rw [this, Int.zero_mul]
    · exact ⟨a, ha, by simpa [e] using hza⟩
  · by_cases e : k = i
    · subst e
      simp only [if_true]
      refine ⟨(h2 j hj).1, fun q => (h2 j hj).2 ?_⟩
      rw [e1, q]
    · simp only [if_neg e]
      refine ⟨(h1 k hk).1, fun q => (h1 k hk).2 ?_⟩
      simpa [e] using q
  · by_cases e : l = j
    · subst e
      rw [d1]
      refine ⟨(h1 i hi).1, fun q => (h1 i hi).2 ?_⟩
      simpa using q
    · rw [d2 l e]
      refine ⟨(h2 l hl).1, fun q => (h2 l hl).2 ?_⟩
      rw [e2 l e]
      exact q
theorem Pp.rn (k : Nat) : ∀ {T : Tb}, Pp m n T → Rn m n k T := by
  induction k with
  | zero => exact fun h => h.ent
  | succ k ih => exact fun h => ⟨h.ent, fun i j hi hj hz => ih (h.pvt hi hj ((h.ent i j hi hj).one hz))⟩
theorem pvt_dl (i j : Nat) : pvt (dl T) j i = dl (pvt T i j) := by
  funext l k
  simp only [pvt, dl]
  by_cases hl : l = j <;> by_cases hk : k = i <;> simp only [hl, hk, if_true, if_false] <;> grind
theorem Rn.ent {k : Nat} (h : Rn m n k T) : Ent m n T := by
  cases k with
  | zero => exact h
  | succ k => exact h.1
theorem Ent.dl (h : Ent m n T) : Ent n m (dl T) := fun j i hj hi => (h i j hi hj).neg
theorem Rn.dl {k : Nat} : ∀ {T : Tb}, Rn m n k T → Rn n m k (dl T) := by
  induction k with
  | zero => exact fun h => Ent.dl h
  | succ k ih =>
    refine fun {T} h => ⟨Ent.dl h.1, fun j i hj hi hz => ?_⟩
    rw [pvt_dl]
    refine ih (h.2 i j hi hj fun q => hz ?_)
    show -T i j = 0
    rw [q]; rfl
/-- how many of the first ones stand -/
def cnt : Nat → (Nat → Int) → Nat
  | 0, _ => 0
  | n + 1, f => cnt n f + (if f n = 0 then 0 else 1)
theorem cnt_le {m : Nat} {x z : Nat → Int} (h : ∀ i, i < m → x i = 0 → z i = 0) : cnt m z ≤ cnt m x := by
  induction m with
  | zero => exact Nat.le_refl _
  | succ m ih =>
    have := ih fun i hi => h i (by omega)
    have q := h m (by omega)
    unfold cnt
    by_cases e : x m = 0
    · rw [if_pos e, if_pos (q e)]; omega
    · rw [if_neg e]; split <;> omega
theorem cnt_lt {m : Nat} {x z : Nat → Int} {k : Nat} (hk : k < m) (h : ∀ i, i < m → x i = 0 → z i = 0) (h1 : x k ≠ 0) (h2 : z k = 0) : cnt m z < cnt m x := by
  induction m with
  | zero => omega
  | succ m ih =>
    unfold cnt
    by_cases e : k = m
    · subst e
      have := cnt_le (m := k) (x := x) (z := z) fun i hi => h i (by omega)
      rw [if_neg h1, if_pos h2]; omega
    · have := ih (by omega) fun i hi => h i (by omega)
      have q := h m (by omega)
      by_cases e : x m = 0
      · rw [if_pos e, if_pos (q e)]; omega
      · rw [if_neg e]; split <;> omega
theorem rn_pp_aux (N : Nat) : ∀ {T : Tb}, (∀ k, Rn m n k T) → ∀ x : Nat → Int, (∃ i, i < m ∧ x i ≠ 0) → cnt m x ≤ N → ∃ z : Nat → Int, (∃ i, i < m ∧ z i ≠ 0) ∧
    (∀ i, i < m → V3 (z i) ∧ (x i = 0 → z i = 0)) ∧ ∀ j, j < n → V3 (yv m T z j) ∧ (yv m T x j = 0 → yv m T z j = 0) := by
  induction N with
  | zero =>
    intro T _ x ⟨i, hi, hx⟩ hc
    have := cnt_lt (z := fun _ => 0) hi (fun _ _ _ => rfl) hx rfl
    omega
  | succ N ih =>
    intro T h x hx hc
    by_cases q : ∃ i j, i < m ∧ j < n ∧ x i ≠ 0 ∧ yv m T x j = 0 ∧ T i j ≠ 0
    · obtain ⟨i, j, hi, hj, hxi, hy, hT⟩ := q
      have ho := ((h 0).ent i j hi hj).one hT
      have ho' : M.pvt T i j i j = 1 ∨ M.pvt T i j i j = -1 := by simpa [M.pvt] using ho
      obtain ⟨e1, e2⟩ := yv_pvt hi ho' x
      rw [pvt_pvt ho] at e1 e2
      have hne : ∃ k, k < m ∧ (fun k => if k = i then yv m T x j else x k) k ≠ 0 := by
        refine Classical.byContradiction fun q => hxi ?_
        rw [← e1]
        exact sum_zero fun l hl => by
          have := Classical.byContradiction fun z => q ⟨l, hl, z⟩
          rw [this, Int.zero_mul]
      have hlt := cnt_lt (m := m) (x := x) (z := fun k => if k = i then yv m T x j else x k) hi (fun k hk e => by
        by_cases c : k = i
        · simp [c, hy]
        · simpa [c] using e) hxi (by simpa using hy)
      obtain ⟨z, ⟨a, ha, hza⟩, h1, h2⟩ := ih (fun k => (h (k + 1)).2 i j hi hj hT) _ hne (by omega)
      obtain ⟨d1, d2⟩ := yv_pvt hi ho z
      refine ⟨fun k => if k = i then yv m (M.pvt T i j) z j else z k, ?_, fun k hk => ?_, fun l hl => ?_⟩
      · refine Classical.byContradiction fun q => hza ?_
        by_cases e : a = i
        · subst e
          rw [← d1]
          exact sum_zero fun l hl => by
            have := Classical.byContradiction fun z => q ⟨l, hl, z⟩
            rw [this, Int.zero_mul]
        · exact Classical.byContradiction fun z => q ⟨a, ha, by simpa [e] using z⟩
      · by_cases e : k = i
        · subst e
          simp only [if_true]
          exact ⟨(h2 j hj).1, fun w => absurd w hxi⟩
        · simp only [if_neg e]
          exact ⟨(h1 k hk).1, fun w => (h1 k hk).2 (by simpa [e] using w)⟩
      · by_cases e : l = j
        · subst e
          rw [d1]
          refine ⟨(h1 i hi).1, fun w => (h1 i hi).2 ?_⟩
          simpa using w
        · rw [d2 l e]
          refine ⟨(h2 l hl).1, fun w => (h2 l hl).2 ?_⟩
          rw [e2 l e]
          exact w
    · obtain ⟨i, hi, hxi⟩ := hx
      refine ⟨fun k => if k = i then 1 else 0, ⟨i, hi, by simp⟩, fun k hk => ?_, fun j hj => ?_⟩
      · by_cases e : k = i
        · subst e
          simp only [if_true]
          exact ⟨.inr (.inr rfl), fun w => absurd w hxi⟩
        · simp only [if_neg e]
          exact ⟨.inr (.inl rfl), fun _ => trivial⟩
      · rw [yv_unit hi]
        refine ⟨(h 0).ent i j hi hj, fun w => Classical.byContradiction fun z => q ⟨i, j, hi, hj, hxi, w, z⟩⟩
theorem rn_pp (h : ∀ k, Rn m n k T) : Pp m n T := fun x hx => rn_pp_aux (cnt m x) h x hx (Nat.le_refl _)
theorem Pp.dl (h : Pp m n T) : Pp n m (dl T) := rn_pp fun k => (h.rn k).dl
end

theorem nlt {a b : Nat} : (a + b < a) = False := eq_false (by omega)
/-! ### two tables joined -/
def jn (m1 n1 : Nat) (A B : Tb) (a b : Nat → Int) : Tb := fun k c => if k < m1 then (if c < n1 then A k c else a k * b (c - n1)) else (if c < n1 then 0 else B (k - m1) (c - n1))
section
variable {m1 m2 n1 n2 : Nat} {A B : Tb} {a b : Nat → Int}
theorem jn_left {x : Nat → Int} {c : Nat} (hc : c < n1) : yv (m1 + m2) (jn m1 n1 A B a b) x c = yv m1 A x c := by
  unfold yv
  rw [sum_append, sum_zero (n := m2) fun k _ => by simp [jn, hc, nlt], Int.add_zero]
  exact sum_congr fun k hk => by simp [jn, hk, hc]
theorem jn_right {x : Nat → Int} {c : Nat} (hc : n1 ≤ c) : yv (m1 + m2) (jn m1 n1 A B a b) x c = sum m1 (fun k => x k * a k) * b (c - n1) + yv m2 B (fun k => x (m1 + k)) (c - n1) := by
  have hc' : ¬c < n1 := by omega
  unfold yv
  rw [sum_append]
  congr 1
  · rw [Int.mul_comm, ← sum_mul]
    exact sum_congr fun k hk => by simp only [jn, if_pos hk, if_neg hc']; grind
  · exact sum_congr fun k hk => by simp [jn, hc', nlt]
theorem yv_add {m : Nat} {T : Tb} {x : Nat → Int} {t : Int} {i c : Nat} (hi : i < m) : yv m T (fun k => if k = i then x k + t else x k) c = yv m T x c + t * T i c := by
  unfold yv
  rw [sum_split hi, sum_split (f := fun k => x k * T k c) hi]
  simp only [if_true]
  have e : sum m (fun k => if k = i then 0 else (if k = i then x k + t else x k) * T k c) = sum m (fun k => if k = i then 0 else x k * T k c) := sum_congr fun k _ => by by_cases e : k = i <;> simp [e]
  rw [e]
  grind
/-- side by side -/
theorem Pp.beside (hA : Pp m1 n1 A) (hB : Pp m2 n2 B) (h0 : ∀ k, k < m1 → a k = 0) : Pp (m1 + m2) (n1 + n2) (jn m1 n1 A B a b) := fun x hx => by
  have ha : ∀ z : Nat → Int, sum m1 (fun k => z k * a k) = 0 := fun z => sum_zero fun k hk => by rw [h0 k hk, Int.mul_zero]
  by_cases q : ∃ i, i < m1 ∧ x i ≠ 0
  · obtain ⟨z, ⟨i, hi, hz⟩, h1, h2⟩ := hA x q
    refine ⟨fun k => if k < m1 then z k else 0, ⟨i, by omega, by simpa [hi] using hz⟩, fun k hk => ?_, fun c hc => ?_⟩
    · by_cases e : k < m1
      · simp only [if_pos e]; exact h1 k e
      · simp only [if_neg e]; exact ⟨.inr (.inl rfl), fun _ => trivial⟩
    · by_cases e : c < n1
      · rw [jn_left e, jn_left e]
        have : yv m1 A (fun k => if k < m1 then z k else 0) c = yv m1 A z c := sum_congr fun k hk => by simp [hk]
        rw [this]
        exact h2 c e
      · rw [jn_right (by omega), ha, Int.zero_mul, Int.zero_add]
        have : yv m2 B (fun k => if m1 + k < m1 then z (m1 + k) else 0) (c - n1) = 0 := sum_zero fun k hk => by simp [nlt]
        rw [this]
        exact ⟨.inr (.inl rfl), fun _ => rfl⟩
  · have hx2 : ∃ i, i < m2 ∧ (fun k => x (m1 + k)) i ≠ 0 := by
      obtain ⟨i, hi, hz⟩ := hx
      by_cases e : i < m1
      · exact absurd ⟨i, e, hz⟩ q
      · exact ⟨i - m1, by omega, by simpa [show m1 + (i - m1) = i by omega] using hz⟩
    obtain ⟨z, ⟨i, hi, hz⟩, h1, h2⟩ := hB _ hx2
    refine ⟨fun k => if k < m1 then 0 else z (k - m1), ⟨m1 + i, by omega, by simpa [nlt] using hz⟩, fun k hk => ?_, fun c hc => ?_⟩
    · by_cases e : k < m1
      · simp only [if_pos e]; exact ⟨.inr (.inl rfl), fun _ => trivial⟩
      · simp only [if_neg e]
        have := h1 (k - m1) (by omega)
        simpa [show m1 + (k - m1) = k by omega] using this
    · by_cases e : c < n1
      · rw [jn_left e, jn_left e]
        have : yv m1 A (fun k => if k < m1 then 0 else z (k - m1)) c = 0 := sum_zero fun k hk => by simp [hk]
        rw [this]
        exact ⟨.inr (.inl rfl), fun _ => rfl⟩
      · rw [jn_right (by omega), jn_right (by omega), ha, ha, Int.zero_mul, Int.zero_add, Int.zero_add]
        have : yv m2 B (fun k => if m1 + k < m1 then 0 else z (m1 + k - m1)) (c - n1) = yv m2 B z (c - n1) := sum_congr fun k hk => by simp [nlt]
        rw [this]
        exact h2 _ (by omega)
/-- with a product in the corner -/
theorem Pp.joined (hA : Pp m1 n1 A) (hB : Pp m2 n2 B) {i j : Nat} (hi : i < m2) (hj : j < n1) (ha : ∀ k, k < m1 → a k = A k j) (hb : ∀ c, c < n2 → b c = B i c) : Pp (m1 + m2) (n1 + n2) (jn m1 n1 A B a b) := fun x hx => by
  have hs : ∀ z : Nat → Int, sum m1 (fun k => z k * a k) = yv m1 A z j := fun z => sum_congr fun k hk => by rw [ha k hk]
  -- the right part's own mixture
  have right : ∀ (z : Nat → Int) (c : Nat), n1 ≤ c → c < n1 + n2 → yv (m1 + m2) (jn m1 n1 A B a b) z c = yv m2 B (fun k => if k = i then z (m1 + k) + yv m1 A z j else z (m1 + k)) (c - n1) := fun z c h1 h2 => by
    rw [jn_right h1, hs, yv_add hi, hb _ (by omega)]
    omega
  -- two parts put together
  have join : ∀ (z : Nat → Int) (w : Nat → Int), (∀ k, k < m1 → V3 (z k) ∧ (x k = 0 → z k = 0)) → (∀ c, c < n1 → V3 (yv m1 A z c) ∧ (yv m1 A x c = 0 → yv m1 A z c = 0)) →
      (∀ k, k < m2 → k ≠ i → V3 (w k) ∧ (x (m1 + k) = 0 → w k = 0)) → (V3 (w i - yv m1 A z j) ∧ (x (m1 + i) = 0 → w i - yv m1 A z j = 0)) →
      (∀ c, c < n2 → V3 (yv m2 B w c) ∧ (yv m2 B (fun k => if k = i then x (m1 + k) + yv m1 A x j else x (m1 + k)) c = 0 → yv m2 B w c = 0)) →
      ((∃ k, k < m1 ∧ z k ≠ 0) ∨ ((∃ k, k < m2 ∧ w k ≠ 0) ∧ ∀ k, k < m1 → z k = 0)) →
      ∃ u : Nat → Int, (∃ k, k < m1 + m2 ∧ u k ≠ 0) ∧ (∀ k, k < m1 + m2 → V3 (u k) ∧ (x k = 0 → u k = 0)) ∧ ∀ c, c < n1 + n2 → V3 (yv (m1 + m2) (jn m1 n1 A B a b) u c) ∧ (yv (m1 + m2) (jn m1 n1 A B a b) x c = 0 → yv (m1 + m2) (jn m1 n1 A B a b) u c = 0) := by
    intro z w p1 p2 p3 p4 p5 p6
    let u : Nat → Int := fun k => if k < m1 then z k else if k = m1 + i then w i - yv m1 A z j else w (k - m1)
    have u1 : ∀ k, k < m1 → u k = z k := fun k hk => if_pos hk
    have ui : u (m1 + i) = w i - yv m1 A z j := by simp [u, nlt]
    have u2 : ∀ k, k ≠ i → u (m1 + k) = w k := fun k hk => by
      have : ¬(m1 + k = m1 + i) := by omega
      simp [u, hk, nlt]
    have eA : ∀ c, yv m1 A u c = yv m1 A z c := fun c => sum_congr fun k hk => by rw [u1 k hk]
    have eB : ∀ c, yv m2 B (fun k => if k = i then u (m1 + k) + yv m1 A u j else u (m1 + k)) c = yv m2 B w c := fun c => sum_congr fun k hk => by
      by_cases e : k = i
      · subst e
        simp only [if_true]
        rw [ui, eA, Int.sub_add_cancel]
      · simp only [if_neg e]
        rw [u2 k e]
    refine ⟨u, ?_, fun k hk => ?_, fun c hc => ?_⟩
    · rcases p6 with ⟨k, hk, hz⟩ | ⟨⟨k, hk, hw⟩, hz⟩
      · exact ⟨k, by omega, by rw [u1 k hk]; exact hz⟩
      · by_cases e : k = i
        · subst e
          refine ⟨m1 + k, by omega, ?_⟩
          rw [ui]
          have : yv m1 A z j = 0 := sum_zero fun l hl => by rw [hz l hl, Int.zero_mul]
          rw [this, Int.sub_zero]
          exact hw
        · exact ⟨m1 + k, by omega, by rw [u2 k e]; exact hw⟩
    · by_cases e : k < m1
      · rw [u1 k e]; exact p1 k e
      · obtain ⟨l, rfl⟩ : ∃ l, k = m1 + l := ⟨k - m1, by omega⟩
        by_cases e2 : l = i
        · subst e2
          rw [ui]; exact p4
        · rw [u2 l e2]; exact p3 l (by omega) e2
    · by_cases e : c < n1
      · rw [jn_left e, jn_left e, eA]; exact p2 c e
      · rw [right _ c (by omega) hc, right _ c (by omega) hc, eB]
        exact p5 _ (by omega)
  by_cases q : ∃ k, k < m1 ∧ x k ≠ 0
  · obtain ⟨z, hz, h1, h2⟩ := hA x q
    by_cases hzj : yv m1 A z j = 0
    · -- the left part alone
      exact join z (fun _ => 0) h1 h2 (fun _ _ _ => ⟨.inr (.inl rfl), fun _ => rfl⟩) (by rw [hzj]; exact ⟨.inr (.inl rfl), fun _ => rfl⟩) (fun c hc => by
        have : yv m2 B (fun _ => 0) c = 0 := sum_zero fun k _ => Int.zero_mul _
        rw [this]; exact ⟨.inr (.inl rfl), fun _ => rfl⟩) (.inl hz)
    · by_cases hxi : x (m1 + i) = 0
      · have hyx : yv m1 A x j ≠ 0 := fun e => hzj ((h2 j hj).2 e)
        obtain ⟨w, hw, g1, g2⟩ := hB (fun k => if k = i then x (m1 + k) + yv m1 A x j else x (m1 + k)) ⟨i, hi, by simpa [hxi] using hyx⟩
        by_cases hwi : w i = 0
        · -- the right part alone
          have z0 : yv m1 A (fun _ => 0) j = 0 := sum_zero fun k _ => Int.zero_mul _
          exact join (fun _ => 0) w (fun _ _ => ⟨.inr (.inl rfl), fun _ => rfl⟩) (fun c hc => by
            have : yv m1 A (fun _ => 0) c = 0 := sum_zero fun k _ => Int.zero_mul _
            rw [this]; exact ⟨.inr (.inl rfl), fun _ => rfl⟩) (fun k hk hne => by
            have := g1 k hk
            simpa [hne] using this) (by rw [z0, hwi]; exact ⟨.inr (.inl rfl), fun _ => rfl⟩) g2 (.inr ⟨hw, fun _ _ => rfl⟩)
        · -- both, so that they meet
          have o1 := (h2 j hj).1.one hzj
          have o2 := (g1 i hi).1.one hwi
          let t : Int := w i * yv m1 A z j
          have ht : V3 t := (g1 i hi).1.mul (h2 j hj).1
          have htj : w i - t * yv m1 A z j = 0 := by
            show w i - w i * yv m1 A z j * yv m1 A z j = 0
            rcases o1 with o | o <;> rw [o] <;> omega
          have ez : ∀ c, yv m1 A (fun k => t * z k) c = t * yv m1 A z c := fun c => by
            unfold yv
            rw [← sum_mul]
            exact sum_congr fun k _ => Int.mul_assoc _ _ _
          refine join (fun k => t * z k) w (fun k hk => ⟨ht.mul (h1 k hk).1, fun e => by show t * z k = 0; rw [(h1 k hk).2 e, Int.mul_zero]⟩) (fun c hc => by
            rw [ez]
            exact ⟨ht.mul (h2 c hc).1, fun e => by rw [(h2 c hc).2 e, Int.mul_zero]⟩) (fun k hk hne => by
            have := g1 k hk
            simpa [hne] using this) (by rw [ez, htj]; exact ⟨.inr (.inl rfl), fun _ => rfl⟩) g2 (.inl ?_)
          obtain ⟨k, hk, hzk⟩ := hz
          refine ⟨k, hk, fun e => ?_⟩
          rcases Int.mul_eq_zero.mp e with e | e
          · rcases Int.mul_eq_zero.mp e with e | e
            · exact hwi e
            · exact hzj e
          · exact hzk e
      · -- the left part alone, its meeting number where x stands
        exact join z (fun _ => 0) h1 h2 (fun _ _ _ => ⟨.inr (.inl rfl), fun _ => rfl⟩) ⟨by
          rw [Int.zero_sub]; exact (h2 j hj).1.neg, fun e => absurd e hxi⟩ (fun c hc => by
          have : yv m2 B (fun _ => 0) c = 0 := sum_zero fun k _ => Int.zero_mul _
          rw [this]; exact ⟨.inr (.inl rfl), fun _ => rfl⟩) (.inl hz)
  · have hx0 : ∀ k, k < m1 → x k = 0 := fun k hk => Classical.byContradiction fun e => q ⟨k, hk, e⟩
    have hyx : yv m1 A x j = 0 := sum_zero fun k hk => by rw [hx0 k hk, Int.zero_mul]
    have ew : ∀ k, (if k = i then x (m1 + k) + yv m1 A x j else x (m1 + k)) = x (m1 + k) := fun k => by
      rw [hyx, Int.add_zero]
      split <;> rfl
    obtain ⟨w, hw, g1, g2⟩ := hB (fun k => if k = i then x (m1 + k) + yv m1 A x j else x (m1 + k)) (by
      obtain ⟨k, hk, hz⟩ := hx
      by_cases e : k < m1
      · exact absurd (hx0 k e) hz
      · refine ⟨k - m1, by omega, ?_⟩
        show (if k - m1 = i then x (m1 + (k - m1)) + yv m1 A x j else x (m1 + (k - m1))) ≠ 0
        rw [ew, show m1 + (k - m1) = k by omega]
        exact hz)
    have z0 : ∀ c, yv m1 A (fun _ => 0) c = 0 := fun c => sum_zero fun k _ => Int.zero_mul _
    refine join (fun _ => 0) w (fun _ _ => ⟨.inr (.inl rfl), fun _ => rfl⟩) (fun c hc => by
      rw [z0]; exact ⟨.inr (.inl rfl), fun _ => rfl⟩) (fun k hk hne => by
      have := g1 k hk
      simpa [hne] using this) ?_ g2 (.inr ⟨hw, fun _ _ => rfl⟩)
    rw [z0, Int.sub_zero]
    have := g1 i hi
    simpa [hyx] using this
end

/-! ### webs -/
/-- the ties of a tree: the k-th leads to the place k + 1 -/
def Ties (u v : Nat → Nat) (m : Nat) : Prop := ∀ k, k < m → (u k ≤ k ∧ v k = k + 1) ∨ (v k ≤ k ∧ u k = k + 1)
theorem heights {u v : Nat → Nat} : ∀ {m : Nat}, Ties u v m → ∀ x : Nat → Int, ∃ p : Nat → Int, ∀ k, k < m → p (v k) - p (u k) = x k
  | 0, _, x => ⟨fun _ => 0, fun k hk => by omega⟩
  | m + 1, h, x => by
    obtain ⟨p, hp⟩ := heights (m := m) (fun k hk => h k (by omega)) x
    refine ⟨fun w => if w = m + 1 then (if v m = m + 1 then p (u m) + x m else p (v m) - x m) else p w, fun k hk => ?_⟩
    by_cases e : k = m
    · subst e
      rcases h k (by omega) with ⟨h1, h2⟩ | ⟨h1, h2⟩
      · have hu : ¬u k = k + 1 := by omega
        simp only [h2, hu, if_true, if_false]
        omega
      · have hv : ¬v k = k + 1 := by omega
        simp only [h2, hv, if_true, if_false]
        omega
    · have hu : ¬u k = m + 1 := by have := h k (by omega); omega
      have hv : ¬v k = m + 1 := by have := h k (by omega); omega
      simp only [hu, hv, if_false]
      exact hp k (by omega)
/-- the table of a tree and other ties: the ways by the tree tell all differences of heights -/
theorem web_pp {u v a b : Nat → Nat} {m n : Nat} {W : Tb} (h : Ties u v m) (hW : ∀ (p : Nat → Int) (j : Nat), j < n → sum m (fun i => (p (v i) - p (u i)) * W i j) = p (b j) - p (a j)) : Pp m n W := fun x ⟨k, hk, hx⟩ => by
  obtain ⟨p, hp⟩ := heights h x
  have ey : ∀ j, j < n → yv m W x j = p (b j) - p (a j) := fun j hj => by
    rw [← hW p j hj]
    exact sum_congr fun i hi => by rw [hp i hi]
  have hne : p (v k) ≠ p (u k) := fun e => hx (by rw [← hp k hk, e]; omega)
  let q : Nat → Int := fun w => if max (p (u k)) (p (v k)) ≤ p w then 1 else 0
  have q01 : ∀ w, q w = 0 ∨ q w = 1 := fun w => by
    by_cases c : max (p (u k)) (p (v k)) ≤ p w
    · exact .inr (if_pos c)
    · exact .inl (if_neg c)
  have qe : ∀ w w', p w = p w' → q w = q w' := fun w w' e => by show (if _ then _ else _) = (if _ then _ else _); rw [e]
  have qd : ∀ w w', V3 (q w - q w') ∧ (p w - p w' = 0 → q w - q w' = 0) := fun w w' => ⟨by
    unfold V3
    have := q01 w
    have := q01 w'
    omega, fun e => by rw [qe w w' (by omega)]; omega⟩
  refine ⟨fun i => q (v i) - q (u i), ⟨k, hk, ?_⟩, fun i hi => ?_, fun j hj => ?_⟩
  · rcases Int.lt_or_lt_of_ne hne with c | c
    · have h1 : q (v k) = 0 := if_neg (by omega)
      have h2 : q (u k) = 1 := if_pos (by omega)
      show q (v k) - q (u k) ≠ 0
      rw [h1, h2]; decide
    · have h1 : q (v k) = 1 := if_pos (by omega)
      have h2 : q (u k) = 0 := if_neg (by omega)
      show q (v k) - q (u k) ≠ 0
      rw [h1, h2]; decide
  · rw [← hp i hi]
    exact qd _ _
  · rw [ey j hj, show yv m W (fun i => q (v i) - q (u i)) j = q (b j) - q (a j) from hW q j hj]
    exact qd _ _
end M
end
section
/-! M3: tables of which each lot of rows splits keep to -1, 0, 1 behind all pivots. Plain Lean. -/
namespace M
section
variable {m n : Nat} {T T' : Tb}
theorem yv_congr (h : ∀ i j, i < m → j < n → T i j = T' i j) {x : Nat → Int} {j : Nat} (hj : j < n) : yv m T x j = yv m T' x j := sum_congr fun i hi => by rw [h i j hi hj]
theorem Pp.congr (h : ∀ i j, i < m → j < n → T i j = T' i j) (p : Pp m n T) : Pp m n T' := fun x hx => by
  obtain ⟨z, h1, h2, h3⟩ := p x hx
  refine ⟨z, h1, h2, fun j hj => ?_⟩
  rw [← yv_congr h hj, ← yv_congr h hj]
  exact h3 j hj
theorem Rn.congr {k : Nat} : ∀ {T T' : Tb}, (∀ i j, i < m → j < n → T i j = T' i j) → Rn m n k T → Rn m n k T' := by
  induction k with
  | zero => exact fun h p i j hi hj => by rw [← h i j hi hj]; exact p i j hi hj
  | succ k ih =>
    intro T T' h p
    refine ⟨fun i j hi hj => by rw [← h i j hi hj]; exact p.1 i j hi hj, fun i j hi hj hz => ?_⟩
    refine ih (fun a b ha hb => ?_) (p.2 i j hi hj (by rw [h i j hi hj]; exact hz))
    unfold pvt
    rw [h i j hi hj, h i b hi hb, h a j ha hj, h a b ha hb]
theorem Rn.less {k : Nat} : ∀ {T : Tb}, Rn m n (k + 1) T → Rn m n k T := by
  induction k with
  | zero => exact fun h => h.1
  | succ k ih => exact fun h => ⟨h.1, fun i j hi hj hz => ih (h.2 i j hi hj hz)⟩
/-- a row of numbers has one of -1, 0, 1 beside it, as odd as it is, whose columns keep to -1, 0, 1 -/
def Sp (m n : Nat) (T : Tb) : Prop := ∀ x : Nat → Int, ∃ z : Nat → Int, (∀ i, i < m → V3 (z i) ∧ (z i - x i) % 2 = 0) ∧ ∀ j, j < n → V3 (yv m T z j)
theorem yv_even {x z : Nat → Int} (h : ∀ i, i < m → (z i - x i) % 2 = 0) (j : Nat) : (yv m T z j - yv m T x j) % 2 = 0 := by
  unfold yv
  induction m with
  | zero => rfl
  | succ m ih =>
    rw [sum, sum]
    have h1 := ih fun i hi => h i (by omega)
    have h2 := h m (by omega)
    obtain ⟨c, hc⟩ : ∃ c, z m - x m = 2 * c := ⟨(z m - x m) / 2, by omega⟩
    have e : z m * T m j - x m * T m j = 2 * (c * T m j) := by
      rw [← Int.sub_mul, hc, Int.mul_assoc]
    omega
theorem Sp.ent (h : Sp m n T) : Ent m n T := fun k j hk hj => by
  obtain ⟨z, h1, h2⟩ := h fun i => if i = k then 1 else 0
  have h0 : ∀ i, i < m → i ≠ k → z i = 0 := fun i hi hne => by
    have := h1 i hi
    simp only [hne, if_false] at this
    unfold V3 at this
    omega
  have hz := h1 k hk
  simp only [if_true] at hz
  have e := h2 j hj
  rw [yv_only hk h0] at e
  have : z k = 1 ∨ z k = -1 := by unfold V3 at hz; omega
  rcases this with q | q
  · rw [q, Int.one_mul] at e; exact e
  · rw [q, Int.neg_mul, Int.one_mul] at e
    have := e.neg
    rw [Int.neg_neg] at this
    exact this
theorem Sp.pvt (h : Sp m n T) {i j : Nat} (hi : i < m) (hj : j < n) (ho : T i j = 1 ∨ T i j = -1) : Sp m n (M.pvt T i j) := fun x => by
  obtain ⟨e1, e2⟩ := yv_pvt hi ho x
  obtain ⟨z, h1, h2⟩ := h fun k => if k = i then yv m (M.pvt T i j) x j else x k
  have ho' : M.pvt T i j i j = 1 ∨ M.pvt T i j i j = -1 := by simpa [M.pvt] using ho
  obtain ⟨d1, d2⟩ := yv_pvt hi ho' z
  rw [pvt_pvt ho] at d1 d2
  refine ⟨fun k => if k = i then yv m T z j else z k, fun k hk => ?_, fun l hl => ?_⟩
  · by_cases e : k = i
    · subst e
      simp only [if_true]
      refine ⟨h2 j hj, ?_⟩
      have := yv_even (T := T) (fun a ha => (h1 a ha).2) j
      rw [e1] at this
      exact this
    · simp only [if_neg e]
      have := h1 k hk
      simpa [e] using this
  · by_cases e : l = j
    · subst e
      rw [d1]
      exact (h1 i hi).1
    · rw [d2 l e]
      exact h2 l hl
theorem Sp.rn (k : Nat) : ∀ {T : Tb}, Sp m n T → Rn m n k T := by
  induction k with
  | zero => exact fun h => h.ent
  | succ k ih => exact fun h => ⟨h.ent, fun i j hi hj hz => ih (h.pvt hi hj ((h.ent i j hi hj).one hz))⟩
/-- by lots: each lot has signs -/
theorem sp_of (h : ∀ p : Nat → Bool, ∃ z : Nat → Int, (∀ i, i < m → if p i = true then z i = 1 ∨ z i = -1 else z i = 0) ∧ ∀ j, j < n → V3 (yv m T z j)) : Sp m n T := fun x => by
  obtain ⟨z, h1, h2⟩ := h fun i => decide (x i % 2 = 1)
  refine ⟨z, fun i hi => ?_, h2⟩
  have := h1 i hi
  unfold V3
  by_cases c : x i % 2 = 1
  · simp only [c, decide_true, if_true] at this
    omega
  · simp only [c, decide_false, Bool.false_eq_true, if_false] at this
    omega
end
end M
end
section
set_option linter.all false
set_option maxRecDepth 100000
set_option maxHeartbeats 1000000
/-! NA: mirrors read as plain functions. -/
namespace Z
open PySem PySem.Spec PyProof.Rows L2

/-! ### data -/
def rD (r : List Int) : D := .tuple (r.map PyData.int)
def tD (T : List (List Int)) : D := .tuple (T.map rD)
theorem lay_ints (r : List Int) : PyData.canLayAll0 (r.map PyData.int) = true := by
  induction r with
  | nil => simp [PyData.canLayAll0]
  | cons a r ih => simp [PyData.canLayAll0, PyData.canLay0, ih]
theorem lay_rD (r : List Int) : (rD r).canLay0 = true := by simp [rD, PyData.canLay0, lay_ints]
theorem lay_rDs (T : List (List Int)) : PyData.canLayAll0 (T.map rD) = true := by
  induction T with
  | nil => simp [PyData.canLayAll0]
  | cons a r ih => simp [PyData.canLayAll0, lay_rD, ih]
theorem dep_ints (r : List Int) : PyData.depthAll (r.map PyData.int) = 0 := by
  induction r with
  | nil => simp [PyData.depthAll]
  | cons a r ih => simp [PyData.depthAll, PyData.depth, ih]
theorem dep_rD (r : List Int) : (rD r).depth = 1 := by simp [rD, PyData.depth, dep_ints]
theorem dep_rDs (T : List (List Int)) : PyData.depthAll (T.map rD) ≤ 1 := by
  induction T with
  | nil => simp [PyData.depthAll]
  | cons a r ih =>
    simp only [List.map_cons, PyData.depthAll, dep_rD]
    omega
theorem nod_ints (r : List Int) : PyData.hasDictAll (r.map PyData.int) = false := by
  induction r with
  | nil => simp [PyData.hasDictAll]
  | cons a r ih => simp [PyData.hasDictAll, PyData.hasDict, ih]
theorem nod_rD (r : List Int) : (rD r).hasDict = false := by simp [rD, PyData.hasDict, nod_ints]
theorem nod_rDs (T : List (List Int)) : PyData.hasDictAll (T.map rD) = false := by
  induction T with
  | nil => simp [PyData.hasDictAll]
  | cons a r ih => simp [PyData.hasDictAll, nod_rD, ih]
theorem nod_tD (T : List (List Int)) : (tD T).hasDict = false := by simp [tD, PyData.hasDict, nod_rDs]
theorem sh_int (i : Int) : SeqAt.shaped (.int i) = true := by simp [SeqAt.shaped, PyData.canLay0, PyData.depth]
theorem sh_rD (r : List Int) : SeqAt.shaped (rD r) = true := by simp [SeqAt.shaped, lay_rD, dep_rD]
theorem sh_rDs (T : List (List Int)) : SeqAt.shaped (.list (T.map rD)) = true := by
  have h := dep_rDs T
  unfold SeqAt.shaped
  rw [PyData.canLay0, lay_rDs, PyData.depth]
  exact decide_eq_true (by omega)
theorem sh_ints (r : List Int) : SeqAt.shaped (.list (r.map PyData.int)) = true := by simp [SeqAt.shaped, PyData.canLay0, PyData.depth, lay_ints, dep_ints]
theorem seqOf_rD (r : List Int) : seqOf (.val (rD r)) = some (r.map PyData.int) := rfl
theorem seqOf_tD (T : List (List Int)) : seqOf (.val (tD T)) = some (T.map rD) := rfl

/-! ### parts -/
section
variable {α β : Type} {env env' : Env} {g g' : Pen}
theorem bnd_ok {m : Mir α} {f : α → Mir β} {a : α} (h : m env g = .ok a env' g') : bnd m f env g = f a env' g' := by unfold bnd; rw [h]
theorem var_ok {i : Nat} {d : D} (h : env[i]? = some (some (.val d))) : mVar i env g = .ok (.val d) env g := by
  unfold mVar
  rw [h]
  rfl
theorem pen_ok' {i : Nat} (h : env[i]? = some (some .pen)) : mVar i env g = .ok .pen env g := by
  unfold mVar
  rw [h]
  rfl
theorem op_ok {F : Sl → Sl → Mir Sl} {ma mb : Mir Sl} {x y : D} {r : Res Sl} (h1 : ma env g = .ok (.val x) env g) (h2 : mb env g = .ok (.val y) env g) (h : F (.val x) (.val y) env g = r) : mOp F ma mb env g = r := by
  unfold mOp
  rw [bnd_ok h1]
  show bnd mb _ env g = r
  rw [bnd_ok h2]
  exact h
theorem call_ok {F : List Sl → Mir Sl} {ms : Mir (List Sl)} {l : List Sl} {r : Res Sl} (h1 : ms env g = .ok l env' g') (h : F l env' g' = r) : mCall F ms env g = r := by
  unfold mCall
  rw [bnd_ok h1]
  exact h
theorem cons_ok {m : Mir Sl} {ms : Mir (List Sl)} {d : D} {l : List Sl} {env2 : Env} {g2 : Pen} (h1 : m env g = .ok (.val d) env' g') (h2 : ms env' g' = .ok l env2 g2) : mCons m ms env g = .ok (.val d :: l) env2 g2 := by
  unfold mCons
  rw [bnd_ok h1]
  show bnd ms _ env' g' = _
  rw [bnd_ok h2]
  rfl
theorem fn_ok {mf : FMir} {l : List Sl} {d : Sl} (h : mf l g = .ok d g') : mFn mf l env g = .ok d env g' := by unfold mFn; rw [h]
theorem fz_ol {m : Mir Sl} {xs : List D} (h : m env g = .ok (.ol xs) env' g') : mFz m env g = .ok (.val (.list xs)) env' g' := by
  unfold mFz
  rw [bnd_ok h]
  rfl
/-- a comprehension whose block draws nothing -/
theorem lc_pure {mi : Mir (List D)} {vs : List Nat} {t : Tgt} {mt : Mir Bool} {me : Mir Sl} {γ : Type} {xs : List γ} {φ f : γ → D} {p : γ → Bool} (hi : mi env g = .ok (xs.map φ) env' g')
    (h : ∀ x ∈ xs, ∃ e2 e3, bindT t (φ x) (blankE vs 0 env') = some e2 ∧ mt e2 g' = .ok (p x) e3 g' ∧ (p x = true → ∃ e4, me e3 g' = .ok (.val (f x)) e4 g')) : mLc mi vs t mt me env g = .ok (.ol ((xs.filter p).map f)) env' g' := by
  unfold mLc
  rw [bnd_ok hi]
  have key : ∀ ys : List γ, (∀ x ∈ ys, x ∈ xs) → lcRun t mt me (blankE vs 0 env') (ys.map φ) g' = some ((ys.filter p).map f, g') := fun ys => by
    induction ys with
    | nil => intro _; rfl
    | cons y r ih =>
      intro hs
      obtain ⟨e2, e3, h1, h2, h3⟩ := h y (hs y List.mem_cons_self)
      have ih := ih fun x hx => hs x (List.mem_cons_of_mem _ hx)
      rw [List.map_cons, lcRun, h1]
      simp only [h2]
      cases hp : p y with
      | true =>
        obtain ⟨e4, h4⟩ := h3 hp
        simp only [h4, ih, List.filter_cons, hp, if_true, List.map_cons, Option.map_some]
      | false =>
        simp only [ih, List.filter_cons, hp, Bool.false_eq_true, if_false]
  show (match lcRun t mt me (blankE vs 0 env') (xs.map φ) g' with
    | some (out, g2) => Res.ok (Sl.ol out) env' g2
    | none => Res.bad) = _
  rw [key xs fun _ h => h]
/-- .. without a test -/
theorem lc_map {mi : Mir (List D)} {vs : List Nat} {t : Tgt} {me : Mir Sl} {γ : Type} {xs : List γ} {φ f : γ → D} (hi : mi env g = .ok (xs.map φ) env' g')
    (h : ∀ x ∈ xs, ∃ e2, bindT t (φ x) (blankE vs 0 env') = some e2 ∧ ∃ e4, me e2 g' = .ok (.val (f x)) e4 g') : mLc mi vs t mYes me env g = .ok (.ol (xs.map f)) env' g' := by
  rw [lc_pure (p := fun _ => true) (f := f) hi fun x hx => ?_]
  · rw [List.filter_eq_self.mpr fun _ _ => rfl]
  · obtain ⟨e2, h1, h2⟩ := h x hx
    exact ⟨e2, e2, h1, rfl, fun _ => h2⟩
end

theorem nr {α : Sort u} {a b : α} (h : a = b) : a = b := h
/-! ### how the parts read; for simp -/
section
variable {α β : Type} (env : Env) (g : Pen)
@[simp] theorem bnd_app (m : Mir α) (f : α → Mir β) : bnd m f env g = match m env g with
  | .ok a env' g' => f a env' g'
  | .exc x g' => .exc x g'
  | .bad => .bad := rfl
@[simp] theorem ret_app (a : α) : ret a env g = .ok a env g := rfl
@[simp] theorem bad_app : (bad : Mir α) env g = .bad := rfl
@[simp] theorem mVar_app (i : Nat) : mVar i env g = match env[i]? with
  | some (some sl) => if sl.isTb = true then .bad else .ok sl.fz (if sl.own then env.set i (some sl.fz) else env) g
  | _ => .bad := rfl
@[simp] theorem isTb_val (d : D) : (Sl.val d).isTb = false := rfl
@[simp] theorem isTb_ol (d : List D) : (Sl.ol d).isTb = false := rfl
@[simp] theorem isTb_ok (d : List (Key × D)) : (Sl.ok d).isTb = false := rfl
@[simp] theorem isTb_ot (d : List (List Key × D)) : (Sl.ot d).isTb = false := rfl
@[simp] theorem isTb_pen : Sl.pen.isTb = false := rfl
@[simp] theorem own_val (d : D) : (Sl.val d).own = false := rfl
@[simp] theorem own_pen : Sl.pen.own = false := rfl
@[simp] theorem own_ol (d : List D) : (Sl.ol d).own = true := rfl
@[simp] theorem own_ok (d : List (Key × D)) : (Sl.ok d).own = true := rfl
@[simp] theorem own_ot (d : List (List Key × D)) : (Sl.ot d).own = true := rfl
@[simp] theorem fz_val (d : D) : (Sl.val d).fz = .val d := rfl
@[simp] theorem fz_pen : Sl.pen.fz = .pen := rfl
@[simp] theorem fz_ol' (d : List D) : (Sl.ol d).fz = .val (.list d) := rfl
@[simp] theorem fz_ok' (d : List (Key × D)) : (Sl.ok d).fz = .val (kvD d) := rfl
@[simp] theorem fz_ot' (d : List (List Key × D)) : (Sl.ot d).fz = .val (ktD d) := rfl
@[simp] theorem mFz_app (m : Mir Sl) : mFz m env g = bnd m (fun sl => if sl.isTb = true then bad else ret sl.fz) env g := rfl
@[simp] theorem mC_app (d : D) : mC d env g = .ok (.val d) env g := rfl
@[simp] theorem mNil_app : mNil env g = .ok [] env g := rfl
@[simp] theorem mCons_app (m : Mir Sl) (ms : Mir (List Sl)) : mCons m ms env g = bnd m (fun sl => if sl.own = true then bad else bnd ms fun l => ret (sl :: l)) env g := rfl
@[simp] theorem mTup_app (ms : Mir (List Sl)) : mTup ms env g = bnd ms (fun l => match valsOf l with
  | some ds => if ds.length ≤ 1000 then ret (.val (.tuple ds)) else bad
  | none => bad) env g := nr rfl
@[simp] theorem mLst_app (ms : Mir (List Sl)) : mLst ms env g = bnd ms (fun l => match valsOf l with
  | some ds => if ds.length ≤ 1000 then ret (.ol ds) else bad
  | none => bad) env g := nr rfl
@[simp] theorem valsOf_nil : valsOf [] = some [] := rfl
@[simp] theorem valsOf_cons (d : D) (r : List Sl) : valsOf (.val d :: r) = (match valsOf r with | some ds => some (d :: ds) | none => none) := rfl
@[simp] theorem mOp_app (F : Sl → Sl → Mir Sl) (ma mb : Mir Sl) : mOp F ma mb env g = bnd ma (fun x => if x.own = true then bad else bnd mb fun y => if y.own = true then bad else F x y) env g := rfl
@[simp] theorem mCall_app (F : List Sl → Mir Sl) (ms : Mir (List Sl)) : mCall F ms env g = bnd ms F env g := rfl
@[simp] theorem mFn_app (mf : FMir) (l : List Sl) : mFn mf l env g = match mf l g with
  | .ok sl g' => .ok sl env g'
  | .exc x g' => .exc x g'
  | .bad => .bad := rfl
@[simp] theorem g1_app (f : Sl → Mir Sl) (x : Sl) : g1 f [x] = f x := rfl
@[simp] theorem mTest_app (m : Mir Sl) : mTest m env g = bnd m (fun x => match boolOf x with | some b => ret b | none => bad) env g := rfl
@[simp] theorem boolOf_bool (b : Bool) : boolOf (.val (.bool b)) = some b := rfl
@[simp] theorem mBo_bool (b : Bool) (f : Bool → Mir Sl) : mBo (.val (.bool b)) f = f b := rfl
@[simp] theorem mAnd_app (a b : Mir Sl) : mAnd a b env g = bnd a (fun x => mBo x fun c => if c = true then b else ret (.val (.bool false))) env g := rfl
@[simp] theorem mOr_app (a b : Mir Sl) : mOr a b env g = bnd a (fun x => mBo x fun c => if c = true then ret (.val (.bool true)) else b) env g := rfl
@[simp] theorem mNot_app (a : Mir Sl) : mNot a env g = bnd a (fun x => mBo x fun c => ret (.val (.bool (!c)))) env g := rfl
@[simp] theorem mIfx_app (t : Mir Bool) (a b : Mir Sl) : mIfx t a b env g = bnd t (fun c => if c = true then a else b) env g := rfl
@[simp] theorem mAndB_app (a b : Mir Bool) : mAndB a b env g = bnd a (fun c => if c = true then b else ret false) env g := rfl
@[simp] theorem mOrB_app (a b : Mir Bool) : mOrB a b env g = bnd a (fun c => if c = true then ret true else b) env g := rfl
@[simp] theorem mNotB_app (a : Mir Bool) : mNotB a env g = bnd a (fun c => ret (!c)) env g := rfl
@[simp] theorem mNeg_app (a : Mir Sl) : mNeg a env g = bnd a (fun x => match x with | .val (.int i) => ret (.val (.int (-i))) | _ => bad) env g := rfl
@[simp] theorem sNil_app : sNil env g = .ok .nx env g := rfl
@[simp] theorem sSeq_app (a b : Mir Ctl) : sSeq a b env g = match a env g with
  | .ok .nx e' g' => b e' g'
  | .ok c e' g' => .ok c e' g'
  | .exc x g' => .exc x g'
  | .bad => .bad := by
  unfold sSeq bnd
  cases a env g with
  | bad => rfl
  | exc _ _ => rfl
  | ok c e g => cases c <;> rfl
@[simp] theorem sIf_app (t : Mir Bool) (a b : Mir Ctl) : sIf t a b env g = bnd t (fun c => if c = true then a else b) env g := rfl
@[simp] theorem sRet_app (m : Mir Sl) : sRet m env g = bnd m (fun sl => ret (.rt sl)) env g := rfl
@[simp] theorem sBreak_app : sBreak env g = .ok .bk env g := rfl
@[simp] theorem sCont_app : sCont env g = .ok .ct env g := rfl
@[simp] theorem sExpr_app (m : Mir Sl) : sExpr m env g = bnd m (fun _ => ret .nx) env g := rfl
@[simp] theorem sSet_app (i : Nat) (m : Mir Sl) : sSet i m env g = match m env g with
  | .ok sl e' g' => .ok .nx (e'.set i (some sl)) g'
  | .exc x g' => .exc x g'
  | .bad => .bad := by
  unfold sSet bnd setE
  cases m env g <;> rfl
@[simp] theorem sPar_app (i j : Nat) (a b : Mir Sl) : sPar i j a b env g = bnd a (fun x => bnd b fun y env g => .ok .nx ((env.set i (some x)).set j (some y)) g) env g := rfl
@[simp] theorem sFor_app (mi : Mir (List D)) (t : Tgt) (b : Mir Ctl) : sFor mi t b env g = bnd mi (fun ds => forRun t b ds) env g := rfl
@[simp] theorem itVal_app (m : Mir Sl) : itVal m env g = bnd m (fun sl => match sl with
  | .val (.list ds) => ret ds
  | .val (.tuple ds) => ret ds
  | .val (.dict kvs) => if isClo kvs = true then bad else ret (kvs.map (·.1))
  | _ => bad) env g := rfl
@[simp] theorem itRng1_app (ms : Mir (List Sl)) : itRng1 ms env g = bnd ms (fun l => match l with
  | [.val (.int j)] => if small62 j = true then ret (rngD 0 1 j.toNat) else bad
  | _ => bad) env g := nr rfl
@[simp] theorem itRng2_app (ms : Mir (List Sl)) : itRng2 ms env g = bnd ms (fun l => match l with
  | [.val (.int i), .val (.int j)] => if small62 i = true ∧ small62 j = true then ret (rngD i 1 (j - i).toNat) else bad
  | _ => bad) env g := nr rfl
@[simp] theorem itZip_app (ms : Mir (List Sl)) : itZip ms env g = bnd ms (fun l => ofOpt (zipOf l)) env g := rfl
@[simp] theorem mSl_app (m : Mir Sl) (lo hi : OMir) : mSl m lo hi env g = bnd m (fun x => if x.own = true then bad else bnd (mPart lo) fun l => bnd (mPart hi) fun u => fSl x l u) env g := rfl
@[simp] theorem mPart_none : mPart none env g = .ok none env g := rfl
@[simp] theorem mPart_some (m : Mir Sl) : mPart (some m) env g = bnd m (fun sl => onS (intOf sl) fun i => ret (some i)) env g := rfl
@[simp] theorem fSl_tup (xs : List D) (lo hi : Option Int) : fSl (.val (.tuple xs)) lo hi = ret (.val (.tuple (cutD xs lo hi))) := rfl
@[simp] theorem fSl_lst (xs : List D) (lo hi : Option Int) : fSl (.val (.list xs)) lo hi = ret (.ol (cutD xs lo hi)) := rfl
@[simp] theorem fSorted_app (x : Sl) : fSorted x = onS (seqOf x) fun ds => if sortB ds = true then ret (.ol (sortD ds)) else bad := nr rfl
@[simp] theorem itOwn_app (i : Nat) : itOwn i env g = match env[i]? with
  | some (some (.ol ds)) => .ok ds env g
  | some (some (.val (.list ds))) => .ok ds env g
  | some (some (.val (.tuple ds))) => .ok ds env g
  | _ => .bad := rfl
@[simp] theorem isOl_app (i : Nat) : isOl env i = match env[i]? with
  | some (some (.ol _)) => true
  | _ => false := rfl
@[simp] theorem grd_app (i : Nat) (m : Mir α) : grd i m env g = if isOl env i = true then m env g else .bad := rfl
@[simp] theorem withOl_app (i : Nat) (d : D) (f : List D → D → Mir α) : withOl i (.val d) f env g = match env[i]? with
  | some (some (.ol xs)) => f xs d env g
  | _ => .bad := by
  unfold withOl
  split <;> split <;> simp_all
@[simp] theorem appAt_app (i : Nat) (xs : List D) (d : D) : appAt i xs d env g = if xs.length ≤ 1000000 then .ok (.val .none) (env.set i (some (.ol (xs ++ [d])))) g else .bad := nr rfl
@[simp] theorem mAppend_app (i : Nat) (me : Mir Sl) : mAppend i me env g = grd i (bnd me fun y => withOl i y (appAt i)) env g := rfl
@[simp] theorem mSettle_app (is : List Nat) (m : Mir α) : mSettle is m env g = m (setlE is 0 env) g := rfl
@[simp] theorem setlE_nil (is : List Nat) (k : Nat) : setlE is k [] = [] := rfl
@[simp] theorem setlE_cons (is : List Nat) (k : Nat) (o : Option Sl) (r : Env) : setlE is k (o :: r) = setO (is.contains k) o :: setlE is (k + 1) r := rfl
@[simp] theorem setO_ol (b : Bool) (xs : List D) : setO b (some (.ol xs)) = if b = true then some (.val (.list xs)) else some (.ol xs) := rfl
@[simp] theorem setO_val (b : Bool) (d : D) : setO b (some (.val d)) = some (.val d) := rfl
@[simp] theorem setO_pen (b : Bool) : setO b (some .pen) = some .pen := rfl
@[simp] theorem setO_none (b : Bool) : setO b none = none := rfl
@[simp] theorem sAfter_app (is : List Nat) (m : Mir Ctl) : sAfter is m env g = match m env g with
  | .ok .nx e g' => .ok .nx (setlE is 0 e) g'
  | .ok c e g' => .ok c e g'
  | .exc x g' => .exc x g'
  | .bad => .bad := by
  unfold sAfter bnd
  cases m env g with
  | bad => rfl
  | exc _ _ => rfl
  | ok c e g => cases c <;> rfl
@[simp] theorem ofOpt_some (a : α) : ofOpt (some a) = ret a := rfl
@[simp] theorem ofO_some (d : D) : ofO (some d) = ret (.val d) := rfl
@[simp] theorem onS_some (a : α) (f : α → Mir β) : onS (some a) f = f a := rfl
@[simp] theorem intOf_int (i : Int) : intOf (.val (.int i)) = some i := rfl
@[simp] theorem seqOf_list (ds : List D) : seqOf (.val (.list ds)) = some ds := rfl
@[simp] theorem seqOf_tuple (ds : List D) : seqOf (.val (.tuple ds)) = some ds := rfl
@[simp] theorem seqD_list (ds : List D) : seqD (.val (.list ds)) = some ds := rfl
@[simp] theorem seqD_tuple (ds : List D) : seqD (.val (.tuple ds)) = some ds := rfl
@[simp] theorem fLen_app (x : Sl) : fLen x = onS (seqOf x) fun ds => ret (.val (.int ds.length)) := rfl
@[simp] theorem fTuple_app (x : Sl) : fTuple x = onS (seqOf x) fun ds => ret (.val (.tuple ds)) := rfl
@[simp] theorem fList_app (x : Sl) : fList x = onS (seqOf x) fun ds => ret (.ol ds) := rfl
@[simp] theorem fAll_list (ds : List D) : fAll (.val (.list ds)) = onS (boolsOf ds) fun is => ret (.val (.bool (is.all id))) := rfl
@[simp] theorem fAny_list (ds : List D) : fAny (.val (.list ds)) = onS (boolsOf ds) fun is => ret (.val (.bool (is.any id))) := rfl
@[simp] theorem fSum_list (ds : List D) : fSum (.val (.list ds)) = onS (intsOf ds) fun is => ret (.val (.int is.sum)) := rfl
@[simp] theorem fAbs_int (i : Int) : fAbs (.val (.int i)) = ret (.val (.int (if i < 0 then -i else i))) := rfl
@[simp] theorem fInt1_int (i : Int) : fInt1 (.val (.int i)) = ret (.val (.int i)) := rfl
@[simp] theorem fAdd_int (i j : Int) : fAdd (.val (.int i)) (.val (.int j)) = ret (.val (.int (i + j))) := rfl
@[simp] theorem fAdd_tup (a b : List D) : fAdd (.val (.tuple a)) (.val (.tuple b)) = if a.length + b.length ≤ 1000000 then ret (.val (.tuple (a ++ b))) else bad := nr rfl
@[simp] theorem fAdd_lst (a b : List D) : fAdd (.val (.list a)) (.val (.list b)) = if a.length + b.length ≤ 1000000 then ret (.ol (a ++ b)) else bad := nr rfl
@[simp] theorem fInt_int (C : Int → Int → Prop) [∀ i j, Decidable (C i j)] (f : Int → Int → D) (i j : Int) : fInt C f (.val (.int i)) (.val (.int j)) = if C i j then ret (.val (f i j)) else bad := nr rfl
@[simp] theorem fMul_int (i j : Int) : fMul (.val (.int i)) (.val (.int j)) = if CMul i j then ret (.val (.int (i * j))) else bad := nr rfl
@[simp] theorem fMul_tup (a : List D) (k : Int) : fMul (.val (.tuple a)) (.val (.int k)) = if a.length ≤ 1000 ∧ 1 ≤ k ∧ k ≤ 1000 ∧ a ≠ [] then ret (.val (.tuple (List.replicate k.toNat a).flatten)) else bad := nr rfl
@[simp] theorem fMul_lst (a : List D) (k : Int) : fMul (.val (.list a)) (.val (.int k)) = if a.length ≤ 1000 ∧ 0 ≤ k ∧ k ≤ 1000 then ret (.ol (List.replicate k.toNat a).flatten) else bad := nr rfl
@[simp] theorem fEq_app (neg : Bool) (d e : D) : fEq neg (.val d) (.val e) = if SeqAt.shaped d = true ∧ SeqAt.shaped e = true then ret (.val (.bool (if neg then !PyData.eqv d e else PyData.eqv d e))) else bad := nr rfl
@[simp] theorem eqv_int (i j : Int) : PyData.eqv (.int i) (.int j) = decide (i = j) := by
  rw [PyData.eqv]
  by_cases e : i = j <;> simp [e]
@[simp] theorem sh_int' (i : Int) : SeqAt.shaped (.int i) = true := sh_int i
@[simp] theorem sh_rD' (r : List Int) : SeqAt.shaped (rD r) = true := sh_rD r
@[simp] theorem fIn_list (neg : Bool) (d : D) (ds : List D) : fIn neg (.val d) (.val (.list ds)) = ofO (dIn neg d ds) := rfl
@[simp] theorem fIn_tup (neg : Bool) (d : D) (ds : List D) : fIn neg (.val d) (.val (.tuple ds)) = ofO (dIn neg d ds) := rfl
@[simp] theorem fIx_list (xs : List D) (i : Int) : fIx (.val (.list xs)) (.val (.int i)) = ofO (L2.atI xs i) := rfl
@[simp] theorem fIx_tup (xs : List D) (i : Int) : fIx (.val (.tuple xs)) (.val (.int i)) = ofO (L2.atI xs i) := rfl
@[simp] theorem fIx_ol (xs : List D) (i : Int) : fIx (.ol xs) (.val (.int i)) = ofO (L2.atI xs i) := rfl
@[simp] theorem mIsi_app (n : String) (m : Mir Sl) : mIsi n m env g = bnd m (fun x => fIsi n x) env g := rfl
@[simp] theorem fIsi_val (n : String) (d : D) : fIsi n (.val d) = if d.hasDict = true then bad else ret (.val (.bool (isiN (tyN d) n))) := nr rfl
@[simp] theorem mIsi2_app (n n' : String) (m : Mir Sl) : mIsi2 n n' m env g = bnd m (fun x => match x with
  | .val d => if d.hasDict = true then bad else ret (.val (.bool (isiN (tyN d) n || isiN (tyN d) n')))
  | _ => bad) env g := rfl
@[simp] theorem nod_int (i : Int) : (PyData.int i).hasDict = false := by simp [PyData.hasDict]
@[simp] theorem nod_rD' (r : List Int) : (rD r).hasDict = false := nod_rD r
@[simp] theorem nod_tD' (r : List (List Int)) : (tD r).hasDict = false := nod_tD r
@[simp] theorem isi_tup (ds : List D) (n : String) : isiN (tyN (.tuple ds)) n = isiN "tuple" n := rfl
@[simp] theorem isi_list (ds : List D) (n : String) : isiN (tyN (.list ds)) n = isiN "list" n := rfl
@[simp] theorem isi4 : isiN "list" "list" = true := by decide
@[simp] theorem isi5 : isiN "list" "tuple" = false := by decide
@[simp] theorem isi_int (i : Int) (n : String) : isiN (tyN (.int i)) n = isiN "int" n := rfl
@[simp] theorem isi_rD (r : List Int) (n : String) : isiN (tyN (rD r)) n = isiN "tuple" n := rfl
@[simp] theorem isi_tD (r : List (List Int)) (n : String) : isiN (tyN (tD r)) n = isiN "tuple" n := rfl
@[simp] theorem isi1 : isiN "tuple" "tuple" = true := by decide
@[simp] theorem isi2 : isiN "int" "int" = true := by decide
@[simp] theorem isi3 : isiN "int" "bool" = false := by decide
@[simp] theorem seq_rD (r : List Int) : seqOf (.val (rD r)) = some (r.map PyData.int) := rfl
@[simp] theorem seq_tD (r : List (List Int)) : seqOf (.val (tD r)) = some (r.map rD) := rfl
@[simp] theorem seqD_rD (r : List Int) : seqD (.val (rD r)) = some (r.map PyData.int) := rfl
@[simp] theorem seqD_tD (r : List (List Int)) : seqD (.val (tD r)) = some (r.map rD) := rfl
@[simp] theorem boolsOf_mapF {γ : Type} (f : γ → Bool) (xs : List γ) : boolsOf (xs.map fun x => PyData.bool (f x)) = some (xs.map f) := by
  induction xs with
  | nil => rfl
  | cons x r ih => simp only [List.map_cons, boolsOf, ih]
@[simp] theorem intsOf_mapF {γ : Type} (f : γ → Int) (xs : List γ) : intsOf (xs.map fun x => PyData.int (f x)) = some (xs.map f) := by
  induction xs with
  | nil => rfl
  | cons x r ih => simp only [List.map_cons, intsOf, ih]
@[simp] theorem intsOf_ints (xs : List Int) : intsOf (xs.map PyData.int) = some xs := by
  have := intsOf_mapF (fun i : Int => i) xs
  simpa using this
@[simp] theorem fBest_rD (f : Int → List Int → Int) (x : Int) (xs : List Int) : fBest f (.val (rD (x :: xs))) = ret (.val (.int (f x xs))) := by
  have e : intsOf ((x :: xs).map PyData.int) = some (x :: xs) := intsOf_ints _
  unfold fBest
  rw [seq_rD, onS_some, e, onS_some]
theorem mBody_app (n : Nat) (m : Mir Ctl) (l : List Sl) : mBody n m l g = match m (l.map some ++ List.replicate (n - l.length) none) g with
  | .ok .nx _ g' => .ok (.val .none) g'
  | .ok (.rt sl) _ g' => .ok sl g'
  | .exc x g' => .exc x g'
  | _ => .bad := rfl
end

section
variable {α β : Type} {env env' : Env} {g g' : Pen}
theorem lc_mapP {mi : Mir (List D)} {vs : List Nat} {t : Tgt} {me : Mir Sl} {γ : Type} (xs : List γ) (φ f : γ → D) (hi : mi env g = .ok (xs.map φ) env g)
    (h : ∀ x ∈ xs, ∃ e2, bindT t (φ x) (blankE vs 0 env) = some e2 ∧ ∃ e4, me e2 g = .ok (.val (f x)) e4 g) : mLc mi vs t mYes me env g = .ok (.ol (xs.map f)) env g := lc_map hi h
theorem lc_pureP {mi : Mir (List D)} {vs : List Nat} {t : Tgt} {mt : Mir Bool} {me : Mir Sl} {γ : Type} (xs : List γ) (φ f : γ → D) (p : γ → Bool) (hi : mi env g = .ok (xs.map φ) env g)
    (h : ∀ x ∈ xs, ∃ e2 e3, bindT t (φ x) (blankE vs 0 env) = some e2 ∧ mt e2 g = .ok (p x) e3 g ∧ (p x = true → ∃ e4, me e3 g = .ok (.val (f x)) e4 g)) : mLc mi vs t mt me env g = .ok (.ol ((xs.filter p).map f)) env g := lc_pure hi h
theorem lc_pureT {mi : Mir (List D)} {vs : List Nat} {t : Tgt} {mt : Mir Bool} {me : Mir Sl} {γ : Type} (xs : List γ) (φ f : γ → D) (p : γ → Bool) (hi : mi env g = .ok (xs.map φ) env g)
    (h : ∀ x ∈ xs, ∃ e2, bindT t (φ x) (blankE vs 0 env) = some e2 ∧ mt e2 g = .ok (p x) e2 g ∧ (p x = true → ∃ e4, me e2 g = .ok (.val (f x)) e4 g)) : mLc mi vs t mt me env g = .ok (.ol ((xs.filter p).map f)) env g :=
  lc_pureP xs φ f p hi fun x hx => (h x hx).elim fun e2 q => ⟨e2, e2, q⟩
theorem atI_nat' {γ : Type} (xs : List γ) (k : Nat) : L2.atI xs (k : Int) = xs[k]? := by
  unfold L2.atI L2.ixN
  rw [if_pos (Int.natCast_nonneg k)]
  by_cases h : k < xs.length
  · rw [if_pos (by omega)]; rfl
  · rw [if_neg (by omega), List.getElem?_eq_none (by omega)]; rfl
theorem atI_zero {γ : Type} (xs : List γ) : L2.atI xs 0 = xs[0]? := atI_nat' xs 0
theorem atI_of {γ : Type} {xs : List γ} {i : Int} (h0 : 0 ≤ i) : L2.atI xs i = xs[i.toNat]? := by
  obtain ⟨k, rfl⟩ := Int.eq_ofNat_of_zero_le h0
  rw [atI_nat']
  rfl
theorem rng_map (n : Nat) : rngD 0 1 n = (List.range n).map fun (i : Nat) => PyData.int (i : Int) := by
  unfold rngD
  exact List.map_congr_left fun i _ => by simp
theorem rng_map' (lo : Int) (n : Nat) : rngD lo 1 n = (List.range n).map fun (i : Nat) => PyData.int (lo + (i : Int)) := by
  unfold rngD
  exact List.map_congr_left fun i _ => by simp
/-- a loop that looks for something: it ends at the first one -/
theorem for_find {t : Tgt} {mb : Mir Ctl} {γ : Type} {φ : γ → D} (S : Env → Prop) (p : γ → Bool) (r : γ → Sl) : ∀ (xs : List γ),
    (∀ x ∈ xs, ∀ env, S env → ∃ e2, bindT t (φ x) env = some e2 ∧ (p x = true → ∃ e3, mb e2 g = .ok (.rt (r x)) e3 g) ∧ (p x = false → ∃ e3, mb e2 g = .ok .nx e3 g ∧ S e3)) → ∀ env, S env →
    (match xs.find? p with
      | some x => ∃ e, forRun t mb (xs.map φ) env g = .ok (.rt (r x)) e g
      | none => ∃ e, forRun t mb (xs.map φ) env g = .ok .nx e g ∧ S e)
  | [], _, env, s => ⟨env, rfl, s⟩
  | x :: xs, h, env, s => by
    obtain ⟨e2, h1, h2, h3⟩ := h x List.mem_cons_self env s
    rw [List.find?_cons]
    cases hp : p x with
    | true =>
      obtain ⟨e3, h4⟩ := h2 hp
      refine ⟨e3, ?_⟩
      rw [List.map_cons, forRun, h1]
      simp only [h4]
    | false =>
      obtain ⟨e3, h4, s3⟩ := h3 hp
      have ih := for_find S p r xs (fun y hy => h y (List.mem_cons_of_mem _ hy)) e3 s3
      have e : forRun t mb ((x :: xs).map φ) env g = forRun t mb (xs.map φ) e3 g := by
        rw [List.map_cons, forRun, h1]
        simp only [h4]
      simp only [e]
      exact ih
/-- a loop whose turns go on -/
theorem for_all {t : Tgt} {mb : Mir Ctl} {γ : Type} {φ : γ → D} (S : Nat → Env → Pen → Prop) : ∀ (xs : List γ) (k : Nat),
    (∀ i x, xs[i]? = some x → ∀ env g, S (k + i) env g → ∃ e2, bindT t (φ x) env = some e2 ∧ ∃ c e3 g3, mb e2 g = .ok c e3 g3 ∧ (c = .nx ∨ c = .ct) ∧ S (k + i + 1) e3 g3) → ∀ env g, S k env g →
    ∃ e g', forRun t mb (xs.map φ) env g = .ok .nx e g' ∧ S (k + xs.length) e g'
  | [], k, _, env, g, s => ⟨env, g, rfl, s⟩
  | x :: xs, k, h, env, g, s => by
    obtain ⟨e2, h1, c, e3, g3, h2, h3, h4⟩ := h 0 x rfl env g s
    obtain ⟨e, g', h5, h6⟩ := for_all S xs (k + 1) (fun i y hy env g s => by
      have e : k + (i + 1) = k + 1 + i := by omega
      have q := h (i + 1) y hy env g (by rw [e]; exact s)
      rw [e] at q
      exact q) e3 g3 h4
    refine ⟨e, g', ?_, ?_⟩
    · rw [List.map_cons, forRun, h1]
      rcases h3 with rfl | rfl <;> simp only [h2] <;> exact h5
    · rw [List.length_cons, show k + (xs.length + 1) = k + 1 + xs.length by omega]
      exact h6
/-- a loop that gathers -/
theorem for_fold {t : Tgt} {mb : Mir Ctl} {γ σ : Type} {φ : γ → D} (step : σ → γ → σ) (S : σ → Env → Prop) : ∀ (xs : List γ) (s : σ),
    (∀ s x, x ∈ xs → ∀ env, S s env → ∃ e2, bindT t (φ x) env = some e2 ∧ ∃ c e3, mb e2 g = .ok c e3 g ∧ (c = .nx ∨ c = .ct) ∧ S (step s x) e3) → ∀ env, S s env →
    ∃ e, forRun t mb (xs.map φ) env g = .ok .nx e g ∧ S (xs.foldl step s) e
  | [], s, _, env, h => ⟨env, rfl, h⟩
  | x :: xs, s, h, env, hs => by
    obtain ⟨e2, h1, c, e3, h2, h3, h4⟩ := h s x List.mem_cons_self env hs
    obtain ⟨e, h5, h6⟩ := for_fold step S xs (step s x) (fun s y hy => h s y (List.mem_cons_of_mem _ hy)) e3 h4
    refine ⟨e, ?_, h6⟩
    rw [List.map_cons, forRun, h1]
    rcases h3 with rfl | rfl <;> simp only [h2] <;> exact h5
/-- .. where what is gathered so far comes of the beginning -/
theorem for_foldB {t : Tgt} {mb : Mir Ctl} {γ σ : Type} {φ : γ → D} (step : σ → γ → σ) (S : σ → Env → Prop) (xs : List γ) (s : σ)
    (h : ∀ pre x post, xs = pre ++ x :: post → ∀ env, S (pre.foldl step s) env → ∃ e2, bindT t (φ x) env = some e2 ∧ ∃ c e3, mb e2 g = .ok c e3 g ∧ (c = .nx ∨ c = .ct) ∧ S (step (pre.foldl step s) x) e3) (env : Env) (hs : S s env) :
    ∃ e, forRun t mb (xs.map φ) env g = .ok .nx e g ∧ S (xs.foldl step s) e := by
  have key : ∀ (ys pre : List γ), xs = pre ++ ys → ∀ env, S (pre.foldl step s) env → ∃ e, forRun t mb (ys.map φ) env g = .ok .nx e g ∧ S (xs.foldl step s) e := fun ys => by
    induction ys with
    | nil =>
      intro pre e env h0
      rw [e, List.append_nil]
      exact ⟨env, rfl, h0⟩
    | cons y ys ih =>
      intro pre e env h0
      obtain ⟨e2, h1, c, e3, h2, h3, h4⟩ := h pre y ys e env h0
      obtain ⟨e4, h5, h6⟩ := ih (pre ++ [y]) (by rw [e]; simp) e3 (by rw [List.foldl_append]; exact h4)
      refine ⟨e4, ?_, h6⟩
      rw [List.map_cons, forRun, h1]
      rcases h3 with rfl | rfl <;> simp only [h2] <;> exact h5
  exact key xs [] rfl env hs
/-! ### statements, one behind another -/
theorem seq_ok {a b : Mir Ctl} (h : a env g = .ok .nx env' g') : sSeq a b env g = b env' g' := by rw [sSeq_app, h]
theorem seq_rt {a b : Mir Ctl} {sl : Sl} (h : a env g = .ok (.rt sl) env' g') : sSeq a b env g = .ok (.rt sl) env' g' := by rw [sSeq_app, h]
theorem for_ok {mi : Mir (List D)} {t : Tgt} {b : Mir Ctl} {ds : List D} (h : mi env g = .ok ds env' g') : sFor mi t b env g = forRun t b ds env' g' := by rw [sFor_app, bnd_ok h]
theorem set_ok {i : Nat} {m : Mir Sl} {sl : Sl} (h : m env g = .ok sl env' g') : sSet i m env g = .ok .nx (env'.set i (some sl)) g' := by rw [sSet_app, h]
theorem ret_ok {m : Mir Sl} {sl : Sl} (h : m env g = .ok sl env' g') : sRet m env g = .ok (.rt sl) env' g' := by rw [sRet_app, bnd_ok h, ret_app]
theorem par_ok {i j : Nat} {a b : Mir Sl} {x y : Sl} {env2 : Env} {g2 : Pen} (h1 : a env g = .ok x env' g') (h2 : b env' g' = .ok y env2 g2) : sPar i j a b env g = .ok .nx ((env2.set i (some x)).set j (some y)) g2 := by rw [sPar_app, bnd_ok h1, bnd_ok h2]
theorem if_ok {t : Mir Bool} {a b : Mir Ctl} {c : Bool} (h : t env g = .ok c env' g') : sIf t a b env g = (if c = true then a else b) env' g' := by rw [sIf_app, bnd_ok h]
theorem if_yes {t : Mir Bool} {a b : Mir Ctl} (h : t env g = .ok true env' g') : sIf t a b env g = a env' g' := by rw [if_ok h, if_pos rfl]
theorem if_no {t : Mir Bool} {a b : Mir Ctl} (h : t env g = .ok false env' g') : sIf t a b env g = b env' g' := by rw [if_ok h, if_neg Bool.false_ne_true]
theorem test_ok {m : Mir Sl} {c : Bool} (h : m env g = .ok (.val (.bool c)) env' g') : mTest m env g = .ok c env' g' := by rw [mTest_app, bnd_ok h]; rfl
end
end Z
end
section
set_option linter.all false
set_option maxRecDepth 100000
set_option maxHeartbeats 1000000
/-! NB: what the program's functions compute. -/
namespace Z
open PySem PySem.Spec PyProof.Rows L2

structure Tbl (T : List (List Int)) (m n : Nat) : Prop where
  len : T.length = m
  row : ∀ r ∈ T, r.length = n
  ent : ∀ r ∈ T, ∀ z ∈ r, M.V3 z
  hm : 0 < m
  hn : 0 < n
/-- a table as it is passed: tuples or lists -/
inductive Hand (T : List (List Int)) : D → Prop where
  | tt : Hand T (tD T)
  | ll : Hand T (.list (T.map fun r => .list (r.map PyData.int)))
  | tl : Hand T (.tuple (T.map fun r => .list (r.map PyData.int)))
section
variable {T : List (List Int)} {m n : Nat} (g : Pen)
theorem ev_is_whole (i : Int) : m_is_whole [.val (.int i)] g = .ok (.val (.bool true)) g := rfl
theorem ev_is_row (r : List Int) : m_is_row [.val (rD r)] g = .ok (.val (.bool true)) g := by
  simp [m_is_row, mBody, b_is_row]
theorem nod_lr (r : List Int) : (PyData.list (r.map PyData.int)).hasDict = false := by simp [PyData.hasDict, nod_ints]
theorem nod_lrs (T : List (List Int)) : PyData.hasDictAll (T.map fun r => .list (r.map PyData.int)) = false := by
  induction T with
  | nil => simp [PyData.hasDictAll]
  | cons a r ih => simp [PyData.hasDictAll, PyData.hasDict, nod_ints, ih]
theorem ev_is_rowL (r : List Int) : m_is_row [.val (.list (r.map PyData.int))] g = .ok (.val (.bool true)) g := by
  simp [m_is_row, mBody, b_is_row, nod_lr]
theorem ev_is_integers_row (r : List Int) (n : Nat) (h : r.length = n) : m_is_integers_row [.val (rD r), .val (.int n)] g = .ok (.val (.bool true)) g := by
  simp [m_is_integers_row, mBody, b_is_integers_row, h]
  rw [lc_mapP r PyData.int (fun _ => .bool true)]
  · simp
  · rfl
  · exact fun x hx => ⟨_, rfl, _, rfl⟩
theorem ev_is_integers (h : Tbl T m n) : m_is_integers [.val (tD T)] g = .ok (.val (.bool true)) g := by
  have h0 : ¬T = [] := fun e => by have := h.len; have := h.hm; rw [e] at *; simp at *; omega
  simp [m_is_integers, mBody, b_is_integers, h0]
  rw [lc_mapP T rD (fun _ => .bool true)]
  · simp
    obtain ⟨r0, hr0⟩ : ∃ r0, T[0]? = some r0 := ⟨_, List.getElem?_eq_getElem (by rw [h.len]; exact h.hm)⟩
    simp [atI_zero, hr0, tD]
    rw [lc_mapP T rD (fun _ => .bool true)]
    · simp
    · simp
    · intro r hr
      refine ⟨_, rfl, ?_⟩
      have e : r0.length = r.length := by rw [h.row r hr, h.row r0 (List.mem_of_getElem? hr0)]
      simp [blankE, keepO, e]
      rw [ev_is_integers_row g r _ rfl]
      simp
  · simp [tD]
  · intro r hr
    refine ⟨_, rfl, ?_⟩
    have e : r.length ≠ 0 := by rw [h.row r hr]; have := h.hn; omega
    simp [blankE, keepO]
    omega

theorem maxI_le {x : Int} : ∀ {xs : List Int}, x ≤ 1 → (∀ z ∈ xs, z ≤ 1) → maxI x xs ≤ 1
  | [], h, _ => h
  | y :: ys, h, h2 => by
    show maxI (if x < y then y else x) ys ≤ 1
    refine maxI_le ?_ fun z hz => h2 z (List.mem_cons_of_mem _ hz)
    have := h2 y List.mem_cons_self
    split <;> omega
theorem minI_ge {x : Int} : ∀ {xs : List Int}, -1 ≤ x → (∀ z ∈ xs, -1 ≤ z) → -1 ≤ minI x xs
  | [], h, _ => h
  | y :: ys, h, h2 => by
    show -1 ≤ minI (if y < x then y else x) ys
    refine minI_ge ?_ fun z hz => h2 z (List.mem_cons_of_mem _ hz)
    have := h2 y List.mem_cons_self
    split <;> omega
theorem ev_is_table (h : Tbl T m n) : m_is_table [.val (tD T)] g = .ok (.val (.bool true)) g := by
  simp [m_is_table, mBody, b_is_table, ev_is_integers g h]
  rw [lc_mapP T rD (fun _ => .bool true)]
  · simp
  · simp [tD]
  · intro r hr
    refine ⟨_, rfl, ?_⟩
    obtain ⟨x, xs, rfl⟩ : ∃ x xs, r = x :: xs := by
      cases r with
      | nil => have := h.row _ hr; have := h.hn; simp at *; omega
      | cons x xs => exact ⟨x, xs, rfl⟩
    have e := h.ent _ hr
    have h1 : maxI x xs ≤ 1 := maxI_le (by have := e x List.mem_cons_self; unfold M.V3 at this; omega) fun z hz => by have := e z (List.mem_cons_of_mem _ hz); unfold M.V3 at this; omega
    have h2 : -1 ≤ minI x xs := minI_ge (by have := e x List.mem_cons_self; unfold M.V3 at this; omega) fun z hz => by have := e z (List.mem_cons_of_mem _ hz); unfold M.V3 at this; omega
    simp [blankE, keepO, h1]
    exact h2
theorem nod_hand {H : D} (h : Hand T H) : H.hasDict = false := by
  cases h with
  | tt => exact nod_tD T
  | ll => simp [PyData.hasDict, nod_lrs]
  | tl => simp [PyData.hasDict, nod_lrs]
theorem ev_integers_of {H : D} (h : Tbl T m n) (hh : Hand T H) : m_integers_of [.val H] g = .ok (.val (tD T)) g := by
  have nd := nod_hand hh
  have key : ∀ (f : List Int → D) (mk : List D → D), H = mk (T.map f) → (∀ ds, mk ds = .list ds ∨ mk ds = .tuple ds) → (∀ r, m_is_row [.val (f r)] g = .ok (.val (.bool true)) g) → (∀ r, seqOf (.val (f r)) = some (r.map PyData.int)) → m_integers_of [.val H] g = .ok (.val (tD T)) g := by
    intro f mk e h1 h2 h3
    subst e
    have hr : m_is_row [.val (mk (T.map f))] g = .ok (.val (.bool true)) g := by
      rcases h1 (T.map f) with e | e <;> rw [e] at nd ⊢ <;> simp [m_is_row, mBody, b_is_row, nd]
    have hi : itVal (mVar 0) [some (Sl.val (mk (T.map f))), some (Sl.val (mk (T.map f))), none] g = .ok (T.map f) [some (Sl.val (mk (T.map f))), some (Sl.val (mk (T.map f))), none] g := by
      rcases h1 (T.map f) with e | e <;> rw [e] <;> rfl
    simp [m_integers_of, mBody, b_integers_of, hr]
    rw [lc_mapP T f (fun _ => .bool true) hi (fun r hr => ⟨_, rfl, by simp [blankE, keepO, h2]⟩)]
    simp
    rw [lc_mapP T f rD hi (fun r hr => ⟨_, rfl, by simp [blankE, keepO, h3]; rfl⟩)]
    have e : PyData.tuple (T.map rD) = tD T := rfl
    simp [e, ev_is_integers g h]
  cases hh with
  | tt => exact key rD .tuple rfl (fun _ => .inr rfl) (ev_is_row g) (fun _ => rfl)
  | ll => exact key (fun r => .list (r.map PyData.int)) .list rfl (fun _ => .inl rfl) (ev_is_rowL g) (fun _ => rfl)
  | tl => exact key (fun r => .list (r.map PyData.int)) .tuple rfl (fun _ => .inr rfl) (ev_is_rowL g) (fun _ => rfl)
theorem ev_table_from {H : D} (h : Tbl T m n) (hh : Hand T H) : m_table_from [.val H] g = .ok (.val (tD T)) g := by
  simp [m_table_from, mBody, b_table_from, ev_integers_of g h hh, ev_is_table g h]
end
end Z
end
section
set_option linter.all false
set_option maxRecDepth 100000
set_option maxHeartbeats 4000000
/-! NC: lots and signs, up to six. -/
namespace Z
open PySem PySem.Spec PyProof.Rows L2
/-- lots of so many numbers among the last ones below n -/
def comb (n : Nat) : Nat → Nat → List (List Int)
  | _, 0 => [[]]
  | 0, _ + 1 => []
  | r + 1, s + 1 => (comb n r s).map (fun l => ((n - (r + 1) : Nat) : Int) :: l) ++ comb n r (s + 1)
def lotsL (n : Nat) : List (List Int) := (List.range n).flatMap fun s => comb n n (s + 1)
def subsL : Nat → List (List Int)
  | 0 => [[]]
  | k + 1 => subsL k ++ (subsL k).map fun r => r ++ [(k : Int)]
def nonE (n : Nat) : List (List Int) := (subsL n).drop 1
def signsL : Nat → List (List Int)
  | 0 => []
  | 1 => [[1]]
  | k + 2 => (signsL (k + 1)).flatMap fun r => [r ++ [1], r ++ [-1]]
theorem subsL_len (k : Nat) : (subsL k).length = 2 ^ k := by
  induction k with
  | zero => rfl
  | succ k ih => rw [subsL, List.length_append, List.length_map, ih, Nat.pow_succ]; omega
/-! ### sorted, strictly -/
theorem sort_strict {α : Type} {le : α → α → Bool} (h : PySem.W.TotalLe le) {m l : List α} (hp : m.Perm l) (hs : m.Pairwise fun a b => le a b = true ∧ le b a = false) : m = l.mergeSort le := by
  refine PySem.W.sort_unique h (hs.imp fun q => q.1) fun c => ?_
  have hq := hp.filter (PySem.W.sameRank le c)
  have one : ∀ n : List α, (n.Pairwise fun a b => le a b = true ∧ le b a = false) → (∀ x ∈ n, PySem.W.sameRank le c x = true) → n.length ≤ 1 := fun n hn hr => by
    match n, hn, hr with
    | [], _, _ => simp
    | [_], _, _ => simp
    | x :: y :: r, hn, hr =>
      exfalso
      have q := (List.pairwise_cons.mp hn).1 y (by simp)
      have h1 := hr x (by simp)
      have h2 := hr y (by simp)
      simp only [PySem.W.sameRank, Bool.and_eq_true] at h1 h2
      have z : le y x = true := by
        first
          | exact h.trans y c x h2.2 h1.1
          | exact h.trans y c x h2.1 h1.2
      rw [q.2] at z
      cases z
  have hl := one _ (hs.sublist List.filter_sublist) fun x hx => (List.mem_filter.mp hx).2
  revert hq hl
  generalize m.filter (PySem.W.sameRank le c) = a
  generalize l.filter (PySem.W.sameRank le c) = b
  intro hq hl
  match a, hl with
  | [], _ => exact (List.nil_perm.mp hq).symm
  | [x], _ => exact List.singleton_perm.mp hq
/-- a lot with its size -/
def szD (r : List Int) : D := .tuple [.int r.length, rD r]
def szOk (n : Nat) : Bool := sortB ((nonE n).map szD) && (decide ((lotsL n).Perm (nonE n)) && decide ((lotsL n).Pairwise fun a b => PySem.W.dataLe false id (szD a) (szD b) = true ∧ PySem.W.dataLe false id (szD b) (szD a) = false))
theorem szOk_all : ∀ n ∈ [1, 2, 3, 4, 5, 6], szOk n = true := by decide +kernel
theorem sorted_lots {n : Nat} (h1 : 1 ≤ n) (h6 : n ≤ 6) : sortB ((nonE n).map szD) = true ∧ sortD ((nonE n).map szD) = (lotsL n).map szD := by
  have h := szOk_all n (by simp; omega)
  unfold szOk at h
  simp only [Bool.and_eq_true, decide_eq_true_eq] at h
  obtain ⟨a, b, c⟩ := h
  refine ⟨a, ?_⟩
  unfold sortD
  exact (sort_strict (PySem.W.sortLe_total _ _ _) (b.map szD) (List.pairwise_map.mpr c)).symm
theorem ev_lots_of {n : Nat} (h1 : 1 ≤ n) (h6 : n ≤ 6) (g : Pen) : m_lots_of [.val (.int n)] g = .ok (.val (.list ((lotsL n).map rD))) g := by
  have hn : small62 (n : Int) = true := by unfold small62; simp; omega
  obtain ⟨s1, s2⟩ := sorted_lots h1 h6
  have L := for_all (t := .name 2) (mb := sSet 1 (mFz (mOp fAdd (mVar 1) (mFz (mLc (itVal (mVar 1)) [3] (.name 3) mYes (mOp fAdd (mVar 3) (mTup (mCons (mVar 2) mNil)))))))) (φ := fun (i : Nat) => PyData.int (i : Int))
    (fun i env g' => g' = g ∧ ∃ x, env = [some (.val (.int n)), some (.val (.list ((subsL i).map rD))), x, none, none, none]) (List.range n) 0 (by
      rintro i x hx env g' ⟨rfl, y, rfl⟩
      have hi : i < n := by simpa using (List.getElem?_eq_some_iff.mp hx).1
      have ex : i = x := by simpa [List.getElem?_range hi] using hx
      subst ex
      have hp : (subsL i).length ≤ 64 := by
        rw [subsL_len]
        exact Nat.le_trans (Nat.pow_le_pow_right (by decide) (show i ≤ 6 by omega)) (by decide)
      refine ⟨_, rfl, .nx, _, _, ?_, .inl rfl, rfl, some (.val (.int i)), rfl⟩
      simp
      rw [lc_mapP (subsL i) rD (fun r => rD (r ++ [(i : Int)]))]
      · simp [subsL]
        rw [if_pos (by omega)]
        simp [List.map_map, Function.comp_def]
      · simp
      · intro r hr
        refine ⟨_, rfl, ?_⟩
        have hl : r.length ≤ 64 := by
          have key : ∀ (k : Nat), ∀ r ∈ subsL k, r.length ≤ k := fun k => by
            induction k with
            | zero => intro r hr; simp [subsL] at hr; simp [hr]
            | succ k ih =>
              intro r hr
              simp only [subsL, List.mem_append, List.mem_map] at hr
              rcases hr with hr | ⟨q, hq, rfl⟩
              · have := ih r hr; omega
              · have := ih q hq; simp; omega
          have := key i r hr
          omega
        simp [blankE, keepO, rD]
        rw [if_pos (by omega)]
        simp)
    [some (.val (.int n)), some (.val (.list [rD []])), none, none, none, none] g ⟨rfl, none, rfl⟩
  obtain ⟨e, g', L, rfl, x, rfl⟩ := L
  simp only [Nat.zero_add, List.length_range] at L
  simp [m_lots_of, mBody, b_lots_of, hn, rng_map]
  have er : PyData.tuple [] = rD [] := rfl
  rw [er, L]
  simp
  have hc : cutD ((subsL n).map rD) (some 1) none = (nonE n).map rD := by
    have hl : 1 ≤ (subsL n).length := by rw [subsL_len]; exact Nat.one_le_two_pow
    unfold cutD
    have e1 : HT.sIx ((subsL n).map rD).length 0 (some 1) = 1 := by
      unfold HT.sIx
      simp
      omega
    have e2 : HT.sIx ((subsL n).map rD).length ((subsL n).map rD).length none = (subsL n).length := by
      unfold HT.sIx
      simp
    unfold nonE
    rw [e1, e2, List.take_of_length_le (by simp), List.map_drop]
  rw [lc_mapP (nonE n) rD szD]
  · simp [s1, s2]
    rw [lc_mapP (lotsL n) szD rD]
    · simp
    · simp
    · intro r hr
      exact ⟨_, rfl, _, rfl⟩
  · simp [hc]
  · intro r hr
    refine ⟨_, rfl, ?_⟩
    simp [blankE, keepO]
    rfl
end Z
end
section
set_option linter.all false
set_option maxRecDepth 100000
set_option maxHeartbeats 2000000
/-! ND: which lots split; the least that do not, the greatest whole ones. -/
namespace Z
open PySem PySem.Spec PyProof.Rows L2
theorem ev_sign_rows {n : Nat} (h1 : 1 ≤ n) (h6 : n ≤ 6) (g : Pen) : m_sign_rows [.val (.int n)] g = .ok (.val (.list ((signsL n).map rD))) g := by
  match n, h1, h6 with
  | 1, _, _ => kernel_rfl
  | 2, _, _ => kernel_rfl
  | 3, _, _ => kernel_rfl
  | 4, _, _ => kernel_rfl
  | 5, _, _ => kernel_rfl
  | 6, _, _ => kernel_rfl
def entT (T : List (List Int)) (i j : Nat) : Int := (T.getD i []).getD j 0
section
variable {T : List (List Int)} {m n : Nat} (g : Pen)
theorem Tbl.at_ (h : Tbl T m n) {i : Nat} (hi : i < m) : ∃ r, T[i]? = some r ∧ r ∈ T ∧ r.length = n ∧ ∀ j, j < n → r[j]? = some (entT T i j) ∧ M.V3 (entT T i j) := by
  have hl : i < T.length := by rw [h.len]; exact hi
  have e : T[i]? = some T[i] := List.getElem?_eq_getElem hl
  have hm : T[i] ∈ T := List.getElem_mem hl
  refine ⟨T[i], e, hm, h.row _ hm, fun j hj => ?_⟩
  have hj' : j < T[i].length := by rw [h.row _ hm]; exact hj
  have e2 : T[i][j]? = some T[i][j] := List.getElem?_eq_getElem hj'
  have e3 : entT T i j = T[i][j] := by
    simp [entT, List.getD_eq_getElem?_getD, e, e2]
  rw [e3]
  exact ⟨e2, h.ent _ hm _ (List.getElem_mem hj')⟩
/-- a lot: numbers of rows -/
def Lot (m : Nat) (l : List Int) : Prop := l ≠ [] ∧ l.length ≤ 6 ∧ ∀ i ∈ l, 0 ≤ i ∧ i < m
def colS (T : List (List Int)) (lot signs : List Int) (j : Nat) : Int := ((signs.zip lot).map fun p => p.1 * entT T p.2.toNat j).sum
def evenB (T : List (List Int)) (n : Nat) (lot signs : List Int) : Bool := (List.range n).all fun j => decide (-1 ≤ colS T lot signs j) && decide (colS T lot signs j ≤ 1)
theorem zipD_ints (xs ys : List Int) : zipD (xs.map PyData.int) (ys.map PyData.int) = (xs.zip ys).map fun p => .tuple [.int p.1, .int p.2] := by
  unfold zipD
  rw [List.zipWith_map_left, List.zipWith_map_right, List.zip, List.map_zipWith]
theorem cmul_small {a b : Int} (h : M.V3 a) : CMul a b := by
  unfold M.V3 at h
  exact .inl (by omega)
theorem ev_is_even (h : Tbl T m n) (hn : n ≤ 1000) {lot signs : List Int} (hl : Lot m lot) (hs : ∀ s ∈ signs, M.V3 s) : m_is_even [.val (tD T), .val (rD lot), .val (rD signs)] g = .ok (.val (.bool (evenB T n lot signs))) g := by
  obtain ⟨r0, e0, _, l0, _⟩ := h.at_ h.hm
  have sn : small62 (n : Int) = true := by unfold small62; simp; omega
  have L := for_find (g := g) (t := .name 3) (mb := sIf (mTest (mOp fGt (mCall (g1 fAbs) (mCons (mCall (g1 fSum) (mCons (mFz (mLc (itZip (mCons (mVar 2) (mCons (mVar 1) mNil))) [4, 5] (.two 4 5) mYes (mOp fMul (mVar 4) (mOp fIx (mOp fIx (mVar 0) (mVar 5)) (mVar 3))))) mNil)) mNil)) (mC (.int 1)))) (sRet (mC (.bool false))) sNil)
    (φ := fun (j : Nat) => PyData.int (j : Int)) (fun env => ∃ x, env = [some (.val (tD T)), some (.val (rD lot)), some (.val (rD signs)), x, none, none])
    (fun j => !(decide (-1 ≤ colS T lot signs j) && decide (colS T lot signs j ≤ 1))) (fun _ => .val (.bool false)) (List.range n) (by
      rintro j hj env ⟨x, rfl⟩
      have hj : j < n := by simpa using hj
      have body : ∀ y : Option Sl, mLc (itZip (mCons (mVar 2) (mCons (mVar 1) mNil))) [4, 5] (.two 4 5) mYes (mOp fMul (mVar 4) (mOp fIx (mOp fIx (mVar 0) (mVar 5)) (mVar 3))) [some (.val (tD T)), some (.val (rD lot)), some (.val (rD signs)), some (.val (.int j)), none, none] g =
          .ok (.ol ((signs.zip lot).map fun p => PyData.int (p.1 * entT T p.2.toNat j))) [some (.val (tD T)), some (.val (rD lot)), some (.val (rD signs)), some (.val (.int j)), none, none] g := fun y => by
        refine lc_mapP (signs.zip lot) (fun p => .tuple [.int p.1, .int p.2]) (fun p => PyData.int (p.1 * entT T p.2.toNat j)) ?_ ?_
        · simp [zipOf, zipD_ints]
        · rintro ⟨s, i⟩ hp
          obtain ⟨h1, h2⟩ := List.of_mem_zip hp
          obtain ⟨i0, i1⟩ := hl.2.2 i h2
          obtain ⟨r, e, _, _, er⟩ := h.at_ (show i.toNat < m by omega)
          obtain ⟨e1, e2⟩ := er j hj
          refine ⟨_, rfl, ?_⟩
          simp [blankE, keepO, tD, atI_of i0, e, rD, atI_nat', e1, cmul_small (hs s h1)]
      refine ⟨_, rfl, fun hp => ?_, fun hp => ?_⟩
      · simp [body none]
        have hp : ¬(-1 ≤ colS T lot signs j ∧ colS T lot signs j ≤ 1) := fun z => by simp [z] at hp
        rw [if_pos (by show 1 < (if colS T lot signs j < 0 then -colS T lot signs j else colS T lot signs j); split <;> omega)]
        exact ⟨_, rfl⟩
      · simp [body none]
        have hp : -1 ≤ colS T lot signs j ∧ colS T lot signs j ≤ 1 := by simpa using hp
        rw [if_neg (by show ¬1 < (if colS T lot signs j < 0 then -colS T lot signs j else colS T lot signs j); split <;> omega)]
        exact ⟨_, rfl, _, rfl⟩)
    [some (.val (tD T)), some (.val (rD lot)), some (.val (rD signs)), none, none, none] ⟨none, rfl⟩
  cases e : (List.range n).find? (fun j => !(decide (-1 ≤ colS T lot signs j) && decide (colS T lot signs j ≤ 1))) with
  | some x =>
    rw [e] at L
    obtain ⟨e3, L⟩ := L
    have ev : evenB T n lot signs = false := by
      refine List.all_eq_false.mpr ⟨x, List.mem_of_find?_eq_some e, ?_⟩
      have := List.find?_some e
      simp at this ⊢
      omega
    unfold m_is_even mBody b_is_even
    simp [L, ev, tD, atI_zero, e0, l0, sn, rng_map]
    rw [show PyData.tuple (T.map rD) = tD T from rfl, L]
  | none =>
    rw [e] at L
    obtain ⟨e3, L, _⟩ := L
    have ev : evenB T n lot signs = true := by
      refine List.all_eq_true.mpr fun x hx => ?_
      have := List.find?_eq_none.mp e x hx
      simpa using this
    unfold m_is_even mBody b_is_even
    simp [L, ev, tD, atI_zero, e0, l0, sn, rng_map]
    rw [show PyData.tuple (T.map rD) = tD T from rfl, L]
/-! ### within -/
def inB (l k : List Int) : Bool := l.all fun i => k.contains i
theorem dIn_int (i : Int) (k : List Int) : dIn false (.int i) (k.map PyData.int) = some (.bool (k.contains i)) := by
  unfold dIn
  rw [if_pos ⟨sh_int i, sh_ints k⟩]
  have e : ((k.map PyData.int).any fun z => PyData.eqv z (.int i)) = k.contains i := by
    induction k with
    | nil => rfl
    | cons a r ih =>
      simp only [List.map_cons, List.any_cons, ih, eqv_int, List.contains_cons]
      congr 1
      by_cases h : a = i
      · simp [h]
      · have h' : ¬i = a := fun z => h z.symm
        simp [h, h']
  simp only [e]
  rfl
theorem ev_within (l k : List Int) : m_is_within [.val (rD l), .val (rD k)] g = .ok (.val (.bool (inB l k))) g := by
  simp [m_is_within, mBody, b_is_within]
  rw [lc_mapP l PyData.int (fun i => .bool (k.contains i))]
  · simp [inB]
  · rfl
  · intro i hi
    refine ⟨_, rfl, ?_⟩
    simp [blankE, keepO, rD, dIn_int]
theorem part_is_within : m__law_is_part = m_is_within := rfl
end
end Z
end
section
set_option linter.all false
set_option maxRecDepth 100000
set_option maxHeartbeats 4000000
/-! NE: the least bad lots, the greatest whole ones. -/
namespace Z
open PySem PySem.Spec PyProof.Rows L2
theorem lots_ok : ∀ n ∈ [1, 2, 3, 4, 5, 6], ((lotsL n).all fun l => decide (l ≠ []) && (decide (l.length ≤ n) && l.all fun i => decide (0 ≤ i) && decide (i < n))) = true := by decide +kernel
theorem signs_ok : ∀ n ∈ [1, 2, 3, 4, 5, 6], ((signsL n).all fun l => l.all fun i => decide (i = 1) || decide (i = -1)) = true := by decide +kernel
theorem lots_lot {n : Nat} (h1 : 1 ≤ n) (h6 : n ≤ 6) {l : List Int} (h : l ∈ lotsL n) : Lot n l := by
  have q := List.all_eq_true.mp (lots_ok n (by simp; omega)) l h
  simp only [Bool.and_eq_true, decide_eq_true_eq, List.all_eq_true] at q
  exact ⟨q.1, by omega, q.2.2⟩
theorem signs_v3 {n : Nat} (h1 : 1 ≤ n) (h6 : n ≤ 6) {l : List Int} (h : l ∈ signsL n) : ∀ s ∈ l, M.V3 s := fun s hs => by
  have q := List.all_eq_true.mp (List.all_eq_true.mp (signs_ok n (by simp; omega)) l h) s hs
  simp only [Bool.or_eq_true, decide_eq_true_eq] at q
  unfold M.V3
  omega
theorem Lot.size {n : Nat} {l : List Int} (h : Lot n l) : 1 ≤ l.length ∧ l.length ≤ 6 := ⟨by
  have := h.1
  cases l with
  | nil => exact absurd rfl this
  | cons a r => simp, h.2.1⟩
/-- no signs split it -/
def badB (T : List (List Int)) (n : Nat) (l : List Int) : Bool := !(signsL l.length).any fun s => evenB T n l s
def leastL (T : List (List Int)) (m n : Nat) : List (List Int) := M.gather inB (badB T n) [] (lotsL m)
def gstep (sub : List Int → List Int → Bool) (bad : List Int → Bool) (out : List (List Int)) (x : List Int) : List (List Int) := if (out.any fun y => sub y x) = true then out else if bad x = true then out ++ [x] else out
theorem gather_fold (sub : List Int → List Int → Bool) (bad : List Int → Bool) : ∀ (l out : List (List Int)), l.foldl (gstep sub bad) out = M.gather sub bad out l
  | [], out => rfl
  | x :: l, out => by
    rw [List.foldl_cons, gather_fold sub bad l, M.gather]
    rfl
section
variable {T : List (List Int)} {m n : Nat} (g : Pen)
theorem gstep_len (sub : List Int → List Int → Bool) (bad : List Int → Bool) : ∀ (l out : List (List Int)), (l.foldl (gstep sub bad) out).length ≤ out.length + l.length
  | [], out => by simp
  | x :: l, out => by
    rw [List.foldl_cons, List.length_cons]
    have := gstep_len sub bad l (gstep sub bad out x)
    have h2 : (gstep sub bad out x).length ≤ out.length + 1 := by
      unfold gstep
      split
      · omega
      · split <;> simp
    omega
theorem lots_len : ∀ n ∈ [1, 2, 3, 4, 5, 6], (lotsL n).length ≤ 63 := by decide +kernel
theorem ev_least_bad (h : Tbl T m n) (hm : m ≤ 6) (hn : n ≤ 1000) {H : D} (hh : Hand T H) : m_least_bad_lots [.val H] g = .ok (.val (.tuple ((leastL T m n).map rD))) g := by
  have h1 : 1 ≤ m := h.hm
  have key := for_foldB (g := g) (t := .name 3) (mb := (sSeq (sIf (mTest (mCall (g1 fAny) (mCons (mFz (mLc (itOwn 2) [4] (.name 4) mYes (mCall (mFn m_is_within) (mCons (mVar 4) (mCons (mVar 3) mNil))))) mNil))) sCont sNil)
     (sIf (mNotB (mTest (mCall (g1 fAny) (mCons (mFz (mLc (itVal (mCall (mFn m_sign_rows) (mCons (mCall (g1 fLen) (mCons (mVar 3) mNil)) mNil))) [5] (.name 5) mYes (mCall (mFn m_is_even) (mCons (mVar 1) (mCons (mVar 3) (mCons (mVar 5) mNil)))))) mNil)))) (sExpr (mAppend 2 (mVar 3))) sNil)))
    (φ := rD) (gstep inB (badB T n)) (fun out env => ∃ x, env = [some (.val H), some (.val (tD T)), some (.ol (out.map rD)), x, none, none]) (lotsL m) [] (by
      rintro pre l post hpl env ⟨x, rfl⟩
      have hl : l ∈ lotsL m := by rw [hpl]; simp
      have ho := gstep_len inB (badB T n) pre []
      have h63 := lots_len m (by simp; omega)
      rw [hpl] at h63
      simp only [List.length_append, List.length_cons] at h63
      revert ho
      generalize pre.foldl (gstep inB (badB T n)) [] = out
      intro ho
      have ho : out.length ≤ 63 := by simp at ho; omega
      have L := lots_lot h1 hm hl
      obtain ⟨s1, s6⟩ := L.size
      refine ⟨_, rfl, ?_⟩
      have within : mLc (itOwn 2) [4] (.name 4) mYes (mCall (mFn m_is_within) (mCons (mVar 4) (mCons (mVar 3) mNil))) [some (.val H), some (.val (tD T)), some (.ol (out.map rD)), some (.val (rD l)), none, none] g = .ok (.ol (out.map fun y => .bool (inB y l))) [some (.val H), some (.val (tD T)), some (.ol (out.map rD)), some (.val (rD l)), none, none] g :=
        lc_mapP out rD (fun y => .bool (inB y l)) rfl fun y hy => ⟨_, rfl, by simp [blankE, keepO, ev_within]⟩
      have even : mLc (itVal (mCall (mFn m_sign_rows) (mCons (mCall (g1 fLen) (mCons (mVar 3) mNil)) mNil))) [5] (.name 5) mYes (mCall (mFn m_is_even) (mCons (mVar 1) (mCons (mVar 3) (mCons (mVar 5) mNil)))) [some (.val H), some (.val (tD T)), some (.ol (out.map rD)), some (.val (rD l)), none, none] g = .ok (.ol ((signsL l.length).map fun s => .bool (evenB T n l s))) [some (.val H), some (.val (tD T)), some (.ol (out.map rD)), some (.val (rD l)), none, none] g := by
        refine lc_mapP (signsL l.length) rD (fun s => .bool (evenB T n l s)) ?_ ?_
        · simp [ev_sign_rows s1 s6]
        · intro s hs
          refine ⟨_, rfl, ?_⟩
          simp [blankE, keepO, ev_is_even g h hn L (signs_v3 s1 s6 hs)]
      have b1 : boolsOf (out.map fun y => PyData.bool (inB y l)) = some (out.map fun y => inB y l) := boolsOf_mapF _ _
      have b2 : boolsOf ((signsL l.length).map fun s => PyData.bool (evenB T n l s)) = some ((signsL l.length).map fun s => evenB T n l s) := boolsOf_mapF _ _
      have a1 : ((out.map fun y => inB y l).any id) = out.any fun y => inB y l := by rw [List.any_map]; rfl
      have a2 : (((signsL l.length).map fun s => evenB T n l s).any id) = (signsL l.length).any fun s => evenB T n l s := by rw [List.any_map]; rfl
      simp only [List.set_cons_succ, List.set_cons_zero, sSeq_app, sIf_app, mTest_app, mCall_app, mCons_app, mFz_app, bnd_app, within, isTb_ol, fz_ol', ret_app, Bool.false_eq_true, ↓reduceIte, own_val, mNil_app, g1_app, fAny_list, b1, onS_some, a1, boolOf_bool]
      unfold gstep
      cases c : (out.any fun y => inB y l) with
      | true => exact ⟨.ct, _, rfl, .inr rfl, some (.val (rD l)), by simp⟩
      | false =>
        simp only [Bool.false_eq_true, ↓reduceIte, sNil_app, mNotB_app, mTest_app, mCall_app, mCons_app, mFz_app, bnd_app, even, isTb_ol, fz_ol', ret_app, own_val, mNil_app, g1_app, fAny_list, b2, onS_some, a2, boolOf_bool]
        unfold badB
        cases c2 : ((signsL l.length).any fun s => evenB T n l s) with
        | true => exact ⟨.nx, _, rfl, .inl rfl, some (.val (rD l)), by simp⟩
        | false =>
          refine ⟨.nx, _, by simp; rw [if_pos (by omega)], .inl rfl, some (.val (rD l)), by simp⟩)
    [some (.val H), some (.val (tD T)), some (.ol []), none, none, none] ⟨none, rfl⟩
  obtain ⟨e, L, x, rfl⟩ := key
  rw [gather_fold] at L
  unfold m_least_bad_lots mBody b_least_bad_lots
  simp [ev_table_from g h hh]
  rw [h.len, ev_lots_of h1 hm]
  simp
  rw [L]
  rfl
end
end Z
end
section
set_option linter.all false
set_option maxRecDepth 100000
set_option maxHeartbeats 4000000
/-! NF: the greatest whole lots; the law's own least and greatest ones. -/
namespace Z
open PySem PySem.Spec PyProof.Rows L2
/-! ### numbers sorted -/
theorem alike_int (a b : Int) : PySem.W.alike (.int a) (.int b) = true := by simp [PySem.W.alike]
theorem sortB_ints (xs : List Int) (h : xs.length ≤ 1000000) : sortB (xs.map PyData.int) = true := by
  unfold sortB
  simp only [lay_ints, Bool.true_and, Bool.and_eq_true, List.all_eq_true, List.mem_map, forall_exists_index, and_imp, forall_apply_eq_imp_iff₂, alike_int, Bool.or_eq_true, decide_eq_true_eq, List.length_map]
  refine ⟨⟨⟨fun _ _ _ _ => trivial, .inr fun _ _ => rfl⟩, h⟩, fun a _ => ?_⟩
  simp [PyData.depth]
def sortI (xs : List Int) : List Int := xs.mergeSort fun a b => decide (a ≤ b)
theorem sortD_ints (xs : List Int) : sortD (xs.map PyData.int) = (sortI xs).map PyData.int := by
  unfold sortD sortI
  refine (PySem.W.sort_maps PyData.int fun a _ b _ => ?_).symm
  show decide (a ≤ b) = !PySem.W.dataLt (.int b) (.int a)
  rw [PySem.W.dataLt_int]
  by_cases h : a ≤ b
  · simp [h, Int.not_lt.mpr h]
  · simp [h, Int.not_le.mp h]
theorem mem_sortI {xs : List Int} {i : Int} : i ∈ sortI xs ↔ i ∈ xs := (List.mergeSort_perm _ _).mem_iff
/-! ### rows compared -/
theorem eqvAll_ints : ∀ (a b : List Int), PyData.eqvAll (a.map PyData.int) (b.map PyData.int) = decide (a = b)
  | [], [] => by simp [PyData.eqvAll]
  | [], _ :: _ => by simp [PyData.eqvAll]
  | _ :: _, [] => by simp [PyData.eqvAll]
  | x :: a, y :: b => by
    rw [List.map_cons, List.map_cons, PyData.eqvAll, eqvAll_ints a b, eqv_int]
    by_cases h : x = y <;> by_cases h2 : a = b <;> simp [h, h2]
@[simp] theorem eqv_rD (a b : List Int) : PyData.eqv (rD a) (rD b) = decide (a = b) := by
  show PyData.eqv (.tuple _) (.tuple _) = _
  rw [PyData.eqv, eqvAll_ints]
def leastO (L : List (List Int)) : List (List Int) := L.filter fun x => !L.any fun y => decide (y ≠ x) && inB y x
def greatO (L : List (List Int)) : List (List Int) := L.filter fun x => !L.any fun y => decide (y ≠ x) && inB x y
def lstD (L : List (List Int)) : D := .list (L.map rD)
section
variable (g : Pen)
theorem ev_law_least (L : List (List Int)) : m__law_least [.val (lstD L)] g = .ok (.val (lstD (leastO L))) g := by
  simp [m__law_least, mBody, b__law_least]
  rw [lc_pureP L rD rD (fun x => !L.any fun y => decide (y ≠ x) && inB y x)]
  · rfl
  · rfl
  · intro x hx
    have inner : mLc (itVal (mVar 0)) [2] (.name 2) mYes (mAnd (mOp (fEq true) (mVar 2) (mVar 1)) (mCall (mFn m__law_is_part) (mCons (mVar 2) (mCons (mVar 1) mNil)))) [some (.val (lstD L)), some (.val (rD x)), none] g = .ok (.ol (L.map fun y => .bool (decide (y ≠ x) && inB y x))) [some (.val (lstD L)), some (.val (rD x)), none] g := by
      refine lc_mapP L rD (fun y => .bool (decide (y ≠ x) && inB y x)) rfl fun y hy => ⟨_, rfl, ?_⟩
      by_cases e : y = x
      · simp [blankE, keepO, e]
      · simp [blankE, keepO, e, part_is_within, ev_within]
    have b2 : boolsOf (L.map fun y => PyData.bool (decide (y ≠ x) && inB y x)) = some (L.map fun y => decide (y ≠ x) && inB y x) := boolsOf_mapF _ _
    refine ⟨_, [some (.val (lstD L)), some (.val (rD x)), none], rfl, ?_, fun _ => ⟨_, rfl⟩⟩
    show mNotB _ [some (.val (lstD L)), some (.val (rD x)), none] g = _
    simp only [mNotB_app, mTest_app, mCall_app, mCons_app, mFz_app, bnd_app, inner, isTb_ol, fz_ol', ret_app, own_val, mNil_app, g1_app, fAny_list, b2, onS_some, boolOf_bool, Bool.false_eq_true, ↓reduceIte, List.any_map]
    rfl
theorem ev_law_greatest (L : List (List Int)) : m__law_greatest [.val (lstD L)] g = .ok (.val (lstD (greatO L))) g := by
  simp [m__law_greatest, mBody, b__law_greatest]
  rw [lc_pureP L rD rD (fun x => !L.any fun y => decide (y ≠ x) && inB x y)]
  · rfl
  · rfl
  · intro x hx
    have inner : mLc (itVal (mVar 0)) [2] (.name 2) mYes (mAnd (mOp (fEq true) (mVar 2) (mVar 1)) (mCall (mFn m__law_is_part) (mCons (mVar 1) (mCons (mVar 2) mNil)))) [some (.val (lstD L)), some (.val (rD x)), none] g = .ok (.ol (L.map fun y => .bool (decide (y ≠ x) && inB x y))) [some (.val (lstD L)), some (.val (rD x)), none] g := by
      refine lc_mapP L rD (fun y => .bool (decide (y ≠ x) && inB x y)) rfl fun y hy => ⟨_, rfl, ?_⟩
      by_cases e : y = x
      · simp [blankE, keepO, e]
      · simp [blankE, keepO, e, part_is_within, ev_within]
    have b2 : boolsOf (L.map fun y => PyData.bool (decide (y ≠ x) && inB x y)) = some (L.map fun y => decide (y ≠ x) && inB x y) := boolsOf_mapF _ _
    refine ⟨_, [some (.val (lstD L)), some (.val (rD x)), none], rfl, ?_, fun _ => ⟨_, rfl⟩⟩
    show mNotB _ [some (.val (lstD L)), some (.val (rD x)), none] g = _
    simp only [mNotB_app, mTest_app, mCall_app, mCons_app, mFz_app, bnd_app, inner, isTb_ol, fz_ol', ret_app, own_val, mNil_app, g1_app, fAny_list, b2, onS_some, boolOf_bool, Bool.false_eq_true, ↓reduceIte, List.any_map]
    rfl
/-! ### the program's greatest ones -/
def moreL (m : Nat) (l : List Int) : List (List Int) := ((List.range m).filter fun (i : Nat) => !l.contains (i : Int)).map fun (i : Nat) => sortI (l ++ [(i : Int)])
def greatB (bar : List (List Int)) (m : Nat) (l : List Int) : Bool := !(bar.any fun y => inB y l) && (moreL m l).all fun w => bar.any fun y => inB y w
def fstep (p : List Int → Bool) (out : List (List Int)) (x : List Int) : List (List Int) := if p x = true then out ++ [x] else out
theorem fstep_fold (p : List Int → Bool) : ∀ (l out : List (List Int)), l.foldl (fstep p) out = out ++ l.filter p
  | [], out => by simp
  | x :: l, out => by
    rw [List.foldl_cons, fstep_fold p l, List.filter_cons]
    unfold fstep
    split <;> simp
theorem dNotIn_int (i : Int) (k : List Int) : dIn true (.int i) (k.map PyData.int) = some (.bool (!k.contains i)) := by
  have h := dIn_int i k
  unfold dIn at h ⊢
  rw [if_pos ⟨sh_int i, sh_ints k⟩] at h ⊢
  simp only [Bool.false_eq_true, if_false, Option.some.injEq, PyData.bool.injEq] at h
  simp only [if_true, h]
variable {T : List (List Int)} {m n : Nat}
theorem ev_greatest (h : Tbl T m n) (hm : m ≤ 6) (hn : n ≤ 1000) {H : D} (hh : Hand T H) : m_greatest_whole_lots [.val H] g = .ok (.val (.tuple (((lotsL m).filter (greatB (leastL T m n) m)).map rD))) g := by
  have h1 : 1 ≤ m := h.hm
  let bar := leastL T m n
  have smm : small62 (m : Int) = true := by unfold small62; simp; omega
  have key := for_foldB (g := g) (t := .name 4) (mb := (sSeq (sIf (mTest (mCall (g1 fAny) (mCons (mFz (mLc (itVal (mVar 2)) [5] (.name 5) mYes (mCall (mFn m_is_within) (mCons (mVar 5) (mCons (mVar 4) mNil))))) mNil))) sCont sNil)
     (sSeq (sAfter [7] (sSet 7 (mLc (itRng1 (mCons (mCall (g1 fLen) (mCons (mVar 1) mNil)) mNil)) [6] (.name 6) (mTest (mOp (fIn true) (mVar 6) (mVar 4))) (mCall (g1 fTuple) (mCons (mFz (mCall (g1 fSorted) (mCons (mOp fAdd (mVar 4) (mTup (mCons (mVar 6) mNil))) mNil))) mNil)))))
     (sIf (mTest (mCall (g1 fAll) (mCons (mFz (mLc (itVal (mVar 7)) [8] (.name 8) mYes (mCall (g1 fAny) (mCons (mFz (mLc (itVal (mVar 2)) [5] (.name 5) mYes (mCall (mFn m_is_within) (mCons (mVar 5) (mCons (mVar 8) mNil))))) mNil)))) mNil))) (sExpr (mAppend 3 (mVar 4))) sNil))))
    (φ := rD) (fstep (greatB bar m)) (fun out env => ∃ x y, env = [some (.val H), some (.val (tD T)), some (.val (.tuple (bar.map rD))), some (.ol (out.map rD)), x, none, none, y, none]) (lotsL m) [] (by
      rintro pre l post hpl env ⟨x, y, rfl⟩
      have hl : l ∈ lotsL m := by rw [hpl]; simp
      have h63 := lots_len m (by simp; omega)
      rw [hpl] at h63
      simp only [List.length_append, List.length_cons] at h63
      have ho : (pre.foldl (fstep (greatB bar m)) []).length ≤ 63 := by
        rw [fstep_fold, List.nil_append]
        have := List.length_filter_le (greatB bar m) pre
        omega
      generalize pre.foldl (fstep (greatB bar m)) [] = out at *
      have L := lots_lot h1 hm hl
      refine ⟨_, rfl, ?_⟩
      have within : mLc (itVal (mVar 2)) [5] (.name 5) mYes (mCall (mFn m_is_within) (mCons (mVar 5) (mCons (mVar 4) mNil))) [some (.val H), some (.val (tD T)), some (.val (.tuple (bar.map rD))), some (.ol (out.map rD)), some (.val (rD l)), none, none, y, none] g = .ok (.ol (bar.map fun y => .bool (inB y l))) [some (.val H), some (.val (tD T)), some (.val (.tuple (bar.map rD))), some (.ol (out.map rD)), some (.val (rD l)), none, none, y, none] g :=
        lc_mapP bar rD (fun y => .bool (inB y l)) rfl fun y hy => ⟨_, rfl, by simp [blankE, keepO, ev_within]⟩
      have more : mLc (itRng1 (mCons (mCall (g1 fLen) (mCons (mVar 1) mNil)) mNil)) [6] (.name 6) (mTest (mOp (fIn true) (mVar 6) (mVar 4))) (mCall (g1 fTuple) (mCons (mFz (mCall (g1 fSorted) (mCons (mOp fAdd (mVar 4) (mTup (mCons (mVar 6) mNil))) mNil))) mNil)) [some (.val H), some (.val (tD T)), some (.val (.tuple (bar.map rD))), some (.ol (out.map rD)), some (.val (rD l)), none, none, y, none] g = .ok (.ol ((moreL m l).map rD)) [some (.val H), some (.val (tD T)), some (.val (.tuple (bar.map rD))), some (.ol (out.map rD)), some (.val (rD l)), none, none, y, none] g := by
        have e : (moreL m l).map rD = ((List.range m).filter fun (i : Nat) => !l.contains (i : Int)).map fun (i : Nat) => rD (sortI (l ++ [(i : Int)])) := by unfold moreL; rw [List.map_map]; rfl
        rw [e]
        refine lc_pureT (List.range m) (fun (i : Nat) => PyData.int (i : Int)) (fun (i : Nat) => rD (sortI (l ++ [(i : Int)]))) (fun (i : Nat) => !l.contains (i : Int)) ?_ ?_
        · simp [tD, h.len, smm, rng_map]
        · intro i hi
          refine ⟨_, rfl, ?_, fun _ => ?_⟩
          · simp [blankE, keepO, rD, dNotIn_int]
          · have ls := L.2.1
            have es : l.map PyData.int ++ [PyData.int (i : Int)] = (l ++ [(i : Int)]).map PyData.int := by simp
            have sb : sortB (l.map PyData.int ++ [PyData.int (i : Int)]) = true := by rw [es]; exact sortB_ints _ (by simp; omega)
            have sd : sortD (l.map PyData.int ++ [PyData.int (i : Int)]) = (sortI (l ++ [(i : Int)])).map PyData.int := by rw [es, sortD_ints]
            simp [blankE, keepO, rD]
            rw [if_pos (by omega)]
            simp [sb, sd]
      have b1 : boolsOf (bar.map fun y => PyData.bool (inB y l)) = some (bar.map fun y => inB y l) := boolsOf_mapF _ _
      have inner : mLc (itVal (mVar 7)) [8] (.name 8) mYes (mCall (g1 fAny) (mCons (mFz (mLc (itVal (mVar 2)) [5] (.name 5) mYes (mCall (mFn m_is_within) (mCons (mVar 5) (mCons (mVar 8) mNil))))) mNil)) [some (.val H), some (.val (tD T)), some (.val (.tuple (bar.map rD))), some (.ol (out.map rD)), some (.val (rD l)), none, none, some (.val (.list ((moreL m l).map rD))), none] g = .ok (.ol ((moreL m l).map fun w => .bool (bar.any fun y => inB y w))) [some (.val H), some (.val (tD T)), some (.val (.tuple (bar.map rD))), some (.ol (out.map rD)), some (.val (rD l)), none, none, some (.val (.list ((moreL m l).map rD))), none] g := by
        refine lc_mapP (moreL m l) rD (fun w => .bool (bar.any fun y => inB y w)) rfl fun w hw => ⟨_, rfl, ?_⟩
        have b3 : boolsOf (bar.map fun y => PyData.bool (inB y w)) = some (bar.map fun y => inB y w) := boolsOf_mapF _ _
        have a3 : ((bar.map fun y => inB y w).any id) = bar.any fun y => inB y w := by rw [List.any_map]; rfl
        have I : mLc (itVal (mVar 2)) [5] (.name 5) mYes (mCall (mFn m_is_within) (mCons (mVar 5) (mCons (mVar 8) mNil))) [some (.val H), some (.val (tD T)), some (.val (.tuple (bar.map rD))), none, some (.val (rD l)), none, none, some (.val (.list ((moreL m l).map rD))), some (.val (rD w))] g = .ok (.ol (bar.map fun y => .bool (inB y w))) [some (.val H), some (.val (tD T)), some (.val (.tuple (bar.map rD))), none, some (.val (rD l)), none, none, some (.val (.list ((moreL m l).map rD))), some (.val (rD w))] g :=
          lc_mapP bar rD (fun y => .bool (inB y w)) rfl fun y hy => ⟨_, rfl, by simp [blankE, keepO, ev_within]⟩
        show ∃ e4, mCall (g1 fAny) _ [some (.val H), some (.val (tD T)), some (.val (.tuple (bar.map rD))), none, some (.val (rD l)), none, none, some (.val (.list ((moreL m l).map rD))), some (.val (rD w))] g = .ok (.val (.bool (bar.any fun y => inB y w))) e4 g
        simp only [mCall_app, mCons_app, mFz_app, bnd_app, I, isTb_ol, fz_ol', ret_app, own_val, mNil_app, g1_app, fAny_list, b3, onS_some, a3, Bool.false_eq_true, ↓reduceIte]
        exact ⟨_, rfl⟩
      have b4 : boolsOf ((moreL m l).map fun w => PyData.bool (bar.any fun y => inB y w)) = some ((moreL m l).map fun w => bar.any fun y => inB y w) := boolsOf_mapF _ _
      have a1 : ((bar.map fun y => inB y l).any id) = bar.any fun y => inB y l := by rw [List.any_map]; rfl
      have a4 : (((moreL m l).map fun w => bar.any fun y => inB y w).all id) = (moreL m l).all fun w => bar.any fun y => inB y w := by rw [List.all_map]; rfl
      simp only [List.set_cons_succ, List.set_cons_zero, sSeq_app, sIf_app, mTest_app, mCall_app, mCons_app, mFz_app, bnd_app, within, isTb_ol, fz_ol', ret_app, Bool.false_eq_true, ↓reduceIte, own_val, mNil_app, g1_app, fAny_list, b1, onS_some, a1, boolOf_bool]
      unfold fstep greatB
      cases c : (bar.any fun y => inB y l) with
      | true => exact ⟨.ct, _, rfl, .inr rfl, some (.val (rD l)), y, by simp⟩
      | false =>
        have st : ∀ y : Option Sl, setlE [7] 0 [some (Sl.val H), some (.val (tD T)), some (.val (.tuple (bar.map rD))), some (.ol (out.map rD)), some (.val (rD l)), none, none, some (.ol ((moreL m l).map rD)), none] = [some (Sl.val H), some (.val (tD T)), some (.val (.tuple (bar.map rD))), some (.ol (out.map rD)), some (.val (rD l)), none, none, some (.val (.list ((moreL m l).map rD))), none] := fun _ => rfl
        simp only [Bool.false_eq_true, ↓reduceIte, sNil_app, sAfter_app, sSet_app, more, List.set_cons_succ, List.set_cons_zero, st none, inner, fz_ol', isTb_ol, own_val, ret_app, bnd_app, mNil_app, g1_app, fAll_list, b4, onS_some, a4, boolOf_bool]
        cases c2 : ((moreL m l).all fun w => bar.any fun y => inB y w) with
        | true =>
          simp only [↓reduceIte, Bool.not_false, Bool.and_self, sExpr_app, mAppend_app, bnd_app, grd_app, isOl_app, mVar_app, List.getElem?_cons_succ, List.getElem?_cons_zero, isTb_val, own_val, fz_val, Bool.false_eq_true, withOl_app, appAt_app, List.length_map, ret_app]
          rw [if_pos (by omega)]
          exact ⟨.nx, _, rfl, .inl rfl, some (.val (rD l)), some (.val (.list ((moreL m l).map rD))), by simp⟩
        | false => exact ⟨.nx, _, rfl, .inl rfl, some (.val (rD l)), some (.val (.list ((moreL m l).map rD))), by simp⟩)
    [some (.val H), some (.val (tD T)), some (.val (.tuple (bar.map rD))), some (.ol []), none, none, none, none, none] ⟨none, none, rfl⟩
  obtain ⟨e, L, x, y, rfl⟩ := key
  rw [fstep_fold, List.nil_append] at L
  unfold m_greatest_whole_lots mBody b_greatest_whole_lots
  simp [ev_table_from g h hh, ev_least_bad g h hm hn .tt]
  rw [h.len, ev_lots_of h1 hm]
  simp
  rw [L]
  rfl
end
end Z
end
section
set_option linter.all false
set_option maxRecDepth 100000
set_option maxHeartbeats 4000000
/-! NG: the law's own splitting, by sums. -/
namespace Z
open PySem PySem.Spec PyProof.Rows L2
def inK (x : List Int) : List Key := x.map Sum.inl
def sumK (S : List (List Int)) : List (List Key × D) := S.map fun x => (inK x, .bool true)
def sumD (S : List (List Int)) : D := ktD (sumK S)
def addK (S : List (List Int)) (x : List Int) : List (List Int) := if x ∈ S then S else S ++ [x]
theorem inK_inj {a b : List Int} (h : inK a = inK b) : a = b := List.map_inj_right (fun _ _ e => Sum.inl.inj e) |>.mp h
theorem putD_sum (S : List (List Int)) (x : List Int) : putD (sumK S) (inK x) (.bool true) = sumK (addK S x) := by
  unfold putD addK
  have e : ((sumK S).any fun kv => decide (kv.1 = inK x)) = decide (x ∈ S) := by
    unfold sumK
    rw [List.any_map]
    induction S with
    | nil => simp
    | cons a r ih =>
      rw [List.any_cons, ih]
      have h2 : ((fun kv : List Key × D => decide (kv.1 = inK x)) ∘ fun x => (inK x, PyData.bool true)) a = decide (x = a) := by
        show decide (inK a = inK x) = _
        by_cases h : x = a
        · subst h; simp
        · have : ¬inK a = inK x := fun z => h (inK_inj z).symm
          simp [h, this]
      rw [h2]
      simp [List.mem_cons]
  rw [e]
  by_cases h : x ∈ S
  · simp only [h, decide_true, if_true]
    unfold sumK
    rw [List.map_map]
    refine List.map_congr_left fun a _ => ?_
    simp only [Function.comp]
    split <;> rfl
  · simp only [h, decide_false, Bool.false_eq_true, if_false]
    simp [sumK]
theorem keysOf_ints (x : List Int) : keysOf (x.map PyData.int) = some (inK x) := by
  have := keysOf_kD (inK x)
  have e : (inK x).map kD = x.map PyData.int := by
    unfold inK
    rw [List.map_map]
    rfl
  rw [e] at this
  exact this
theorem it_sumD (S : List (List Int)) (env : Env) (g : Pen) (m : Mir Sl) (h : m env g = .ok (.val (sumD S)) env g) : itVal m env g = .ok (S.map rD) env g := by
  simp only [itVal_app, bnd_app, h]
  unfold sumD ktD
  have hc : isClo ((sumK S).map fun q => (PyData.tuple (q.1.map kD), q.2)) = false := by cases S <;> rfl
  simp only [hc, Bool.false_eq_true, ↓reduceIte, ret_app]
  unfold sumK
  rw [List.map_map, List.map_map]
  congr 1
  refine List.map_congr_left fun x _ => ?_
  show PyData.tuple ((inK x).map kD) = rD x
  unfold inK rD
  rw [List.map_map]
  rfl
@[simp] theorem sDput_app (i : Nat) (mk mv : Mir Sl) (env : Env) (g : Pen) : sDput i mk mv env g = bnd mv (fun y => grdD i (bnd mk fun k => dputAt i k y)) env g := rfl
theorem dput_sum {env : Env} {g : Pen} {i : Nat} {S : List (List Int)} {x : List Int} (h : env[i]? = some (some (.ot (sumK S)))) (hl : S.length ≤ 1000000) : dputAt i (.val (rD x)) (.val (.bool true)) env g = .ok .nx (env.set i (some (.ot (sumK (addK S x))))) g := by
  unfold dputAt
  rw [h]
  show (match keysOf (x.map PyData.int) with | some key => _ | none => _) = _
  rw [keysOf_ints]
  show (if (sumK S).length ≤ 1000000 then _ else _) = _
  rw [if_pos (by unfold sumK; rw [List.length_map]; exact hl), putD_sum]

def vadd (a b : List Int) : List Int := (a.zip b).map fun p => p.1 + p.2
def vsub (a b : List Int) : List Int := (a.zip b).map fun p => p.1 - p.2
def addR (row : List Int) (acc : List (List Int)) (one : List Int) : List (List Int) := addK (addK acc (vadd one row)) (vsub one row)
def stepS (T : List (List Int)) (S : List (List Int)) (i : Int) : List (List Int) := S.foldl (addR (T.getD i.toNat [])) []
def sumsL (T : List (List Int)) (n : Nat) (lot : List Int) : List (List Int) := lot.foldl (stepS T) [List.replicate n 0]
theorem addK_len (S : List (List Int)) (x : List Int) : (addK S x).length ≤ S.length + 1 := by
  unfold addK
  split <;> simp
theorem addR_len (row : List Int) : ∀ (l acc : List (List Int)), (l.foldl (addR row) acc).length ≤ acc.length + 2 * l.length
  | [], acc => by simp
  | x :: l, acc => by
    rw [List.foldl_cons, List.length_cons]
    have h1 := addR_len row l (addR row acc x)
    have h2 := addK_len (addK acc (vadd x row)) (vsub x row)
    have h3 := addK_len acc (vadd x row)
    unfold addR at h1 ⊢
    omega
theorem stepS_len (T : List (List Int)) : ∀ (lot : List Int) (S : List (List Int)), (lot.foldl (stepS T) S).length ≤ S.length * 2 ^ lot.length
  | [], S => by simp
  | i :: lot, S => by
    rw [List.foldl_cons, List.length_cons, Nat.pow_succ]
    have h1 := stepS_len T lot (stepS T S i)
    have h2 := addR_len (T.getD i.toNat []) S []
    have h3 : (stepS T S i).length ≤ 2 * S.length := by unfold stepS; simpa using h2
    have h4 := Nat.mul_le_mul_right (2 ^ lot.length) h3
    have h5 : 2 * S.length * 2 ^ lot.length = S.length * (2 ^ lot.length * 2) := by
      rw [Nat.mul_comm 2 S.length, Nat.mul_assoc, Nat.mul_comm 2]
    omega
/-- all entries within -1 and 1 -/
def flatB (x : List Int) : Bool := x.all fun z => decide (z ≤ 1) && decide (-1 ≤ z)
def splitB (T : List (List Int)) (n : Nat) (lot : List Int) : Bool := (sumsL T n lot).any flatB
theorem addK_mem {S : List (List Int)} {x y : List Int} : y ∈ addK S x ↔ y ∈ S ∨ y = x := by
  unfold addK
  split
  · constructor
    · exact .inl
    · rintro (h | rfl)
      · exact h
      · assumption
  · simp
theorem addR_mem {row : List Int} {y : List Int} : ∀ {l acc : List (List Int)}, y ∈ l.foldl (addR row) acc ↔ y ∈ acc ∨ ∃ x ∈ l, y = vadd x row ∨ y = vsub x row
  | [], acc => by simp
  | x :: l, acc => by
    rw [List.foldl_cons, addR_mem]
    unfold addR
    rw [addK_mem, addK_mem]
    simp only [List.mem_cons, exists_eq_or_imp]
    constructor
    · rintro (((h | h) | h) | h)
      · exact .inl h
      · exact .inr (.inl (.inl h))
      · exact .inr (.inl (.inr h))
      · exact .inr (.inr h)
    · rintro (h | (h | h) | h)
      · exact .inl (.inl (.inl h))
      · exact .inl (.inl (.inr h))
      · exact .inl (.inr h)
      · exact .inr h
theorem stepS_mem {T S : List (List Int)} {i : Int} {y : List Int} : y ∈ stepS T S i ↔ ∃ x ∈ S, y = vadd x (T.getD i.toNat []) ∨ y = vsub x (T.getD i.toNat []) := by
  unfold stepS
  rw [addR_mem]
  simp
@[simp] theorem mDispT_app (mk mv : Mir Sl) (env : Env) (g : Pen) : mDispT mk mv env g = bnd mk (fun x => bnd mv fun y => dispT x y) env g := rfl
@[simp] theorem mDnewT_app (env : Env) (g : Pen) : mDnewT env g = .ok (.ot []) env g := rfl
theorem maxI_iff {x : Int} : ∀ {xs : List Int}, maxI x xs ≤ 1 ↔ x ≤ 1 ∧ ∀ z ∈ xs, z ≤ 1
  | [] => by simp [maxI]
  | y :: ys => by
    have e : maxI x (y :: ys) = maxI (if x < y then y else x) ys := rfl
    rw [e, maxI_iff]
    simp only [List.mem_cons, forall_eq_or_imp]
    constructor
    · rintro ⟨h1, h2⟩
      split at h1
      · exact ⟨by omega, h1, h2⟩
      · exact ⟨h1, by omega, h2⟩
    · rintro ⟨h1, h2, h3⟩
      exact ⟨by split <;> assumption, h3⟩
theorem minI_iff {x : Int} : ∀ {xs : List Int}, -1 ≤ minI x xs ↔ -1 ≤ x ∧ ∀ z ∈ xs, -1 ≤ z
  | [] => by simp [minI]
  | y :: ys => by
    have e : minI x (y :: ys) = minI (if y < x then y else x) ys := rfl
    rw [e, minI_iff]
    simp only [List.mem_cons, forall_eq_or_imp]
    constructor
    · rintro ⟨h1, h2⟩
      split at h1
      · exact ⟨by omega, h1, h2⟩
      · exact ⟨h1, by omega, h2⟩
    · rintro ⟨h1, h2, h3⟩
      exact ⟨by split <;> assumption, h3⟩
theorem flatB_cons (x : Int) (xs : List Int) : (decide (maxI x xs ≤ 1) && decide (-1 ≤ minI x xs)) = flatB (x :: xs) := by
  rw [Bool.eq_iff_iff]
  simp only [Bool.and_eq_true, decide_eq_true_eq, maxI_iff, minI_iff, flatB, List.all_eq_true, List.mem_cons]
  constructor
  · rintro ⟨⟨a, b⟩, c, d⟩ z (rfl | hz)
    · exact ⟨a, c⟩
    · exact ⟨b z hz, d z hz⟩
  · intro h
    exact ⟨⟨(h x (.inl rfl)).1, fun z hz => (h z (.inr hz)).1⟩, (h x (.inl rfl)).2, fun z hz => (h z (.inr hz)).2⟩
theorem sums_len {T : List (List Int)} {m n : Nat} (h : Tbl T m n) : ∀ {lot : List Int} {S : List (List Int)}, (∀ i ∈ lot, 0 ≤ i ∧ i < m) → (∀ x ∈ S, x.length = n) → ∀ x ∈ lot.foldl (stepS T) S, x.length = n
  | [], S, _, hS => hS
  | i :: lot, S, hl, hS => by
    rw [List.foldl_cons]
    refine sums_len h (fun k hk => hl k (List.mem_cons_of_mem _ hk)) fun x hx => ?_
    obtain ⟨y, hy, e⟩ := stepS_mem.mp hx
    obtain ⟨row, er, _, lr, _⟩ := h.at_ (show i.toNat < m by have := hl i List.mem_cons_self; omega)
    have egr : T.getD i.toNat [] = row := by rw [List.getD_eq_getElem?_getD, er]; rfl
    rw [egr] at e
    rcases e with rfl | rfl
    · simp [vadd, hS y hy, lr]
    · simp [vsub, hS y hy, lr]
section
variable {T : List (List Int)} {m n : Nat} (g : Pen)
theorem ev_split (h : Tbl T m n) (hn : n ≤ 1000) {lot : List Int} (hl : Lot m lot) : m__law_split [.val (tD T), .val (rD lot)] g = .ok (.val (.bool (splitB T n lot))) g := by
  have hn1 := h.hn
  obtain ⟨r0, e0, _, l0, _⟩ := h.at_ h.hm
  -- one key more
  have turn : ∀ (op : Int → Int → Int) (F : Sl → Sl → Mir Sl) (i : Int) (row one : List Int) (M : Option Sl) (y : Option Sl), (∀ a b env g, F (.val (.int a)) (.val (.int b)) env g = .ok (.val (.int (op a b))) env g) → i ∈ lot → T[i.toNat]? = some row →
      mLc (itZip (mCons (mVar 5) (mCons (mOp fIx (mVar 0) (mVar 3)) mNil))) [6, 7] (.two 6 7) mYes (mOp F (mVar 6) (mVar 7)) [some (.val (tD T)), some (.val (rD lot)), y, some (.val (.int i)), M, some (.val (rD one)), none, none] g =
        .ok (.ol ((one.zip row).map fun p => PyData.int (op p.1 p.2))) [some (.val (tD T)), some (.val (rD lot)), y, some (.val (.int i)), M, some (.val (rD one)), none, none] g := by
    intro op F i row one M y hF hi er
    have i0 := (hl.2.2 i hi).1
    refine lc_mapP (one.zip row) (fun p => .tuple [.int p.1, .int p.2]) (fun p => PyData.int (op p.1 p.2)) ?_ ?_
    · simp [zipOf, zipD_ints, tD, atI_of i0, er]
    · rintro ⟨a, b⟩ hp
      refine ⟨_, rfl, ?_⟩
      simp [blankE, keepO, hF]
  have outer := for_foldB (g := g) (t := .name 3) (mb := (sSeq (sSet 4 mDnewT)
     (sSeq (sFor (itVal (mVar 2)) (.name 5) (sSeq (sDput 4 (mCall (g1 fTuple) (mCons (mFz (mLc (itZip (mCons (mVar 5) (mCons (mOp fIx (mVar 0) (mVar 3)) mNil))) [6, 7] (.two 6 7) mYes (mOp fAdd (mVar 6) (mVar 7)))) mNil)) (mC (.bool true)))
     (sDput 4 (mCall (g1 fTuple) (mCons (mFz (mLc (itZip (mCons (mVar 5) (mCons (mOp fIx (mVar 0) (mVar 3)) mNil))) [6, 7] (.two 6 7) mYes (mOp fSub (mVar 6) (mVar 7)))) mNil)) (mC (.bool true)))))
     (sSet 2 (mVar 4)))))
    (φ := PyData.int) (stepS T) (fun S env => ∃ x y z, env = [some (.val (tD T)), some (.val (rD lot)), some (.val (sumD S)), x, y, z, none, none]) lot [List.replicate n 0] (by
      rintro pre i post hpl env ⟨x, y, z, rfl⟩
      have hi : i ∈ lot := by rw [hpl]; simp
      have hS : (pre.foldl (stepS T) [List.replicate n 0]).length ≤ 64 := by
        have h1 := stepS_len T pre [List.replicate n 0]
        have h2 : pre.length ≤ 6 := by
          have := congrArg List.length hpl
          have := hl.2.1
          simp at *
          omega
        have h3 := Nat.pow_le_pow_right (show 0 < 2 by decide) h2
        simp at h1
        omega
      generalize pre.foldl (stepS T) [List.replicate n 0] = S at *
      obtain ⟨row, er, _, _, _⟩ := h.at_ (show i.toNat < m by have := hl.2.2 i hi; omega)
      have egr : T.getD i.toNat [] = row := by rw [List.getD_eq_getElem?_getD, er]; rfl
      refine ⟨_, rfl, ?_⟩
      have inner := for_foldB (g := g) (t := .name 5) (mb := (sSeq (sDput 4 (mCall (g1 fTuple) (mCons (mFz (mLc (itZip (mCons (mVar 5) (mCons (mOp fIx (mVar 0) (mVar 3)) mNil))) [6, 7] (.two 6 7) mYes (mOp fAdd (mVar 6) (mVar 7)))) mNil)) (mC (.bool true)))
         (sDput 4 (mCall (g1 fTuple) (mCons (mFz (mLc (itZip (mCons (mVar 5) (mCons (mOp fIx (mVar 0) (mVar 3)) mNil))) [6, 7] (.two 6 7) mYes (mOp fSub (mVar 6) (mVar 7)))) mNil)) (mC (.bool true)))))
        (φ := rD) (addR row) (fun A env => ∃ z, env = [some (.val (tD T)), some (.val (rD lot)), some (.val (sumD S)), some (.val (.int i)), some (.ot (sumK A)), z, none, none]) S [] (by
          rintro pre2 one post2 hp2 env ⟨z, rfl⟩
          have hA : (pre2.foldl (addR row) []).length ≤ 200 := by
            have h1 := addR_len row pre2 []
            have h2 : pre2.length ≤ 64 := by
              have := congrArg List.length hp2
              simp at this
              omega
            simp at h1
            omega
          generalize pre2.foldl (addR row) [] = A at *
          refine ⟨_, rfl, .nx, [some (.val (tD T)), some (.val (rD lot)), some (.val (sumD S)), some (.val (.int i)), some (.ot (sumK (addR row A one))), some (.val (rD one)), none, none], ?_, .inl rfl, some (.val (rD one)), rfl⟩
          have t1 := turn (· + ·) fAdd i row one (some (.ot (sumK A))) (some (.val (sumD S))) (fun _ _ _ _ => rfl) hi er
          have t2 := turn (· - ·) fSub i row one (some (.ot (sumK (addK A (vadd one row))))) (some (.val (sumD S))) (fun _ _ _ _ => rfl) hi er
          have q1 := addK_len A (vadd one row)
          have p1 := dput_sum (g := g) (env := [some (.val (tD T)), some (.val (rD lot)), some (.val (sumD S)), some (.val (.int i)), some (.ot (sumK A)), some (.val (rD one)), none, none]) (i := 4) (S := A) (x := vadd one row) rfl (by omega)
          have p2 := dput_sum (g := g) (env := [some (.val (tD T)), some (.val (rD lot)), some (.val (sumD S)), some (.val (.int i)), some (.ot (sumK (addK A (vadd one row)))), some (.val (rD one)), none, none]) (i := 4) (S := addK A (vadd one row)) (x := vsub one row) rfl (by omega)
          have f1 : PyData.tuple ((one.zip row).map fun p => PyData.int (p.1 + p.2)) = rD (vadd one row) := by unfold rD vadd; rw [List.map_map]; rfl
          have f2 : PyData.tuple ((one.zip row).map fun p => PyData.int (p.1 - p.2)) = rD (vsub one row) := by unfold rD vsub; rw [List.map_map]; rfl
          simp only [List.set_cons_succ, List.set_cons_zero] at p1 p2
          simp only [List.set_cons_succ, List.set_cons_zero, sSeq_app, sDput_app, bnd_app, mC_app, grdD, isOd, List.getElem?_cons_succ, List.getElem?_cons_zero, ↓reduceIte, mCall_app, mCons_app, mFz_app, t1, isTb_ol, Bool.false_eq_true, ret_app, fz_ol', own_val, mNil_app, g1_app, fTuple_app, seqOf_list, onS_some, f1, p1, t2, f2, p2]
          rfl)
        [some (.val (tD T)), some (.val (rD lot)), some (.val (sumD S)), some (.val (.int i)), some (.ot []), z, none, none] ⟨z, rfl⟩
      obtain ⟨e, L, z2, rfl⟩ := inner
      refine ⟨.nx, [some (.val (tD T)), some (.val (rD lot)), some (.val (sumD (stepS T S i))), some (.val (.int i)), some (.val (sumD (stepS T S i))), z2, none, none], ?_, .inl rfl, _, _, _, rfl⟩
      have it := it_sumD S [some (.val (tD T)), some (.val (rD lot)), some (.val (sumD S)), some (.val (.int i)), some (.ot []), z, none, none] g (mVar 2) rfl
      have es : S.foldl (addR row) [] = stepS T S i := by unfold stepS; rw [egr]
      rw [es] at L
      simp only [List.set_cons_succ, List.set_cons_zero, sSeq_app, sSet_app, mDnewT_app, sFor_app, bnd_app, it, L]
      rfl)
    [some (.val (tD T)), some (.val (rD lot)), some (.val (sumD [List.replicate n 0])), none, none, none, none, none] ⟨none, none, none, rfl⟩
  obtain ⟨e, L, x, y, z, rfl⟩ := outer
  unfold m__law_split mBody b__law_split
  have hz : (List.replicate n [PyData.int 0]).flatten = (List.replicate n (0 : Int)).map PyData.int := by simp
  have first : (mFz (mDispT (mOp fMul (mTup (mCons (mC (.int 0)) mNil)) (mCall (g1 fLen) (mCons (mOp fIx (mVar 0) (mC (.int 0))) mNil))) (mC (.bool true)))) [some (.val (tD T)), some (.val (rD lot)), none, none, none, none, none, none] g = .ok (.val (sumD [List.replicate n 0])) [some (.val (tD T)), some (.val (rD lot)), none, none, none, none, none, none] g := by
    simp [tD, atI_zero, e0, l0]
    rw [if_pos (by omega)]
    have hz2 : List.replicate n (PyData.int 0) = (List.replicate n (0 : Int)).map PyData.int := by simp
    simp only [ret_app, hz2, dispT, keysOf_ints, onS_some, isTb_ot, Bool.false_eq_true, ↓reduceIte, fz_ot']
    rfl
  have last : mLc (itVal (mVar 2)) [5] (.name 5) mYes (mAnd (mOp fLe (mCall (g1 (fBest maxI)) (mCons (mVar 5) mNil)) (mC (.int 1))) (mOp fGe (mCall (g1 (fBest minI)) (mCons (mVar 5) mNil)) (mNeg (mC (.int 1))))) [some (.val (tD T)), some (.val (rD lot)), some (.val (sumD (lot.foldl (stepS T) [List.replicate n 0]))), x, y, z, none, none] g =
      .ok (.ol ((lot.foldl (stepS T) [List.replicate n 0]).map fun r => .bool (flatB r))) [some (.val (tD T)), some (.val (rD lot)), some (.val (sumD (lot.foldl (stepS T) [List.replicate n 0]))), x, y, z, none, none] g := by
    refine lc_mapP _ rD (fun r => .bool (flatB r)) (it_sumD _ _ g _ rfl) fun r hr => ⟨_, rfl, ?_⟩
    have lr := sums_len h hl.2.2 (S := [List.replicate n 0]) (by simp) r hr
    obtain ⟨a, as, rfl⟩ : ∃ a as, r = a :: as := by
      cases r with
      | nil => simp at lr; omega
      | cons a as => exact ⟨a, as, rfl⟩
    rw [← flatB_cons]
    by_cases c : maxI a as ≤ 1
    · simp [blankE, keepO, c]
    · simp [blankE, keepO, c]
  have b1 : boolsOf ((lot.foldl (stepS T) [List.replicate n 0]).map fun r => PyData.bool (flatB r)) = some ((lot.foldl (stepS T) [List.replicate n 0]).map flatB) := boolsOf_mapF _ _
  have il : itVal (mVar 1) [some (.val (tD T)), some (.val (rD lot)), some (.val (sumD [List.replicate n 0])), none, none, none, none, none] g = .ok (lot.map PyData.int) [some (.val (tD T)), some (.val (rD lot)), some (.val (sumD [List.replicate n 0])), none, none, none, none, none] g := rfl
  show (match sSeq _ _ [some (.val (tD T)), some (.val (rD lot)), none, none, none, none, none, none] g with | .ok .nx _ g' => _ | .ok (.rt sl) _ g' => _ | .exc x g' => _ | _ => _) = _
  simp only [sSeq_app, sSet_app, first, List.set_cons_succ, List.set_cons_zero, sFor_app, bnd_app, il, L, sRet_app, mCall_app, mCons_app, mFz_app, last, isTb_ol, Bool.false_eq_true, ↓reduceIte, ret_app, fz_ol', own_val, mNil_app, g1_app, fAny_list, b1, onS_some]
  have a1 : ((lot.foldl (stepS T) [List.replicate n 0]).map flatB).any id = splitB T n lot := by rw [List.any_map]; rfl
  rw [a1]
end
end Z
end
section
set_option linter.all false
set_option maxRecDepth 100000
set_option maxHeartbeats 4000000
/-! NH: the law's lots are the program's. -/
namespace Z
open PySem PySem.Spec PyProof.Rows L2
def Pm (s : List Int) : Prop := ∀ z ∈ s, z = 1 ∨ z = -1
section
variable {T : List (List Int)} {m n : Nat}
theorem colS_cons (s i : Int) (lot signs : List Int) (j : Nat) : colS T (i :: lot) (s :: signs) j = s * entT T i.toNat j + colS T lot signs j := by
  simp [colS]
theorem colS_neg (j : Nat) : ∀ (lot signs : List Int), colS T lot (signs.map fun z => -z) j = -colS T lot signs j
  | [], _ => by simp [colS]
  | _ :: _, [] => by simp [colS]
  | i :: lot, s :: signs => by
    rw [List.map_cons, colS_cons, colS_cons, colS_neg j lot signs]
    grind
theorem getD_zip (f : Int → Int → Int) {a b : List Int} {j : Nat} (ha : j < a.length) (hb : j < b.length) : ((a.zip b).map fun p => f p.1 p.2).getD j 0 = f (a.getD j 0) (b.getD j 0) := by
  have hz : j < ((a.zip b).map fun p => f p.1 p.2).length := by simp; omega
  rw [List.getD_eq_getElem?_getD, List.getElem?_eq_getElem hz, List.getD_eq_getElem?_getD, List.getElem?_eq_getElem ha, List.getD_eq_getElem?_getD, List.getElem?_eq_getElem hb]
  simp
theorem row_ent {i : Int} {j : Nat} : (T.getD i.toNat []).getD j 0 = entT T i.toNat j := rfl
theorem row_len (h : Tbl T m n) {i : Int} (hi : 0 ≤ i ∧ i < m) : (T.getD i.toNat []).length = n := by
  obtain ⟨row, er, _, lr, _⟩ := h.at_ (show i.toNat < m by omega)
  rw [List.getD_eq_getElem?_getD, er]
  exact lr
theorem sums_of (h : Tbl T m n) : ∀ {lot : List Int} {S : List (List Int)}, (∀ i ∈ lot, 0 ≤ i ∧ i < m) → (∀ x ∈ S, x.length = n) → ∀ x ∈ lot.foldl (stepS T) S, ∃ x0 ∈ S, ∃ s, s.length = lot.length ∧ Pm s ∧ ∀ j, j < n → x.getD j 0 = x0.getD j 0 + colS T lot s j
  | [], S, _, _, x, hx => ⟨x, hx, [], rfl, (fun z hz => nomatch hz), fun j _ => by simp [colS]⟩
  | i :: lot, S, hl, hS, x, hx => by
    rw [List.foldl_cons] at hx
    have hi := hl i List.mem_cons_self
    have hS' : ∀ y ∈ stepS T S i, y.length = n := fun y hy => by
      have := sums_len h (lot := [i]) (S := S) (fun k hk => by rw [List.mem_singleton.mp hk]; exact hi) hS y (by simpa using hy)
      exact this
    obtain ⟨x1, h1, s, ls, ps, hc⟩ := sums_of h (fun k hk => hl k (List.mem_cons_of_mem _ hk)) hS' x hx
    obtain ⟨y, hy, e⟩ := stepS_mem.mp h1
    have ly := hS y hy
    have lr := row_len h hi
    rcases e with rfl | rfl
    · refine ⟨y, hy, 1 :: s, by simp [ls], fun z hz => ?_, fun j hj => ?_⟩
      · rcases List.mem_cons.mp hz with rfl | hz
        · exact .inl rfl
        · exact ps z hz
      · rw [hc j hj, colS_cons]
        unfold vadd
        rw [getD_zip (· + ·) (by omega) (by omega), row_ent]
        omega
    · refine ⟨y, hy, -1 :: s, by simp [ls], fun z hz => ?_, fun j hj => ?_⟩
      · rcases List.mem_cons.mp hz with rfl | hz
        · exact .inr rfl
        · exact ps z hz
      · rw [hc j hj, colS_cons]
        unfold vsub
        rw [getD_zip (· - ·) (by omega) (by omega), row_ent]
        omega
theorem sums_has (h : Tbl T m n) : ∀ {lot : List Int} {S : List (List Int)}, (∀ i ∈ lot, 0 ≤ i ∧ i < m) → (∀ x ∈ S, x.length = n) → ∀ x0 ∈ S, ∀ s, s.length = lot.length → Pm s → ∃ x ∈ lot.foldl (stepS T) S, ∀ j, j < n → x.getD j 0 = x0.getD j 0 + colS T lot s j
  | [], S, _, _, x0, hx, s, _, _ => ⟨x0, hx, fun j _ => by simp [colS]⟩
  | i :: lot, S, hl, hS, x0, hx, [], e, _ => by simp at e
  | i :: lot, S, hl, hS, x0, hx, z :: s, e, ps => by
    rw [List.foldl_cons]
    have hi := hl i List.mem_cons_self
    have lr := row_len h hi
    have l0 := hS x0 hx
    have hS' : ∀ y ∈ stepS T S i, y.length = n := fun y hy => by
      have := sums_len h (lot := [i]) (S := S) (fun k hk => by rw [List.mem_singleton.mp hk]; exact hi) hS y (by simpa using hy)
      exact this
    have ps' : Pm s := fun w hw => ps w (List.mem_cons_of_mem _ hw)
    have ls : s.length = lot.length := by simpa using e
    rcases ps z List.mem_cons_self with rfl | rfl
    · obtain ⟨x, h1, h2⟩ := sums_has h (fun k hk => hl k (List.mem_cons_of_mem _ hk)) hS' (vadd x0 (T.getD i.toNat [])) (stepS_mem.mpr ⟨x0, hx, .inl rfl⟩) s ls ps'
      refine ⟨x, h1, fun j hj => ?_⟩
      rw [h2 j hj, colS_cons]
      unfold vadd
      rw [getD_zip (· + ·) (by omega) (by omega), row_ent]
      omega
    · obtain ⟨x, h1, h2⟩ := sums_has h (fun k hk => hl k (List.mem_cons_of_mem _ hk)) hS' (vsub x0 (T.getD i.toNat [])) (stepS_mem.mpr ⟨x0, hx, .inr rfl⟩) s ls ps'
      refine ⟨x, h1, fun j hj => ?_⟩
      rw [h2 j hj, colS_cons]
      unfold vsub
      rw [getD_zip (· - ·) (by omega) (by omega), row_ent]
      omega
theorem flatB_iff {x : List Int} (hx : x.length = n) : flatB x = true ↔ ∀ j, j < n → -1 ≤ x.getD j 0 ∧ x.getD j 0 ≤ 1 := by
  unfold flatB
  simp only [List.all_eq_true, Bool.and_eq_true, decide_eq_true_eq]
  constructor
  · intro h j hj
    have hj' : j < x.length := by omega
    rw [List.getD_eq_getElem?_getD, List.getElem?_eq_getElem hj']
    exact (h _ (List.getElem_mem hj')).symm
  · intro h z hz
    obtain ⟨j, hj, rfl⟩ := List.mem_iff_getElem.mp hz
    have := h j (by omega)
    rw [List.getD_eq_getElem?_getD, List.getElem?_eq_getElem hj] at this
    exact this.symm
theorem evenB_iff {lot s : List Int} : evenB T n lot s = true ↔ ∀ j, j < n → -1 ≤ colS T lot s j ∧ colS T lot s j ≤ 1 := by
  unfold evenB
  simp only [List.all_eq_true, Bool.and_eq_true, decide_eq_true_eq, List.mem_range]
theorem splitB_iff (h : Tbl T m n) {lot : List Int} (hl : ∀ i ∈ lot, 0 ≤ i ∧ i < m) : splitB T n lot = true ↔ ∃ s, s.length = lot.length ∧ Pm s ∧ evenB T n lot s = true := by
  have hz : ∀ x ∈ [List.replicate n (0 : Int)], x.length = n := by simp
  have z0 : ∀ j, j < n → (List.replicate n (0 : Int)).getD j 0 = 0 := fun j hj => by
    rw [List.getD_eq_getElem?_getD, List.getElem?_replicate, if_pos hj]; rfl
  unfold splitB
  rw [List.any_eq_true]
  constructor
  · rintro ⟨x, hx, hf⟩
    have lx := sums_len h hl hz x hx
    obtain ⟨x0, h0, s, ls, ps, hc⟩ := sums_of h hl hz x hx
    rw [List.mem_singleton.mp h0] at hc
    refine ⟨s, ls, ps, evenB_iff.mpr fun j hj => ?_⟩
    have := (flatB_iff lx).mp hf j hj
    rw [hc j hj, z0 j hj] at this
    omega
  · rintro ⟨s, ls, ps, he⟩
    obtain ⟨x, hx, hc⟩ := sums_has h hl hz _ List.mem_cons_self s ls ps
    have lx := sums_len h hl hz x hx
    refine ⟨x, hx, (flatB_iff lx).mpr fun j hj => ?_⟩
    have := evenB_iff.mp he j hj
    rw [hc j hj, z0 j hj]
    omega
theorem mem_signsL : ∀ {k : Nat} {s : List Int}, s ∈ signsL (k + 1) ↔ s.length = k + 1 ∧ Pm s ∧ s.head? = some 1
  | 0, s => by
    simp only [signsL, List.mem_singleton]
    constructor
    · rintro rfl
      exact ⟨rfl, fun z hz => .inl (by simpa using hz), rfl⟩
    · rintro ⟨h1, h2, h3⟩
      match s, h1, h3 with
      | [z], _, h3 => rw [Option.some.inj h3]
  | k + 1, s => by
    rw [signsL, List.mem_flatMap]
    constructor
    · rintro ⟨r, hr, hs⟩
      obtain ⟨h1, h2, h3⟩ := mem_signsL.mp hr
      have key : ∀ z : Int, (z = 1 ∨ z = -1) → s = r ++ [z] → s.length = k + 1 + 1 ∧ Pm s ∧ s.head? = some 1 := by
        rintro z hz rfl
        refine ⟨by simp [h1], fun w hw => ?_, ?_⟩
        · rcases List.mem_append.mp hw with hw | hw
          · exact h2 w hw
          · rw [List.mem_singleton.mp hw]; exact hz
        · cases r with
          | nil => simp at h1
          | cons a r => exact h3
      simp only [List.mem_cons, List.not_mem_nil, or_false] at hs
      rcases hs with hs | hs
      · exact key 1 (.inl rfl) hs
      · exact key (-1) (.inr rfl) hs
    · rintro ⟨h1, h2, h3⟩
      have hne : s ≠ [] := fun e => by rw [e] at h1; simp at h1
      refine ⟨s.dropLast, mem_signsL.mpr ⟨by simp [h1], fun z hz => h2 z (List.dropLast_subset _ hz), ?_⟩, ?_⟩
      · match s, h1, h3 with
        | a :: b :: r, _, h3 => exact h3
      · have e := List.dropLast_concat_getLast hne
        have hl := h2 _ (List.getLast_mem hne)
        simp only [List.mem_cons, List.not_mem_nil, or_false]
        rcases hl with hl | hl
        · left; rw [hl] at e; exact e.symm
        · right; rw [hl] at e; exact e.symm
theorem split_bad (h : Tbl T m n) {lot : List Int} (hl : Lot m lot) : splitB T n lot = !badB T n lot := by
  have hk : ∃ k, lot.length = k + 1 := by
    have := hl.size
    exact ⟨lot.length - 1, by omega⟩
  obtain ⟨k, hk⟩ := hk
  have e : badB T n lot = !(signsL lot.length).any fun s => evenB T n lot s := rfl
  rw [e, Bool.not_not, Bool.eq_iff_iff, splitB_iff h hl.2.2, List.any_eq_true, hk]
  constructor
  · rintro ⟨s, ls, ps, he⟩
    match s, ls, ps, he with
    | z :: s, ls, ps, he =>
      rcases ps z List.mem_cons_self with rfl | rfl
      · exact ⟨_, mem_signsL.mpr ⟨ls, ps, rfl⟩, he⟩
      · refine ⟨(-1 :: s).map fun z => -z, mem_signsL.mpr ⟨by rw [List.length_map]; exact ls, fun z hz => ?_, rfl⟩, ?_⟩
        · obtain ⟨w, hw, rfl⟩ := List.mem_map.mp hz
          rcases ps w hw with rfl | rfl
          · exact .inr rfl
          · exact .inl rfl
        · refine evenB_iff.mpr fun j hj => ?_
          rw [colS_neg]
          have := evenB_iff.mp he j hj
          omega
  · rintro ⟨s, hs, he⟩
    obtain ⟨h1, h2, h3⟩ := mem_signsL.mp hs
    exact ⟨s, h1, h2, he⟩
end
end Z
end
section
set_option linter.all false
set_option maxRecDepth 100000
set_option maxHeartbeats 4000000
/-! NI: the program's lots are the law's. -/
namespace Z
open PySem PySem.Spec PyProof.Rows L2
theorem inB_iff {l k : List Int} : inB l k = true ↔ ∀ i ∈ l, i ∈ k := by
  unfold inB
  simp [List.all_eq_true]
theorem lots_pre : ∀ n ∈ [1, 2, 3, 4, 5, 6], (lotsL n).Pairwise (fun u v => inB v u = false) ∧ (lotsL n).Nodup := by decide +kernel
theorem lots_anti : ∀ n ∈ [1, 2, 3, 4, 5, 6], ((lotsL n).all fun a => (lotsL n).all fun b => !(inB a b && inB b a) || decide (a = b)) = true := by decide +kernel
theorem lots_more : ∀ n ∈ [1, 2, 3, 4, 5, 6], ((lotsL n).all fun l => (List.range n).all fun (i : Nat) => l.contains (i : Int) || (lotsL n).any fun w => inB w (l ++ [(i : Int)]) && inB (l ++ [(i : Int)]) w) = true := by decide +kernel
theorem lots_ahead {n : Nat} (h1 : 1 ≤ n) (h6 : n ≤ 6) : M.Ahead inB (lotsL n) where
  refl := fun x => inB_iff.mpr fun i hi => hi
  trans := fun x y z h k => inB_iff.mpr fun i hi => inB_iff.mp k i (inB_iff.mp h i hi)
  pre := fun a b x y e hy hne hs => by
    have hp := (lots_pre n (by simp; omega)).1
    rw [e] at hp hy
    rcases List.mem_append.mp hy with hy | hy
    · exact hy
    · rcases List.mem_cons.mp hy with rfl | hy
      · exact absurd rfl hne
      · have := (List.pairwise_cons.mp (List.pairwise_append.mp hp).2.1).1 y hy
        rw [this] at hs
        cases hs
  nd := (lots_pre n (by simp; omega)).2
section
variable {T : List (List Int)} {m n : Nat}
theorem bad_lots (h : Tbl T m n) (hm : m ≤ 6) : (lotsL m).filter (fun l => !splitB T n l) = (lotsL m).filter (badB T n) :=
  List.filter_congr fun l hl => by rw [split_bad h (lots_lot h.hm hm hl), Bool.not_not]
theorem least_same (h : Tbl T m n) (hm : m ≤ 6) : leastO ((lotsL m).filter fun l => !splitB T n l) = leastL T m n := by
  rw [bad_lots h hm]
  exact (M.gather_is_least (lots_ahead h.hm hm)).symm
theorem inB_sort {y k : List Int} : inB y (sortI k) = inB y k := by
  rw [Bool.eq_iff_iff, inB_iff, inB_iff]
  exact ⟨fun h i hi => mem_sortI.mp (h i hi), fun h i hi => mem_sortI.mpr (h i hi)⟩
theorem great_same (h1 : 1 ≤ m) (hm : m ≤ 6) (bar : List (List Int)) : greatO ((lotsL m).filter fun l => !bar.any fun y => inB y l) = (lotsL m).filter (greatB bar m) := by
  unfold greatO
  rw [List.filter_filter]
  refine List.filter_congr fun l hl => ?_
  have anti : ∀ a ∈ lotsL m, ∀ b ∈ lotsL m, inB a b = true → inB b a = true → a = b := fun a ha b hb h2 h3 => by
    have := List.all_eq_true.mp (List.all_eq_true.mp (lots_anti m (by simp; omega)) a ha) b hb
    simpa [h2, h3] using this
  have more : ∀ i, i < m → (i : Int) ∉ l → ∃ w ∈ lotsL m, inB w (l ++ [(i : Int)]) = true ∧ inB (l ++ [(i : Int)]) w = true := fun i hi hn => by
    have := List.all_eq_true.mp (List.all_eq_true.mp (lots_more m (by simp; omega)) l hl) i (List.mem_range.mpr hi)
    simpa [hn] using this
  unfold greatB
  cases c : (bar.any fun y => inB y l) with
  | true => simp
  | false =>
    simp only [Bool.not_false, Bool.and_true, Bool.true_and]
    rw [Bool.eq_iff_iff]
    simp only [Bool.not_eq_true', List.any_eq_false, List.mem_filter, Bool.and_eq_true, decide_eq_true_eq, not_and, List.all_eq_true, List.any_eq_true, Bool.not_eq_true, moreL, List.mem_map, List.mem_range, Bool.not_eq_true', forall_exists_index, and_imp]
    have anyF : ∀ k : List Int, (∀ x ∈ bar, inB x k = false) ↔ ¬∃ x ∈ bar, inB x k = true := fun k => by simp
    constructor
    · rintro h w i hi hni rfl
      have hni : (i : Int) ∉ l := by simpa using hni
      obtain ⟨w, hw, h2, h3⟩ := more i hi hni
      refine Classical.byContradiction fun hno => ?_
      have hb : ∀ x ∈ bar, inB x w = false := fun x hx => by
        cases q : inB x w with
        | false => rfl
        | true => exact absurd ⟨x, hx, by rw [inB_sort]; exact inB_iff.mpr fun k hk => inB_iff.mp h2 k (inB_iff.mp q k hk)⟩ hno
      have hne : w ≠ l := fun e => hni (by rw [← e]; exact inB_iff.mp h3 _ (by simp))
      have hin : inB l w = true := inB_iff.mpr fun k hk => inB_iff.mp h3 k (List.mem_append_left _ hk)
      have := h w hw hb hne
      rw [hin] at this
      cases this
    · rintro h w hw hb hne
      cases q : inB l w with
      | false => rfl
      | true =>
        exfalso
        have hx : ∃ k ∈ w, k ∉ l := Classical.byContradiction fun z => hne (anti w hw l hl (inB_iff.mpr fun k hk => Classical.byContradiction fun y => z ⟨k, hk, y⟩) q)
        obtain ⟨k, hk, hkl⟩ := hx
        have hr := (lots_lot h1 hm hw).2.2 k hk
        obtain ⟨x, hx, hs⟩ := h (sortI (l ++ [((k.toNat : Nat) : Int)])) k.toNat (by omega) (by
          have e : ((k.toNat : Nat) : Int) = k := Int.toNat_of_nonneg hr.1
          rw [e]; simpa using hkl) rfl
        have e : ((k.toNat : Nat) : Int) = k := Int.toNat_of_nonneg hr.1
        rw [inB_sort, e] at hs
        have : inB x w = true := inB_iff.mpr fun z hz => by
          rcases List.mem_append.mp (inB_iff.mp hs z hz) with hz | hz
          · exact inB_iff.mp q z hz
          · rw [List.mem_singleton.mp hz]; exact hk
        rw [hb x hx] at this
        cases this
end
end Z
end
section
set_option linter.all false
set_option maxRecDepth 100000
set_option maxHeartbeats 4000000
/-! NJ: draws. -/
namespace Z
open PySem PySem.Spec PyProof.Rows L2
structure PenOk (n : Nat) (g : Pen) : Prop where
  count : g.count ≤ n
  f0 : 0 ≤ g.fold
  f1 : g.fold < 2147483648
  d0 : 0 ≤ g.digits
theorem PenOk.mono {n m : Nat} {g : Pen} (h : PenOk n g) (hm : n ≤ m) : PenOk m g := ⟨Nat.le_trans h.count hm, h.f0, h.f1, h.d0⟩
@[simp] theorem mPenGet_app (i : Nat) (k : PK) (env : Env) (g : Pen) : mPenGet i k env g = match env[i]? with
  | some (some .pen) => .ok (.val (k.get g)) env g
  | _ => .bad := rfl
@[simp] theorem sPenPut_app (i : Nat) (k : PK) (m : Mir Sl) (env : Env) (g : Pen) : sPenPut i k m env g = bnd m (fun y env g => match env[i]? with
  | some (some Sl.pen) => penPut i k y env g
  | _ => .bad) env g := rfl
@[simp] theorem penPut_app (i : Nat) (k : PK) (j : Int) (env : Env) (g : Pen) : penPut i k (.val (.int j)) env g = match env[i]? with
  | some (some .pen) => (match k.put j g with
    | some g' => .ok .nx env g'
    | none => .bad)
  | _ => .bad := by
  unfold penPut
  split <;> split <;> simp_all
/-- a power, not to be worked out -/
@[irreducible] def powI (i j : Int) : Int := i ^ j.toNat
theorem fPow_eq : fPow = fInt CPow fun i j => .int (powI i j) := by unfold powI; rfl
theorem body_ret {n : Nat} {m : Mir Ctl} {l : List Sl} {g g' : Pen} {sl : Sl} {e : Env} (h : m (l.map some ++ List.replicate (n - l.length) none) g = .ok (.rt sl) e g') : mBody n m l g = .ok sl g' := by
  unfold mBody
  rw [h]
theorem draw_end {k B : Int} {g : Pen} {c d : Option Sl} (hk : 0 < k) (c2 : CPow B 19) : ∃ i e, sRet (mOp fMod (mOp fDiv (mCall (g1 fInt1) (mCons (mOp fMod (mOp fPow (mVar 4) (mC (.int 19))) (mC (.int 2305843009213693951))) mNil)) (mC (.int 256))) (mVar 1)) [some .pen, some (.val (.int k)), c, d, some (.val (.int B))] g = .ok (.rt (.val (.int i))) e g ∧ 0 ≤ i ∧ i < k := by
  rw [fPow_eq]
  have pp : (0 : Int) < 2305843009213693951 := by decide
  have c3 : CDiv (powI B 19 % 2305843009213693951) 256 := ⟨by omega, by omega⟩
  refine ⟨powI B 19 % 2305843009213693951 / 256 % k, [some .pen, some (.val (.int k)), c, d, some (.val (.int B))], ?_, Int.emod_nonneg _ (by omega), Int.emod_lt_of_pos _ hk⟩
  simp only [sSeq_app, sSet_app, mOp_app, bnd_app, mPenGet_app, List.getElem?_cons_zero, PK.get, own_val, Bool.false_eq_true, ↓reduceIte, mC_app, fMul_int, ret_app, fAdd_int, List.set_cons_succ, List.set_cons_zero, sRet_app, mCall_app, mCons_app, mVar_app, List.getElem?_cons_succ, isTb_val, fz_val, fInt_int, c2, mNil_app, g1_app, fInt1_int, c3, hk, pp]
/-- the last part of a draw: from the fold -/
theorem draw_fold {n : Nat} {g : Pen} {env : Env} {k : Int} (h : PenOk n g) (hn : n ≤ 1000000000000) (hk : 0 < k) (e0 : env[0]? = some (some .pen)) (e1 : env[1]? = some (some (.val (.int k)))) (hl : env.length = 5) :
    ∃ i e, sSeq (sSet 4 (mOp fAdd (mOp fAdd (mPenGet 0 .fold) (mOp fMul (mPenGet 0 .count) (mC (.int 8513)))) (mC (.int 61))))
     (sRet (mOp fMod (mOp fDiv (mCall (g1 fInt1) (mCons (mOp fMod (mOp fPow (mVar 4) (mC (.int 19))) (mC (.int 2305843009213693951))) mNil)) (mC (.int 256))) (mVar 1))) env g = .ok (.rt (.val (.int i))) e g ∧ 0 ≤ i ∧ i < k := by
  obtain ⟨h1, h2, h3, h4⟩ := h
  have c1 : CMul (g.count : Int) 8513 := .inr (by omega)
  match env, e0, e1, hl with
  | [a, b, c, d, e], e0, e1, _ =>
    cases e0
    cases e1
    have o1 : mOp fMul (mPenGet 0 .count) (mC (.int 8513)) [some .pen, some (.val (.int k)), c, d, e] g = .ok (.val (.int ((g.count : Int) * 8513))) [some .pen, some (.val (.int k)), c, d, e] g :=
      op_ok (x := .int g.count) (y := .int 8513) rfl rfl (by rw [fMul_int, if_pos c1, ret_app])
    have o2 : mOp fAdd (mPenGet 0 .fold) (mOp fMul (mPenGet 0 .count) (mC (.int 8513))) [some .pen, some (.val (.int k)), c, d, e] g = .ok (.val (.int (g.fold + (g.count : Int) * 8513))) [some .pen, some (.val (.int k)), c, d, e] g :=
      op_ok (x := .int g.fold) rfl o1 (by rw [fAdd_int, ret_app])
    have o3 := op_ok (F := fAdd) (mb := mC (.int 61)) (y := .int 61) o2 rfl (by rw [fAdd_int, ret_app])
    have hs : sSet 4 (mOp fAdd (mOp fAdd (mPenGet 0 .fold) (mOp fMul (mPenGet 0 .count) (mC (.int 8513)))) (mC (.int 61))) [some .pen, some (.val (.int k)), c, d, e] g = .ok .nx [some .pen, some (.val (.int k)), c, d, some (.val (.int (g.fold + (g.count : Int) * 8513 + 61)))] g := by
      rw [sSet_app, o3]
      rfl
    obtain ⟨i, e', q1, q2⟩ := draw_end (g := g) (c := c) (d := d) (B := g.fold + (g.count : Int) * 8513 + 61) hk ⟨by omega, by omega, by omega⟩
    refine ⟨i, e', ?_, q2⟩
    rw [sSeq_app, hs]
    exact q1
theorem ev_draw {n : Nat} {g : Pen} (h : PenOk n g) (hn : n < 1000000000000) {k : Int} (hk : 0 < k) (hk2 : k < 1073741824) : ∃ i g', m__law_draw [.pen, .val (.int k)] g = .ok (.val (.int i)) g' ∧ 0 ≤ i ∧ i < k ∧ PenOk (n + 1) g' := by
  obtain ⟨h1, h2, h3, h4⟩ := h
  have cp : CPow 10 18 := ⟨by omega, by omega, by omega⟩
  have cm : CMul g.fold 48271 := .inr (by omega)
  have p18 : (10 : Int) ^ (18 : Int).toNat = 1000000000000000000 := by decide
  have q0 : (0 : Int) ≤ (g.count : Int) + 1 := by omega
  have q1 : (0 : Int) ≤ (g.at_ : Int) + 1 := by omega
  have t1 : ((g.count : Int) + 1).toNat = g.count + 1 := by omega
  have t2 : ((g.at_ : Int) + 1).toNat = g.at_ + 1 := by omega
  -- behind the reading of a cell
  have rest : ∀ (g2 : Pen) (env : Env), PenOk (n + 1) g2 → env[0]? = some (some .pen) → env[1]? = some (some (.val (.int k))) → env.length = 5 → ∃ i e g', sSeq (sIf (mTest (mOp fGt (mPenGet 0 .digits) (mC (.int 0)))) (sSeq (sSet 3 (mOp fMod (mCall (g1 fInt1) (mCons (mPenGet 0 .digits) mNil)) (mVar 1)))
     (sSeq (sPenPut 0 .digits (mOp fDiv (mPenGet 0 .digits) (mVar 1)))
     (sRet (mVar 3)))) sNil)
     (sSeq (sSet 4 (mOp fAdd (mOp fAdd (mPenGet 0 .fold) (mOp fMul (mPenGet 0 .count) (mC (.int 8513)))) (mC (.int 61))))
     (sRet (mOp fMod (mOp fDiv (mCall (g1 fInt1) (mCons (mOp fMod (mOp fPow (mVar 4) (mC (.int 19))) (mC (.int 2305843009213693951))) mNil)) (mC (.int 256))) (mVar 1)))) env g2 = .ok (.rt (.val (.int i))) e g' ∧ 0 ≤ i ∧ i < k ∧ PenOk (n + 1) g' := by
    intro g2 env h2 e0 e1 hl
    by_cases hd : 0 < g2.digits
    · match env, e0, e1, hl with
      | [a, b, c, d, e], e0, e1, _ =>
        cases e0
        cases e1
        have cd : CDiv g2.digits k := ⟨hk, hk2⟩
        refine ⟨g2.digits % k, [some .pen, some (.val (.int k)), c, some (.val (.int (g2.digits % k))), e], { g2 with digits := g2.digits / k }, ?_, Int.emod_nonneg _ (by omega), Int.emod_lt_of_pos _ hk, ⟨h2.count, h2.f0, h2.f1, Int.ediv_nonneg h2.d0 (by omega)⟩⟩
        simp only [sSeq_app, sIf_app, mTest_app, sSet_app, mOp_app, bnd_app, mPenGet_app, List.getElem?_cons_zero, PK.get, own_val, Bool.false_eq_true, ↓reduceIte, mC_app, ret_app, List.set_cons_succ, List.set_cons_zero, sRet_app, mCall_app, mCons_app, mVar_app, List.getElem?_cons_succ, isTb_val, fz_val, fInt_int, mNil_app, g1_app, fInt1_int, hk, boolOf_bool, hd, decide_true, sPenPut_app, penPut_app, cd, PK.put]
    · obtain ⟨i, e, h3, h4, h5⟩ := draw_fold h2 (by omega) hk e0 e1 hl
      refine ⟨i, e, g2, ?_, h4, h5, h2⟩
      have h6 : sIf (mTest (mOp fGt (mPenGet 0 .digits) (mC (.int 0)))) (sSeq (sSet 3 (mOp fMod (mCall (g1 fInt1) (mCons (mPenGet 0 .digits) mNil)) (mVar 1)))
         (sSeq (sPenPut 0 .digits (mOp fDiv (mPenGet 0 .digits) (mVar 1)))
         (sRet (mVar 3)))) sNil env g2 = .ok .nx env g2 := by
        simp [e0, PK.get, hd]
      rw [sSeq_app, h6]
      exact h3
  have p0 : PenOk (n + 1) { g with count := g.count + 1 } := ⟨Nat.succ_le_succ h1, h2, h3, h4⟩
  have pm : (0 : Int) < 2147483563 := by decide
  have pick : ∃ (g2 : Pen) (env : Env), sIf (mAndB (mTest (mOp (fEq false) (mPenGet 0 .digits) (mC (.int 0)))) (mTest (mOp fLt (mPenGet 0 .at_) (mCall (g1 fLen) (mCons (mPenGet 0 .cells) mNil))))) (sSeq (sSet 2 (mOp fIx (mPenGet 0 .cells) (mPenGet 0 .at_)))
     (sSeq (sPenPut 0 .at_ (mOp fAdd (mPenGet 0 .at_) (mC (.int 1))))
     (sIf (mTest (mOp fGe (mVar 2) (mOp fPow (mC (.int 10)) (mC (.int 18))))) (sPenPut 0 .digits (mOp fSub (mVar 2) (mOp fPow (mC (.int 10)) (mC (.int 18))))) (sPenPut 0 .fold (mOp fMod (mCall (g1 fInt1) (mCons (mOp fAdd (mOp fMul (mPenGet 0 .fold) (mC (.int 48271))) (mVar 2)) mNil)) (mC (.int 2147483563))))))) sNil [some .pen, some (.val (.int k)), none, none, none] { g with count := g.count + 1 } = .ok .nx env g2 ∧ PenOk (n + 1) g2 ∧ env[0]? = some (some .pen) ∧ env[1]? = some (some (.val (.int k))) ∧ env.length = 5 := by
    by_cases hd : g.digits = 0
    · by_cases ha : g.at_ < g.cells.length
      · have ec : L2.atI (g.cells.map PyData.int) (g.at_ : Int) = some (.int g.cells[g.at_]) := by
          rw [atI_nat', List.getElem?_map, List.getElem?_eq_getElem ha]
          rfl
        have ha' : (g.at_ : Int) < (g.cells.length : Int) := by omega
        by_cases hc : (1000000000000000000 : Int) ≤ g.cells[g.at_]
        · refine ⟨{ g with count := g.count + 1, at_ := g.at_ + 1, digits := g.cells[g.at_] - 1000000000000000000 }, [some .pen, some (.val (.int k)), some (.val (.int g.cells[g.at_])), none, none], ?_, ⟨p0.count, h2, h3, by show 0 ≤ g.cells[g.at_] - 1000000000000000000; omega⟩, rfl, rfl, rfl⟩
          simp only [sIf_app, mAndB_app, bnd_app, mTest_app, mOp_app, mPenGet_app, List.getElem?_cons_zero, PK.get, own_val, Bool.false_eq_true, ↓reduceIte, mC_app, fEq_app, sh_int', eqv_int, hd, decide_true, and_self, ret_app, boolOf_bool, mCall_app, mCons_app, mNil_app, g1_app, fLen_app, seqOf_list, onS_some, List.length_map, fInt_int, ha', sSeq_app, sSet_app, fIx_list, ec, ofO_some, List.set_cons_succ, List.set_cons_zero, sPenPut_app, fAdd_int, penPut_app, PK.put, q1, t2, mVar_app, List.getElem?_cons_succ, isTb_val, fz_val, cp, p18, hc]
        · refine ⟨{ g with count := g.count + 1, at_ := g.at_ + 1, fold := (g.fold * 48271 + g.cells[g.at_]) % 2147483563 }, [some .pen, some (.val (.int k)), some (.val (.int g.cells[g.at_])), none, none], ?_, ⟨p0.count, Int.emod_nonneg _ (by decide), by have := Int.emod_lt_of_pos (g.fold * 48271 + g.cells[g.at_]) pm; show (g.fold * 48271 + g.cells[g.at_]) % 2147483563 < 2147483648; omega, h4⟩, rfl, rfl, rfl⟩
          simp only [sIf_app, mAndB_app, bnd_app, mTest_app, mOp_app, mPenGet_app, List.getElem?_cons_zero, PK.get, own_val, Bool.false_eq_true, ↓reduceIte, mC_app, fEq_app, sh_int', eqv_int, hd, decide_true, and_self, ret_app, boolOf_bool, mCall_app, mCons_app, mNil_app, g1_app, fLen_app, seqOf_list, onS_some, List.length_map, fInt_int, ha', sSeq_app, sSet_app, fIx_list, ec, ofO_some, List.set_cons_succ, List.set_cons_zero, sPenPut_app, fAdd_int, penPut_app, PK.put, q1, t2, mVar_app, List.getElem?_cons_succ, isTb_val, fz_val, cp, p18, hc, decide_false, fMul_int, cm, fInt1_int, pm]
      · refine ⟨_, [some .pen, some (.val (.int k)), none, none, none], ?_, p0, rfl, rfl, rfl⟩
        have ha' : ¬(g.at_ : Int) < (g.cells.length : Int) := by omega
        simp [PK.get, hd, ha']
    · refine ⟨_, [some .pen, some (.val (.int k)), none, none, none], ?_, p0, rfl, rfl, rfl⟩
      simp [PK.get, hd]
  obtain ⟨g2, env, e1, p2, e2, e3, e4⟩ := pick
  obtain ⟨i, e, g', e5, i1, i2, p3⟩ := rest g2 env p2 e2 e3 e4
  refine ⟨i, g', body_ret (e := e) ?_, i1, i2, p3⟩
  show b__law_draw [some .pen, some (.val (.int k)), none, none, none] g = _
  unfold b__law_draw
  rw [sSeq_app]
  have e0 : sPenPut 0 .count (mOp fAdd (mPenGet 0 .count) (mC (.int 1))) [some .pen, some (.val (.int k)), none, none, none] g = .ok .nx [some .pen, some (.val (.int k)), none, none, none] { g with count := g.count + 1 } := by
    simp [PK.get, PK.put, q0, t1]
  rw [e0]
  show sSeq _ _ _ _ = _
  rw [sSeq_app, e1]
  exact e5
end Z
end
section
set_option linter.all false
set_option maxRecDepth 100000
set_option maxHeartbeats 4000000
/-! NK: what is drawn: picks, shuffles, tables. -/
namespace Z
open PySem PySem.Spec PyProof.Rows L2
/-- a comprehension whose block draws -/
theorem lc_inv {mi : Mir (List D)} {vs : List Nat} {t : Tgt} {me : Mir Sl} {env : Env} {g : Pen} {γ δ : Type} {n : Nat} (c : Nat) (xs : List γ) (φ : γ → D) (ψ : δ → D) (P : δ → Prop) (hi : mi env g = .ok (xs.map φ) env g) (hp : PenOk n g) (hb : n + c * xs.length ≤ 1000000000)
    (h : ∀ x ∈ xs, ∀ n' g', PenOk n' g' → n' + c ≤ 1000000000 → ∃ e2, bindT t (φ x) (blankE vs 0 env) = some e2 ∧ ∃ z e4 g'', me e2 g' = .ok (.val (ψ z)) e4 g'' ∧ P z ∧ PenOk (n' + c) g'') :
    ∃ (zs : List δ) (g' : Pen), mLc mi vs t mYes me env g = .ok (.ol (zs.map ψ)) env g' ∧ zs.length = xs.length ∧ (∀ z ∈ zs, P z) ∧ PenOk (n + c * xs.length) g' := by
  have key : ∀ (ys : List γ), (∀ y ∈ ys, y ∈ xs) → ∀ n g, PenOk n g → n + c * ys.length ≤ 1000000000 → ∃ (zs : List δ) (g' : Pen), lcRun t mYes me (blankE vs 0 env) (ys.map φ) g = some (zs.map ψ, g') ∧ zs.length = ys.length ∧ (∀ z ∈ zs, P z) ∧ PenOk (n + c * ys.length) g' := fun ys => by
    induction ys with
    | nil => intro _ n g hp _; exact ⟨[], g, rfl, rfl, fun z hz => absurd hz (by simp), hp⟩
    | cons y ys ih =>
      intro hs n g hp hb
      rw [List.length_cons, Nat.mul_add, Nat.mul_one] at hb
      obtain ⟨e2, h1, z, e4, g2, h2, h3, h4⟩ := h y (hs y List.mem_cons_self) n g hp (by omega)
      obtain ⟨zs, g', h5, h6, h7, h8⟩ := ih (fun w hw => hs w (List.mem_cons_of_mem _ hw)) (n + c) g2 h4 (by omega)
      refine ⟨z :: zs, g', ?_, by simp [h6], fun w hw => ?_, ?_⟩
      · rw [List.map_cons, lcRun, h1]
        have hy : mYes e2 g = .ok true e2 g := rfl
        simp only [hy, h2, h5, Option.map_some, List.map_cons]
      · rcases List.mem_cons.mp hw with rfl | hw
        · exact h3
        · exact h7 w hw
      · rw [List.length_cons, Nat.mul_add, Nat.mul_one]
        have e : n + (c * ys.length + c) = n + c + c * ys.length := by omega
        rw [e]
        exact h8
  obtain ⟨zs, g', h1, h2, h3, h4⟩ := key xs (fun _ h => h) n g hp hb
  refine ⟨zs, g', ?_, h2, h3, h4⟩
  unfold mLc
  rw [bnd_ok hi]
  show (match lcRun t mYes me (blankE vs 0 env) (xs.map φ) g with
    | some (out, g2) => Res.ok (Sl.ol out) env g2
    | none => Res.bad) = _
  rw [h1]
section
variable {n : Nat} {g : Pen}
theorem draw_app (h : PenOk n g) (hn : n ≤ 1000000000) {k : Int} (hk : 0 < k) (hk2 : k ≤ 1000) : ∃ i g', m__law_draw [.pen, .val (.int k)] g = .ok (.val (.int i)) g' ∧ 0 ≤ i ∧ i < k ∧ PenOk (n + 1) g' := ev_draw h (by omega) hk (by omega)
theorem ev_pick (h : PenOk n g) (hn : n ≤ 1000000000) {ds : List D} (h0 : ds ≠ []) (hl : ds.length ≤ 1000) : ∃ d g', m__law_pick [.pen, .val (.list ds)] g = .ok (.val d) g' ∧ d ∈ ds ∧ PenOk (n + 1) g' := by
  have hpos : 0 < ds.length := List.length_pos_iff.mpr h0
  obtain ⟨i, g', h1, h2, h3, h4⟩ := draw_app h hn (k := (ds.length : Int)) (by omega) (by omega)
  have hi : i.toNat < ds.length := by omega
  refine ⟨ds[i.toNat], g', ?_, List.getElem_mem hi, h4⟩
  simp [m__law_pick, mBody, b__law_pick, h1, atI_of h2, List.getElem?_eq_getElem hi]
@[simp] theorem mLenO_app (i : Nat) (env : Env) (g : Pen) : mLenO i env g = match env[i]? with
  | some (some sl) => if sl.own = true then fLenO sl env g else .bad
  | _ => .bad := rfl
@[simp] theorem fLenO_ol (xs : List D) : fLenO (.ol xs) = ret (.val (.int xs.length)) := rfl
@[simp] theorem mPop_app (i : Nat) (mk : Mir Sl) (env : Env) (g : Pen) : mPop i mk env g = grd i (bnd mk fun y => withOl i y (popAt i)) env g := rfl
theorem popAt_ok {i : Nat} {xs : List D} {j : Int} {env : Env} {g : Pen} (h0 : 0 ≤ j) (h1 : j < xs.length) (h2 : xs.length ≤ 1000000) : ∃ y, y ∈ xs ∧ popAt i xs (.int j) env g = .ok (.val y) (env.set i (some (.ol (xs.eraseIdx j.toNat)))) g := by
  have hj : j.toNat < xs.length := by omega
  refine ⟨xs[j.toNat], List.getElem_mem hj, ?_⟩
  have e : popD xs (.int j) = some (xs[j.toNat], xs.eraseIdx j.toNat) := by
    show (if 0 ≤ j ∧ j < xs.length ∧ xs.length ≤ 1000000 then (xs[j.toNat]?).map (fun y => (y, xs.eraseIdx j.toNat)) else none) = _
    rw [if_pos ⟨h0, h1, h2⟩, List.getElem?_eq_getElem hj]
    rfl
  unfold popAt
  rw [e]
theorem ev_shuffled (h : PenOk n g) {ds : List D} (hl : ds.length ≤ 1000) (hn : n + ds.length ≤ 1000000000) : ∃ es g', m__law_shuffled [.pen, .val (.list ds)] g = .ok (.val (.list es)) g' ∧ es.length = ds.length ∧ (∀ e ∈ es, e ∈ ds) ∧ PenOk (n + ds.length) g' := by
  have sm : small62 (ds.length : Int) = true := by unfold small62; simp; omega
  have L := for_all (t := .name 4) (mb := sExpr (mAppend 3 (mPop 2 (mCall (mFn m__law_draw) (mCons (mVar 0) (mCons (mLenO 2) mNil))))))
    (φ := fun (i : Nat) => PyData.int (i : Int)) (fun i env g => PenOk (n + i) g ∧ ∃ l f x, env = [some .pen, some (.val (.list ds)), some (.ol l), some (.ol f), x] ∧ l.length + i = ds.length ∧ f.length = i ∧ (∀ e ∈ l, e ∈ ds) ∧ ∀ e ∈ f, e ∈ ds) (List.range ds.length) 0 (by
      rintro i x hx env g ⟨hp, l, f, y, rfl, h1, h2, h3, h4⟩
      rw [Nat.zero_add] at *
      have hi : i < ds.length := by simpa using (List.getElem?_eq_some_iff.mp hx).1
      have ex : i = x := by simpa [List.getElem?_range hi] using hx
      subst ex
      obtain ⟨j, g', d1, d2, d3, d4⟩ := draw_app hp (by omega) (k := (l.length : Int)) (by omega) (by omega)
      obtain ⟨y, hy, p⟩ := popAt_ok (i := 2) (xs := l) (j := j) (env := [some .pen, some (.val (.list ds)), some (.ol l), some (.ol f), some (.val (.int i))]) (g := g') d2 d3 (by omega)
      refine ⟨_, rfl, .nx, [some .pen, some (.val (.list ds)), some (.ol (l.eraseIdx j.toNat)), some (.ol (f ++ [y])), some (.val (.int i))], g', ?_, .inl rfl, d4, _, _, _, rfl, ?_, by simp [h2], ?_, ?_⟩
      · simp [d1, p]
        rw [if_pos (by omega)]
      · rw [List.length_eraseIdx]
        split <;> omega
      · intro e he
        exact h3 e (List.mem_of_mem_eraseIdx he)
      · intro e he
        rcases List.mem_append.mp he with he | he
        · exact h4 e he
        · rw [List.mem_singleton.mp he]; exact h3 y hy)
    [some .pen, some (.val (.list ds)), some (.ol ds), some (.ol []), none] g ⟨h, ds, [], none, rfl, rfl, rfl, fun _ h => h, fun _ h => absurd h (by simp)⟩
  obtain ⟨e, g', L, hp, l, f, x, rfl, h1, h2, h3, h4⟩ := L
  rw [Nat.zero_add, List.length_range] at *
  refine ⟨f, g', ?_, h2, h4, hp⟩
  simp [m__law_shuffled, mBody, b__law_shuffled, sm, rng_map, L]
end
end Z
end
section
set_option linter.all false
set_option maxRecDepth 100000
set_option maxHeartbeats 4000000
/-! NL: drawn tables, and what is made of tables. -/
namespace Z
open PySem PySem.Spec PyProof.Rows L2
section
variable {n : Nat} {g : Pen}
theorem sm62 {k : Nat} (h : k ≤ 1000000) : small62 (k : Int) = true := by unfold small62; simp; omega
theorem five_at {i : Int} (h0 : 0 ≤ i) (h1 : i < 5) : ∃ z : Int, M.V3 z ∧ L2.atI [PyData.int 1, PyData.int (-1), PyData.int 0, PyData.int 0, PyData.int 0] i = some (.int z) := by
  have : i = 0 ∨ i = 1 ∨ i = 2 ∨ i = 3 ∨ i = 4 := by omega
  rcases this with rfl | rfl | rfl | rfl | rfl
  · exact ⟨1, .inr (.inr rfl), rfl⟩
  · exact ⟨-1, .inl rfl, rfl⟩
  · exact ⟨0, .inr (.inl rfl), rfl⟩
  · exact ⟨0, .inr (.inl rfl), rfl⟩
  · exact ⟨0, .inr (.inl rfl), rfl⟩
theorem ev_table (h : PenOk n g) {tall wide : Nat} (ht : 1 ≤ tall) (ht2 : tall ≤ 100) (hw : 1 ≤ wide) (hw2 : wide ≤ 100) (hn : n + 1 + wide * tall ≤ 1000000000) : ∃ T g', m__law_table [.pen, .val (.int tall), .val (.int wide)] g = .ok (.val (tD T)) g' ∧ Tbl T tall wide ∧ PenOk (n + 1 + wide * tall) g' := by
  obtain ⟨d, ga, p1, p2, p3⟩ := ev_pick h (by omega) (ds := [.int 2, .int 3, .int 3, .int 5]) (by simp) (by simp)
  obtain ⟨k, rfl, k0, k5⟩ : ∃ k : Int, d = .int k ∧ 0 < k ∧ k ≤ 5 := by
    simp only [List.mem_cons, List.not_mem_nil, or_false] at p2
    rcases p2 with rfl | rfl | rfl | rfl <;> exact ⟨_, rfl, by decide, by decide⟩
  have L := for_all (t := .name 5) (mb := sExpr (mAppend 4 (mCall (g1 fTuple) (mCons (mFz (mLc (itRng1 (mCons (mVar 2) mNil)) [6] (.name 6) mYes (mOp fIx (mFz (mLst (mCons (mC (.int 1)) (mCons (mNeg (mC (.int 1))) (mCons (mC (.int 0)) (mCons (mC (.int 0)) (mCons (mC (.int 0)) mNil))))))) (mCall (mFn m__law_draw) (mCons (mVar 0) (mCons (mVar 3) mNil)))))) mNil))))
    (φ := fun (i : Nat) => PyData.int (i : Int)) (fun i env g => PenOk (n + 1 + wide * i) g ∧ ∃ (R : List (List Int)) (x : Option Sl), env = [some .pen, some (.val (.int tall)), some (.val (.int wide)), some (.val (.int k)), some (.ol (R.map rD)), x, none] ∧ R.length = i ∧ ∀ r ∈ R, r.length = wide ∧ ∀ z ∈ r, M.V3 z) (List.range tall) 0 (by
      rintro i x hx env g2 ⟨hp, R, y, rfl, h1, h2⟩
      rw [Nat.zero_add] at *
      have hi : i < tall := by simpa using (List.getElem?_eq_some_iff.mp hx).1
      have ex : i = x := by simpa [List.getElem?_range hi] using hx
      subst ex
      have hmul : wide * i + wide ≤ wide * tall := by
        have := Nat.mul_le_mul_left wide (show i + 1 ≤ tall by omega)
        rw [Nat.mul_add, Nat.mul_one] at this
        exact this
      obtain ⟨zs, g3, q1, q2, q3, q4⟩ := lc_inv (mi := itRng1 (mCons (mVar 2) mNil)) (vs := [6]) (t := .name 6) (me := mOp fIx (mFz (mLst (mCons (mC (.int 1)) (mCons (mNeg (mC (.int 1))) (mCons (mC (.int 0)) (mCons (mC (.int 0)) (mCons (mC (.int 0)) mNil))))))) (mCall (mFn m__law_draw) (mCons (mVar 0) (mCons (mVar 3) mNil))))
        (env := [some .pen, some (.val (.int tall)), some (.val (.int wide)), some (.val (.int k)), some (.ol (R.map rD)), some (.val (.int i)), none]) (g := g2) (n := n + 1 + wide * i) 1 (List.range wide) (fun (j : Nat) => PyData.int (j : Int)) PyData.int M.V3 (by simp [sm62 (show wide ≤ 1000000 by omega), rng_map]) hp (by simp; omega) (by
          intro j hj n' g' hp' hb'
          obtain ⟨v, g4, r1, r2, r3, r4⟩ := draw_app hp' (by omega) k0 (by omega)
          obtain ⟨z, z1, z2⟩ := five_at r2 (by omega)
          refine ⟨_, rfl, z, [some .pen, some (.val (.int tall)), some (.val (.int wide)), some (.val (.int k)), none, some (.val (.int i)), some (.val (.int j))], g4, ?_, z1, r4⟩
          simp [blankE, keepO, r1, z2])
      rw [List.length_range] at q2 q4
      refine ⟨_, rfl, .nx, [some .pen, some (.val (.int tall)), some (.val (.int wide)), some (.val (.int k)), some (.ol ((R ++ [zs]).map rD)), some (.val (.int i)), none], g3, ?_, .inl rfl, ?_, _, _, rfl, by simp [h1], ?_⟩
      · simp [q1]
        rw [if_pos (by omega)]
        simp [rD]
      · have e : n + 1 + wide * (i + 1) = n + 1 + wide * i + 1 * wide := by rw [Nat.mul_add]; omega
        rw [e]; exact q4
      · intro r hr
        rcases List.mem_append.mp hr with hr | hr
        · exact h2 r hr
        · rw [List.mem_singleton.mp hr]; exact ⟨q2, q3⟩)
    [some .pen, some (.val (.int tall)), some (.val (.int wide)), some (.val (.int k)), some (.ol []), none, none] ga ⟨by simpa using p3, [], none, rfl, rfl, fun _ h => absurd h (by simp)⟩
  obtain ⟨e, g', L, hp, R, x, rfl, h1, h2⟩ := L
  rw [Nat.zero_add, List.length_range] at *
  refine ⟨R, g', ?_, ⟨h1, fun r hr => (h2 r hr).1, fun r hr => (h2 r hr).2, ht, hw⟩, hp⟩
  simp [m__law_table, mBody, b__law_table, p1, sm62 (show tall ≤ 1000000 by omega), rng_map, L]
  rfl
end
end Z
end
section
set_option linter.all false
set_option maxRecDepth 100000
set_option maxHeartbeats 4000000
/-! NM: tables turned, dual, pivoted, signed, bent. -/
namespace Z
open PySem PySem.Spec PyProof.Rows L2
def listR (r : List Int) : D := .list (r.map PyData.int)
def turnL (T : List (List Int)) (n : Nat) : List (List Int) := (List.range n).map fun j => T.map fun r => r.getD j 0
def negL (T : List (List Int)) : List (List Int) := T.map fun r => r.map fun z => -z
section
variable {T : List (List Int)} {m n : Nat} (g : Pen)
theorem it_tD {g : Pen} {env env' : Env} {g' : Pen} {m : Mir Sl} {T : List (List Int)} (h : m env g = .ok (.val (tD T)) env' g') : itVal m env g = .ok (T.map rD) env' g' := by
  rw [itVal_app, bnd_app, h]
  rfl
theorem getD_at {r : List Int} {j : Nat} (h : j < r.length) : r[j]? = some (r.getD j 0) := by
  rw [List.getD_eq_getElem?_getD, List.getElem?_eq_getElem h]
  rfl
theorem turned_key (f : List Int → D) (mk : List D → D) (hmk : ∀ ds, mk ds = .list ds ∨ mk ds = .tuple ds) (hf : ∀ r, f r = .list (r.map PyData.int) ∨ f r = .tuple (r.map PyData.int)) (h0 : 0 < T.length) (hr : ∀ r ∈ T, r.length = n) (hn : n ≤ 1000) :
    m__law_turned [.val (mk (T.map f))] g = .ok (.val (tD (turnL T n))) g := by
  obtain ⟨r0, e0⟩ : ∃ r0, T[0]? = some r0 := ⟨_, List.getElem?_eq_getElem h0⟩
  have l0 : r0.length = n := hr _ (List.mem_of_getElem? e0)
  have hlen : ∀ (env : Env), fLen (.val (f r0)) env g = .ok (.val (.int n)) env g := fun env => by
    rcases hf r0 with e | e <;> rw [e] <;> simp [l0]
  have hix : ∀ (env : Env), fIx (.val (mk (T.map f))) (.val (.int 0)) env g = .ok (.val (f r0)) env g := fun env => by
    rcases hmk (T.map f) with e | e <;> rw [e] <;> simp [atI_zero, e0]
  have hit : ∀ (env : Env), env[0]? = some (some (.val (mk (T.map f)))) → itVal (mVar 0) env g = .ok (T.map f) env g := fun env e => by
    rw [itVal_app, bnd_app, var_ok e]
    rcases hmk (T.map f) with e2 | e2 <;> rw [e2] <;> rfl
  have hrow : ∀ r ∈ T, ∀ (j : Nat), j < n → ∀ (env : Env), fIx (.val (f r)) (.val (.int j)) env g = .ok (.val (.int (r.getD j 0))) env g := fun r hr' j hj env => by
    have := getD_at (r := r) (j := j) (by rw [hr r hr']; exact hj)
    rcases hf r with e | e
    · rw [e, fIx_list, atI_nat', List.getElem?_map, this]
      rfl
    · rw [e, fIx_tup, atI_nat', List.getElem?_map, this]
      rfl
  simp [m__law_turned, mBody, b__law_turned]
  rw [lc_mapP (List.range n) (fun (j : Nat) => PyData.int (j : Int)) (fun j => rD (T.map fun r => r.getD j 0))]
  · simp [turnL, tD]
  · simp [hix, hlen, sm62 (show n ≤ 1000000 by omega), rng_map]
  · intro j hj
    have hj : j < n := by simpa using hj
    have inner : mLc (itVal (mVar 0)) [2] (.name 2) mYes (mOp fIx (mVar 2) (mVar 1)) [some (.val (mk (T.map f))), some (.val (.int (j : Int))), none] g = .ok (.ol (T.map fun r => .int (r.getD j 0))) [some (.val (mk (T.map f))), some (.val (.int (j : Int))), none] g :=
      lc_mapP T f (fun r => .int (r.getD j 0)) (hit _ rfl) fun r hr' => ⟨_, rfl, by simp [blankE, keepO, hrow r hr' j hj]⟩
    refine ⟨_, rfl, ?_⟩
    show ∃ e4, mCall (g1 fTuple) _ [some (.val (mk (T.map f))), some (.val (.int (j : Int))), none] g = .ok _ e4 g
    simp [inner, rD]
theorem ev_turnedT (h : Tbl T m n) (hn : n ≤ 1000) : m__law_turned [.val (tD T)] g = .ok (.val (tD (turnL T n))) g :=
  turned_key g rD .tuple (fun _ => .inr rfl) (fun _ => .inr rfl) (by rw [h.len]; exact h.hm) h.row hn
theorem ev_turnedL (h0 : 0 < T.length) (hr : ∀ r ∈ T, r.length = n) (hn : n ≤ 1000) : m__law_turned [.val (.list (T.map listR))] g = .ok (.val (tD (turnL T n))) g :=
  turned_key g listR .list (fun _ => .inl rfl) (fun _ => .inl rfl) h0 hr hn
theorem turnL_tbl (h0 : 0 < T.length) (hr : ∀ r ∈ T, r.length = n) (hv : ∀ r ∈ T, ∀ z ∈ r, M.V3 z) (hn : 0 < n) : Tbl (turnL T n) n T.length where
  len := by simp [turnL]
  row := fun r h => by
    obtain ⟨j, _, rfl⟩ := List.mem_map.mp h
    simp
  ent := fun r h z hz => by
    obtain ⟨j, hj, rfl⟩ := List.mem_map.mp h
    obtain ⟨q, hq, rfl⟩ := List.mem_map.mp hz
    have hj : j < n := by simpa using hj
    have hl : j < q.length := by rw [hr q hq]; exact hj
    exact hv q hq _ (List.mem_of_getElem? (getD_at hl))
  hm := hn
  hn := h0
theorem turnL_ent {i j : Nat} (hj : j < n) (hi : i < T.length) : entT (turnL T n) j i = (T.getD i []).getD j 0 := by
  unfold entT turnL
  have e1 : ((List.range n).map fun j => T.map fun r => r.getD j 0).getD j [] = T.map fun r => r.getD j 0 := by
    rw [List.getD_eq_getElem?_getD, List.getElem?_map, List.getElem?_range hj]; rfl
  rw [e1]
  simp [List.getD_eq_getElem?_getD, List.getElem?_eq_getElem hi]
theorem negL_tbl (h : Tbl T m n) : Tbl (negL T) m n where
  len := by simp [negL, h.len]
  row := fun r hr => by
    obtain ⟨q, hq, rfl⟩ := List.mem_map.mp hr
    simp [h.row q hq]
  ent := fun r hr z hz => by
    obtain ⟨q, hq, rfl⟩ := List.mem_map.mp hr
    obtain ⟨w, hw, rfl⟩ := List.mem_map.mp hz
    exact (h.ent q hq w hw).neg
  hm := h.hm
  hn := h.hn
theorem negL_ent (h : Tbl T m n) {i j : Nat} (hi : i < m) (hj : j < n) : entT (negL T) i j = -entT T i j := by
  obtain ⟨r, e, _, lr, er⟩ := h.at_ hi
  have e1 := (er j hj).1
  unfold entT negL
  simp [List.getD_eq_getElem?_getD, e, List.getElem?_map]
  have hj' : j < r.length := by omega
  simp [List.getElem?_eq_getElem hj']
theorem ev_dual (h : Tbl T m n) (hn : n ≤ 1000) : m__law_dual [.val (tD T)] g = .ok (.val (tD (negL (turnL T n)))) g := by
  simp [m__law_dual, mBody, b__law_dual]
  rw [lc_mapP (turnL T n) rD (fun r => rD (r.map fun z => -z))]
  · simp [negL, tD]
  · exact it_tD (by simp [ev_turnedT g h hn])
  · intro r hr
    have inner : mLc (itVal (mVar 1)) [2] (.name 2) mYes (mNeg (mVar 2)) [some (.val (tD T)), some (.val (rD r)), none] g = .ok (.ol (r.map fun z => .int (-z))) [some (.val (tD T)), some (.val (rD r)), none] g :=
      lc_mapP r PyData.int (fun z => .int (-z)) rfl fun z hz => ⟨_, rfl, by simp [blankE, keepO]⟩
    refine ⟨_, rfl, ?_⟩
    show ∃ e4, mCall (g1 fTuple) _ [some (.val (tD T)), some (.val (rD r)), none] g = .ok _ e4 g
    simp [inner]
    rw [rD, List.map_map]
    rfl
end
end Z
end
section
set_option linter.all false
set_option maxRecDepth 100000
set_option maxHeartbeats 4000000
/-! NN: a pivot. -/
namespace Z
open PySem PySem.Spec PyProof.Rows L2
@[simp] theorem sSetAt_app (i : Nat) (mk mv : Mir Sl) (env : Env) (g : Pen) : sSetAt i mk mv env g = bnd mv (fun y => grd i (bnd mk fun k => withOl i y (putAt i k))) env g := rfl
theorem putAt_ok {i : Nat} {j : Nat} {xs : List D} {d : D} {env : Env} {g : Pen} (h : j < xs.length) : putAt i (.val (.int j)) xs d env g = .ok .nx (env.set i (some (.ol (xs.set j d)))) g := by
  have e : L2.ixN xs.length (j : Int) = some j := by
    unfold L2.ixN
    rw [if_pos (Int.natCast_nonneg j), if_pos (by omega)]
    rfl
  show (match L2.ixN xs.length (j : Int) with | some n => _ | none => _) = _
  rw [e]
def pivR (T : List (List Int)) (n i j k : Nat) : List Int := (List.range n).map fun l => M.pvt (entT T) i j k l
def pivL (T : List (List Int)) (m n i j : Nat) : List (List Int) := (List.range m).map fun k => pivR T n i j k
section
variable {T : List (List Int)} {m n : Nat} (g : Pen)
/-- table[k][l] -/
theorem ix_ent {s : Nat} (h : Tbl T m n) {k l : Nat} (hk : k < m) (hl : l < n) {a b : Nat} {env : Env} (e0 : env[s]? = some (some (.val (tD T)))) (e1 : env[a]? = some (some (.val (.int k)))) (e2 : env[b]? = some (some (.val (.int l)))) : mOp fIx (mOp fIx (mVar s) (mVar a)) (mVar b) env g = .ok (.val (.int (entT T k l))) env g := by
  obtain ⟨r, er, _, _, re⟩ := h.at_ hk
  have h1 : mOp fIx (mVar s) (mVar a) env g = .ok (.val (rD r)) env g := op_ok (var_ok e0) (var_ok e1) (by
    show fIx (.val (.tuple (T.map rD))) _ env g = _
    rw [fIx_tup, atI_nat', List.getElem?_map, er]
    rfl)
  exact op_ok h1 (var_ok e2) (by
    show fIx (.val (.tuple (r.map PyData.int))) _ env g = _
    rw [fIx_tup, atI_nat', List.getElem?_map, (re l hl).1]
    rfl)
theorem ix_row {s k : Nat} {r : List Int} (er : T[k]? = some r) {a : Nat} {env : Env} (e0 : env[s]? = some (some (.val (tD T)))) (e1 : env[a]? = some (some (.val (.int k)))) : mOp fIx (mVar s) (mVar a) env g = .ok (.val (rD r)) env g :=
  op_ok (var_ok e0) (var_ok e1) (by
    show fIx (.val (.tuple (T.map rD))) _ env g = _
    rw [fIx_tup, atI_nat', List.getElem?_map, er]
    rfl)
theorem len_cols {s : Nat} (h : Tbl T m n) {env : Env} (e0 : env[s]? = some (some (.val (tD T)))) : mCall (Z.g1 fLen) (mCons (mOp fIx (mVar s) (mC (.int 0))) mNil) env g = .ok (.val (.int n)) env g := by
  obtain ⟨r, er, _, lr, _⟩ := h.at_ h.hm
  have h1 : mOp fIx (mVar s) (mC (.int 0)) env g = .ok (.val (rD r)) env g := op_ok (var_ok e0) rfl (by
    show fIx (.val (.tuple (T.map rD))) _ env g = _
    rw [fIx_tup, atI_zero, List.getElem?_map, er]
    rfl)
  rw [mCall_app, bnd_app, mCons_app, bnd_app, h1]
  simp [lr]
theorem len_rows {s : Nat} (h : Tbl T m n) {env : Env} (e0 : env[s]? = some (some (.val (tD T)))) : mCall (Z.g1 fLen) (mCons (mVar s) mNil) env g = .ok (.val (.int m)) env g := by
  rw [mCall_app, bnd_app, mCons_app, bnd_app, var_ok e0]
  simp [h.len]
theorem it_cols {s : Nat} (h : Tbl T m n) (hn : n ≤ 1000) {env : Env} (e0 : env[s]? = some (some (.val (tD T)))) : itRng1 (mCons (mCall (Z.g1 fLen) (mCons (mOp fIx (mVar s) (mC (.int 0))) mNil)) mNil) env g = .ok ((List.range n).map fun (j : Nat) => PyData.int (j : Int)) env g := by
  rw [itRng1_app, bnd_app, mCons_app, bnd_app, len_cols g h e0]
  simp [sm62 (show n ≤ 1000000 by omega), rng_map]
theorem it_rows {s : Nat} (h : Tbl T m n) (hm : m ≤ 1000) {env : Env} (e0 : env[s]? = some (some (.val (tD T)))) : itRng1 (mCons (mCall (Z.g1 fLen) (mCons (mVar s) mNil)) mNil) env g = .ok ((List.range m).map fun (j : Nat) => PyData.int (j : Int)) env g := by
  rw [itRng1_app, bnd_app, mCons_app, bnd_app, len_rows g h e0]
  simp [sm62 (show m ≤ 1000000 by omega), rng_map]
theorem ev_pivot (h : Tbl T m n) (hm : m ≤ 1000) (hn : n ≤ 1000) {i j : Nat} (hi : i < m) (hj : j < n) : m__law_pivot [.val (tD T), .val (.int i), .val (.int j)] g = .ok (.val (tD (pivL T m n i j))) g := by
  let o := entT T i j
  have ho : M.V3 o := by obtain ⟨_, _, _, _, q⟩ := h.at_ hi; exact (q j hj).2
  obtain ⟨ri, eri, _, lri, qi⟩ := h.at_ hi
  have L := for_all (t := .name 5) (mb := (sSeq (sSet 6 (mOp fMul (mVar 3) (mOp fIx (mOp fIx (mVar 0) (mVar 5)) (mVar 2))))
     (sSeq (sSet 8 (mLc (itRng1 (mCons (mCall (Z.g1 fLen) (mCons (mOp fIx (mVar 0) (mC (.int 0))) mNil)) mNil)) [7] (.name 7) mYes (mOp fSub (mOp fIx (mOp fIx (mVar 0) (mVar 5)) (mVar 7)) (mOp fMul (mVar 6) (mOp fIx (mOp fIx (mVar 0) (mVar 1)) (mVar 7))))))
     (sSeq (sIf (mTest (mOp (fEq false) (mVar 5) (mVar 1))) (sSet 8 (mLc (itVal (mOp fIx (mVar 0) (mVar 1))) [9] (.name 9) mYes (mOp fMul (mVar 3) (mVar 9)))) sNil)
     (sSeq (sSetAt 8 (mVar 2) (mIfx (mTest (mOp (fEq false) (mVar 5) (mVar 1))) (mVar 3) (mNeg (mVar 6))))
     (sExpr (mAppend 4 (mCall (Z.g1 fTuple) (mCons (mVar 8) mNil)))))))))
    (φ := fun (k : Nat) => PyData.int (k : Int)) (fun k env g' => g' = g ∧ ∃ x5 x6 x8, env = [some (.val (tD T)), some (.val (.int i)), some (.val (.int j)), some (.val (.int o)), some (.ol (((List.range k).map fun k => pivR T n i j k).map rD)), x5, x6, none, x8, none]) (List.range m) 0 (by
      rintro k x hx env g' ⟨rfl, x5, x6, x8, rfl⟩
      rw [Nat.zero_add] at *
      have hk : k < m := by simpa using (List.getElem?_eq_some_iff.mp hx).1
      have ex : k = x := by simpa [List.getElem?_range hk] using hx
      subst ex
      obtain ⟨rk, erk, _, _, qk⟩ := h.at_ hk
      let R : Option Sl := some (.ol (((List.range k).map fun k => pivR T n i j k).map rD))
      refine ⟨_, rfl, ?_⟩
      show ∃ c e3 g3, sSeq _ _ [some (.val (tD T)), some (.val (.int i)), some (.val (.int j)), some (.val (.int o)), R, some (.val (.int (k : Int))), x6, none, x8, none] g' = .ok c e3 g3 ∧ _
      -- by
      have s1 : sSet 6 (mOp fMul (mVar 3) (mOp fIx (mOp fIx (mVar 0) (mVar 5)) (mVar 2))) [some (.val (tD T)), some (.val (.int i)), some (.val (.int j)), some (.val (.int o)), R, some (.val (.int (k : Int))), x6, none, x8, none] g' = .ok .nx [some (.val (tD T)), some (.val (.int i)), some (.val (.int j)), some (.val (.int o)), R, some (.val (.int (k : Int))), some (.val (.int (o * entT T k j))), none, x8, none] g' := by
        have e := op_ok (F := fMul) (ma := mVar 3) (x := .int o) (var_ok rfl) (ix_ent g' h hk hj (s := 0) (a := 5) (b := 2) (env := [some (.val (tD T)), some (.val (.int i)), some (.val (.int j)), some (.val (.int o)), R, some (.val (.int (k : Int))), x6, none, x8, none]) rfl rfl rfl) (by rw [fMul_int, if_pos (cmul_small ho), ret_app])
        rw [sSet_app, e]
        rfl
      -- the row
      have s2 : sSet 8 (mLc (itRng1 (mCons (mCall (Z.g1 fLen) (mCons (mOp fIx (mVar 0) (mC (.int 0))) mNil)) mNil)) [7] (.name 7) mYes (mOp fSub (mOp fIx (mOp fIx (mVar 0) (mVar 5)) (mVar 7)) (mOp fMul (mVar 6) (mOp fIx (mOp fIx (mVar 0) (mVar 1)) (mVar 7))))) [some (.val (tD T)), some (.val (.int i)), some (.val (.int j)), some (.val (.int o)), R, some (.val (.int (k : Int))), some (.val (.int (o * entT T k j))), none, x8, none] g' =
          .ok .nx [some (.val (tD T)), some (.val (.int i)), some (.val (.int j)), some (.val (.int o)), R, some (.val (.int (k : Int))), some (.val (.int (o * entT T k j))), none, some (.ol ((List.range n).map fun (l : Nat) => PyData.int (entT T k l - o * entT T k j * entT T i l))), none] g' := by
        rw [sSet_app, lc_mapP (List.range n) (fun (l : Nat) => PyData.int (l : Int)) (fun (l : Nat) => PyData.int (entT T k l - o * entT T k j * entT T i l)) (it_cols g' h hn (s := 0) rfl) (fun l hl => ?_)]
        · rfl
        · have hl : l < n := by simpa using hl
          let e2 : Env := [some (.val (tD T)), some (.val (.int i)), some (.val (.int j)), some (.val (.int o)), none, some (.val (.int (k : Int))), some (.val (.int (o * entT T k j))), some (.val (.int (l : Int))), keepO x8, none]
          have a1 := ix_ent g' h hk hl (s := 0) (a := 5) (b := 7) (env := e2) rfl rfl rfl
          have a2 := ix_ent g' h hi hl (s := 0) (a := 1) (b := 7) (env := e2) rfl rfl rfl
          have a3 := op_ok (F := fMul) (ma := mVar 6) (x := .int (o * entT T k j)) (var_ok rfl) a2 (by rw [fMul_int, if_pos (cmul_small (ho.mul (qk j hj).2)), ret_app])
          exact ⟨e2, rfl, e2, op_ok (F := fSub) a1 a3 rfl⟩
      have eqki : ∀ env : Env, env[5]? = some (some (.val (.int (k : Int)))) → env[1]? = some (some (.val (.int (i : Int)))) → mTest (mOp (fEq false) (mVar 5) (mVar 1)) env g' = .ok (decide (k = i)) env g' := fun env e5 e1 => by
        have e := op_ok (F := fEq false) (var_ok (g := g') e5) (var_ok e1) (r := .ok (.val (.bool (decide (k = i)))) env g') (by
          rw [fEq_app, if_pos ⟨sh_int _, sh_int _⟩, ret_app, eqv_int]
          by_cases q : k = i
          · simp [q]
          · have : ¬(k : Int) = (i : Int) := by omega
            simp [q, this])
        rw [mTest_app, bnd_app, e]
        rfl
      let row : List D := if k = i then ri.map fun z => PyData.int (o * z) else (List.range n).map fun (l : Nat) => PyData.int (entT T k l - o * entT T k j * entT T i l)
      have s3 : sIf (mTest (mOp (fEq false) (mVar 5) (mVar 1))) (sSet 8 (mLc (itVal (mOp fIx (mVar 0) (mVar 1))) [9] (.name 9) mYes (mOp fMul (mVar 3) (mVar 9)))) sNil [some (.val (tD T)), some (.val (.int i)), some (.val (.int j)), some (.val (.int o)), R, some (.val (.int (k : Int))), some (.val (.int (o * entT T k j))), none, some (.ol ((List.range n).map fun (l : Nat) => PyData.int (entT T k l - o * entT T k j * entT T i l))), none] g' =
          .ok .nx [some (.val (tD T)), some (.val (.int i)), some (.val (.int j)), some (.val (.int o)), R, some (.val (.int (k : Int))), some (.val (.int (o * entT T k j))), none, some (.ol row), none] g' := by
        rw [sIf_app, bnd_app, eqki _ rfl rfl]
        by_cases q : k = i
        · simp only [q, decide_true, ↓reduceIte, row]
          have hit : itVal (mOp fIx (mVar 0) (mVar 1)) [some (.val (tD T)), some (.val (.int i)), some (.val (.int j)), some (.val (.int o)), R, some (.val (.int (i : Int))), some (.val (.int (o * entT T i j))), none, some (.ol ((List.range n).map fun (l : Nat) => PyData.int (entT T i l - o * entT T i j * entT T i l))), none] g' = .ok (ri.map PyData.int) [some (.val (tD T)), some (.val (.int i)), some (.val (.int j)), some (.val (.int o)), R, some (.val (.int (i : Int))), some (.val (.int (o * entT T i j))), none, some (.ol ((List.range n).map fun (l : Nat) => PyData.int (entT T i l - o * entT T i j * entT T i l))), none] g' := by
            rw [itVal_app, bnd_app, ix_row g' (s := 0) eri rfl rfl]
            rfl
          rw [sSet_app, lc_mapP ri PyData.int (fun z => PyData.int (o * z)) hit (fun z hz => ⟨_, rfl, _, op_ok (F := fMul) (x := .int o) (y := .int z) (var_ok rfl) (var_ok rfl) (by rw [fMul_int, if_pos (cmul_small ho), ret_app])⟩)]
          rfl
        · simp only [q, decide_false, Bool.false_eq_true, ↓reduceIte, row]
          rfl
      have lrow : row.length = n := by
        show (if k = i then _ else _ : List D).length = n
        split
        · rw [List.length_map]; exact lri
        · simp
      have s4 : sSetAt 8 (mVar 2) (mIfx (mTest (mOp (fEq false) (mVar 5) (mVar 1))) (mVar 3) (mNeg (mVar 6))) [some (.val (tD T)), some (.val (.int i)), some (.val (.int j)), some (.val (.int o)), R, some (.val (.int (k : Int))), some (.val (.int (o * entT T k j))), none, some (.ol row), none] g' =
          .ok .nx [some (.val (tD T)), some (.val (.int i)), some (.val (.int j)), some (.val (.int o)), R, some (.val (.int (k : Int))), some (.val (.int (o * entT T k j))), none, some (.ol (row.set j (.int (if k = i then o else -(o * entT T k j))))), none] g' := by
        have ev : mIfx (mTest (mOp (fEq false) (mVar 5) (mVar 1))) (mVar 3) (mNeg (mVar 6)) [some (.val (tD T)), some (.val (.int i)), some (.val (.int j)), some (.val (.int o)), R, some (.val (.int (k : Int))), some (.val (.int (o * entT T k j))), none, some (.ol row), none] g' = .ok (.val (.int (if k = i then o else -(o * entT T k j)))) [some (.val (tD T)), some (.val (.int i)), some (.val (.int j)), some (.val (.int o)), R, some (.val (.int (k : Int))), some (.val (.int (o * entT T k j))), none, some (.ol row), none] g' := by
          rw [mIfx_app, bnd_app, eqki _ rfl rfl]
          by_cases q : k = i
          · simp only [q, decide_true, ↓reduceIte]
            rfl
          · simp only [q, decide_false, Bool.false_eq_true, ↓reduceIte]
            rfl
        rw [sSetAt_app, bnd_app, ev]
        show putAt 8 (.val (.int (j : Int))) row _ _ g' = _
        rw [putAt_ok (by rw [lrow]; exact hj)]
        rfl
      have fin : row.set j (.int (if k = i then o else -(o * entT T k j))) = (pivR T n i j k).map PyData.int := by
        refine List.ext_getElem? fun l => ?_
        by_cases hl : l < n
        · have e1 : ((pivR T n i j k).map PyData.int)[l]? = some (.int (M.pvt (entT T) i j k l)) := by
            unfold pivR
            rw [List.map_map, List.getElem?_map, List.getElem?_range hl]
            rfl
          rw [e1]
          by_cases q : l = j
          · subst q
            rw [List.getElem?_set_self (by rw [lrow]; exact hl)]
            unfold M.pvt
            by_cases q2 : k = i <;> simp [q2] <;> rfl
          · rw [List.getElem?_set_ne (fun z => q z.symm)]
            unfold M.pvt
            show (if k = i then _ else _ : List D)[l]? = _
            by_cases q2 : k = i
            · simp only [q2, ↓reduceIte, q]
              rw [List.getElem?_map, (qi l hl).1]
              rfl
            · simp only [q2, ↓reduceIte, q]
              rw [List.getElem?_map, List.getElem?_range hl]
              rfl
        · rw [List.getElem?_eq_none (by rw [List.length_set, lrow]; omega), List.getElem?_eq_none (by simp [pivR]; omega)]
      refine ⟨.nx, [some (.val (tD T)), some (.val (.int i)), some (.val (.int j)), some (.val (.int o)), some (.ol (((List.range (k + 1)).map fun k => pivR T n i j k).map rD)), some (.val (.int (k : Int))), some (.val (.int (o * entT T k j))), none, some (.val (.list ((pivR T n i j k).map PyData.int))), none], g', ?_, .inl rfl, rfl, _, _, _, rfl⟩
      rw [sSeq_app, s1]
      show sSeq _ _ _ _ = _
      rw [sSeq_app, s2]
      show sSeq _ _ _ _ = _
      rw [sSeq_app, s3]
      show sSeq _ _ _ _ = _
      rw [sSeq_app, s4, fin]
      show sExpr _ [some (.val (tD T)), some (.val (.int i)), some (.val (.int j)), some (.val (.int o)), some (.ol (((List.range k).map fun k => pivR T n i j k).map rD)), some (.val (.int (k : Int))), some (.val (.int (o * entT T k j))), none, some (.ol ((pivR T n i j k).map PyData.int)), none] g' = _
      simp
      rw [if_pos (by omega)]
      simp [List.range_succ, rD])
    [some (.val (tD T)), some (.val (.int i)), some (.val (.int j)), some (.val (.int o)), some (.ol []), none, none, none, none, none] g ⟨rfl, none, none, none, rfl⟩
  obtain ⟨e, g', L, rfl, x5, x6, x8, rfl⟩ := L
  rw [Nat.zero_add, List.length_range] at *
  have e1 := ix_ent g' h hi hj (s := 0) (a := 1) (b := 2) (env := [some (.val (tD T)), some (.val (.int i)), some (.val (.int j)), none, none, none, none, none, none, none]) rfl rfl rfl
  have e2 := it_rows g' h hm (s := 0) (env := [some (.val (tD T)), some (.val (.int i)), some (.val (.int j)), some (.val (.int o)), some (.ol []), none, none, none, none, none]) rfl
  refine body_ret (e := [some (.val (tD T)), some (.val (.int i)), some (.val (.int j)), some (.val (.int o)), some (.val (.list (((List.range m).map fun k => pivR T n i j k).map rD))), x5, x6, none, x8, none]) ?_
  show b__law_pivot [some (.val (tD T)), some (.val (.int i)), some (.val (.int j)), none, none, none, none, none, none, none] g' = _
  unfold b__law_pivot
  rw [sSeq_app, sPar_app, bnd_app, e1]
  show sSeq _ _ [some (.val (tD T)), some (.val (.int i)), some (.val (.int j)), some (.val (.int o)), some (.ol []), none, none, none, none, none] g' = _
  rw [sSeq_app, sFor_app, bnd_app, e2]
  show (match forRun _ _ _ _ g' with | .ok .nx e' g' => _ | .ok c e' g' => _ | .exc x g' => _ | .bad => _) = _
  rw [L]
  rfl
end
end Z
end
section
set_option linter.all false
set_option maxRecDepth 100000
set_option maxHeartbeats 4000000
/-! NO: places, signs, bent tables, tables as they are passed. -/
namespace Z
open PySem PySem.Spec PyProof.Rows L2
section
variable {T : List (List Int)} {m n : Nat}
/-- the places of a row's entries other than 0 -/
def placeR (T : List (List Int)) (n i : Nat) : List (List Int) := ((List.range n).filter fun j => decide (entT T i j ≠ 0)).map fun (j : Nat) => [(i : Int), (j : Int)]
def placeL (T : List (List Int)) (m n : Nat) : List (List Int) := (List.range m).flatMap fun i => placeR T n i
theorem placeR_len (T : List (List Int)) (n i : Nat) : (placeR T n i).length ≤ n := by
  unfold placeR
  rw [List.length_map]
  exact Nat.le_trans (List.length_filter_le _ _) (by simp)
theorem placeL_len (T : List (List Int)) (n : Nat) : ∀ m, (placeL T m n).length ≤ m * n
  | 0 => by simp [placeL]
  | m + 1 => by
    have h1 := placeL_len T n m
    have h2 := placeR_len T n m
    have e : placeL T (m + 1) n = placeL T m n ++ placeR T n m := by simp [placeL, List.range_succ, List.flatMap_append]
    rw [e, List.length_append, Nat.succ_mul]
    omega
theorem placeL_mem {p : List Int} (h : p ∈ placeL T m n) : ∃ i j : Nat, p = [(i : Int), (j : Int)] ∧ i < m ∧ j < n ∧ entT T i j ≠ 0 := by
  obtain ⟨i, hi, h⟩ := List.mem_flatMap.mp h
  obtain ⟨j, hj, rfl⟩ := List.mem_map.mp h
  obtain ⟨h1, h2⟩ := List.mem_filter.mp hj
  exact ⟨i, j, rfl, by simpa using hi, by simpa using h1, by simpa using h2⟩
theorem ev_places (h : Tbl T m n) (hm : m ≤ 100) (hn : n ≤ 100) (g : Pen) : m__law_places [.val (tD T)] g = .ok (.val (.list ((placeL T m n).map rD))) g := by
  have L := for_all (t := .name 2) (mb := (sSet 1 (mFz (mOp fAdd (mVar 1) (mFz (mLc (itRng1 (mCons (mCall (Z.g1 fLen) (mCons (mOp fIx (mVar 0) (mC (.int 0))) mNil)) mNil)) [3] (.name 3) (mTest (mOp (fEq true) (mOp fIx (mOp fIx (mVar 0) (mVar 2)) (mVar 3)) (mC (.int 0)))) (mTup (mCons (mVar 2) (mCons (mVar 3) mNil)))))))))
    (φ := fun (k : Nat) => PyData.int (k : Int)) (fun k env g' => g' = g ∧ ∃ x, env = [some (.val (tD T)), some (.val (.list ((placeL T k n).map rD))), x, none]) (List.range m) 0 (by
      rintro k x hx env g' ⟨rfl, x2, rfl⟩
      rw [Nat.zero_add] at *
      have hk : k < m := by simpa using (List.getElem?_eq_some_iff.mp hx).1
      have ex : k = x := by simpa [List.getElem?_range hk] using hx
      subst ex
      have l1 := placeL_len T n k
      have l2 := placeR_len T n k
      have l3 : k * n ≤ 100 * 100 := Nat.mul_le_mul (by omega) hn
      refine ⟨_, rfl, .nx, [some (.val (tD T)), some (.val (.list ((placeL T (k + 1) n).map rD))), some (.val (.int (k : Int))), none], g', ?_, .inl rfl, rfl, _, rfl⟩
      show sSet 1 _ [some (.val (tD T)), some (.val (.list ((placeL T k n).map rD))), some (.val (.int (k : Int))), none] g' = _
      have inner := lc_pureT (g := g') (vs := [3]) (t := .name 3) (mt := mTest (mOp (fEq true) (mOp fIx (mOp fIx (mVar 0) (mVar 2)) (mVar 3)) (mC (.int 0)))) (me := mTup (mCons (mVar 2) (mCons (mVar 3) mNil))) (List.range n) (fun (j : Nat) => PyData.int (j : Int)) (fun (j : Nat) => rD [(k : Int), (j : Int)]) (fun j => decide (entT T k j ≠ 0))
        (it_cols g' h (by omega) (s := 0) (env := [some (.val (tD T)), some (.val (.list ((placeL T k n).map rD))), some (.val (.int (k : Int))), none]) rfl) (fun j hj => by
          have hj : j < n := by simpa using hj
          let e2 : Env := [some (.val (tD T)), some (.val (.list ((placeL T k n).map rD))), some (.val (.int (k : Int))), some (.val (.int (j : Int)))]
          have a1 := ix_ent g' h hk hj (s := 0) (a := 2) (b := 3) (env := e2) rfl rfl rfl
          have a2 := op_ok (F := fEq true) (mb := mC (.int 0)) (y := .int 0) (r := .ok (.val (.bool (decide (entT T k j ≠ 0)))) e2 g') a1 rfl (by
            rw [fEq_app, if_pos ⟨sh_int _, sh_int _⟩, ret_app, eqv_int]
            simp)
          exact ⟨e2, rfl, by rw [mTest_app, bnd_app, a2]; rfl, fun _ => ⟨e2, rfl⟩⟩)
      rw [sSet_app, mFz_app, bnd_app, mOp_app, bnd_app, var_ok rfl]
      simp only [own_val, Bool.false_eq_true, ↓reduceIte, bnd_app, mFz_app, inner, isTb_ol, ret_app, fz_ol', fAdd_lst]
      rw [if_pos (by
        rw [List.length_map, List.length_map]
        have : ((List.range n).filter fun j => decide (entT T k j ≠ 0)).length ≤ n := Nat.le_trans (List.length_filter_le _ _) (by simp)
        omega)]
      simp only [ret_app, isTb_ol, Bool.false_eq_true, ↓reduceIte, fz_ol']
      have e : placeL T (k + 1) n = placeL T k n ++ placeR T n k := by simp [placeL, List.range_succ, List.flatMap_append]
      rw [e, List.map_append]
      unfold placeR
      rw [List.map_map]
      rfl)
    [some (.val (tD T)), some (.val (.list [])), none, none] g ⟨rfl, none, rfl⟩
  obtain ⟨e, g', L, rfl, x2, rfl⟩ := L
  rw [Nat.zero_add, List.length_range] at *
  have e2 := it_rows g' h (by omega) (s := 0) (env := [some (.val (tD T)), some (.val (.list [])), none, none]) rfl
  refine body_ret (e := [some (.val (tD T)), some (.val (.list ((placeL T m n).map rD))), x2, none]) ?_
  show b__law_places [some (.val (tD T)), none, none, none] g' = _
  unfold b__law_places
  rw [sSeq_app]
  show sSeq _ _ [some (.val (tD T)), some (.val (.list [])), none, none] g' = _
  rw [sSeq_app, sFor_app, bnd_app, e2]
  show (match forRun _ _ _ _ g' with | .ok .nx e' g' => _ | .ok c e' g' => _ | .exc x g' => _ | .bad => _) = _
  rw [L]
  rfl
/-! ### as it is passed -/
theorem ev_as_passed {k : Nat} {g : Pen} (hp : PenOk k g) (hk : k ≤ 1000000000) (T : List (List Int)) : ∃ H g', m__law_as_passed [.pen, .val (tD T)] g = .ok (.val H) g' ∧ Hand T H ∧ PenOk (k + 1) g' := by
  obtain ⟨i, g', d1, d2, d3, d4⟩ := draw_app hp hk (k := 3) (by omega) (by omega)
  have conv : mLc (itVal (mVar 1)) [3] (.name 3) mYes (mFz (mCall (Z.g1 fList) (mCons (mVar 3) mNil))) [some .pen, some (.val (tD T)), some (.val (.int i)), none] g' = .ok (.ol (T.map listR)) [some .pen, some (.val (tD T)), some (.val (.int i)), none] g' :=
    lc_mapP T rD listR (it_tD rfl) fun r hr => ⟨_, rfl, _, rfl⟩
  by_cases h0 : i = 0
  · refine ⟨tD T, g', ?_, .tt, d4⟩
    simp [m__law_as_passed, mBody, b__law_as_passed, d1, h0]
  · by_cases h1 : i = 1
    · subst h1
      refine ⟨.list (T.map listR), g', ?_, .ll, d4⟩
      simp [m__law_as_passed, mBody, b__law_as_passed, d1]
      rw [conv]
      rfl
    · refine ⟨.tuple (T.map listR), g', ?_, .tl, d4⟩
      simp [m__law_as_passed, mBody, b__law_as_passed, d1, h0, h1]
      rw [conv]
      rfl
end
end Z
end
section
set_option linter.all false
set_option maxRecDepth 100000
set_option maxHeartbeats 4000000
/-! NP: tables signed and put in another order; bent ones; rings. -/
namespace Z
open PySem PySem.Spec PyProof.Rows L2
theorem ints_in {es : List D} {xs : List Int} (h : ∀ e ∈ es, e ∈ xs.map PyData.int) : ∃ ys : List Int, es = ys.map PyData.int ∧ ∀ y ∈ ys, y ∈ xs := by
  induction es with
  | nil => exact ⟨[], rfl, fun _ h => absurd h (by simp)⟩
  | cons e r ih =>
    obtain ⟨ys, rfl, h2⟩ := ih fun x hx => h x (List.mem_cons_of_mem _ hx)
    obtain ⟨y, hy, rfl⟩ := List.mem_map.mp (h e List.mem_cons_self)
    exact ⟨y :: ys, rfl, fun z hz => by
      rcases List.mem_cons.mp hz with rfl | hz
      · exact hy
      · exact h2 z hz⟩
def upto (n : Nat) : List Int := (List.range n).map fun (i : Nat) => (i : Int)
theorem upto_mem {n : Nat} {i : Int} : i ∈ upto n ↔ 0 ≤ i ∧ i < n := by
  unfold upto
  simp only [List.mem_map, List.mem_range]
  constructor
  · rintro ⟨k, hk, rfl⟩
    omega
  · intro h
    exact ⟨i.toNat, by omega, by omega⟩
@[simp] theorem mListRange_app (m : Mir Sl) (env : Env) (g : Pen) : mListRange m env g = bnd m (fun x => onS (intOf x) fun n => if 0 ≤ n ∧ n ≤ 1000 then ret (.ol (rangeD n)) else bad) env g := rfl
theorem rangeD_upto (n : Nat) : rangeD (n : Int) = (upto n).map PyData.int := by
  unfold rangeD upto
  rw [List.map_map]
  rfl
def signT (T : List (List Int)) (one rows two cols : List Int) : List (List Int) := (one.zip rows).map fun p => (two.zip cols).map fun q => p.1 * entT T p.2.toNat q.2.toNat * q.1
theorem signT_tbl {T : List (List Int)} {m n : Nat} (h : Tbl T m n) {one rows two cols : List Int} (l1 : one.length = m) (l2 : rows.length = m) (l3 : two.length = n) (l4 : cols.length = n) (p1 : ∀ z ∈ one, z = 1 ∨ z = -1) (p2 : ∀ z ∈ two, z = 1 ∨ z = -1) (r1 : ∀ i ∈ rows, 0 ≤ i ∧ i < m) (r2 : ∀ i ∈ cols, 0 ≤ i ∧ i < n) : Tbl (signT T one rows two cols) m n where
  len := by simp [signT, l1, l2]
  row := fun r hr => by
    obtain ⟨p, _, rfl⟩ := List.mem_map.mp hr
    simp [l3, l4]
  ent := fun r hr z hz => by
    obtain ⟨⟨a, i⟩, hp, rfl⟩ := List.mem_map.mp hr
    obtain ⟨⟨b, j⟩, hq, rfl⟩ := List.mem_map.mp hz
    obtain ⟨ha, hi⟩ := List.of_mem_zip hp
    obtain ⟨hb, hj⟩ := List.of_mem_zip hq
    obtain ⟨_, _, _, _, e⟩ := h.at_ (show i.toNat < m by have := r1 i hi; omega)
    have e := (e j.toNat (by have := r2 j hj; omega)).2
    have va : M.V3 a := by have := p1 a ha; unfold M.V3; omega
    have vb : M.V3 b := by have := p2 b hb; unfold M.V3; omega
    exact (va.mul e).mul vb
  hm := h.hm
  hn := h.hn
theorem sign_pick {k : Nat} {g : Pen} (hp : PenOk k g) (hk : k ≤ 1000000000) : ∃ (z : Int) (g' : Pen), m__law_pick [.pen, .val (.list [.int 1, .int (-1)])] g = .ok (.val (.int z)) g' ∧ (z = 1 ∨ z = -1) ∧ PenOk (k + 1) g' := by
  obtain ⟨d, g', h1, h2, h3⟩ := ev_pick hp hk (ds := [.int 1, .int (-1)]) (by simp) (by simp)
  simp only [List.mem_cons, List.not_mem_nil, or_false] at h2
  rcases h2 with rfl | rfl
  · exact ⟨1, g', h1, .inl rfl, h3⟩
  · exact ⟨-1, g', h1, .inr rfl, h3⟩
theorem ev_signed {T : List (List Int)} {m n : Nat} (h : Tbl T m n) (hm : m ≤ 100) (hn : n ≤ 100) {k : Nat} {g : Pen} (hp : PenOk k g) (hk : k + 400 ≤ 1000000000) : ∃ T' g', m__law_signed [.pen, .val (tD T)] g = .ok (.val (tD T')) g' ∧ Tbl T' m n ∧ PenOk (k + 400) g' := by
  -- two orders
  obtain ⟨er, ga, a1, a2, a3, a4⟩ := ev_shuffled hp (ds := (upto m).map PyData.int) (by simp [upto]; omega) (by simp [upto]; omega)
  have lm : ((upto m).map PyData.int).length = m := by simp [upto]
  rw [lm] at a2 a4
  obtain ⟨rows, rfl, r1⟩ := ints_in a3
  obtain ⟨ec, gb, b1, b2, b3, b4⟩ := ev_shuffled a4 (ds := (upto n).map PyData.int) (by simp [upto]; omega) (by simp [upto]; omega)
  have ln : ((upto n).map PyData.int).length = n := by simp [upto]
  rw [ln] at b2 b4
  obtain ⟨cols, rfl, c1⟩ := ints_in b3
  rw [List.length_map] at a2 b2
  let e1 : Env := [some .pen, some (.val (tD T)), none, none, none, none, none, none, none, none, none, none]
  let e2 : Env := [some .pen, some (.val (tD T)), some (.val (.int m)), some (.val (.int n)), none, none, none, none, none, none, none, none]
  let e3 : Env := [some .pen, some (.val (tD T)), some (.val (.int m)), some (.val (.int n)), some (.val (.list (rows.map PyData.int))), some (.val (.list (cols.map PyData.int))), none, none, none, none, none, none]
  have lr : mCall (mFn m__law_shuffled) (mCons (mVar 0) (mCons (mFz (mListRange (mVar 2))) mNil)) e2 g = .ok (.val (.list (rows.map PyData.int))) e2 ga := by
    simp [e2]
    rw [if_pos (by omega)]
    simp [rangeD_upto, a1]
  have lc : mCall (mFn m__law_shuffled) (mCons (mVar 0) (mCons (mFz (mListRange (mVar 3))) mNil)) e2 ga = .ok (.val (.list (cols.map PyData.int))) e2 gb := by
    simp [e2]
    rw [if_pos (by omega)]
    simp [rangeD_upto, b1]
  -- two rows of signs
  obtain ⟨one, gc, o1, o2, o3, o4⟩ := lc_inv (mi := itVal (mVar 4)) (vs := [6]) (t := .name 6) (me := mCall (mFn m__law_pick) (mCons (mVar 0) (mCons (mFz (mLst (mCons (mC (.int 1)) (mCons (mNeg (mC (.int 1))) mNil)))) mNil))) (env := e3) 1 rows PyData.int PyData.int (fun z => z = 1 ∨ z = -1) rfl b4 (by omega) (by
    intro i hi n' g' hp' hb'
    obtain ⟨z, g2, s1, s2, s3⟩ := sign_pick hp' (by omega)
    refine ⟨_, rfl, z, [some .pen, some (.val (tD T)), some (.val (.int m)), some (.val (.int n)), some (.val (.list (rows.map PyData.int))), some (.val (.list (cols.map PyData.int))), some (.val (.int i)), none, none, none, none, none], g2, ?_, s2, s3⟩
    simp [e3, blankE, keepO, s1])
  obtain ⟨two, gd, t1, t2, t3, t4⟩ := lc_inv (mi := itVal (mVar 5)) (vs := [7]) (t := .name 7) (me := mCall (mFn m__law_pick) (mCons (mVar 0) (mCons (mFz (mLst (mCons (mC (.int 1)) (mCons (mNeg (mC (.int 1))) mNil)))) mNil))) (env := e3) 1 cols PyData.int PyData.int (fun z => z = 1 ∨ z = -1) rfl o4 (by omega) (by
    intro i hi n' g' hp' hb'
    obtain ⟨z, g2, s1, s2, s3⟩ := sign_pick hp' (by omega)
    refine ⟨_, rfl, z, [some .pen, some (.val (tD T)), some (.val (.int m)), some (.val (.int n)), some (.val (.list (rows.map PyData.int))), some (.val (.list (cols.map PyData.int))), none, some (.val (.int i)), none, none, none, none], g2, ?_, s2, s3⟩
    simp [e3, blankE, keepO, s1])
  have hr : ∀ i ∈ rows, 0 ≤ i ∧ i < m := fun i hi => upto_mem.mp (r1 i hi)
  have hc : ∀ i ∈ cols, 0 ≤ i ∧ i < n := fun i hi => upto_mem.mp (c1 i hi)
  let e4 : Env := [some .pen, some (.val (tD T)), some (.val (.int m)), some (.val (.int n)), some (.val (.list (rows.map PyData.int))), some (.val (.list (cols.map PyData.int))), none, none, some (.val (.list (one.map PyData.int))), some (.val (.list (two.map PyData.int))), none, none]
  have out : mLc (itZip (mCons (mVar 8) (mCons (mVar 4) mNil))) [10, 6] (.two 10 6) mYes (mCall (Z.g1 fTuple) (mCons (mFz (mLc (itZip (mCons (mVar 9) (mCons (mVar 5) mNil))) [11, 7] (.two 11 7) mYes (mOp fMul (mOp fMul (mVar 10) (mOp fIx (mOp fIx (mVar 1) (mVar 6)) (mVar 7))) (mVar 11)))) mNil)) e4 gd = .ok (.ol ((one.zip rows).map fun p => rD ((two.zip cols).map fun q => p.1 * entT T p.2.toNat q.2.toNat * q.1))) e4 gd := by
    refine lc_mapP (one.zip rows) (fun p => .tuple [.int p.1, .int p.2]) (fun p => rD ((two.zip cols).map fun q => p.1 * entT T p.2.toNat q.2.toNat * q.1)) ?_ ?_
    · simp [e4, zipOf, zipD_ints]
    · rintro ⟨a, i⟩ hpi
      obtain ⟨ha, hi⟩ := List.of_mem_zip hpi
      have i0 := hr i hi
      have va : M.V3 a := by have := o3 a ha; unfold M.V3; omega
      let e5 : Env := [some .pen, some (.val (tD T)), some (.val (.int m)), some (.val (.int n)), some (.val (.list (rows.map PyData.int))), some (.val (.list (cols.map PyData.int))), some (.val (.int i)), none, some (.val (.list (one.map PyData.int))), some (.val (.list (two.map PyData.int))), some (.val (.int a)), none]
      have inner : mLc (itZip (mCons (mVar 9) (mCons (mVar 5) mNil))) [11, 7] (.two 11 7) mYes (mOp fMul (mOp fMul (mVar 10) (mOp fIx (mOp fIx (mVar 1) (mVar 6)) (mVar 7))) (mVar 11)) e5 gd = .ok (.ol ((two.zip cols).map fun q => .int (a * entT T i.toNat q.2.toNat * q.1))) e5 gd := by
        refine lc_mapP (two.zip cols) (fun p => .tuple [.int p.1, .int p.2]) (fun q => .int (a * entT T i.toNat q.2.toNat * q.1)) ?_ ?_
        · simp [e5, zipOf, zipD_ints]
        · rintro ⟨b, j⟩ hqj
          obtain ⟨hb, hj⟩ := List.of_mem_zip hqj
          have j0 := hc j hj
          obtain ⟨_, _, _, _, q⟩ := h.at_ (show i.toNat < m by omega)
          have q := (q j.toNat (by omega)).2
          let e6 : Env := [some .pen, some (.val (tD T)), some (.val (.int m)), some (.val (.int n)), some (.val (.list (rows.map PyData.int))), some (.val (.list (cols.map PyData.int))), some (.val (.int i)), some (.val (.int j)), some (.val (.list (one.map PyData.int))), some (.val (.list (two.map PyData.int))), some (.val (.int a)), some (.val (.int b))]
          have ei : (i.toNat : Int) = i := Int.toNat_of_nonneg i0.1
          have ej : (j.toNat : Int) = j := Int.toNat_of_nonneg j0.1
          have f1 := ix_ent gd h (s := 1) (a := 6) (b := 7) (k := i.toNat) (l := j.toNat) (by omega) (by omega) (env := e6) rfl (by rw [ei]; rfl) (by rw [ej]; rfl)
          have f2 := op_ok (F := fMul) (ma := mVar 10) (x := .int a) (var_ok rfl) f1 (by rw [fMul_int, if_pos (cmul_small va), ret_app])
          have f3 := op_ok (F := fMul) (mb := mVar 11) (y := .int b) f2 (var_ok rfl) (by rw [fMul_int, if_pos (cmul_small (va.mul q)), ret_app])
          exact ⟨e6, rfl, e6, f3⟩
      refine ⟨e5, rfl, e5, ?_⟩
      rw [mCall_app, bnd_app, mCons_app, bnd_app, mFz_app, bnd_app, inner]
      simp [rD]
  refine ⟨signT T one rows two cols, gd, body_ret (e := e4) ?_, signT_tbl h (by omega) a2 (by omega) b2 o3 t3 hr hc, t4.mono (by omega)⟩
  show b__law_signed e1 g = _
  unfold b__law_signed
  rw [sSeq_app, sPar_app, bnd_app, len_rows g h (s := 1) (env := e1) rfl]
  show (match (bnd _ _ e1 g : Res Ctl) with | .ok .nx e' g' => _ | .ok c e' g' => _ | .exc x g' => _ | .bad => _) = _
  rw [bnd_app, len_cols g h (s := 1) (env := e1) rfl]
  show sSeq _ _ e2 g = _
  rw [sSeq_app, sPar_app, bnd_app, lr]
  show (match (bnd _ _ e2 ga : Res Ctl) with | .ok .nx e' g' => _ | .ok c e' g' => _ | .exc x g' => _ | .bad => _) = _
  rw [bnd_app, lc]
  show sSeq _ _ e3 gb = _
  rw [sSeq_app, sPar_app, bnd_app, mFz_app, bnd_app, o1]
  show (match (bnd _ _ e3 gc : Res Ctl) with | .ok .nx e' g' => _ | .ok c e' g' => _ | .exc x g' => _ | .bad => _) = _
  rw [bnd_app, mFz_app, bnd_app, t1]
  show sRet _ e4 gd = _
  rw [sRet_app, bnd_app, mCall_app, bnd_app, mCons_app, bnd_app, mFz_app, bnd_app, out]
  simp [tD, signT]
end Z
end
section
set_option linter.all false
set_option maxRecDepth 100000
set_option maxHeartbeats 4000000
/-! NQ: bent tables, rings. -/
namespace Z
open PySem PySem.Spec PyProof.Rows L2
theorem cons_okS {m : Mir Sl} {ms : Mir (List Sl)} {sl : Sl} {l : List Sl} {env env' env2 : Env} {g g' g2 : Pen} (h1 : m env g = .ok sl env' g') (ho : sl.own = false) (h2 : ms env' g' = .ok l env2 g2) : mCons m ms env g = .ok (sl :: l) env2 g2 := by
  unfold mCons
  rw [bnd_ok h1]
  simp only [ho, Bool.false_eq_true, ↓reduceIte]
  rw [bnd_ok h2]
  rfl
theorem call_draw {m : Mir Sl} {i : Nat} {k z : Int} {env : Env} {g g' g2 : Pen} (hp : env[i]? = some (some .pen)) (h : m env g = .ok (.val (.int k)) env g') (hd : m__law_draw [.pen, .val (.int k)] g' = .ok (.val (.int z)) g2) : mCall (mFn m__law_draw) (mCons (mVar i) (mCons m mNil)) env g = .ok (.val (.int z)) env g2 :=
  call_ok (cons_okS (pen_ok' hp) rfl (cons_ok h rfl)) (fn_ok hd)
theorem cut_take {α : Type} (xs : List D) {i : Nat} (h : i ≤ xs.length) : cutD xs none (some (i : Int)) = xs.take i := by
  unfold cutD
  have e1 : HT.sIx xs.length 0 none = 0 := rfl
  have e2 : HT.sIx xs.length xs.length (some (i : Int)) = i := by
    rw [HT.sIx_nat]
    omega
  rw [e1, e2]
  simp
theorem cut_drop {α : Type} (xs : List D) {i : Nat} (h : i ≤ xs.length) : cutD xs (some (i : Int)) none = xs.drop i := by
  unfold cutD
  have e1 : HT.sIx xs.length xs.length none = xs.length := rfl
  have e2 : HT.sIx xs.length 0 (some (i : Int)) = i := by
    rw [HT.sIx_nat]
    omega
  rw [e1, e2, List.take_of_length_le (by simp)]
def bentT (T : List (List Int)) (i j : Nat) (z : Int) : List (List Int) := T.take i ++ [(T.getD i []).take j ++ [z] ++ (T.getD i []).drop (j + 1)] ++ T.drop (i + 1)
theorem bentT_tbl {T : List (List Int)} {m n : Nat} (h : Tbl T m n) {i j : Nat} (hi : i < m) (hj : j < n) {z : Int} (hz : M.V3 z) : Tbl (bentT T i j z) m n := by
  obtain ⟨r, er, mr, lr, _⟩ := h.at_ hi
  have e : T.getD i [] = r := by rw [List.getD_eq_getElem?_getD, er]; rfl
  have cases : ∀ q ∈ bentT T i j z, q ∈ T ∨ q = r.take j ++ [z] ++ r.drop (j + 1) := fun q hq => by
    unfold bentT at hq
    rw [e] at hq
    rcases List.mem_append.mp hq with hq | hq
    · rcases List.mem_append.mp hq with hq | hq
      · exact .inl (List.mem_of_mem_take hq)
      · exact .inr (List.mem_singleton.mp hq)
    · exact .inl (List.mem_of_mem_drop hq)
  refine ⟨?_, fun q hq => ?_, fun q hq w hw => ?_, h.hm, h.hn⟩
  · have := h.len
    simp [bentT]
    omega
  · rcases cases q hq with hq | rfl
    · exact h.row q hq
    · simp
      omega
  · rcases cases q hq with hq | rfl
    · exact h.ent q hq w hw
    · rcases List.mem_append.mp hw with hw | hw
      · rcases List.mem_append.mp hw with hw | hw
        · exact h.ent r mr w (List.mem_of_mem_take hw)
        · rw [List.mem_singleton.mp hw]; exact hz
      · exact h.ent r mr w (List.mem_of_mem_drop hw)
theorem ev_bent {T : List (List Int)} {m n : Nat} (h : Tbl T m n) (hm : m ≤ 100) (hn : n ≤ 100) {k : Nat} {g : Pen} (hp : PenOk k g) (hk : k + 3 ≤ 1000000000) : ∃ T' g', m__law_bent [.pen, .val (tD T)] g = .ok (.val (tD T')) g' ∧ Tbl T' m n ∧ PenOk (k + 3) g' := by
  have hm1 := h.hm
  have hn1 := h.hn
  obtain ⟨i, ga, a1, a2, a3, a4⟩ := draw_app hp (by omega) (k := (m : Int)) (by omega) (by omega)
  obtain ⟨j, gb, b1, b2, b3, b4⟩ := draw_app a4 (by omega) (k := (n : Int)) (by omega) (by omega)
  obtain ⟨i, rfl⟩ := Int.eq_ofNat_of_zero_le a2
  obtain ⟨j, rfl⟩ := Int.eq_ofNat_of_zero_le b2
  have hi : i < m := by omega
  have hj : j < n := by omega
  obtain ⟨r, er, mr, lr, qr⟩ := h.at_ hi
  have hv := (qr j hj).2
  let e1 : Env := [some .pen, some (.val (tD T)), none, none, none, none]
  let e2 : Env := [some .pen, some (.val (tD T)), some (.val (.int i)), some (.val (.int j)), none, none]
  let some3 : List Int := [-1, 0, 1].filter fun z => decide (z ≠ entT T i j)
  have hin : itVal (mTup (mCons (mNeg (mC (.int 1))) (mCons (mC (.int 0)) (mCons (mC (.int 1)) mNil)))) e2 gb = .ok (([-1, 0, 1] : List Int).map PyData.int) e2 gb := by simp
  have others : mLc (itVal (mTup (mCons (mNeg (mC (.int 1))) (mCons (mC (.int 0)) (mCons (mC (.int 1)) mNil))))) [4] (.name 4) (mTest (mOp (fEq true) (mVar 4) (mOp fIx (mOp fIx (mVar 1) (mVar 2)) (mVar 3)))) (mVar 4) e2 gb = .ok (.ol (some3.map PyData.int)) e2 gb := by
    refine lc_pureT [-1, 0, 1] PyData.int PyData.int (fun z => decide (z ≠ entT T i j)) hin fun z hz => ?_
    let e3 : Env := [some .pen, some (.val (tD T)), some (.val (.int i)), some (.val (.int j)), some (.val (.int z)), none]
    have f1 := ix_ent gb h (s := 1) (a := 2) (b := 3) hi hj (env := e3) rfl rfl rfl
    have f2 := op_ok (F := fEq true) (ma := mVar 4) (x := .int z) (r := .ok (.val (.bool (decide (z ≠ entT T i j)))) e3 gb) (var_ok rfl) f1 (by
      rw [fEq_app, if_pos ⟨sh_int _, sh_int _⟩, ret_app, eqv_int]
      simp)
    exact ⟨e3, rfl, by rw [mTest_app, bnd_app, f2]; rfl, fun _ => ⟨e3, rfl⟩⟩
  have hne : some3 ≠ [] := fun e => by
    have h1 : ∀ z ∈ ([-1, 0, 1] : List Int), z = entT T i j := fun z hz => Classical.byContradiction fun q => by
      have : z ∈ some3 := List.mem_filter.mpr ⟨hz, by simpa using q⟩
      rw [e] at this
      cases this
    have h2 := h1 0 (by simp)
    have h3 := h1 1 (by simp)
    omega
  obtain ⟨d, gc, c1, c2, c3⟩ := ev_pick b4 (by omega) (ds := some3.map PyData.int) (by simpa using hne) (by
    rw [List.length_map]
    exact Nat.le_trans (List.length_filter_le _ _) (by simp))
  obtain ⟨z, hz, rfl⟩ := List.mem_map.mp c2
  have vz : M.V3 z := by
    have := (List.mem_filter.mp hz).1
    unfold M.V3
    simp at this
    omega
  let e4 : Env := [some .pen, some (.val (tD T)), some (.val (.int i)), some (.val (.int j)), none, some (.val (.int z))]
  have cut1 : cutD (T.map rD) none (some (i : Int)) = (T.take i).map rD := by rw [cut_take (α := Nat) _ (by rw [List.length_map, h.len]; omega), List.map_take]
  have cut2 : cutD (T.map rD) (some ((i : Int) + 1)) none = (T.drop (i + 1)).map rD := by
    have e : ((i : Int) + 1) = ((i + 1 : Nat) : Int) := rfl
    rw [e, cut_drop (α := Nat) _ (by rw [List.length_map, h.len]; omega), List.map_drop]
  have cut3 : cutD (r.map PyData.int) none (some (j : Int)) = (r.take j).map PyData.int := by rw [cut_take (α := Nat) _ (by rw [List.length_map, lr]; omega), List.map_take]
  have cut4 : cutD (r.map PyData.int) (some ((j : Int) + 1)) none = (r.drop (j + 1)).map PyData.int := by
    have e : ((j : Int) + 1) = ((j + 1 : Nat) : Int) := rfl
    rw [e, cut_drop (α := Nat) _ (by rw [List.length_map, lr]; omega), List.map_drop]
  have eg : T.getD i [] = r := by rw [List.getD_eq_getElem?_getD, er]; rfl
  refine ⟨bentT T i j z, gc, body_ret (e := e4) ?_, bentT_tbl h hi hj vz, c3⟩
  show b__law_bent e1 g = _
  unfold b__law_bent
  have row : mOp fIx (mVar 1) (mVar 2) e4 gc = .ok (.val (rD r)) e4 gc := ix_row gc (s := 1) er rfl rfl
  have da : mCall (mFn m__law_draw) (mCons (mVar 0) (mCons (mCall (Z.g1 fLen) (mCons (mVar 1) mNil)) mNil)) e1 g = .ok (.val (.int i)) e1 ga := call_draw rfl (len_rows g h (s := 1) (env := e1) rfl) a1
  have db : mCall (mFn m__law_draw) (mCons (mVar 0) (mCons (mCall (Z.g1 fLen) (mCons (mOp fIx (mVar 1) (mC (.int 0))) mNil)) mNil)) e1 ga = .ok (.val (.int j)) e1 gb := call_draw rfl (len_cols ga h (s := 1) (env := e1) rfl) b1
  rw [sSeq_app, sPar_app, bnd_app, da]
  show (match (bnd _ _ e1 ga : Res Ctl) with | .ok .nx e' g' => _ | .ok c e' g' => _ | .exc x g' => _ | .bad => _) = _
  rw [bnd_app, db]
  show sSeq _ _ e2 gb = _
  have dc : mCall (mFn m__law_pick) (mCons (mVar 0) (mCons (mFz (mLc (itVal (mTup (mCons (mNeg (mC (.int 1))) (mCons (mC (.int 0)) (mCons (mC (.int 1)) mNil))))) [4] (.name 4) (mTest (mOp (fEq true) (mVar 4) (mOp fIx (mOp fIx (mVar 1) (mVar 2)) (mVar 3)))) (mVar 4))) mNil)) e2 gb = .ok (.val (.int z)) e2 gc := call_ok (cons_okS (pen_ok' rfl) rfl (cons_ok (fz_ol others) rfl)) (fn_ok c1)
  rw [sSeq_app, sSet_app, dc]
  show sRet _ e4 gc = _
  have p1 : mFz (mSl (mVar 1) none (some (mVar 2))) e4 gc = .ok (.val (.tuple ((T.take i).map rD))) e4 gc := by
    simp [e4, tD]
    rw [cut1]; simp
  have p2 : mFz (mSl (mVar 1) (some (mOp fAdd (mVar 2) (mC (.int 1)))) none) e4 gc = .ok (.val (.tuple ((T.drop (i + 1)).map rD))) e4 gc := by
    simp [e4, tD]
    rw [cut2]; simp
  have p3 : mFz (mSl (mOp fIx (mVar 1) (mVar 2)) none (some (mVar 3))) e4 gc = .ok (.val (.tuple ((r.take j).map PyData.int))) e4 gc := by
    rw [mFz_app, bnd_app, mSl_app, bnd_app, row]
    simp [e4, rD]
    rw [cut3]; simp
  have p4 : mFz (mSl (mOp fIx (mVar 1) (mVar 2)) (some (mOp fAdd (mVar 3) (mC (.int 1)))) none) e4 gc = .ok (.val (.tuple ((r.drop (j + 1)).map PyData.int))) e4 gc := by
    rw [mFz_app, bnd_app, mSl_app, bnd_app, row]
    simp [e4, rD]
    rw [cut4]; simp
  have l1 : (r.take j).length ≤ 100 := by simp; omega
  have l2 : (r.drop (j + 1)).length ≤ 100 := by simp; omega
  have p5 : mOp fAdd (mFz (mSl (mOp fIx (mVar 1) (mVar 2)) none (some (mVar 3)))) (mTup (mCons (mVar 5) mNil)) e4 gc = .ok (.val (.tuple ((r.take j ++ [z]).map PyData.int))) e4 gc :=
    op_ok p3 (y := .tuple [.int z]) rfl (by rw [fAdd_tup, if_pos (by rw [List.length_map]; simp; omega)]; simp)
  have p6 : mOp fAdd (mOp fAdd (mFz (mSl (mOp fIx (mVar 1) (mVar 2)) none (some (mVar 3)))) (mTup (mCons (mVar 5) mNil))) (mFz (mSl (mOp fIx (mVar 1) (mVar 2)) (some (mOp fAdd (mVar 3) (mC (.int 1)))) none)) e4 gc = .ok (.val (rD (r.take j ++ [z] ++ r.drop (j + 1)))) e4 gc :=
    op_ok p5 p4 (by rw [fAdd_tup, if_pos (by rw [List.length_map, List.length_map, List.length_append]; simp; omega)]; simp [rD])
  have p7 : mTup (mCons (mOp fAdd (mOp fAdd (mFz (mSl (mOp fIx (mVar 1) (mVar 2)) none (some (mVar 3)))) (mTup (mCons (mVar 5) mNil))) (mFz (mSl (mOp fIx (mVar 1) (mVar 2)) (some (mOp fAdd (mVar 3) (mC (.int 1)))) none))) mNil) e4 gc = .ok (.val (.tuple [rD (r.take j ++ [z] ++ r.drop (j + 1))])) e4 gc := by
    rw [mTup_app, bnd_app, mCons_app, bnd_app, p6]
    rfl
  have p8 := op_ok (F := fAdd) p1 p7 (r := .ok (.val (.tuple ((T.take i ++ [r.take j ++ [z] ++ r.drop (j + 1)]).map rD))) e4 gc) (by rw [fAdd_tup, if_pos (by rw [List.length_map, List.length_take]; simp; omega)]; simp)
  have p9 := op_ok (F := fAdd) p8 p2 (r := .ok (.val (tD (bentT T i j z))) e4 gc) (by
    rw [fAdd_tup, if_pos (by rw [List.length_map, List.length_map, List.length_append, List.length_take, List.length_drop, h.len]; simp; omega)]
    unfold bentT
    rw [eg]
    simp [tD])
  rw [sRet_app, bnd_app, p9]
  rfl
end Z
end
section
set_option linter.all false
set_option maxRecDepth 100000
set_option maxHeartbeats 4000000
/-! NR: rings. -/
namespace Z
open PySem PySem.Spec PyProof.Rows L2
def ringR (w s i : Nat) (z : Int) : List Int := ((List.replicate (w + s) (0 : Int)).set (w + i) 1).set (w + (i + 1) % s) z
theorem ringR_ok {w s i : Nat} {z : Int} (hz : z = 1 ∨ z = -1) : (ringR w s i z).length = w + s ∧ ∀ y ∈ ringR w s i z, M.V3 y := by
  refine ⟨by simp [ringR], fun y hy => ?_⟩
  unfold ringR at hy
  rcases List.mem_or_eq_of_mem_set hy with hy | rfl
  · rcases List.mem_or_eq_of_mem_set hy with hy | rfl
    · rw [List.eq_of_mem_replicate hy]
      exact .inr (.inl rfl)
    · exact .inr (.inr rfl)
  · unfold M.V3; omega
theorem setAt_ok {i j : Nat} {xs : List D} {d : D} {mk mv : Mir Sl} {env : Env} {g g' : Pen} (hv : mv env g = .ok (.val d) env g') (hk : mk env g' = .ok (.val (.int j)) env g') (he : env[i]? = some (some (.ol xs))) (hj : j < xs.length) : sSetAt i mk mv env g = .ok .nx (env.set i (some (.ol (xs.set j d)))) g' := by
  rw [sSetAt_app, bnd_ok hv, grd_app, isOl_app, he]
  simp only [↓reduceIte]
  rw [bnd_ok hk, withOl_app, he]
  exact putAt_ok hj
theorem zeros (n : Nat) : (List.replicate n [PyData.int 0]).flatten = (List.replicate n (0 : Int)).map PyData.int := by simp
theorem ev_rings {k : Nat} {g : Pen} (hp : PenOk k g) (hk : k + 500 ≤ 1000000000) : ∃ T' g' m, m__law_rings [.pen] g = .ok (.val (tD T')) g' ∧ Tbl T' m m ∧ m ≤ 6 ∧ PenOk (k + 500) g' := by
  obtain ⟨c, ga, a1, a2, a3, a4⟩ := draw_app hp (by omega) (k := 2) (by omega) (by omega)
  have L := for_all (t := .name 3) (mb := (sSeq (sSet 4 (mOp fAdd (mC (.int 2)) (mCall (mFn m__law_draw) (mCons (mVar 0) (mCons (mC (.int 2)) mNil)))))
     (sSeq (sSet 1 (mLc (itOwn 1) [5] (.name 5) mYes (mOp fAdd (mVar 5) (mOp fMul (mTup (mCons (mC (.int 0)) mNil)) (mVar 4)))))
     (sSeq (sFor (itRng1 (mCons (mVar 4) mNil)) (.name 6) (sSeq (sSet 5 (mOp fMul (mFz (mLst (mCons (mC (.int 0)) mNil))) (mOp fAdd (mVar 2) (mVar 4))))
     (sSeq (sSetAt 5 (mOp fAdd (mVar 2) (mVar 6)) (mC (.int 1)))
     (sSeq (sSetAt 5 (mOp fAdd (mVar 2) (mOp fMod (mCall (Z.g1 fInt1) (mCons (mOp fAdd (mVar 6) (mC (.int 1))) mNil)) (mVar 4))) (mCall (mFn m__law_pick) (mCons (mVar 0) (mCons (mFz (mLst (mCons (mC (.int 1)) (mCons (mNeg (mC (.int 1))) mNil)))) mNil))))
     (sExpr (mAppend 1 (mCall (Z.g1 fTuple) (mCons (mVar 5) mNil))))))))
     (sSet 2 (mOp fAdd (mVar 2) (mVar 4)))))))
    (φ := fun (l : Nat) => PyData.int (l : Int)) (fun l env g => PenOk (k + 1 + 4 * l) g ∧ ∃ (R : List (List Int)) (w : Nat) (x3 x4 x5 x6 : Option Sl), env = [some .pen, some (.ol (R.map rD)), some (.val (.int w)), x3, x4, x5, x6] ∧ R.length = w ∧ w ≤ 3 * l ∧ (1 ≤ l → 1 ≤ w) ∧ ∀ r ∈ R, r.length = w ∧ ∀ z ∈ r, M.V3 z) (List.range (c + 1).toNat) 0 (by
      rintro l x hx env g2 ⟨hp2, R, w, x3, x4, x5, x6, rfl, h1, h2, h3, h4⟩
      rw [Nat.zero_add] at *
      have hl : l < (c + 1).toNat := by simpa using (List.getElem?_eq_some_iff.mp hx).1
      have ex : l = x := by simpa [List.getElem?_range hl] using hx
      subst ex
      obtain ⟨d, g3, d1, d2, d3, d4⟩ := draw_app hp2 (by omega) (k := 2) (by omega) (by omega)
      obtain ⟨s, hs, s2, s3⟩ : ∃ s : Nat, 2 + d = (s : Int) ∧ 2 ≤ s ∧ s ≤ 3 := ⟨(2 + d).toNat, by omega, by omega, by omega⟩
      refine ⟨_, rfl, ?_⟩
      show ∃ c e3 g3, sSeq _ _ [some .pen, some (.ol (R.map rD)), some (.val (.int w)), some (.val (.int (l : Int))), x4, x5, x6] g2 = .ok c e3 g3 ∧ _
      -- the old rows, longer
      let R1 : List (List Int) := R.map fun r => r ++ List.replicate s 0
      have wide : mLc (itOwn 1) [5] (.name 5) mYes (mOp fAdd (mVar 5) (mOp fMul (mTup (mCons (mC (.int 0)) mNil)) (mVar 4))) [some .pen, some (.ol (R.map rD)), some (.val (.int w)), some (.val (.int (l : Int))), some (.val (.int (s : Int))), x5, x6] g3 = .ok (.ol (R1.map rD)) [some .pen, some (.ol (R.map rD)), some (.val (.int w)), some (.val (.int (l : Int))), some (.val (.int (s : Int))), x5, x6] g3 := by
        have e : R1.map rD = R.map fun r => rD (r ++ List.replicate s 0) := by
          show (R.map fun r => r ++ List.replicate s 0).map rD = _
          rw [List.map_map]; rfl
        rw [e]
        refine lc_mapP R rD (fun r => rD (r ++ List.replicate s 0)) rfl fun r hr => ?_
        let e5 : Env := [some .pen, none, some (.val (.int w)), some (.val (.int (l : Int))), some (.val (.int (s : Int))), some (.val (rD r)), keepO x6]
        have f1 : mOp fMul (mTup (mCons (mC (.int 0)) mNil)) (mVar 4) e5 g3 = .ok (.val (.tuple ((List.replicate s (0 : Int)).map PyData.int))) e5 g3 :=
          op_ok (x := .tuple [.int 0]) rfl (var_ok rfl) (by
            rw [fMul_tup, if_pos ⟨by simp, by omega, by omega, by simp⟩, ret_app, ← zeros]
            rfl)
        have f2 := op_ok (F := fAdd) (ma := mVar 5) (x := .tuple (r.map PyData.int)) (r := .ok (.val (rD (r ++ List.replicate s 0))) e5 g3) (var_ok rfl) f1 (by
          rw [fAdd_tup, if_pos (by have := (h4 r hr).1; simp; omega), ret_app, ← List.map_append]
          rfl)
        exact ⟨e5, rfl, e5, f2⟩
      -- the new rows
      have inner := for_all (t := .name 6) (mb := (sSeq (sSet 5 (mOp fMul (mFz (mLst (mCons (mC (.int 0)) mNil))) (mOp fAdd (mVar 2) (mVar 4))))
         (sSeq (sSetAt 5 (mOp fAdd (mVar 2) (mVar 6)) (mC (.int 1)))
         (sSeq (sSetAt 5 (mOp fAdd (mVar 2) (mOp fMod (mCall (Z.g1 fInt1) (mCons (mOp fAdd (mVar 6) (mC (.int 1))) mNil)) (mVar 4))) (mCall (mFn m__law_pick) (mCons (mVar 0) (mCons (mFz (mLst (mCons (mC (.int 1)) (mCons (mNeg (mC (.int 1))) mNil)))) mNil))))
         (sExpr (mAppend 1 (mCall (Z.g1 fTuple) (mCons (mVar 5) mNil))))))))
        (φ := fun (i : Nat) => PyData.int (i : Int)) (fun i env g => PenOk (k + 1 + 4 * l + 1 + i) g ∧ ∃ (Q : List (List Int)) (y5 y6 : Option Sl), env = [some .pen, some (.ol (Q.map rD)), some (.val (.int w)), some (.val (.int (l : Int))), some (.val (.int (s : Int))), y5, y6] ∧ Q.length = w + i ∧ ∀ r ∈ Q, r.length = w + s ∧ ∀ z ∈ r, M.V3 z) (List.range s) 0 (by
          rintro i x hx env g4 ⟨hp4, Q, y5, y6, rfl, q1, q2⟩
          rw [Nat.zero_add] at *
          have hi : i < s := by simpa using (List.getElem?_eq_some_iff.mp hx).1
          have ex : i = x := by simpa [List.getElem?_range hi] using hx
          subst ex
          obtain ⟨z, g5, z1, z2, z3⟩ := sign_pick hp4 (by omega)
          refine ⟨_, rfl, .nx, [some .pen, some (.ol ((Q ++ [ringR w s i z]).map rD)), some (.val (.int w)), some (.val (.int (l : Int))), some (.val (.int (s : Int))), some (.val (.list ((ringR w s i z).map PyData.int))), some (.val (.int (i : Int)))], g5, ?_, .inl rfl, z3, _, _, _, rfl, by simp; omega, fun r hr => ?_⟩
          · let e1 : Env := [some .pen, some (.ol (Q.map rD)), some (.val (.int w)), some (.val (.int (l : Int))), some (.val (.int (s : Int))), y5, some (.val (.int (i : Int)))]
            let v1 : List Int := List.replicate (w + s) 0
            let v2 : List Int := v1.set (w + i) 1
            let e2 : Env := [some .pen, some (.ol (Q.map rD)), some (.val (.int w)), some (.val (.int (l : Int))), some (.val (.int (s : Int))), some (.ol (v1.map PyData.int)), some (.val (.int (i : Int)))]
            let e3 : Env := [some .pen, some (.ol (Q.map rD)), some (.val (.int w)), some (.val (.int (l : Int))), some (.val (.int (s : Int))), some (.ol (v2.map PyData.int)), some (.val (.int (i : Int)))]
            let e4 : Env := [some .pen, some (.ol (Q.map rD)), some (.val (.int w)), some (.val (.int (l : Int))), some (.val (.int (s : Int))), some (.ol ((ringR w s i z).map PyData.int)), some (.val (.int (i : Int)))]
            show sSeq _ _ e1 g4 = _
            have t1 : sSet 5 (mOp fMul (mFz (mLst (mCons (mC (.int 0)) mNil))) (mOp fAdd (mVar 2) (mVar 4))) e1 g4 = .ok .nx e2 g4 := by
              have f1 : mOp fAdd (mVar 2) (mVar 4) e1 g4 = .ok (.val (.int ((w + s : Nat) : Int))) e1 g4 := op_ok (var_ok rfl) (var_ok rfl) (by rw [fAdd_int, ret_app]; rfl)
              have f2 := op_ok (F := fMul) (ma := mFz (mLst (mCons (mC (.int 0)) mNil))) (x := .list [.int 0]) (r := .ok (.ol (v1.map PyData.int)) e1 g4) rfl f1 (by
                rw [fMul_lst, if_pos ⟨by simp, by omega, by omega⟩, ret_app]
                show Res.ok (Sl.ol (List.replicate (((w + s : Nat) : Int)).toNat [PyData.int 0]).flatten) e1 g4 = _
                rw [Int.toNat_natCast, zeros])
              rw [sSet_app, f2]
              rfl
            have lv1 : (v1.map PyData.int).length = w + s := by simp [v1]
            have lv2 : (v2.map PyData.int).length = w + s := by simp [v1, v2]
            have t2 : sSetAt 5 (mOp fAdd (mVar 2) (mVar 6)) (mC (.int 1)) e2 g4 = .ok .nx e3 g4 := by
              have f1 : mOp fAdd (mVar 2) (mVar 6) e2 g4 = .ok (.val (.int ((w + i : Nat) : Int))) e2 g4 := op_ok (var_ok rfl) (var_ok rfl) (by rw [fAdd_int, ret_app]; rfl)
              rw [setAt_ok (i := 5) (j := w + i) (xs := v1.map PyData.int) (d := .int 1) (mv := mC (.int 1)) rfl f1 rfl (by omega), ← List.map_set]
              rfl
            have t3 : sSetAt 5 (mOp fAdd (mVar 2) (mOp fMod (mCall (Z.g1 fInt1) (mCons (mOp fAdd (mVar 6) (mC (.int 1))) mNil)) (mVar 4))) (mCall (mFn m__law_pick) (mCons (mVar 0) (mCons (mFz (mLst (mCons (mC (.int 1)) (mCons (mNeg (mC (.int 1))) mNil)))) mNil))) e3 g4 = .ok .nx e4 g5 := by
              have f0 : mCall (mFn m__law_pick) (mCons (mVar 0) (mCons (mFz (mLst (mCons (mC (.int 1)) (mCons (mNeg (mC (.int 1))) mNil)))) mNil)) e3 g4 = .ok (.val (.int z)) e3 g5 := by
                simp [e3, z1]
              have f1 : mCall (Z.g1 fInt1) (mCons (mOp fAdd (mVar 6) (mC (.int 1))) mNil) e3 g5 = .ok (.val (.int ((i + 1 : Nat) : Int))) e3 g5 := by
                simp [e3]
              have f2 : mOp fMod (mCall (Z.g1 fInt1) (mCons (mOp fAdd (mVar 6) (mC (.int 1))) mNil)) (mVar 4) e3 g5 = .ok (.val (.int (((i + 1) % s : Nat) : Int))) e3 g5 := op_ok f1 (var_ok rfl) (by
                show (if (0 : Int) < (s : Int) then _ else _ : Mir Sl) e3 g5 = _
                rw [if_pos (by omega), ret_app]
                rfl)
              have f3 : mOp fAdd (mVar 2) (mOp fMod (mCall (Z.g1 fInt1) (mCons (mOp fAdd (mVar 6) (mC (.int 1))) mNil)) (mVar 4)) e3 g5 = .ok (.val (.int ((w + (i + 1) % s : Nat) : Int))) e3 g5 := op_ok (var_ok rfl) f2 (by rw [fAdd_int, ret_app]; rfl)
              rw [setAt_ok (i := 5) (j := w + (i + 1) % s) (xs := v2.map PyData.int) (d := .int z) f0 f3 rfl (by have := Nat.mod_lt (i + 1) (show 0 < s by omega); omega), ← List.map_set]
              rfl
            rw [sSeq_app, t1]
            show sSeq _ _ e2 g4 = _
            rw [sSeq_app, t2]
            show sSeq _ _ e3 g4 = _
            rw [sSeq_app, t3]
            show sExpr _ e4 g5 = _
            simp [e4]
            rw [if_pos (by omega)]
            simp [rD]
          · rcases List.mem_append.mp hr with hr | hr
            · exact q2 r hr
            · rw [List.mem_singleton.mp hr]; exact ringR_ok z2)
        [some .pen, some (.ol (R1.map rD)), some (.val (.int w)), some (.val (.int (l : Int))), some (.val (.int (s : Int))), x5, x6] g3 ⟨d4, R1, x5, x6, rfl, by simp [R1, h1], fun r hr => by
          obtain ⟨q, hq, rfl⟩ := List.mem_map.mp hr
          obtain ⟨l1, l2⟩ := h4 q hq
          refine ⟨by simp [l1], fun z hz => ?_⟩
          rcases List.mem_append.mp hz with hz | hz
          · exact l2 z hz
          · rw [List.eq_of_mem_replicate hz]; exact .inr (.inl rfl)⟩
      obtain ⟨e, g6, L6, p6, Q, y5, y6, rfl, q1, q2⟩ := inner
      rw [Nat.zero_add, List.length_range] at *
      refine ⟨.nx, [some .pen, some (.ol (Q.map rD)), some (.val (.int ((w + s : Nat) : Int))), some (.val (.int (l : Int))), some (.val (.int (s : Int))), y5, y6], g6, ?_, .inl rfl, p6.mono (by omega), Q, w + s, _, _, _, _, rfl, q1, by omega, fun _ => by omega, q2⟩
      have t1 : sSet 4 (mOp fAdd (mC (.int 2)) (mCall (mFn m__law_draw) (mCons (mVar 0) (mCons (mC (.int 2)) mNil)))) [some .pen, some (.ol (R.map rD)), some (.val (.int w)), some (.val (.int (l : Int))), x4, x5, x6] g2 = .ok .nx [some .pen, some (.ol (R.map rD)), some (.val (.int w)), some (.val (.int (l : Int))), some (.val (.int (s : Int))), x5, x6] g3 := by
        simp [d1, hs]
      rw [sSeq_app, t1]
      show sSeq _ _ [some .pen, some (.ol (R.map rD)), some (.val (.int w)), some (.val (.int (l : Int))), some (.val (.int (s : Int))), x5, x6] g3 = _
      rw [sSeq_app, sSet_app, wide]
      show sSeq _ _ [some .pen, some (.ol (R1.map rD)), some (.val (.int w)), some (.val (.int (l : Int))), some (.val (.int (s : Int))), x5, x6] g3 = _
      have hit : itRng1 (mCons (mVar 4) mNil) [some .pen, some (.ol (R1.map rD)), some (.val (.int w)), some (.val (.int (l : Int))), some (.val (.int (s : Int))), x5, x6] g3 = .ok ((List.range s).map fun (i : Nat) => PyData.int (i : Int)) [some .pen, some (.ol (R1.map rD)), some (.val (.int w)), some (.val (.int (l : Int))), some (.val (.int (s : Int))), x5, x6] g3 := by
        simp [sm62 (show s ≤ 1000000 by omega), rng_map]
      rw [sSeq_app, sFor_app, bnd_app, hit]
      show (match forRun _ _ _ _ g3 with | .ok .nx e' g' => _ | .ok c e' g' => _ | .exc x g' => _ | .bad => _) = _
      rw [L6]
      rfl)
    [some .pen, some (.ol []), some (.val (.int 0)), none, none, none, none] ga ⟨a4, [], 0, none, none, none, none, rfl, rfl, by omega, by omega, fun _ h => absurd h (by simp)⟩
  obtain ⟨e, gb, L, pb, R, w, x3, x4, x5, x6, rfl, h1, h2, h3, h4⟩ := L
  rw [Nat.zero_add, List.length_range] at *
  have tb : Tbl R w w := ⟨h1, fun r hr => (h4 r hr).1, fun r hr => (h4 r hr).2, h3 (by omega), h3 (by omega)⟩
  obtain ⟨T', gc, s1, s2, s3⟩ := ev_signed tb (by omega) (by omega) pb (by omega)
  refine ⟨T', gc, w, body_ret (e := [some .pen, some (.val (.list (R.map rD))), some (.val (.int w)), x3, x4, x5, x6]) ?_, s2, by omega, s3.mono (by omega)⟩
  show b__law_rings [some .pen, none, none, none, none, none, none] g = _
  unfold b__law_rings
  let e0 : Env := [some .pen, some (.ol []), some (.val (.int 0)), none, none, none, none]
  have hit : itRng1 (mCons (mOp fAdd (mC (.int 1)) (mCall (mFn m__law_draw) (mCons (mVar 0) (mCons (mC (.int 2)) mNil)))) mNil) e0 g = .ok ((List.range (c + 1).toNat).map fun (i : Nat) => PyData.int (i : Int)) e0 ga := by
    have sm : small62 (1 + c) = true := by unfold small62; simp; omega
    simp [e0, a1, sm]
    rw [rng_map, Int.add_comm]
  rw [sSeq_app]
  show sSeq _ _ e0 g = _
  rw [sSeq_app, sFor_app, bnd_app, hit]
  show (match forRun _ _ _ _ ga with | .ok .nx e' g' => _ | .ok c e' g' => _ | .exc x g' => _ | .bad => _) = _
  rw [L]
  show sRet _ [some .pen, some (.ol (R.map rD)), some (.val (.int w)), x3, x4, x5, x6] gb = _
  have et : PyData.tuple (R.map rD) = tD R := rfl
  simp [et, s1]
end Z
end
section
set_option linter.all false
set_option maxRecDepth 100000
set_option maxHeartbeats 4000000
/-! NS: trees of ties, and the ways by them: plain Lean. -/
namespace Z
/-- the ties of a tree, as they are drawn -/
def TiesOk (ts : List (Nat × Nat)) : Prop := ∀ k p, ts[k]? = some p → (p.1 ≤ k ∧ p.2 = k + 1) ∨ (p.2 ≤ k ∧ p.1 = k + 1)
abbrev Reach := List (Nat × List Int)
def keysR (S : Reach) : List Nat := S.map (·.1)
def getR (S : Reach) (x : Nat) : Option (List Int) := (S.find? fun p => decide (p.1 = x)).map (·.2)
theorem getR_mem {S : Reach} {x : Nat} {r : List Int} (h : getR S x = some r) : (x, r) ∈ S := by
  unfold getR at h
  cases e : S.find? fun p => decide (p.1 = x) with
  | none => rw [e] at h; cases h
  | some p =>
    rw [e] at h
    have h1 := List.find?_some e
    have h2 := List.mem_of_find?_eq_some e
    have h3 : p.1 = x := by simpa using h1
    have h4 : p.2 = r := by simpa using h
    rw [← h3, ← h4]
    exact h2
theorem getR_none {S : Reach} {x : Nat} : getR S x = none ↔ x ∉ keysR S := by
  unfold getR keysR
  rw [Option.map_eq_none_iff, List.find?_eq_none]
  simp only [List.mem_map, decide_eq_true_eq, not_exists, not_and]
theorem getR_some {S : Reach} {x : Nat} : (getR S x).isSome = true ↔ x ∈ keysR S := by
  cases e : getR S x with
  | none => simp [getR_none.mp e]
  | some r =>
    simp only [Option.isSome_some, true_iff]
    exact List.mem_map.mpr ⟨_, getR_mem e, rfl⟩
def stepR (k near far : Nat) (sign : Int) (S : Reach) : Reach := match getR S near with
  | some r => if far ∈ keysR S then S else S ++ [(far, r.set k sign)]
  | none => S
def tieR (ts : List (Nat × Nat)) (S : Reach) (k : Nat) : Reach := stepR k (ts.getD k (0, 0)).2 (ts.getD k (0, 0)).1 (-1) (stepR k (ts.getD k (0, 0)).1 (ts.getD k (0, 0)).2 1 S)
def lapR (ts : List (Nat × Nat)) (S : Reach) : Reach := (List.range ts.length).foldl (tieR ts) S
def wayR (ts : List (Nat × Nat)) (one : Nat) : Reach := (List.range (ts.length + 1)).foldl (fun S _ => lapR ts S) [(one, List.replicate ts.length 0)]
/-- what is true of what is reached -/
structure RInv (ts : List (Nat × Nat)) (one : Nat) (S : Reach) : Prop where
  nd : (keysR S).Nodup
  le : ∀ x ∈ keysR S, x ≤ ts.length
  row : ∀ p ∈ S, p.2.length = ts.length ∧ ∀ z ∈ p.2, M.V3 z
  way : ∀ p ∈ S, ∀ f : Nat → Int, M.sum ts.length (fun i => (f (ts.getD i (0, 0)).2 - f (ts.getD i (0, 0)).1) * p.2.getD i 0) = f p.1 - f one
  ends : ∀ p ∈ S, ∀ i, i < ts.length → p.2.getD i 0 ≠ 0 → (ts.getD i (0, 0)).1 ∈ keysR S ∧ (ts.getD i (0, 0)).2 ∈ keysR S
  one : one ∈ keysR S
section
variable {ts : List (Nat × Nat)} {one : Nat} {S : Reach}
theorem RInv.start (h : one ≤ ts.length) : RInv ts one [(one, List.replicate ts.length 0)] where
  nd := by simp [keysR]
  le := fun x hx => by
    simp [keysR] at hx
    omega
  row := fun p hp => by
    rw [List.mem_singleton.mp hp]
    refine ⟨by simp, fun z hz => ?_⟩
    rw [List.eq_of_mem_replicate hz]
    exact .inr (.inl rfl)
  way := fun p hp f => by
    rw [List.mem_singleton.mp hp]
    show _ = f one - f one
    rw [M.sum_zero fun i hi => ?_]
    · omega
    · simp [List.getD_eq_getElem?_getD, List.getElem?_replicate, hi]
  ends := fun p hp i hi hz => by
    rw [List.mem_singleton.mp hp] at hz
    simp [List.getD_eq_getElem?_getD, List.getElem?_replicate, hi] at hz
  one := by simp [keysR]
theorem getD_set {r : List Int} {k i : Nat} {z : Int} (hk : k < r.length) : (r.set k z).getD i 0 = if i = k then z else r.getD i 0 := by
  rw [List.getD_eq_getElem?_getD, List.getElem?_set]
  by_cases e : i = k
  · subst e
    simp [hk]
  · have : ¬k = i := fun z => e z.symm
    simp [e, this, List.getD_eq_getElem?_getD]
theorem RInv.step (h : RInv ts one S) {k near far : Nat} {sign : Int} (hk : k < ts.length) (hs : (sign = 1 ∧ near = (ts.getD k (0, 0)).1 ∧ far = (ts.getD k (0, 0)).2) ∨ (sign = -1 ∧ near = (ts.getD k (0, 0)).2 ∧ far = (ts.getD k (0, 0)).1)) (hf : far ≤ ts.length) : RInv ts one (stepR k near far sign S) := by
  unfold stepR
  cases e : getR S near with
  | none => exact h
  | some r =>
    have hm := getR_mem e
    simp only []
    by_cases c : far ∈ keysR S
    · rw [if_pos c]; exact h
    · rw [if_neg c]
      obtain ⟨lr, vr⟩ := h.row _ hm
      have hn : near ∈ keysR S := List.mem_map.mpr ⟨_, hm, rfl⟩
      have r0 : r.getD k 0 = 0 := Classical.byContradiction fun q => by
        obtain ⟨h1, h2⟩ := h.ends _ hm k hk q
        rcases hs with ⟨_, _, rfl⟩ | ⟨_, _, rfl⟩
        · exact c h2
        · exact c h1
      have hkr : k < r.length := by have lr : r.length = ts.length := lr; omega
      have ek : keysR (S ++ [(far, r.set k sign)]) = keysR S ++ [far] := by simp [keysR]
      have new : ∀ p ∈ S ++ [(far, r.set k sign)], p ∈ S ∨ p = (far, r.set k sign) := fun p hp => by simpa using hp
      refine ⟨?_, fun x hx => ?_, fun p hp => ?_, fun p hp f => ?_, fun p hp i hi hz => ?_, ?_⟩
      · rw [ek]
        refine List.nodup_append.mpr ⟨h.nd, by simp, fun a ha b hb q => ?_⟩
        rw [List.mem_singleton.mp hb] at q
        exact c (q ▸ ha)
      · rw [ek] at hx
        rcases List.mem_append.mp hx with hx | hx
        · exact h.le x hx
        · rw [List.mem_singleton.mp hx]; exact hf
      · rcases new p hp with hp | rfl
        · exact h.row p hp
        · refine ⟨by simp [lr], fun z hz => ?_⟩
          rcases List.mem_or_eq_of_mem_set hz with hz | rfl
          · exact vr z hz
          · unfold M.V3; omega
      · rcases new p hp with hp | rfl
        · exact h.way p hp f
        · have hw := h.way _ hm f
          show M.sum ts.length (fun i => (f (ts.getD i (0, 0)).2 - f (ts.getD i (0, 0)).1) * (r.set k sign).getD i 0) = f far - f one
          have hw : M.sum ts.length (fun i => (f (ts.getD i (0, 0)).2 - f (ts.getD i (0, 0)).1) * r.getD i 0) = f near - f one := hw
          rw [M.sum_split hk] at hw ⊢
          have e2 : M.sum ts.length (fun i => if i = k then 0 else (f (ts.getD i (0, 0)).2 - f (ts.getD i (0, 0)).1) * (r.set k sign).getD i 0) = M.sum ts.length (fun i => if i = k then 0 else (f (ts.getD i (0, 0)).2 - f (ts.getD i (0, 0)).1) * r.getD i 0) := M.sum_congr fun i _ => by
            by_cases q : i = k
            · rw [if_pos q, if_pos q]
            · rw [if_neg q, if_neg q, getD_set hkr, if_neg q]
          rw [e2, getD_set hkr, if_pos rfl]
          rw [r0, Int.mul_zero] at hw
          rcases hs with ⟨rfl, rfl, rfl⟩ | ⟨rfl, rfl, rfl⟩ <;> omega
      · rw [ek]
        rcases new p hp with hp | rfl
        · obtain ⟨h1, h2⟩ := h.ends p hp i hi hz
          exact ⟨List.mem_append_left _ h1, List.mem_append_left _ h2⟩
        · have hz : (r.set k sign).getD i 0 ≠ 0 := hz
          rw [getD_set hkr] at hz
          by_cases q : i = k
          · subst q
            have hfar : far ∈ keysR S ++ [far] := by simp
            have hnear : near ∈ keysR S ++ [far] := List.mem_append_left _ hn
            rcases hs with ⟨_, e1, e2⟩ | ⟨_, e1, e2⟩
            · rw [← e1, ← e2]; exact ⟨hnear, hfar⟩
            · rw [← e1, ← e2]; exact ⟨hfar, hnear⟩
          · rw [if_neg q] at hz
            obtain ⟨h1, h2⟩ := h.ends _ hm i hi hz
            exact ⟨List.mem_append_left _ h1, List.mem_append_left _ h2⟩
      · rw [ek]; exact List.mem_append_left _ h.one
theorem tie_at (ht : TiesOk ts) {k : Nat} (hk : k < ts.length) : ((ts.getD k (0, 0)).1 ≤ k ∧ (ts.getD k (0, 0)).2 = k + 1) ∨ ((ts.getD k (0, 0)).2 ≤ k ∧ (ts.getD k (0, 0)).1 = k + 1) := by
  have e : ts[k]? = some (ts.getD k (0, 0)) := by rw [List.getD_eq_getElem?_getD, List.getElem?_eq_getElem hk]; rfl
  exact ht k _ e
theorem RInv.tie (ht : TiesOk ts) (h : RInv ts one S) {k : Nat} (hk : k < ts.length) : RInv ts one (tieR ts S k) := by
  have := tie_at ht hk
  exact (h.step hk (.inl ⟨rfl, rfl, rfl⟩) (by omega)).step hk (.inr ⟨rfl, rfl, rfl⟩) (by omega)
theorem RInv.ties (ht : TiesOk ts) : ∀ {l : List Nat} {S : Reach}, RInv ts one S → (∀ k ∈ l, k < ts.length) → RInv ts one (l.foldl (tieR ts) S)
  | [], _, h, _ => h
  | k :: l, S, h, hl => by
    rw [List.foldl_cons]
    exact RInv.ties ht (h.tie ht (hl k List.mem_cons_self)) fun j hj => hl j (List.mem_cons_of_mem _ hj)
theorem RInv.lap (ht : TiesOk ts) (h : RInv ts one S) : RInv ts one (lapR ts S) := RInv.ties ht h fun k hk => List.mem_range.mp hk
/-! ### all is reached -/
theorem step_grow (k near far : Nat) (sign : Int) (S : Reach) : stepR k near far sign S = S ∨ (stepR k near far sign S).length = S.length + 1 := by
  unfold stepR
  cases getR S near with
  | none => exact .inl rfl
  | some r =>
    simp only []
    split
    · exact .inl rfl
    · exact .inr (by simp)
theorem step_same {k near far : Nat} {sign : Int} {S : Reach} (h : stepR k near far sign S = S) (hn : near ∈ keysR S) : far ∈ keysR S := by
  unfold stepR at h
  cases e : getR S near with
  | none => exact absurd hn (getR_none.mp e)
  | some r =>
    rw [e] at h
    simp only [] at h
    by_cases c : far ∈ keysR S
    · exact c
    · rw [if_neg c] at h
      have := congrArg List.length h
      simp at this
theorem tie_grow (S : Reach) (k : Nat) : (tieR ts S k = S ∧ ((ts.getD k (0, 0)).1 ∈ keysR S ↔ (ts.getD k (0, 0)).2 ∈ keysR S)) ∨ S.length < (tieR ts S k).length := by
  unfold tieR
  rcases step_grow k (ts.getD k (0, 0)).1 (ts.getD k (0, 0)).2 1 S with h1 | h1
  · rw [h1]
    rcases step_grow k (ts.getD k (0, 0)).2 (ts.getD k (0, 0)).1 (-1) S with h2 | h2
    · exact .inl ⟨h2, step_same h1, step_same h2⟩
    · exact .inr (by omega)
  · rcases step_grow k (ts.getD k (0, 0)).2 (ts.getD k (0, 0)).1 (-1) (stepR k (ts.getD k (0, 0)).1 (ts.getD k (0, 0)).2 1 S) with h2 | h2
    · rw [h2]; exact .inr (by omega)
    · exact .inr (by omega)
theorem ties_grow : ∀ (l : List Nat) (S : Reach), (l.foldl (tieR ts) S = S ∧ ∀ k ∈ l, ((ts.getD k (0, 0)).1 ∈ keysR S ↔ (ts.getD k (0, 0)).2 ∈ keysR S)) ∨ S.length < (l.foldl (tieR ts) S).length
  | [], S => .inl ⟨rfl, fun _ h => absurd h (by simp)⟩
  | k :: l, S => by
    rw [List.foldl_cons]
    rcases tie_grow (ts := ts) S k with ⟨h1, h2⟩ | h1
    · rw [h1]
      rcases ties_grow l S with ⟨h3, h4⟩ | h3
      · refine .inl ⟨h3, fun j hj => ?_⟩
        rcases List.mem_cons.mp hj with rfl | hj
        · exact h2
        · exact h4 j hj
      · exact .inr h3
    · rcases ties_grow l (tieR ts S k) with ⟨h3, _⟩ | h3
      · rw [h3]; exact .inr h1
      · exact .inr (by omega)
def Closed (ts : List (Nat × Nat)) (S : Reach) : Prop := ∀ k, k < ts.length → ((ts.getD k (0, 0)).1 ∈ keysR S ↔ (ts.getD k (0, 0)).2 ∈ keysR S)
theorem lap_grow (S : Reach) : (lapR ts S = S ∧ Closed ts S) ∨ S.length < (lapR ts S).length := by
  rcases ties_grow (ts := ts) (List.range ts.length) S with ⟨h1, h2⟩ | h
  · exact .inl ⟨h1, fun k hk => h2 k (List.mem_range.mpr hk)⟩
  · exact .inr h
theorem nodup_below : ∀ (n : Nat) (l : List Nat), l.Nodup → (∀ x ∈ l, x < n) → l.length ≤ n
  | 0, l, _, h => by
    cases l with
    | nil => simp
    | cons a r => exact absurd (h a List.mem_cons_self) (by omega)
  | n + 1, l, nd, h => by
    by_cases c : n ∈ l
    · have h1 := nodup_below n (l.erase n) (nd.erase n) fun x hx => by
        have h2 := (nd.mem_erase_iff).mp hx
        have := h x h2.2
        omega
      rw [List.length_erase_of_mem c] at h1
      omega
    · have := nodup_below n l nd fun x hx => by
        have := h x hx
        have : x ≠ n := fun e => c (e ▸ hx)
        omega
      omega
theorem all_closed (ht : TiesOk ts) (h : RInv ts one S) (hc : Closed ts S) : ∀ x, x ≤ ts.length → x ∈ keysR S := by
  have down : ∀ N x, x ≤ N → x ∈ keysR S → 0 ∈ keysR S := fun N => by
    induction N with
    | zero =>
      intro x hx hk
      have : x = 0 := by omega
      exact this ▸ hk
    | succ N ih =>
      intro x hx hk
      cases x with
      | zero => exact hk
      | succ k =>
        have hl := h.le _ hk
        have hk2 : k < ts.length := by omega
        rcases tie_at ht hk2 with ⟨h1, h2⟩ | ⟨h1, h2⟩
        · exact ih _ (by omega) ((hc k hk2).mpr (by rw [h2]; exact hk))
        · exact ih _ (by omega) ((hc k hk2).mp (by rw [h2]; exact hk))
  have h0 : 0 ∈ keysR S := down one one (Nat.le_refl _) h.one
  have up : ∀ N x, x ≤ N → x ≤ ts.length → x ∈ keysR S := fun N => by
    induction N with
    | zero =>
      intro x hx _
      have : x = 0 := by omega
      exact this ▸ h0
    | succ N ih =>
      intro x hx hl
      cases x with
      | zero => exact h0
      | succ k =>
        have hk2 : k < ts.length := by omega
        rcases tie_at ht hk2 with ⟨h1, h2⟩ | ⟨h1, h2⟩
        · have := (hc k hk2).mp (ih _ (by omega) (by omega))
          rw [h2] at this
          exact this
        · have := (hc k hk2).mpr (ih _ (by omega) (by omega))
          rw [h2] at this
          exact this
  exact fun x hx => up x x (Nat.le_refl _) hx
theorem laps_inv (ht : TiesOk ts) : ∀ (l : List Nat) (S : Reach), RInv ts one S → RInv ts one (l.foldl (fun S _ => lapR ts S) S) ∧ (Closed ts (l.foldl (fun S _ => lapR ts S) S) ∨ S.length + l.length ≤ (l.foldl (fun S _ => lapR ts S) S).length)
  | [], S, h => ⟨h, .inr (by simp)⟩
  | k :: l, S, h => by
    rw [List.foldl_cons, List.length_cons]
    obtain ⟨h1, h2⟩ := laps_inv ht l (lapR ts S) (h.lap ht)
    refine ⟨h1, ?_⟩
    rcases lap_grow (ts := ts) S with ⟨h3, h4⟩ | h3
    · -- it stays as it is
      have stay : ∀ l : List Nat, l.foldl (fun S _ => lapR ts S) S = S := fun l => by
        induction l with
        | nil => rfl
        | cons _ l ih => rw [List.foldl_cons, h3]; exact ih
      rw [h3, stay l]
      exact .inl h4
    · rcases h2 with h2 | h2
      · exact .inl h2
      · exact .inr (by omega)
/-- the way from one place to another by a tree -/
theorem way_ok (ht : TiesOk ts) (h1 : one ≤ ts.length) {two : Nat} (h2 : two ≤ ts.length) : ∃ r, getR (wayR ts one) two = some r ∧ r.length = ts.length ∧ (∀ z ∈ r, M.V3 z) ∧ ∀ f : Nat → Int, M.sum ts.length (fun i => (f (ts.getD i (0, 0)).2 - f (ts.getD i (0, 0)).1) * r.getD i 0) = f two - f one := by
  obtain ⟨h3, h4⟩ := laps_inv ht (List.range (ts.length + 1)) _ (RInv.start h1)
  have h3 : RInv ts one (wayR ts one) := h3
  have hc : Closed ts (wayR ts one) := by
    rcases h4 with h4 | h4
    · exact h4
    · exfalso
      have h5 := nodup_below (ts.length + 1) _ h3.nd fun x hx => by have := h3.le x hx; omega
      have h6 : (keysR (wayR ts one)).length = (wayR ts one).length := by simp [keysR]
      have h4 : [(one, List.replicate ts.length (0 : Int))].length + (List.range (ts.length + 1)).length ≤ (wayR ts one).length := h4
      simp at h4
      omega
  have hm := all_closed ht h3 hc two h2
  cases e : getR (wayR ts one) two with
  | none => exact absurd hm (getR_none.mp e)
  | some r =>
    have hr := getR_mem e
    obtain ⟨l1, l2⟩ := h3.row _ hr
    exact ⟨r, rfl, l1, l2, h3.way _ hr⟩
end
end Z
end
section
set_option linter.all false
set_option maxRecDepth 100000
set_option maxHeartbeats 4000000
/-! NU: trees and ways, evaluated. -/
namespace Z
open PySem PySem.Spec PyProof.Rows L2
def tieD (p : Nat × Nat) : D := .tuple [.int p.1, .int p.2]
theorem ev_tree {many : Nat} (hm : many ≤ 100) {k : Nat} {g : Pen} (hp : PenOk k g) (hk : k + 3 * many ≤ 1000000000) : ∃ ts g', m__law_tree [.pen, .val (.int many)] g = .ok (.val (.list (ts.map tieD))) g' ∧ ts.length = many ∧ TiesOk ts ∧ PenOk (k + 3 * many) g' := by
  have L := for_all (t := .name 3) (mb := (sSeq (sSet 4 (mCall (mFn m__law_pick) (mCons (mVar 0) (mCons (mFz (mLst (mCons (mVar 3) (mCons (mVar 3) (mCons (mC (.int 0)) (mCons (mCall (mFn m__law_draw) (mCons (mVar 0) (mCons (mOp fAdd (mVar 3) (mC (.int 1))) mNil))) mNil)))))) mNil))))
     (sExpr (mAppend 2 (mIfx (mTest (mOp (fEq false) (mCall (mFn m__law_draw) (mCons (mVar 0) (mCons (mC (.int 2)) mNil))) (mC (.int 0)))) (mTup (mCons (mVar 4) (mCons (mOp fAdd (mVar 3) (mC (.int 1))) mNil))) (mTup (mCons (mOp fAdd (mVar 3) (mC (.int 1))) (mCons (mVar 4) mNil))))))))
    (φ := fun (i : Nat) => PyData.int (i : Int)) (fun i env g => PenOk (k + 3 * i) g ∧ ∃ (ts : List (Nat × Nat)) (x3 x4 : Option Sl), env = [some .pen, some (.val (.int many)), some (.ol (ts.map tieD)), x3, x4] ∧ ts.length = i ∧ TiesOk ts) (List.range many) 0 (by
      rintro i x hx env g2 ⟨hp2, ts, x3, x4, rfl, h1, h2⟩
      rw [Nat.zero_add] at *
      have hi : i < many := by simpa using (List.getElem?_eq_some_iff.mp hx).1
      have ex : i = x := by simpa [List.getElem?_range hi] using hx
      subst ex
      obtain ⟨d, ga, d1, d2, d3, d4⟩ := draw_app hp2 (by omega) (k := (i : Int) + 1) (by omega) (by omega)
      obtain ⟨v, gb, v1, v2, v3⟩ := ev_pick d4 (by omega) (ds := [.int i, .int i, .int 0, .int d]) (by simp) (by simp)
      obtain ⟨old, rfl, ho⟩ : ∃ old : Nat, v = .int old ∧ old ≤ i := by
        simp only [List.mem_cons, List.not_mem_nil, or_false] at v2
        rcases v2 with rfl | rfl | rfl | rfl
        · exact ⟨i, rfl, by omega⟩
        · exact ⟨i, rfl, by omega⟩
        · exact ⟨0, rfl, by omega⟩
        · exact ⟨d.toNat, by rw [Int.toNat_of_nonneg d2], by omega⟩
      obtain ⟨e, gc, e1, e2, e3, e4⟩ := draw_app v3 (by omega) (k := 2) (by omega) (by omega)
      have ok : ∀ p : Nat × Nat, ((p.1 ≤ i ∧ p.2 = i + 1) ∨ (p.2 ≤ i ∧ p.1 = i + 1)) → TiesOk (ts ++ [p]) := fun p hp' j q hq => by
        by_cases hj : j < ts.length
        · rw [List.getElem?_append_left hj] at hq
          exact h2 j q hq
        · have hj2 : j = i := by
            have := (List.getElem?_eq_some_iff.mp hq).1
            simp at this
            omega
          subst hj2
          rw [List.getElem?_append_right (by omega), h1, Nat.sub_self] at hq
          cases hq
          exact hp'
      have p4 := e4.mono (show k + 3 * i + 1 + 1 + 1 ≤ k + 3 * (i + 1) by omega)
      by_cases c : e = 0
      · refine ⟨_, rfl, .nx, [some .pen, some (.val (.int many)), some (.ol ((ts ++ [(old, i + 1)]).map tieD)), some (.val (.int (i : Int))), some (.val (.int (old : Int)))], gc, ?_, .inl rfl, p4, _, _, _, rfl, by simp [h1], ok _ (.inl ⟨ho, rfl⟩)⟩
        simp [d1, v1, e1, c]
        rw [if_pos (by omega)]
        simp [tieD]
      · refine ⟨_, rfl, .nx, [some .pen, some (.val (.int many)), some (.ol ((ts ++ [(i + 1, old)]).map tieD)), some (.val (.int (i : Int))), some (.val (.int (old : Int)))], gc, ?_, .inl rfl, p4, _, _, _, rfl, by simp [h1], ok _ (.inr ⟨ho, rfl⟩)⟩
        simp [d1, v1, e1, c]
        rw [if_pos (by omega)]
        simp [tieD])
    [some .pen, some (.val (.int many)), some (.ol []), none, none] g ⟨hp, [], none, none, rfl, rfl, fun j q hq => by simp at hq⟩
  obtain ⟨e, g', L, hp', ts, x3, x4, rfl, h1, h2⟩ := L
  rw [Nat.zero_add, List.length_range] at *
  refine ⟨ts, g', ?_, h1, h2, hp'⟩
  simp [m__law_tree, mBody, b__law_tree, sm62 (show many ≤ 1000000 by omega), rng_map, L]
/-! ### ways -/
def reachK (S : Reach) : List (Key × D) := S.map fun p => (.inl (p.1 : Int), listR p.2)
theorem valD_reach (S : Reach) (x : Nat) : valD (reachK S) (.inl (x : Int)) = (getR S x).map listR := by
  unfold valD getR reachK
  rw [List.find?_map]
  have e : ((fun kv : Key × D => decide (kv.1 = .inl (x : Int))) ∘ fun p : Nat × List Int => ((.inl (p.1 : Int) : Key), listR p.2)) = fun p => decide (p.1 = x) := by
    funext p
    show decide ((.inl (p.1 : Int) : Key) = .inl (x : Int)) = decide (p.1 = x)
    by_cases q : p.1 = x
    · simp [q]
    · have : ¬((.inl (p.1 : Int) : Key) = .inl (x : Int)) := fun z => q (by have := Sum.inl.inj z; omega)
      simp [q, this]
  rw [e]
  cases S.find? fun p => decide (p.1 = x) <;> rfl
theorem putD_reach {S : Reach} {x : Nat} {r : List Int} (h : x ∉ keysR S) : putD (reachK S) (.inl (x : Int)) (listR r) = reachK (S ++ [(x, r)]) := by
  unfold putD
  have e : ((reachK S).any fun kv => decide (kv.1 = .inl (x : Int))) = false := by
    rw [List.any_eq_false]
    intro kv hkv
    obtain ⟨p, hp, rfl⟩ := List.mem_map.mp hkv
    simp only [decide_eq_true_eq]
    intro z
    have z2 := Sum.inl.inj z
    exact h (List.mem_map.mpr ⟨p, hp, by omega⟩)
  rw [e]
  simp [reachK]
@[simp] theorem mDispK_app (mk mv : Mir Sl) (env : Env) (g : Pen) : mDispK mk mv env g = bnd mk (fun x => bnd mv fun y => dispK x y) env g := rfl
section
variable {ts : List (Nat × Nat)} (g : Pen)
/-- ties[k][0], ties[k][1] -/
theorem tie_ix {k : Nat} (hk : k < ts.length) {a : Nat} {env : Env} (e0 : env[0]? = some (some (.val (.list (ts.map tieD))))) (e1 : env[a]? = some (some (.val (.int k)))) :
    mOp fIx (mOp fIx (mVar 0) (mVar a)) (mC (.int 0)) env g = .ok (.val (.int ((ts.getD k (0, 0)).1 : Int))) env g ∧ mOp fIx (mOp fIx (mVar 0) (mVar a)) (mC (.int 1)) env g = .ok (.val (.int ((ts.getD k (0, 0)).2 : Int))) env g := by
  have e : ts[k]? = some (ts.getD k (0, 0)) := by rw [List.getD_eq_getElem?_getD, List.getElem?_eq_getElem hk]; rfl
  have h1 : mOp fIx (mVar 0) (mVar a) env g = .ok (.val (tieD (ts.getD k (0, 0)))) env g := op_ok (var_ok e0) (var_ok e1) (by
    rw [fIx_list, atI_nat', List.getElem?_map, e]
    rfl)
  exact ⟨op_ok h1 rfl rfl, op_ok h1 rfl rfl⟩
abbrev dirsM : Mir Ctl := sIf (mAndB (mTest (mOwnR (fDin false) (mVar 6) 3)) (mTest (mOwnR (fDin true) (mVar 7) 3))) (sSeq (sSet 9 (mCall (Z.g1 fList) (mCons (mOwn fDg 3 (mVar 6)) mNil)))
     (sSeq (sSetAt 9 (mVar 5) (mVar 8))
     (sDput 3 (mVar 7) (mVar 9)))) sNil
theorem ev_dirs {S : Reach} {k near far : Nat} {sign : Int} {one two : Nat} {x4 x5 x6 x7 x8 x9 : Option Sl} (hS : S.length ≤ 1000) (hk : ∀ p ∈ S, k < p.2.length) (h5 : x5 = some (.val (.int k))) :
    ∃ y9, dirsM [some (.val (.list (ts.map tieD))), some (.val (.int one)), some (.val (.int two)), some (.ok (reachK S)), x4, x5, some (.val (.int near)), some (.val (.int far)), some (.val (.int sign)), x9] g =
      .ok .nx [some (.val (.list (ts.map tieD))), some (.val (.int one)), some (.val (.int two)), some (.ok (reachK (stepR k near far sign S))), x4, x5, some (.val (.int near)), some (.val (.int far)), some (.val (.int sign)), y9] g := by
  subst h5
  let E : Env := [some (.val (.list (ts.map tieD))), some (.val (.int one)), some (.val (.int two)), some (.ok (reachK S)), x4, some (.val (.int k)), some (.val (.int near)), some (.val (.int far)), some (.val (.int sign)), x9]
  have e1 : mOwnR (fDin false) (mVar 6) 3 E g = .ok (.val (.bool (getR S near).isSome)) E g := by
    show ret (Sl.val (.bool (valD (reachK S) (.inl (near : Int))).isSome)) E g = _
    rw [valD_reach, Option.isSome_map]
    rfl
  have e2 : mOwnR (fDin true) (mVar 7) 3 E g = .ok (.val (.bool (!(getR S far).isSome))) E g := by
    show ret (Sl.val (.bool (!(valD (reachK S) (.inl (far : Int))).isSome))) E g = _
    rw [valD_reach, Option.isSome_map]
    rfl
  have t1 : mTest (mOwnR (fDin false) (mVar 6) 3) E g = .ok (getR S near).isSome E g := by
    rw [mTest_app, bnd_app, e1]
    rfl
  have t2 : mTest (mOwnR (fDin true) (mVar 7) 3) E g = .ok (!(getR S far).isSome) E g := by
    rw [mTest_app, bnd_app, e2]
    rfl
  have t : mAndB (mTest (mOwnR (fDin false) (mVar 6) 3)) (mTest (mOwnR (fDin true) (mVar 7) 3)) E g = .ok ((getR S near).isSome && !(getR S far).isSome) E g := by
    rw [mAndB_app, bnd_app, t1]
    cases (getR S near).isSome with
    | false => rfl
    | true => exact t2
  show ∃ y9, sIf _ _ _ E g = _
  rw [sIf_app, bnd_app, t]
  unfold stepR
  cases en : getR S near with
  | none => exact ⟨x9, rfl⟩
  | some r =>
    cases ef : getR S far with
    | some q =>
      have hf : far ∈ keysR S := getR_some.mp (by rw [ef]; rfl)
      simp only [hf, ↓reduceIte]
      exact ⟨x9, rfl⟩
    | none =>
      have hf : far ∉ keysR S := getR_none.mp ef
      have hkr : k < r.length := hk _ (getR_mem en)
      simp only [hf, ↓reduceIte]
      let E1 : Env := [some (.val (.list (ts.map tieD))), some (.val (.int one)), some (.val (.int two)), some (.ok (reachK S)), x4, some (.val (.int k)), some (.val (.int near)), some (.val (.int far)), some (.val (.int sign)), some (.ol (r.map PyData.int))]
      let E2 : Env := [some (.val (.list (ts.map tieD))), some (.val (.int one)), some (.val (.int two)), some (.ok (reachK S)), x4, some (.val (.int k)), some (.val (.int near)), some (.val (.int far)), some (.val (.int sign)), some (.ol ((r.set k sign).map PyData.int))]
      refine ⟨some (.val (listR (r.set k sign))), ?_⟩
      have g1' : mOwn fDg 3 (mVar 6) E g = .ok (.val (listR r)) E g := by
        show ofO (valD (reachK S) (.inl (near : Int))) E g = _
        rw [valD_reach, en]
        rfl
      have s1 : sSet 9 (mCall (Z.g1 fList) (mCons (mOwn fDg 3 (mVar 6)) mNil)) E g = .ok .nx E1 g := by
        rw [sSet_app, call_ok (cons_ok (ms := mNil) g1' rfl) (show Z.g1 fList [.val (listR r)] E g = .ok (.ol (r.map PyData.int)) E g from rfl)]
        rfl
      have s2 : sSetAt 9 (mVar 5) (mVar 8) E1 g = .ok .nx E2 g := by
        rw [setAt_ok (i := 9) (j := k) (xs := r.map PyData.int) (d := .int sign) (mk := mVar 5) (mv := mVar 8) rfl rfl rfl (by rw [List.length_map]; exact hkr), ← List.map_set]
        rfl
      show sSeq _ _ E g = _
      rw [sSeq_app, s1]
      show sSeq _ _ E1 g = _
      rw [sSeq_app, s2]
      show (if (reachK S).length ≤ 1000000 then _ else _ : Res Ctl) = _
      have hpd : putD (reachK S) (.inl (far : Int)) (.list ((r.set k sign).map PyData.int)) = reachK (S ++ [(far, r.set k sign)]) := putD_reach hf
      rw [if_pos (by simp [reachK]; omega), hpd]
      rfl
theorem RInv.len {one : Nat} {S : Reach} (h : RInv ts one S) : S.length ≤ ts.length + 1 := by
  have h5 := nodup_below (ts.length + 1) _ h.nd fun x hx => by have := h.le x hx; omega
  have h6 : (keysR S).length = S.length := by simp [keysR]
  omega
abbrev tieM : Mir Ctl := sFor (itVal (mFz (mLst (mCons (mTup (mCons (mOp fIx (mOp fIx (mVar 0) (mVar 5)) (mC (.int 0))) (mCons (mOp fIx (mOp fIx (mVar 0) (mVar 5)) (mC (.int 1))) (mCons (mC (.int 1)) mNil)))) (mCons (mTup (mCons (mOp fIx (mOp fIx (mVar 0) (mVar 5)) (mC (.int 1))) (mCons (mOp fIx (mOp fIx (mVar 0) (mVar 5)) (mC (.int 0))) (mCons (mNeg (mC (.int 1))) mNil)))) mNil))))) (.three 6 7 8) dirsM
theorem ev_tie (ht : TiesOk ts) (hts : ts.length ≤ 100) {S : Reach} {k one two : Nat} (hk : k < ts.length) (h : RInv ts one S) (x4 x6 x7 x8 x9 : Option Sl) :
    ∃ y6 y7 y8 y9, tieM [some (.val (.list (ts.map tieD))), some (.val (.int one)), some (.val (.int two)), some (.ok (reachK S)), x4, some (.val (.int k)), x6, x7, x8, x9] g =
      .ok .nx [some (.val (.list (ts.map tieD))), some (.val (.int one)), some (.val (.int two)), some (.ok (reachK (tieR ts S k))), x4, some (.val (.int k)), y6, y7, y8, y9] g := by
  let E : Env := [some (.val (.list (ts.map tieD))), some (.val (.int one)), some (.val (.int two)), some (.ok (reachK S)), x4, some (.val (.int k)), x6, x7, x8, x9]
  let u := (ts.getD k (0, 0)).1
  let v := (ts.getD k (0, 0)).2
  obtain ⟨i1, i2⟩ := tie_ix g hk (a := 5) (env := E) rfl rfl
  have hit : itVal (mFz (mLst (mCons (mTup (mCons (mOp fIx (mOp fIx (mVar 0) (mVar 5)) (mC (.int 0))) (mCons (mOp fIx (mOp fIx (mVar 0) (mVar 5)) (mC (.int 1))) (mCons (mC (.int 1)) mNil)))) (mCons (mTup (mCons (mOp fIx (mOp fIx (mVar 0) (mVar 5)) (mC (.int 1))) (mCons (mOp fIx (mOp fIx (mVar 0) (mVar 5)) (mC (.int 0))) (mCons (mNeg (mC (.int 1))) mNil)))) mNil)))) E g = .ok [.tuple [.int (u : Int), .int (v : Int), .int 1], .tuple [.int (v : Int), .int (u : Int), .int (-1)]] E g := by
    have a1 : mTup (mCons (mOp fIx (mOp fIx (mVar 0) (mVar 5)) (mC (.int 0))) (mCons (mOp fIx (mOp fIx (mVar 0) (mVar 5)) (mC (.int 1))) (mCons (mC (.int 1)) mNil))) E g = .ok (.val (.tuple [.int (u : Int), .int (v : Int), .int 1])) E g := by
      rw [mTup_app, bnd_ok (cons_ok i1 (cons_ok i2 (cons_ok (m := mC (.int 1)) (ms := mNil) rfl rfl)))]
      rfl
    have a2 : mTup (mCons (mOp fIx (mOp fIx (mVar 0) (mVar 5)) (mC (.int 1))) (mCons (mOp fIx (mOp fIx (mVar 0) (mVar 5)) (mC (.int 0))) (mCons (mNeg (mC (.int 1))) mNil))) E g = .ok (.val (.tuple [.int (v : Int), .int (u : Int), .int (-1)])) E g := by
      rw [mTup_app, bnd_ok (cons_ok i2 (cons_ok i1 (cons_ok (m := mNeg (mC (.int 1))) (ms := mNil) rfl rfl)))]
      rfl
    have a3 : mLst (mCons (mTup (mCons (mOp fIx (mOp fIx (mVar 0) (mVar 5)) (mC (.int 0))) (mCons (mOp fIx (mOp fIx (mVar 0) (mVar 5)) (mC (.int 1))) (mCons (mC (.int 1)) mNil)))) (mCons (mTup (mCons (mOp fIx (mOp fIx (mVar 0) (mVar 5)) (mC (.int 1))) (mCons (mOp fIx (mOp fIx (mVar 0) (mVar 5)) (mC (.int 0))) (mCons (mNeg (mC (.int 1))) mNil)))) mNil)) E g = .ok (.ol [.tuple [.int (u : Int), .int (v : Int), .int 1], .tuple [.int (v : Int), .int (u : Int), .int (-1)]]) E g := by
      rw [mLst_app, bnd_ok (cons_ok a1 (cons_ok (ms := mNil) a2 rfl))]
      rfl
    rw [itVal_app, bnd_ok (fz_ol a3)]
    rfl
  have lS := h.len
  have h1 := tie_at ht hk
  have h2 : RInv ts one (stepR k u v 1 S) := h.step hk (.inl ⟨rfl, rfl, rfl⟩) (by show (ts.getD k (0, 0)).2 ≤ _; omega)
  obtain ⟨y9, d1⟩ := ev_dirs (ts := ts) g (S := S) (k := k) (near := u) (far := v) (sign := 1) (one := one) (two := two) (x4 := x4) (x5 := some (.val (.int k))) (x6 := some (.val (.int u))) (x7 := some (.val (.int v))) (x8 := some (.val (.int 1))) (x9 := x9) (by omega) (fun p hp => by rw [(h.row p hp).1]; exact hk) rfl
  obtain ⟨z9, d2⟩ := ev_dirs (ts := ts) g (S := stepR k u v 1 S) (k := k) (near := v) (far := u) (sign := -1) (one := one) (two := two) (x4 := x4) (x5 := some (.val (.int k))) (x6 := some (.val (.int v))) (x7 := some (.val (.int u))) (x8 := some (.val (.int (-1)))) (x9 := y9) (by have := h2.len; omega) (fun p hp => by rw [(h2.row p hp).1]; exact hk) rfl
  refine ⟨some (.val (.int v)), some (.val (.int u)), some (.val (.int (-1))), z9, ?_⟩
  show sFor _ _ _ E g = _
  rw [sFor_app, bnd_ok hit]
  show (match dirsM [some (.val (.list (ts.map tieD))), some (.val (.int one)), some (.val (.int two)), some (.ok (reachK S)), x4, some (.val (.int k)), some (.val (.int u)), some (.val (.int v)), some (.val (.int 1)), x9] g with
    | .ok .nx e3 g3 => forRun _ _ _ e3 g3
    | .ok .ct e3 g3 => forRun _ _ _ e3 g3
    | .ok .bk e3 g3 => .ok .nx e3 g3
    | .ok (.rt sl) e3 g3 => .ok (.rt sl) e3 g3
    | .exc x g3 => .exc x g3
    | .bad => .bad) = _
  rw [d1]
  show (match dirsM [some (.val (.list (ts.map tieD))), some (.val (.int one)), some (.val (.int two)), some (.ok (reachK (stepR k u v 1 S))), x4, some (.val (.int k)), some (.val (.int v)), some (.val (.int u)), some (.val (.int (-1))), y9] g with
    | .ok .nx e3 g3 => forRun _ _ _ e3 g3
    | .ok .ct e3 g3 => forRun _ _ _ e3 g3
    | .ok .bk e3 g3 => .ok .nx e3 g3
    | .ok (.rt sl) e3 g3 => .ok (.rt sl) e3 g3
    | .exc x g3 => .exc x g3
    | .bad => .bad) = _
  rw [d2]
  rfl
theorem it_ties (hts : ts.length ≤ 100) {env : Env} (he : env[0]? = some (some (.val (.list (ts.map tieD))))) : itRng1 (mCons (mCall (Z.g1 fLen) (mCons (mVar 0) mNil)) mNil) env g = .ok ((List.range ts.length).map fun (i : Nat) => PyData.int (i : Int)) env g := by
  simp [he, sm62 (show ts.length ≤ 1000000 by omega), rng_map]
theorem it_ties1 (hts : ts.length ≤ 100) {env : Env} (he : env[0]? = some (some (.val (.list (ts.map tieD))))) : itRng1 (mCons (mOp fAdd (mCall (Z.g1 fLen) (mCons (mVar 0) mNil)) (mC (.int 1))) mNil) env g = .ok ((List.range (ts.length + 1)).map fun (i : Nat) => PyData.int (i : Int)) env g := by
  have sm : small62 ((ts.length : Int) + 1) = true := by unfold small62; simp; omega
  have e : ((ts.length : Int) + 1).toNat = ts.length + 1 := by omega
  simp [he, sm, rng_map, e]
theorem ev_way (ht : TiesOk ts) (hts : ts.length ≤ 100) {one two : Nat} (h1 : one ≤ ts.length) (h2 : two ≤ ts.length) : ∃ r, getR (wayR ts one) two = some r ∧ m__law_way [.val (.list (ts.map tieD)), .val (.int one), .val (.int two)] g = .ok (.val (listR r)) g ∧ r.length = ts.length ∧ (∀ z ∈ r, M.V3 z) ∧ ∀ f : Nat → Int, M.sum ts.length (fun i => (f (ts.getD i (0, 0)).2 - f (ts.getD i (0, 0)).1) * r.getD i 0) = f two - f one := by
  obtain ⟨r, w1, w2, w3, w4⟩ := way_ok ht h1 h2
  refine ⟨r, w1, ?_, w2, w3, w4⟩
  let T0 : Option Sl := some (.val (.list (ts.map tieD)))
  have outer := for_foldB (g := g) (t := .name 4) (mb := sFor (itRng1 (mCons (mCall (Z.g1 fLen) (mCons (mVar 0) mNil)) mNil)) (.name 5) tieM) (φ := fun (i : Nat) => PyData.int (i : Int)) (fun S _ => lapR ts S)
    (fun S env => ∃ x4 x5 x6 x7 x8 x9, env = [T0, some (.val (.int one)), some (.val (.int two)), some (.ok (reachK S)), x4, x5, x6, x7, x8, x9]) (List.range (ts.length + 1)) [(one, List.replicate ts.length 0)] (by
      rintro pre l post hpl env ⟨x4, x5, x6, x7, x8, x9, rfl⟩
      have hI := (laps_inv ht pre _ (RInv.start h1)).1
      generalize pre.foldl (fun S _ => lapR ts S) [(one, List.replicate ts.length 0)] = S at *
      have inner := for_foldB (g := g) (t := .name 5) (mb := tieM) (φ := fun (i : Nat) => PyData.int (i : Int)) (tieR ts)
        (fun S env => ∃ x5 x6 x7 x8 x9, env = [T0, some (.val (.int one)), some (.val (.int two)), some (.ok (reachK S)), some (.val (.int (l : Int))), x5, x6, x7, x8, x9]) (List.range ts.length) S (by
          rintro pre2 k post2 hp2 env ⟨x5, x6, x7, x8, x9, rfl⟩
          have hk : k < ts.length := by
            have : k ∈ List.range ts.length := by rw [hp2]; simp
            simpa using this
          have hI2 : RInv ts one (pre2.foldl (tieR ts) S) := RInv.ties ht hI fun j hj => by
            have : j ∈ List.range ts.length := by rw [hp2]; simp [hj]
            simpa using this
          obtain ⟨y6, y7, y8, y9, e⟩ := ev_tie g ht hts (two := two) hk hI2 (some (.val (.int (l : Int)))) x6 x7 x8 x9
          exact ⟨_, rfl, .nx, _, e, .inl rfl, _, _, _, _, _, rfl⟩)
        [T0, some (.val (.int one)), some (.val (.int two)), some (.ok (reachK S)), some (.val (.int (l : Int))), x5, x6, x7, x8, x9] ⟨x5, x6, x7, x8, x9, rfl⟩
      obtain ⟨e, L, y5, y6, y7, y8, y9, rfl⟩ := inner
      refine ⟨_, rfl, .nx, [T0, some (.val (.int one)), some (.val (.int two)), some (.ok (reachK (lapR ts S))), some (.val (.int (l : Int))), y5, y6, y7, y8, y9], ?_, .inl rfl, some (.val (.int (l : Int))), y5, y6, y7, y8, y9, rfl⟩
      exact (for_ok (it_ties g hts rfl)).trans L)
    [T0, some (.val (.int one)), some (.val (.int two)), some (.ok (reachK [(one, List.replicate ts.length 0)])), none, none, none, none, none, none] ⟨none, none, none, none, none, none, rfl⟩
  obtain ⟨e, L, x4, x5, x6, x7, x8, x9, rfl⟩ := outer
  refine body_ret (e := [T0, some (.val (.int one)), some (.val (.int two)), some (.ok (reachK (wayR ts one))), x4, x5, x6, x7, x8, x9]) ?_
  have first : sSet 3 (mDispK (mVar 1) (mFz (mOp fMul (mFz (mLst (mCons (mC (.int 0)) mNil))) (mCall (Z.g1 fLen) (mCons (mVar 0) mNil))))) [T0, some (.val (.int one)), some (.val (.int two)), none, none, none, none, none, none, none] g = .ok .nx [T0, some (.val (.int one)), some (.val (.int two)), some (.ok (reachK [(one, List.replicate ts.length 0)])), none, none, none, none, none, none] g := by
    simp [T0]
    rw [if_pos (by omega)]
    simp [dispK, keyOf, reachK, listR]
  have last : mOwn fDg 3 (mVar 2) [T0, some (.val (.int one)), some (.val (.int two)), some (.ok (reachK (wayR ts one))), x4, x5, x6, x7, x8, x9] g = .ok (.val (listR r)) [T0, some (.val (.int one)), some (.val (.int two)), some (.ok (reachK (wayR ts one))), x4, x5, x6, x7, x8, x9] g := by
    show ofO (valD (reachK (wayR ts one)) (.inl (two : Int))) _ g = _
    rw [valD_reach, w1]
    rfl
  exact (seq_ok first).trans ((seq_ok ((for_ok (it_ties1 g hts rfl)).trans L)).trans (ret_ok last))
end
end Z
end
section
set_option linter.all false
set_option maxRecDepth 100000
set_option maxHeartbeats 4000000
/-! NV: webs and their tables. -/
namespace Z
open PySem PySem.Spec PyProof.Rows L2
def wayL (ts : List (Nat × Nat)) (o : Nat × Nat) : List Int := (getR (wayR ts o.1) o.2).getD []
def webT (ts os : List (Nat × Nat)) : List (List Int) := turnL (os.map (wayL ts)) ts.length
section
variable {ts os : List (Nat × Nat)} (g : Pen)
theorem wayL_ok (ht : TiesOk ts) {o : Nat × Nat} (h1 : o.1 ≤ ts.length) (h2 : o.2 ≤ ts.length) : (wayL ts o).length = ts.length ∧ (∀ z ∈ wayL ts o, M.V3 z) ∧ ∀ f : Nat → Int, M.sum ts.length (fun i => (f (ts.getD i (0, 0)).2 - f (ts.getD i (0, 0)).1) * (wayL ts o).getD i 0) = f o.2 - f o.1 := by
  obtain ⟨r, e, a, b, c⟩ := way_ok ht h1 h2
  unfold wayL
  rw [e]
  exact ⟨a, b, c⟩
theorem webT_tbl (ht : TiesOk ts) (ho : ∀ o ∈ os, o.1 ≤ ts.length ∧ o.2 ≤ ts.length) (h1 : 0 < ts.length) (h2 : 0 < os.length) : Tbl (webT ts os) ts.length os.length := by
  have := turnL_tbl (T := os.map (wayL ts)) (n := ts.length) (by simpa using h2) (fun r hr => by
    obtain ⟨o, hm, rfl⟩ := List.mem_map.mp hr
    exact (wayL_ok ht (ho o hm).1 (ho o hm).2).1) (fun r hr => by
    obtain ⟨o, hm, rfl⟩ := List.mem_map.mp hr
    exact (wayL_ok ht (ho o hm).1 (ho o hm).2).2.1) h1
  rw [List.length_map] at this
  exact this
theorem webT_pp (ht : TiesOk ts) (ho : ∀ o ∈ os, o.1 ≤ ts.length ∧ o.2 ≤ ts.length) : M.Pp ts.length os.length (entT (webT ts os)) :=
  M.web_pp (u := fun i => (ts.getD i (0, 0)).1) (v := fun i => (ts.getD i (0, 0)).2) (a := fun j => (os.getD j (0, 0)).1) (b := fun j => (os.getD j (0, 0)).2) (fun k hk => tie_at ht hk) fun p j hj => by
    have ej : os[j]? = some (os.getD j (0, 0)) := by rw [List.getD_eq_getElem?_getD, List.getElem?_eq_getElem hj]; rfl
    have hm := ho _ (List.mem_of_getElem? ej)
    rw [← (wayL_ok ht hm.1 hm.2).2.2 p]
    refine M.sum_congr fun i hi => ?_
    congr 1
    unfold webT
    rw [turnL_ent hi (by simpa using hj)]
    congr 1
    rw [List.getD_eq_getElem?_getD, List.getElem?_map, ej]
    rfl
theorem ev_web_table (ht : TiesOk ts) (ho : ∀ o ∈ os, o.1 ≤ ts.length ∧ o.2 ≤ ts.length) (h1 : 0 < ts.length) (h2 : 0 < os.length) (hts : ts.length ≤ 100) : m__law_web_table [.val (.list (ts.map tieD)), .val (.list (os.map tieD))] g = .ok (.val (tD (webT ts os))) g := by
  let E : Env := [some (.val (.list (ts.map tieD))), some (.val (.list (os.map tieD))), none, none]
  have ways : mLc (itVal (mVar 1)) [2, 3] (.two 2 3) mYes (mCall (mFn m__law_way) (mCons (mVar 0) (mCons (mVar 2) (mCons (mVar 3) mNil)))) E g = .ok (.ol (os.map fun o => listR (wayL ts o))) E g := by
    refine lc_mapP os tieD (fun o => listR (wayL ts o)) rfl fun o hm => ?_
    obtain ⟨r, e1, e2, _⟩ := ev_way g ht hts (ho o hm).1 (ho o hm).2
    have e3 : wayL ts o = r := by unfold wayL; rw [e1]; rfl
    refine ⟨[some (.val (.list (ts.map tieD))), some (.val (.list (os.map tieD))), some (.val (.int o.1)), some (.val (.int o.2))], rfl, [some (.val (.list (ts.map tieD))), some (.val (.list (os.map tieD))), some (.val (.int o.1)), some (.val (.int o.2))], ?_⟩
    rw [e3]
    exact call_ok (cons_ok (var_ok rfl) (cons_ok (var_ok rfl) (cons_ok (ms := mNil) (var_ok rfl) rfl))) (fn_ok e2)
  have e : (os.map fun o => listR (wayL ts o)) = (os.map (wayL ts)).map listR := by rw [List.map_map]; rfl
  rw [e] at ways
  have tr := ev_turnedL (T := os.map (wayL ts)) (n := ts.length) g (by simpa using h2) (fun r hr => by
    obtain ⟨o, hm, rfl⟩ := List.mem_map.mp hr
    exact (wayL_ok ht (ho o hm).1 (ho o hm).2).1) (by omega)
  exact body_ret (e := E) (ret_ok (call_ok (cons_ok (ms := mNil) (fz_ol ways) rfl) (fn_ok tr)))
theorem ev_web {tall wide : Nat} (ht : tall ≤ 100) (hw : wide ≤ 100) {k : Nat} {g : Pen} (hp : PenOk k g) (hk : k + 600 ≤ 1000000000) : ∃ (ts os : List (Nat × Nat)) (g' : Pen), m__law_web [.pen, .val (.int tall), .val (.int wide)] g = .ok (.val (.tuple [.list (ts.map tieD), .list (os.map tieD)])) g' ∧
    ts.length = tall ∧ TiesOk ts ∧ os.length = wide ∧ (∀ o ∈ os, o.1 ≤ tall ∧ o.2 ≤ tall) ∧ PenOk (k + 600) g' := by
  obtain ⟨ts, ga, a1, a2, a3, a4⟩ := ev_tree ht hp (by omega)
  let E0 : Env := [some .pen, some (.val (.int tall)), some (.val (.int wide)), none, none]
  let E : Env := [some .pen, some (.val (.int tall)), some (.val (.int wide)), some (.val (.list (ts.map tieD))), none]
  have hit : itRng1 (mCons (mVar 2) mNil) E ga = .ok ((List.range wide).map fun (i : Nat) => PyData.int (i : Int)) E ga := by
    simp [E, sm62 (show wide ≤ 1000000 by omega), rng_map]
  obtain ⟨os, gb, b1, b2, b3, b4⟩ := lc_inv (vs := [4]) (t := .name 4) (me := mTup (mCons (mCall (mFn m__law_draw) (mCons (mVar 0) (mCons (mOp fAdd (mVar 1) (mC (.int 1))) mNil))) (mCons (mCall (mFn m__law_draw) (mCons (mVar 0) (mCons (mOp fAdd (mVar 1) (mC (.int 1))) mNil))) mNil))) (env := E) 2 (List.range wide) (fun (i : Nat) => PyData.int (i : Int)) tieD (fun o => o.1 ≤ tall ∧ o.2 ≤ tall) hit a4 (by simp; omega) (by
    intro i hi n' g' hp' hb'
    obtain ⟨x, gc, c1, c2, c3, c4⟩ := draw_app hp' (by omega) (k := (tall : Int) + 1) (by omega) (by omega)
    obtain ⟨y, gd, d1, d2, d3, d4⟩ := draw_app c4 (by omega) (k := (tall : Int) + 1) (by omega) (by omega)
    obtain ⟨x, rfl⟩ := Int.eq_ofNat_of_zero_le c2
    obtain ⟨y, rfl⟩ := Int.eq_ofNat_of_zero_le d2
    let E2 : Env := [some .pen, some (.val (.int tall)), some (.val (.int wide)), some (.val (.list (ts.map tieD))), some (.val (.int (i : Int)))]
    have q1 := call_draw (i := 0) (m := mOp fAdd (mVar 1) (mC (.int 1))) (env := E2) rfl (op_ok (F := fAdd) (x := .int tall) (y := .int 1) (var_ok rfl) rfl rfl) c1
    have q2 := call_draw (i := 0) (m := mOp fAdd (mVar 1) (mC (.int 1))) (env := E2) rfl (op_ok (F := fAdd) (x := .int tall) (y := .int 1) (var_ok rfl) rfl rfl) d1
    refine ⟨E2, rfl, (x, y), E2, gd, ?_, ⟨by show x ≤ tall; omega, by show y ≤ tall; omega⟩, d4⟩
    rw [mTup_app, bnd_ok (cons_ok q1 (cons_ok (ms := mNil) q2 rfl))]
    rfl)
  rw [List.length_range] at b2 b4
  refine ⟨ts, os, gb, ?_, a2, a3, b2, b3, b4.mono (by omega)⟩
  have s1 : sSet 3 (mCall (mFn m__law_tree) (mCons (mVar 0) (mCons (mVar 1) mNil))) E0 g = .ok .nx E ga :=
    set_ok (call_ok (cons_okS (pen_ok' rfl) rfl (cons_ok (ms := mNil) (var_ok rfl) rfl)) (fn_ok a1))
  refine body_ret (e := E) ((seq_ok s1).trans (ret_ok ?_))
  rw [mTup_app, bnd_ok (cons_ok (var_ok (env := E) (g := ga) rfl) (cons_ok (ms := mNil) (fz_ol b1) rfl))]
  rfl
/-! ### the table of five -/
def fiveT : List (List Int) := [[1, -1, 0, 0, -1], [-1, 1, -1, 0, 0], [0, -1, 1, -1, 0], [0, 0, -1, 1, -1], [-1, 0, 0, -1, 1]]
theorem ev_five : m__law_five [] g = .ok (.val (tD fiveT)) g := rfl
theorem fiveT_tbl : Tbl fiveT 5 5 := ⟨rfl, by decide, fun r hr z hz => by
  have : (fiveT.all fun r => r.all fun z => decide (z = -1 ∨ z = 0 ∨ z = 1)) = true := by decide
  show z = -1 ∨ z = 0 ∨ z = 1
  exact of_decide_eq_true (List.all_eq_true.mp (List.all_eq_true.mp this r hr) z hz), by decide, by decide⟩
theorem pivL_ent {T : List (List Int)} {m n i j k l : Nat} (hk : k < m) (hl : l < n) : entT (pivL T m n i j) k l = M.pvt (entT T) i j k l := by
  unfold entT pivL pivR
  simp [List.getD_eq_getElem?_getD, List.getElem?_map, List.getElem?_range hk, List.getElem?_range hl]
  rfl
theorem pivL_tbl {T : List (List Int)} {m n i j : Nat} (h : Tbl T m n) (he : M.Ent m n (M.pvt (entT T) i j)) : Tbl (pivL T m n i j) m n where
  len := by simp [pivL]
  row := fun r hr => by
    obtain ⟨k, _, rfl⟩ := List.mem_map.mp hr
    simp [pivR]
  ent := fun r hr z hz => by
    obtain ⟨k, hk, rfl⟩ := List.mem_map.mp hr
    obtain ⟨l, hl, rfl⟩ := List.mem_map.mp hz
    exact he k l (List.mem_range.mp hk) (List.mem_range.mp hl)
  hm := h.hm
  hn := h.hn
/-- signs for a lot of five rows -/
def candL : List Bool → List (List Int)
  | [] => [[]]
  | b :: r => (candL r).flatMap fun l => if b then [1 :: l, -1 :: l] else [0 :: l]
def colB (z : List Int) (j : Nat) : Int := z.getD 0 0 * entT fiveT 0 j + z.getD 1 0 * entT fiveT 1 j + z.getD 2 0 * entT fiveT 2 j + z.getD 3 0 * entT fiveT 3 j + z.getD 4 0 * entT fiveT 4 j
def okB (z : List Int) : Bool := (List.range 5).all fun j => decide (colB z j = -1 ∨ colB z j = 0 ∨ colB z j = 1)
theorem five_split : ∀ a b c d e : Bool, (candL [a, b, c, d, e]).any okB = true := by decide +kernel
theorem candL_at : ∀ {bs : List Bool} {z : List Int}, z ∈ candL bs → ∀ (i : Nat) (b : Bool), bs[i]? = some b → if b = true then z.getD i 0 = 1 ∨ z.getD i 0 = -1 else z.getD i 0 = 0
  | [], _, _, i, b, h => by simp at h
  | c :: r, z, hz, i, b, h => by
    rw [candL, List.mem_flatMap] at hz
    obtain ⟨l, hl, hz⟩ := hz
    cases i with
    | zero =>
      cases h
      cases c with
      | true =>
        simp only [if_true, List.mem_cons, List.not_mem_nil, or_false] at hz ⊢
        rcases hz with rfl | rfl
        · exact .inl rfl
        · exact .inr rfl
      | false =>
        simp only [Bool.false_eq_true, if_false, List.mem_cons, List.not_mem_nil, or_false] at hz ⊢
        subst hz
        rfl
    | succ i =>
      have ih := candL_at hl i b h
      cases c with
      | true =>
        simp only [if_true, List.mem_cons, List.not_mem_nil, or_false] at hz
        rcases hz with rfl | rfl <;> exact ih
      | false =>
        simp only [Bool.false_eq_true, if_false, List.mem_cons, List.not_mem_nil, or_false] at hz
        subst hz
        exact ih
theorem fiveT_sp : M.Sp 5 5 (entT fiveT) := M.sp_of fun p => by
  obtain ⟨z, hz, ho⟩ := List.any_eq_true.mp (five_split (p 0) (p 1) (p 2) (p 3) (p 4))
  refine ⟨fun i => z.getD i 0, fun i hi => candL_at hz i (p i) ?_, fun j hj => ?_⟩
  · have : i = 0 ∨ i = 1 ∨ i = 2 ∨ i = 3 ∨ i = 4 := by omega
    rcases this with rfl | rfl | rfl | rfl | rfl <;> rfl
  · have := of_decide_eq_true (List.all_eq_true.mp ho j (List.mem_range.mpr hj))
    have e : M.yv 5 (entT fiveT) (fun i => z.getD i 0) j = colB z j := by
      unfold M.yv colB
      simp only [M.sum, Int.zero_add]
    rw [e]
    exact this
end
end Z
end
section
set_option linter.all false
set_option maxRecDepth 100000
set_option maxHeartbeats 4000000
/-! NW: two tables joined. -/
namespace Z
open PySem PySem.Spec PyProof.Rows L2
def joinT (A B : List (List Int)) (a b : List Int) (n1 : Nat) : List (List Int) := ((A.zip a).map fun p => p.1 ++ b.map fun z => p.2 * z) ++ B.map fun r => List.replicate n1 0 ++ r
section
variable {A B : List (List Int)} {m1 n1 m2 n2 : Nat} {a b : List Int}
theorem joinT_tbl (hA : Tbl A m1 n1) (hB : Tbl B m2 n2) (la : a.length = m1) (lb : b.length = n2) (va : ∀ z ∈ a, M.V3 z) (vb : ∀ z ∈ b, M.V3 z) : Tbl (joinT A B a b n1) (m1 + m2) (n1 + n2) where
  len := by simp [joinT, hA.len, hB.len, la]
  row := fun r hr => by
    rcases List.mem_append.mp hr with hr | hr
    · obtain ⟨⟨q, e⟩, hp, rfl⟩ := List.mem_map.mp hr
      simp [hA.row q (List.of_mem_zip hp).1, lb]
    · obtain ⟨q, hq, rfl⟩ := List.mem_map.mp hr
      simp [hB.row q hq]
  ent := fun r hr z hz => by
    rcases List.mem_append.mp hr with hr | hr
    · obtain ⟨⟨q, e⟩, hp, rfl⟩ := List.mem_map.mp hr
      obtain ⟨hq, he⟩ := List.of_mem_zip hp
      rcases List.mem_append.mp hz with hz | hz
      · exact hA.ent q hq z hz
      · obtain ⟨w, hw, rfl⟩ := List.mem_map.mp hz
        exact (va e he).mul (vb w hw)
    · obtain ⟨q, hq, rfl⟩ := List.mem_map.mp hr
      rcases List.mem_append.mp hz with hz | hz
      · rw [List.eq_of_mem_replicate hz]; exact .inr (.inl rfl)
      · exact hB.ent q hq z hz
  hm := by have := hA.hm; omega
  hn := by have := hA.hn; omega
theorem joinT_ent (hA : Tbl A m1 n1) (hB : Tbl B m2 n2) (la : a.length = m1) (lb : b.length = n2) {k c : Nat} (hk : k < m1 + m2) (hc : c < n1 + n2) : M.jn m1 n1 (entT A) (entT B) (fun k => a.getD k 0) (fun c => b.getD c 0) k c = entT (joinT A B a b n1) k c := by
  unfold M.jn
  by_cases h : k < m1
  · obtain ⟨r, er, _, lr, qr⟩ := hA.at_ h
    have ea : a[k]? = some (a.getD k 0) := getD_at (by omega)
    have e1 : (joinT A B a b n1).getD k [] = r ++ b.map fun z => a.getD k 0 * z := by
      have ez : ((A.zip a).map fun p => p.1 ++ b.map fun z => p.2 * z)[k]? = some (r ++ b.map fun z => a.getD k 0 * z) := by
        have ez : (A.zip a)[k]? = some (r, a.getD k 0) := List.getElem?_zip_eq_some.mpr ⟨er, ea⟩
        rw [List.getElem?_map, ez]
        rfl
      unfold joinT
      rw [List.getD_eq_getElem?_getD, List.getElem?_append_left (by simp [hA.len, la]; exact h), ez]
      rfl
    have e2 : entT (joinT A B a b n1) k c = (r ++ b.map fun z => a.getD k 0 * z).getD c 0 := by unfold entT; rw [e1]
    rw [e2, if_pos h]
    by_cases h2 : c < n1
    · rw [if_pos h2, List.getD_eq_getElem?_getD, List.getElem?_append_left (by omega), (qr c h2).1]
      rfl
    · have eb : b[c - n1]? = some (b.getD (c - n1) 0) := getD_at (by omega)
      rw [if_neg h2, List.getD_eq_getElem?_getD, List.getElem?_append_right (by omega), lr, List.getElem?_map, eb]
      rfl
  · obtain ⟨r, er, _, lr, qr⟩ := hB.at_ (show k - m1 < m2 by omega)
    have e1 : (joinT A B a b n1).getD k [] = List.replicate n1 0 ++ r := by
      unfold joinT
      have lz : ((A.zip a).map fun p => p.1 ++ b.map fun z => p.2 * z).length = m1 := by simp [hA.len, la]
      rw [List.getD_eq_getElem?_getD, List.getElem?_append_right (by rw [lz]; omega), lz, List.getElem?_map, er]
      rfl
    have e2 : entT (joinT A B a b n1) k c = (List.replicate n1 0 ++ r).getD c 0 := by unfold entT; rw [e1]
    rw [e2, if_neg h]
    by_cases h2 : c < n1
    · rw [if_pos h2, List.getD_eq_getElem?_getD, List.getElem?_append_left (by simpa using h2)]
      simp [List.getElem?_replicate, h2]
    · rw [if_neg h2, List.getD_eq_getElem?_getD, List.getElem?_append_right (by simp; omega), List.length_replicate, (qr (c - n1) (by omega)).1]
      rfl
theorem zipD_rows (A : List (List Int)) (a : List Int) : zipD (A.map rD) (a.map PyData.int) = (A.zip a).map fun p => .tuple [rD p.1, .int p.2] := by
  unfold zipD
  rw [List.zipWith_map_left, List.zipWith_map_right, List.zip, List.map_zipWith]
/-- the end: from the two rows of numbers on -/
theorem join_end {g : Pen} (hA : Tbl A m1 n1) (hB : Tbl B m2 n2) (h1 : m1 ≤ 100) (h2 : n1 ≤ 100) (h3 : m2 ≤ 100) (h4 : n2 ≤ 100) (la : a.length = m1) (lb : b.length = n2) (va : ∀ z ∈ a, M.V3 z) (x5 x6 : Option Sl) :
    ∃ e, sSeq (sAfter [10] (sSet 10 (mLc (itZip (mCons (mVar 1) (mCons (mVar 3) mNil))) [7, 8] (.two 7 8) mYes (mOp fAdd (mCall (Z.g1 fTuple) (mCons (mVar 7) mNil)) (mCall (Z.g1 fTuple) (mCons (mFz (mLc (itVal (mVar 4)) [9] (.name 9) mYes (mOp fMul (mVar 8) (mVar 9)))) mNil))))))
     (sRet (mCall (Z.g1 fTuple) (mCons (mFz (mOp fAdd (mVar 10) (mFz (mLc (itVal (mVar 2)) [7] (.name 7) mYes (mOp fAdd (mOp fMul (mTup (mCons (mC (.int 0)) mNil)) (mCall (Z.g1 fLen) (mCons (mOp fIx (mVar 1) (mC (.int 0))) mNil))) (mCall (Z.g1 fTuple) (mCons (mVar 7) mNil))))))) mNil)))
     [some .pen, some (.val (tD A)), some (.val (tD B)), some (.val (.list (a.map PyData.int))), some (.val (.list (b.map PyData.int))), x5, x6, none, none, none, none] g = .ok (.rt (.val (tD (joinT A B a b n1)))) e g := by
  let E : Env := [some .pen, some (.val (tD A)), some (.val (tD B)), some (.val (.list (a.map PyData.int))), some (.val (.list (b.map PyData.int))), x5, x6, none, none, none, none]
  let U := (A.zip a).map fun p => p.1 ++ b.map fun z => p.2 * z
  let V := B.map fun r => List.replicate n1 0 ++ r
  let E1 : Env := [some .pen, some (.val (tD A)), some (.val (tD B)), some (.val (.list (a.map PyData.int))), some (.val (.list (b.map PyData.int))), x5, x6, none, none, none, some (.val (.list (U.map rD)))]
  have up : mLc (itZip (mCons (mVar 1) (mCons (mVar 3) mNil))) [7, 8] (.two 7 8) mYes (mOp fAdd (mCall (Z.g1 fTuple) (mCons (mVar 7) mNil)) (mCall (Z.g1 fTuple) (mCons (mFz (mLc (itVal (mVar 4)) [9] (.name 9) mYes (mOp fMul (mVar 8) (mVar 9)))) mNil))) E g = .ok (.ol (U.map rD)) E g := by
    have e : U.map rD = (A.zip a).map fun p => rD (p.1 ++ b.map fun z => p.2 * z) := by show ((A.zip a).map _).map rD = _; rw [List.map_map]; rfl
    rw [e]
    refine lc_mapP (A.zip a) (fun p => .tuple [rD p.1, .int p.2]) (fun p => rD (p.1 ++ b.map fun z => p.2 * z)) ?_ ?_
    · simp [E, zipOf, zipD_rows]
    · rintro ⟨r, z⟩ hp
      obtain ⟨hr, hz⟩ := List.of_mem_zip hp
      let E2 : Env := [some .pen, some (.val (tD A)), some (.val (tD B)), some (.val (.list (a.map PyData.int))), some (.val (.list (b.map PyData.int))), keepO x5, keepO x6, some (.val (rD r)), some (.val (.int z)), none, none]
      have t1 : mCall (Z.g1 fTuple) (mCons (mVar 7) mNil) E2 g = .ok (.val (.tuple (r.map PyData.int))) E2 g := call_ok (cons_ok (ms := mNil) (var_ok rfl) rfl) rfl
      have t2 : mLc (itVal (mVar 4)) [9] (.name 9) mYes (mOp fMul (mVar 8) (mVar 9)) E2 g = .ok (.ol (b.map fun w => .int (z * w))) E2 g := by
        refine lc_mapP b PyData.int (fun w => .int (z * w)) rfl fun w hw => ?_
        exact ⟨_, rfl, _, op_ok (F := fMul) (x := .int z) (y := .int w) (var_ok rfl) (var_ok rfl) (by rw [fMul_int, if_pos (cmul_small (va z hz)), ret_app])⟩
      have t3 : mCall (Z.g1 fTuple) (mCons (mFz (mLc (itVal (mVar 4)) [9] (.name 9) mYes (mOp fMul (mVar 8) (mVar 9)))) mNil) E2 g = .ok (.val (.tuple ((b.map fun w => z * w).map PyData.int))) E2 g := by
        rw [List.map_map]
        exact call_ok (cons_ok (ms := mNil) (fz_ol t2) rfl) rfl
      refine ⟨E2, rfl, E2, op_ok t1 t3 ?_⟩
      have lr := hA.row r hr
      rw [fAdd_tup, if_pos (by rw [List.length_map, List.length_map, List.length_map]; omega), ret_app, ← List.map_append]
      rfl
  have down : mLc (itVal (mVar 2)) [7] (.name 7) mYes (mOp fAdd (mOp fMul (mTup (mCons (mC (.int 0)) mNil)) (mCall (Z.g1 fLen) (mCons (mOp fIx (mVar 1) (mC (.int 0))) mNil))) (mCall (Z.g1 fTuple) (mCons (mVar 7) mNil))) E1 g = .ok (.ol (V.map rD)) E1 g := by
    have e : V.map rD = B.map fun r => rD (List.replicate n1 0 ++ r) := by show (B.map _).map rD = _; rw [List.map_map]; rfl
    rw [e]
    refine lc_mapP B rD (fun r => rD (List.replicate n1 0 ++ r)) (it_tD rfl) fun r hr => ?_
    let E2 : Env := [some .pen, some (.val (tD A)), some (.val (tD B)), some (.val (.list (a.map PyData.int))), some (.val (.list (b.map PyData.int))), keepO x5, keepO x6, some (.val (rD r)), none, none, some (.val (.list (U.map rD)))]
    have hn := hA.hn
    have t1 : mOp fMul (mTup (mCons (mC (.int 0)) mNil)) (mCall (Z.g1 fLen) (mCons (mOp fIx (mVar 1) (mC (.int 0))) mNil)) E2 g = .ok (.val (.tuple ((List.replicate n1 (0 : Int)).map PyData.int))) E2 g :=
      op_ok (x := .tuple [.int 0]) rfl (len_cols g hA (s := 1) (env := E2) rfl) (by
        rw [fMul_tup, if_pos ⟨by simp, by omega, by omega, by simp⟩, ret_app, ← zeros]
        rfl)
    have t2 : mCall (Z.g1 fTuple) (mCons (mVar 7) mNil) E2 g = .ok (.val (.tuple (r.map PyData.int))) E2 g := call_ok (cons_ok (ms := mNil) (var_ok rfl) rfl) rfl
    refine ⟨E2, rfl, E2, op_ok t1 t2 ?_⟩
    have lr := hB.row r hr
    rw [fAdd_tup, if_pos (by rw [List.length_map, List.length_map, List.length_replicate]; omega), ret_app, ← List.map_append]
    rfl
  have lU : U.length = m1 := by show ((A.zip a).map _).length = m1; simp [hA.len, la]
  have lV : V.length = m2 := by show (B.map _).length = m2; simp [hB.len]
  have both : mOp fAdd (mVar 10) (mFz (mLc (itVal (mVar 2)) [7] (.name 7) mYes (mOp fAdd (mOp fMul (mTup (mCons (mC (.int 0)) mNil)) (mCall (Z.g1 fLen) (mCons (mOp fIx (mVar 1) (mC (.int 0))) mNil))) (mCall (Z.g1 fTuple) (mCons (mVar 7) mNil))))) E1 g = .ok (.ol ((U ++ V).map rD)) E1 g :=
    op_ok (var_ok rfl) (fz_ol down) (by
      have l1 : (U.map rD).length = m1 := by rw [List.length_map]; exact lU
      have l2 : (V.map rD).length = m2 := by rw [List.length_map]; exact lV
      rw [fAdd_lst, if_pos (by omega), ret_app, List.map_append])
  have s1 : sAfter [10] (sSet 10 (mLc (itZip (mCons (mVar 1) (mCons (mVar 3) mNil))) [7, 8] (.two 7 8) mYes (mOp fAdd (mCall (Z.g1 fTuple) (mCons (mVar 7) mNil)) (mCall (Z.g1 fTuple) (mCons (mFz (mLc (itVal (mVar 4)) [9] (.name 9) mYes (mOp fMul (mVar 8) (mVar 9)))) mNil))))) E g = .ok .nx (setlE [10] 0 (E.set 10 (some (.ol (U.map rD))))) g := by
    rw [sAfter_app, set_ok up]
  have he : ∀ o : Option Sl, setO ([10].contains 5) o = o := fun o => by cases o with | none => rfl | some s => cases s <;> rfl
  have he6 : ∀ o : Option Sl, setO ([10].contains 6) o = o := fun o => by cases o with | none => rfl | some s => cases s <;> rfl
  have s2 : setlE [10] 0 (E.set 10 (some (.ol (U.map rD)))) = E1 := by
    show [some .pen, some (.val (tD A)), some (.val (tD B)), some (.val (.list (a.map PyData.int))), some (.val (.list (b.map PyData.int))), setO ([10].contains 5) x5, setO ([10].contains 6) x6, none, none, none, some (.val (.list (U.map rD)))] = E1
    rw [he, he6]
  rw [s2] at s1
  exact ⟨E1, (seq_ok s1).trans (ret_ok (call_ok (cons_ok (ms := mNil) (fz_ol both) rfl) rfl))⟩
theorem ev_joined (hA : Tbl A m1 n1) (hB : Tbl B m2 n2) (h1 : m1 ≤ 100) (h2 : n1 ≤ 100) (h3 : m2 ≤ 100) (h4 : n2 ≤ 100) (pA : M.Pp m1 n1 (entT A)) (pB : M.Pp m2 n2 (entT B)) {k : Nat} {g : Pen} (hp : PenOk k g) (hk : k + 3 ≤ 1000000000) :
    ∃ T g', m__law_joined [.pen, .val (tD A), .val (tD B)] g = .ok (.val (tD T)) g' ∧ Tbl T (m1 + m2) (n1 + n2) ∧ M.Pp (m1 + m2) (n1 + n2) (entT T) ∧ PenOk (k + 3) g' := by
  let E0 : Env := [some .pen, some (.val (tD A)), some (.val (tD B)), none, none, none, none, none, none, none, none]
  let za : List Int := List.replicate m1 0
  let zb : List Int := List.replicate n2 0
  let E1 : Env := [some .pen, some (.val (tD A)), some (.val (tD B)), some (.val (.list (za.map PyData.int))), some (.val (.list (zb.map PyData.int))), none, none, none, none, none, none]
  have a1 := hA.hm
  have a2 := hA.hn
  have b1 := hB.hm
  have b2 := hB.hn
  have z1 : mFz (mOp fMul (mFz (mLst (mCons (mC (.int 0)) mNil))) (mCall (Z.g1 fLen) (mCons (mVar 1) mNil))) E0 g = .ok (.val (.list (za.map PyData.int))) E0 g :=
    fz_ol (op_ok (x := .list [.int 0]) rfl (len_rows g hA (s := 1) (env := E0) rfl) (by
      rw [fMul_lst, if_pos ⟨by simp, by omega, by omega⟩, ret_app]
      show Res.ok (Sl.ol (List.replicate ((m1 : Int)).toNat [PyData.int 0]).flatten) E0 g = _
      rw [Int.toNat_natCast, zeros]))
  have z2 : mFz (mOp fMul (mFz (mLst (mCons (mC (.int 0)) mNil))) (mCall (Z.g1 fLen) (mCons (mOp fIx (mVar 2) (mC (.int 0))) mNil))) E0 g = .ok (.val (.list (zb.map PyData.int))) E0 g :=
    fz_ol (op_ok (x := .list [.int 0]) rfl (len_cols g hB (s := 2) (env := E0) rfl) (by
      rw [fMul_lst, if_pos ⟨by simp, by omega, by omega⟩, ret_app]
      show Res.ok (Sl.ol (List.replicate ((n2 : Int)).toNat [PyData.int 0]).flatten) E0 g = _
      rw [Int.toNat_natCast, zeros]))
  have s1 : sPar 3 4 (mFz (mOp fMul (mFz (mLst (mCons (mC (.int 0)) mNil))) (mCall (Z.g1 fLen) (mCons (mVar 1) mNil)))) (mFz (mOp fMul (mFz (mLst (mCons (mC (.int 0)) mNil))) (mCall (Z.g1 fLen) (mCons (mOp fIx (mVar 2) (mC (.int 0))) mNil)))) E0 g = .ok .nx E1 g := par_ok z1 z2
  obtain ⟨c, ga, c1, c2, c3, c4⟩ := draw_app hp (by omega) (k := 3) (by omega) (by omega)
  have dc : mTest (mOp fGt (mCall (mFn m__law_draw) (mCons (mVar 0) (mCons (mC (.int 3)) mNil))) (mC (.int 0))) E1 g = .ok (decide (0 < c)) E1 ga := by
    have e : mCall (mFn m__law_draw) (mCons (mVar 0) (mCons (mC (.int 3)) mNil)) E1 g = .ok (.val (.int c)) E1 ga := call_draw rfl rfl c1
    refine test_ok ?_
    unfold mOp
    rw [bnd_ok e]
    rfl
  by_cases hc : 0 < c
  · obtain ⟨j, gb, d1, d2, d3, d4⟩ := draw_app c4 (by omega) (k := (n1 : Int)) (by omega) (by omega)
    obtain ⟨i, gc, e1, e2, e3, e4⟩ := draw_app d4 (by omega) (k := (m2 : Int)) (by omega) (by omega)
    obtain ⟨j, rfl⟩ := Int.eq_ofNat_of_zero_le d2
    obtain ⟨i, rfl⟩ := Int.eq_ofNat_of_zero_le e2
    have hj : j < n1 := by omega
    have hi : i < m2 := by omega
    obtain ⟨ri, er, mr, lr, qr⟩ := hB.at_ hi
    let a : List Int := A.map fun r => r.getD j 0
    let E2 : Env := [some .pen, some (.val (tD A)), some (.val (tD B)), some (.val (.list (za.map PyData.int))), some (.val (.list (zb.map PyData.int))), some (.val (.int j)), some (.val (.int i)), none, none, none, none]
    have s2 : sPar 5 6 (mCall (mFn m__law_draw) (mCons (mVar 0) (mCons (mCall (Z.g1 fLen) (mCons (mOp fIx (mVar 1) (mC (.int 0))) mNil)) mNil))) (mCall (mFn m__law_draw) (mCons (mVar 0) (mCons (mCall (Z.g1 fLen) (mCons (mVar 2) mNil)) mNil))) E1 ga = .ok .nx E2 gc :=
      par_ok (call_draw rfl (len_cols ga hA (s := 1) (env := E1) rfl) d1) (call_draw rfl (len_rows gb hB (s := 2) (env := E1) rfl) e1)
    have col : mLc (itVal (mVar 1)) [7] (.name 7) mYes (mOp fIx (mVar 7) (mVar 5)) E2 gc = .ok (.ol (a.map PyData.int)) E2 gc := by
      have e : a.map PyData.int = A.map fun r => .int (r.getD j 0) := by show (A.map _).map PyData.int = _; rw [List.map_map]; rfl
      rw [e]
      refine lc_mapP A rD (fun r => .int (r.getD j 0)) (it_tD rfl) fun r hr => ?_
      let E3 : Env := [some .pen, some (.val (tD A)), some (.val (tD B)), some (.val (.list (za.map PyData.int))), some (.val (.list (zb.map PyData.int))), some (.val (.int j)), some (.val (.int i)), some (.val (rD r)), none, none, none]
      refine ⟨E3, rfl, E3, op_ok (x := rD r) (y := .int j) (var_ok rfl) (var_ok rfl) ?_⟩
      show fIx (.val (.tuple (r.map PyData.int))) _ _ gc = _
      rw [fIx_tup, atI_nat', List.getElem?_map, getD_at (by rw [hA.row r hr]; exact hj)]
      rfl
    have row : mCall (Z.g1 fList) (mCons (mOp fIx (mVar 2) (mVar 6)) mNil) E2 gc = .ok (.ol (ri.map PyData.int)) E2 gc := call_ok (cons_ok (ms := mNil) (ix_row gc (s := 2) er rfl rfl) rfl) rfl
    have s3 := par_ok (i := 3) (j := 4) (fz_ol col) (fz_ol row)
    have la : a.length = m1 := by show (A.map _).length = m1; simp [hA.len]
    have va : ∀ z ∈ a, M.V3 z := fun z hz => by
      obtain ⟨r, hr, rfl⟩ := List.mem_map.mp hz
      exact hA.ent r hr _ (List.mem_of_getElem? (getD_at (by rw [hA.row r hr]; exact hj)))
    obtain ⟨e, fin⟩ := join_end (g := gc) hA hB h1 h2 h3 h4 la lr va (some (.val (.int j))) (some (.val (.int i)))
    have pj := M.Pp.joined (a := fun k => a.getD k 0) (b := fun c => ri.getD c 0) pA pB hi hj (fun k hk => by
      obtain ⟨r, er2, _, _, q2⟩ := hA.at_ hk
      show a.getD k 0 = entT A k j
      have : a[k]? = some (r.getD j 0) := by show (A.map _)[k]? = _; rw [List.getElem?_map, er2]; rfl
      rw [List.getD_eq_getElem?_getD, this]
      have e3 := (q2 j hj).1
      rw [Option.getD_some, List.getD_eq_getElem?_getD, e3]
      rfl) (fun c hc => by
      show ri.getD c 0 = entT B i c
      rw [List.getD_eq_getElem?_getD, (qr c hc).1]
      rfl)
    refine ⟨joinT A B a ri n1, gc, body_ret (e := e) ((seq_ok s1).trans ((seq_ok ((if_ok dc).trans ?_)).trans fin)), joinT_tbl hA hB la lr va fun z hz => hB.ent ri mr z hz, pj.congr fun x y hx hy => joinT_ent hA hB la lr hx hy, e4⟩
    rw [decide_eq_true hc, if_pos rfl]
    exact (seq_ok s2).trans s3
  · obtain ⟨e, fin⟩ := join_end (g := ga) hA hB h1 h2 h3 h4 (a := za) (b := zb) (by simp [za]) (by simp [zb]) (fun z hz => by rw [List.eq_of_mem_replicate hz]; exact .inr (.inl rfl)) none none
    have vb : ∀ z ∈ zb, M.V3 z := fun z hz => by rw [List.eq_of_mem_replicate hz]; exact .inr (.inl rfl)
    have pj := M.Pp.beside (a := fun k => za.getD k 0) (b := fun c => zb.getD c 0) pA pB fun k hk => by
      show za.getD k 0 = 0
      simp [za, List.getD_eq_getElem?_getD, List.getElem?_replicate, hk]
    refine ⟨joinT A B za zb n1, ga, body_ret (e := e) ((seq_ok s1).trans ((seq_ok ((if_ok dc).trans ?_)).trans fin)), joinT_tbl hA hB (by simp [za]) (by simp [zb]) (fun z hz => by rw [List.eq_of_mem_replicate hz]; exact .inr (.inl rfl)) vb, pj.congr fun x y hx hy => joinT_ent hA hB (by simp [za]) (by simp [zb]) hx hy, c4.mono (by omega)⟩
    rw [decide_eq_false hc, if_neg Bool.false_ne_true]
    rfl
end
end Z
end
section
set_option linter.all false
set_option maxRecDepth 100000
set_option maxHeartbeats 4000000
/-! NX: the drawn whole tables. -/
namespace Z
open PySem PySem.Spec PyProof.Rows L2
/-- a loop that may end early -/
theorem for_brk {t : Tgt} {mb : Mir Ctl} {γ : Type} {φ : γ → D} (S : Nat → Env → Pen → Prop) (Fin : Env → Pen → Prop) : ∀ (xs : List γ) (k : Nat),
    (∀ i x, xs[i]? = some x → ∀ env g, S (k + i) env g → ∃ e2, bindT t (φ x) env = some e2 ∧ ∃ c e3 g3, mb e2 g = .ok c e3 g3 ∧ ((c = .nx ∧ S (k + i + 1) e3 g3) ∨ (c = .bk ∧ Fin e3 g3))) → (∀ e g, S (k + xs.length) e g → Fin e g) → ∀ env g, S k env g →
    ∃ e g', forRun t mb (xs.map φ) env g = .ok .nx e g' ∧ Fin e g'
  | [], k, _, hend, env, g, s => ⟨env, g, rfl, hend env g s⟩
  | x :: xs, k, h, hend, env, g, s => by
    obtain ⟨e2, h1, c, e3, g3, h2, h3⟩ := h 0 x rfl env g s
    rcases h3 with ⟨rfl, h3⟩ | ⟨rfl, h3⟩
    · obtain ⟨e, g', h5, h6⟩ := for_brk S Fin xs (k + 1) (fun i y hy env g s => by
        have e : k + (i + 1) = k + 1 + i := by omega
        have q := h (i + 1) y hy env g (by rw [e]; exact s)
        rw [e] at q
        exact q) (fun e g hs => hend e g (by rw [List.length_cons, show k + (xs.length + 1) = k + 1 + xs.length by omega]; exact hs)) e3 g3 h3
      refine ⟨e, g', ?_, h6⟩
      rw [List.map_cons, forRun, h1]
      simp only [h2]
      exact h5
    · refine ⟨e3, g3, ?_, h3⟩
      rw [List.map_cons, forRun, h1]
      simp only [h2]
def dualT (T : List (List Int)) (n : Nat) : List (List Int) := negL (turnL T n)
theorem dualT_tbl {T : List (List Int)} {m n : Nat} (h : Tbl T m n) : Tbl (dualT T n) n m := by
  have := negL_tbl (turnL_tbl (T := T) (n := n) (by rw [h.len]; exact h.hm) h.row h.ent h.hn)
  rw [h.len] at this
  exact this
theorem dualT_pp {T : List (List Int)} {m n : Nat} (h : Tbl T m n) (p : M.Pp m n (entT T)) : M.Pp n m (entT (dualT T n)) := p.dl.congr fun j i hj hi => by
  have ht := turnL_tbl (T := T) (n := n) (by rw [h.len]; exact h.hm) h.row h.ent h.hn
  unfold dualT
  rw [negL_ent ht hj (by rw [h.len]; exact hi), turnL_ent hj (by rw [h.len]; exact hi)]
  rfl
theorem ev_dual' {T : List (List Int)} {m n : Nat} (g : Pen) (h : Tbl T m n) (hn : n ≤ 1000) : m__law_dual [.val (tD T)] g = .ok (.val (tD (dualT T n))) g := ev_dual g h hn
/-- made: a table whose pivots keep to -1, 0, 1 -/
def Made (tall wide : Nat) (T : List (List Int)) : Prop := ∃ m n, Tbl T m n ∧ m ≤ tall ∧ n ≤ wide ∧ M.Rn m n 3 (entT T)
theorem web_made {ts os : List (Nat × Nat)} {g : Pen} {env : Env} {a : Nat} (ht : TiesOk ts) (ho : ∀ o ∈ os, o.1 ≤ ts.length ∧ o.2 ≤ ts.length) (h1 : 0 < ts.length) (h2 : 0 < os.length) (h3 : ts.length ≤ 100) (e : env[a]? = some (some (.val (.tuple [.list (ts.map tieD), .list (os.map tieD)])))) :
    mCall (mFn m__law_web_table) (mCons (mOp fIx (mVar a) (mC (.int 0))) (mCons (mOp fIx (mVar a) (mC (.int 1))) mNil)) env g = .ok (.val (tD (webT ts os))) env g :=
  call_ok (cons_ok (op_ok (var_ok e) (y := .int 0) rfl (r := .ok (.val (.list (ts.map tieD))) env g) rfl) (cons_ok (ms := mNil) (op_ok (var_ok e) (y := .int 1) rfl (r := .ok (.val (.list (os.map tieD))) env g) rfl) rfl)) (fn_ok (ev_web_table g ht ho h1 h2 h3))
abbrev madeM : Mir Ctl := sIf (mAndB (mTest (mOp (fEq false) (mVar 3) (mC (.int 0)))) (mAndB (mTest (mOp fGe (mVar 1) (mC (.int 5)))) (mTest (mOp fGe (mVar 2) (mC (.int 5)))))) (sSet 4 (mCall (mFn m__law_five) mNil)) (sIf (mAndB (mTest (mOp (fIn false) (mVar 3) (mTup (mCons (mC (.int 1)) (mCons (mC (.int 2)) mNil))))) (mAndB (mTest (mOp fGe (mVar 1) (mC (.int 2)))) (mTest (mOp fGe (mVar 2) (mC (.int 2)))))) (sSeq (sPar 5 6 (mOp fAdd (mC (.int 1)) (mCall (mFn m__law_draw) (mCons (mVar 0) (mCons (mOp fSub (mVar 1) (mC (.int 1))) mNil)))) (mOp fAdd (mC (.int 1)) (mCall (mFn m__law_draw) (mCons (mVar 0) (mCons (mOp fSub (mVar 2) (mC (.int 1))) mNil)))))
     (sSeq (sPar 7 8 (mCall (mFn m__law_web) (mCons (mVar 0) (mCons (mVar 5) (mCons (mVar 6) mNil)))) (mCall (mFn m__law_web) (mCons (mVar 0) (mCons (mOp fSub (mVar 2) (mVar 6)) (mCons (mOp fSub (mVar 1) (mVar 5)) mNil)))))
     (sSet 4 (mCall (mFn m__law_joined) (mCons (mVar 0) (mCons (mCall (mFn m__law_web_table) (mCons (mOp fIx (mVar 7) (mC (.int 0))) (mCons (mOp fIx (mVar 7) (mC (.int 1))) mNil))) (mCons (mCall (mFn m__law_dual) (mCons (mCall (mFn m__law_web_table) (mCons (mOp fIx (mVar 8) (mC (.int 0))) (mCons (mOp fIx (mVar 8) (mC (.int 1))) mNil))) mNil)) mNil))))))) (sIf (mTest (mOp (fIn false) (mVar 3) (mTup (mCons (mC (.int 3)) (mCons (mC (.int 4)) mNil))))) (sSeq (sSet 9 (mCall (mFn m__law_web) (mCons (mVar 0) (mCons (mVar 2) (mCons (mVar 1) mNil)))))
     (sSet 4 (mCall (mFn m__law_dual) (mCons (mCall (mFn m__law_web_table) (mCons (mOp fIx (mVar 9) (mC (.int 0))) (mCons (mOp fIx (mVar 9) (mC (.int 1))) mNil))) mNil)))) (sSeq (sSet 9 (mCall (mFn m__law_web) (mCons (mVar 0) (mCons (mVar 1) (mCons (mVar 2) mNil)))))
     (sSet 4 (mCall (mFn m__law_web_table) (mCons (mOp fIx (mVar 9) (mC (.int 0))) (mCons (mOp fIx (mVar 9) (mC (.int 1))) mNil)))))))
theorem ge_test {g : Pen} {env : Env} {a : Nat} {x c : Int} (e : env[a]? = some (some (.val (.int x)))) : mTest (mOp fGe (mVar a) (mC (.int c))) env g = .ok (decide (c ≤ x)) env g := test_ok (op_ok (var_ok e) rfl rfl)
theorem eq_test {g : Pen} {env : Env} {a : Nat} {x c : Int} (e : env[a]? = some (some (.val (.int x)))) : mTest (mOp (fEq false) (mVar a) (mC (.int c))) env g = .ok (decide (x = c)) env g :=
  test_ok (op_ok (var_ok e) rfl (by rw [fEq_app, if_pos ⟨sh_int _, sh_int _⟩, ret_app, eqv_int]; rfl))
theorem in2_test {g : Pen} {env : Env} {a : Nat} {x c d : Int} (e : env[a]? = some (some (.val (.int x)))) : mTest (mOp (fIn false) (mVar a) (mTup (mCons (mC (.int c)) (mCons (mC (.int d)) mNil)))) env g = .ok (([c, d] : List Int).contains x) env g :=
  test_ok (op_ok (var_ok e) (y := .tuple [.int c, .int d]) rfl (by
    have q := dIn_int x [c, d]
    show ofO (dIn false (.int x) (([c, d] : List Int).map PyData.int)) env g = _
    rw [q]
    rfl))
theorem and_test {g : Pen} {env : Env} {a b : Mir Bool} {p q : Bool} (h1 : a env g = .ok p env g) (h2 : b env g = .ok q env g) : mAndB a b env g = .ok (p && q) env g := by
  rw [mAndB_app, bnd_ok h1]
  cases p with
  | false => rfl
  | true => exact h2
theorem sub_one {g : Pen} {env : Env} {a : Nat} {x y : Nat} {z : Int} (e : env[a]? = some (some (.val (.int x)))) (h : (x : Int) - z = (y : Int)) : mOp fSub (mVar a) (mC (.int z)) env g = .ok (.val (.int y)) env g := op_ok (var_ok e) rfl (by show Res.ok (Sl.val (.int ((x : Int) - z))) env g = _; rw [h])
theorem sub_two {g : Pen} {env : Env} {a b : Nat} {x y z : Nat} (e : env[a]? = some (some (.val (.int x)))) (e2 : env[b]? = some (some (.val (.int y)))) (h : (x : Int) - (y : Int) = (z : Int)) : mOp fSub (mVar a) (mVar b) env g = .ok (.val (.int z)) env g := op_ok (var_ok e) (var_ok e2) (by show Res.ok (Sl.val (.int ((x : Int) - (y : Int)))) env g = _; rw [h])
theorem op_okP {F : Sl → Sl → Mir Sl} {ma mb : Mir Sl} {x y : D} {r : Res Sl} {env : Env} {g ga gb : Pen} (h1 : ma env g = .ok (.val x) env ga) (h2 : mb env ga = .ok (.val y) env gb) (h : F (.val x) (.val y) env gb = r) : mOp F ma mb env g = r := by
  rw [mOp_app, bnd_ok h1]
  show bnd mb _ env ga = r
  rw [bnd_ok h2]
  exact h
theorem cons_pen {ms : Mir (List Sl)} {l : List Sl} {env env2 : Env} {g g2 : Pen} {r : Env} (e : env = some .pen :: r) (h : ms env g = .ok l env2 g2) : mCons (mVar 0) ms env g = .ok (.pen :: l) env2 g2 := by
  subst e
  exact cons_okS (pen_ok' rfl) rfl h
theorem made_ok {tall wide : Nat} (t1 : 1 ≤ tall) (t2 : tall ≤ 100) (w1 : 1 ≤ wide) (w2 : wide ≤ 100) {k : Nat} {g : Pen} (hp : PenOk k g) (hk : k + 2000 ≤ 1000000000) (way : Int) :
    ∃ T x5 x6 x7 x8 x9 g', madeM [some .pen, some (.val (.int tall)), some (.val (.int wide)), some (.val (.int way)), none, none, none, none, none, none, none, none] g = .ok .nx [some .pen, some (.val (.int tall)), some (.val (.int wide)), some (.val (.int way)), some (.val (tD T)), x5, x6, x7, x8, x9, none, none] g' ∧ Made tall wide T ∧ PenOk (k + 2000) g' := by
  let E : Env := [some .pen, some (.val (.int tall)), some (.val (.int wide)), some (.val (.int way)), none, none, none, none, none, none, none, none]
  have c1 : mAndB (mTest (mOp (fEq false) (mVar 3) (mC (.int 0)))) (mAndB (mTest (mOp fGe (mVar 1) (mC (.int 5)))) (mTest (mOp fGe (mVar 2) (mC (.int 5))))) E g = .ok (decide (way = 0) && (decide ((5 : Int) ≤ tall) && decide ((5 : Int) ≤ wide))) E g := and_test (eq_test rfl) (and_test (ge_test rfl) (ge_test rfl))
  have c2 : mAndB (mTest (mOp (fIn false) (mVar 3) (mTup (mCons (mC (.int 1)) (mCons (mC (.int 2)) mNil))))) (mAndB (mTest (mOp fGe (mVar 1) (mC (.int 2)))) (mTest (mOp fGe (mVar 2) (mC (.int 2))))) E g = .ok (([1, 2] : List Int).contains way && (decide ((2 : Int) ≤ tall) && decide ((2 : Int) ≤ wide))) E g := and_test (in2_test rfl) (and_test (ge_test rfl) (ge_test rfl))
  have c3 : mTest (mOp (fIn false) (mVar 3) (mTup (mCons (mC (.int 3)) (mCons (mC (.int 4)) mNil)))) E g = .ok (([3, 4] : List Int).contains way) E g := in2_test rfl
  show ∃ T x5 x6 x7 x8 x9 g', madeM E g = _ ∧ _
  cases q1 : (decide (way = 0) && (decide ((5 : Int) ≤ tall) && decide ((5 : Int) ≤ wide))) with
  | true =>
    rw [q1] at c1
    simp only [Bool.and_eq_true, decide_eq_true_eq] at q1
    exact ⟨fiveT, none, none, none, none, none, g, (if_yes c1).trans (set_ok (call_ok (ms := mNil) rfl (fn_ok (ev_five g)))), ⟨5, 5, fiveT_tbl, by omega, by omega, fiveT_sp.rn 3⟩, hp.mono (by omega)⟩
  | false =>
    rw [q1] at c1
    cases q2 : (([1, 2] : List Int).contains way && (decide ((2 : Int) ≤ tall) && decide ((2 : Int) ≤ wide))) with
    | true =>
      rw [q2] at c2
      simp only [Bool.and_eq_true, decide_eq_true_eq] at q2
      obtain ⟨_, t3, w3⟩ := q2
      obtain ⟨i, ga, a1, a2, a3, a4⟩ := draw_app hp (by omega) (k := ((tall - 1 : Nat) : Int)) (by omega) (by omega)
      obtain ⟨j, gb, b1, b2, b3, b4⟩ := draw_app a4 (by omega) (k := ((wide - 1 : Nat) : Int)) (by omega) (by omega)
      obtain ⟨i0, rfl⟩ := Int.eq_ofNat_of_zero_le a2
      obtain ⟨j0, rfl⟩ := Int.eq_ofNat_of_zero_le b2
      let E1 : Env := [some .pen, some (.val (.int tall)), some (.val (.int wide)), some (.val (.int way)), none, some (.val (.int ((1 + i0 : Nat) : Int))), some (.val (.int ((1 + j0 : Nat) : Int))), none, none, none, none, none]
      have s1 : sPar 5 6 (mOp fAdd (mC (.int 1)) (mCall (mFn m__law_draw) (mCons (mVar 0) (mCons (mOp fSub (mVar 1) (mC (.int 1))) mNil)))) (mOp fAdd (mC (.int 1)) (mCall (mFn m__law_draw) (mCons (mVar 0) (mCons (mOp fSub (mVar 2) (mC (.int 1))) mNil)))) E g = .ok .nx E1 gb := by
        have f1 : mOp fAdd (mC (.int 1)) (mCall (mFn m__law_draw) (mCons (mVar 0) (mCons (mOp fSub (mVar 1) (mC (.int 1))) mNil))) E g = .ok (.val (.int ((1 + i0 : Nat) : Int))) E ga := op_okP (x := .int 1) rfl (call_draw rfl (sub_one (y := tall - 1) (env := E) rfl (by omega)) a1) rfl
        have f2 : mOp fAdd (mC (.int 1)) (mCall (mFn m__law_draw) (mCons (mVar 0) (mCons (mOp fSub (mVar 2) (mC (.int 1))) mNil))) E ga = .ok (.val (.int ((1 + j0 : Nat) : Int))) E gb := op_okP (x := .int 1) rfl (call_draw rfl (sub_one (y := wide - 1) (env := E) rfl (by omega)) b1) rfl
        exact par_ok f1 f2
      obtain ⟨ts, os, gc, u1, u2, u3, u4, u5, u6⟩ := ev_web (tall := 1 + i0) (wide := 1 + j0) (by omega) (by omega) b4 (by omega)
      obtain ⟨ts2, os2, gd, v1, v2, v3, v4, v5, v6⟩ := ev_web (tall := wide - (1 + j0)) (wide := tall - (1 + i0)) (by omega) (by omega) u6 (by omega)
      let E2 : Env := [some .pen, some (.val (.int tall)), some (.val (.int wide)), some (.val (.int way)), none, some (.val (.int ((1 + i0 : Nat) : Int))), some (.val (.int ((1 + j0 : Nat) : Int))), some (.val (.tuple [.list (ts.map tieD), .list (os.map tieD)])), some (.val (.tuple [.list (ts2.map tieD), .list (os2.map tieD)])), none, none, none]
      have s2 : sPar 7 8 (mCall (mFn m__law_web) (mCons (mVar 0) (mCons (mVar 5) (mCons (mVar 6) mNil)))) (mCall (mFn m__law_web) (mCons (mVar 0) (mCons (mOp fSub (mVar 2) (mVar 6)) (mCons (mOp fSub (mVar 1) (mVar 5)) mNil)))) E1 gb = .ok .nx E2 gd :=
        par_ok (call_ok (cons_pen rfl (cons_ok (var_ok rfl) (cons_ok (ms := mNil) (var_ok rfl) rfl))) (fn_ok u1))
          (call_ok (cons_pen rfl (cons_ok (sub_two (z := wide - (1 + j0)) (env := E1) rfl rfl (by omega)) (cons_ok (ms := mNil) (sub_two (z := tall - (1 + i0)) (env := E1) rfl rfl (by omega)) rfl))) (fn_ok v1))
      have hA := webT_tbl u3 (fun o ho => by rw [u2]; exact u5 o ho) (by omega) (by omega)
      have pA := webT_pp u3 (fun o ho => by rw [u2]; exact u5 o ho)
      have hB0 := webT_tbl v3 (fun o ho => by rw [v2]; exact v5 o ho) (by omega) (by omega)
      have pB0 := webT_pp v3 (fun o ho => by rw [v2]; exact v5 o ho)
      obtain ⟨T, ge, j1, j2, j3, j4⟩ := ev_joined hA (dualT_tbl hB0) (by omega) (by omega) (by omega) (by omega) pA (dualT_pp hB0 pB0) v6 (by omega)
      have w1' := web_made (g := gd) (env := E2) (a := 7) u3 (fun o ho => by rw [u2]; exact u5 o ho) (by omega) (by omega) (by omega) rfl
      have w2' := web_made (g := gd) (env := E2) (a := 8) v3 (fun o ho => by rw [v2]; exact v5 o ho) (by omega) (by omega) (by omega) rfl
      have w3' := call_ok (env := E2) (cons_ok (ms := mNil) w2' rfl) (fn_ok (ev_dual' gd hB0 (by omega)))
      have s3 := set_ok (i := 4) (call_ok (env := E2) (cons_pen rfl (cons_ok w1' (cons_ok (ms := mNil) w3' rfl))) (fn_ok j1))
      refine ⟨T, _, _, _, _, _, ge, (if_no c1).trans ((if_yes c2).trans ((seq_ok s1).trans ((seq_ok s2).trans s3))), ⟨_, _, j2, by omega, by omega, j3.rn 3⟩, j4.mono (by omega)⟩
    | false =>
      rw [q2] at c2
      cases q3 : ([3, 4] : List Int).contains way with
      | true =>
        rw [q3] at c3
        obtain ⟨ts, os, ga, u1, u2, u3, u4, u5, u6⟩ := ev_web (tall := wide) (wide := tall) w2 t2 hp (by omega)
        let E1 : Env := [some .pen, some (.val (.int tall)), some (.val (.int wide)), some (.val (.int way)), none, none, none, none, none, some (.val (.tuple [.list (ts.map tieD), .list (os.map tieD)])), none, none]
        have s1 : sSet 9 (mCall (mFn m__law_web) (mCons (mVar 0) (mCons (mVar 2) (mCons (mVar 1) mNil)))) E g = .ok .nx E1 ga := set_ok (call_ok (cons_pen rfl (cons_ok (var_ok rfl) (cons_ok (ms := mNil) (var_ok rfl) rfl))) (fn_ok u1))
        have hB := webT_tbl u3 (fun o ho => by rw [u2]; exact u5 o ho) (by omega) (by omega)
        have pB := webT_pp u3 (fun o ho => by rw [u2]; exact u5 o ho)
        have w1' := web_made (g := ga) (env := E1) (a := 9) u3 (fun o ho => by rw [u2]; exact u5 o ho) (by omega) (by omega) (by omega) rfl
        have s2 := set_ok (i := 4) (call_ok (env := E1) (cons_ok (ms := mNil) w1' rfl) (fn_ok (ev_dual' ga hB (by omega))))
        refine ⟨dualT (webT ts os) os.length, _, _, _, _, _, ga, (if_no c1).trans ((if_no c2).trans ((if_yes c3).trans ((seq_ok s1).trans s2))), ⟨_, _, dualT_tbl hB, by omega, by omega, (dualT_pp hB pB).rn 3⟩, u6.mono (by omega)⟩
      | false =>
        rw [q3] at c3
        obtain ⟨ts, os, ga, u1, u2, u3, u4, u5, u6⟩ := ev_web (tall := tall) (wide := wide) t2 w2 hp (by omega)
        let E1 : Env := [some .pen, some (.val (.int tall)), some (.val (.int wide)), some (.val (.int way)), none, none, none, none, none, some (.val (.tuple [.list (ts.map tieD), .list (os.map tieD)])), none, none]
        have s1 : sSet 9 (mCall (mFn m__law_web) (mCons (mVar 0) (mCons (mVar 1) (mCons (mVar 2) mNil)))) E g = .ok .nx E1 ga := set_ok (call_ok (cons_pen rfl (cons_ok (var_ok rfl) (cons_ok (ms := mNil) (var_ok rfl) rfl))) (fn_ok u1))
        have hB := webT_tbl u3 (fun o ho => by rw [u2]; exact u5 o ho) (by omega) (by omega)
        have pB := webT_pp u3 (fun o ho => by rw [u2]; exact u5 o ho)
        have w1' := web_made (g := ga) (env := E1) (a := 9) u3 (fun o ho => by rw [u2]; exact u5 o ho) (by omega) (by omega) (by omega) rfl
        refine ⟨webT ts os, _, _, _, _, _, ga, (if_no c1).trans ((if_no c2).trans ((if_no c3).trans ((seq_ok s1).trans (set_ok w1')))), ⟨_, _, hB, by omega, by omega, pB.rn 3⟩, u6.mono (by omega)⟩
end Z
end
section
set_option linter.all false
set_option maxRecDepth 100000
set_option maxHeartbeats 4000000
/-! NY: the drawn whole tables, to the end. -/
namespace Z
open PySem PySem.Spec PyProof.Rows L2
theorem eqv_nil (xs : List D) : PyData.eqv (.list xs) (.list []) = decide (xs = []) := by
  rw [PyData.eqv]
  cases xs <;> simp [PyData.eqvAll]
theorem bind_two {m : Mir Sl} {i j : Nat} {x y : D} {env env' : Env} {g g' : Pen} (h : m env g = .ok (.val (.tuple [x, y])) env' g') : sBind (.two i j) m env g = .ok .nx ((env'.set i (some (.val x))).set j (some (.val y))) g' := by
  unfold sBind
  rw [bnd_ok h]
  rfl
abbrev lapM : Mir Ctl := sSeq (sSet 11 (mCall (mFn m__law_places) (mCons (mVar 4) mNil)))
    (sSeq (sIf (mTest (mOp (fEq false) (mVar 11) (mFz (mLst mNil)))) sBreak sNil)
    (sSeq (sBind (.two 5 6) (mCall (mFn m__law_pick) (mCons (mVar 0) (mCons (mVar 11) mNil))))
    (sSet 4 (mCall (mFn m__law_pivot) (mCons (mVar 4) (mCons (mVar 5) (mCons (mVar 6) mNil)))))))
/-- the slots while a table is turned about -/
def WholeEnv (T : List (List Int)) (env : Env) : Prop := ∃ a b c x5 x6 x7 x8 x9 x10 x11, env = [some .pen, a, b, c, some (.val (tD T)), x5, x6, x7, x8, x9, x10, x11]
theorem lap_ok {m n : Nat} {T : List (List Int)} (h : Tbl T m n) (hm : m ≤ 20) (hn : n ≤ 20) {k r : Nat} {g : Pen} (hp : PenOk k g) (hk : k + 1 ≤ 1000000000) (hr : M.Rn m n (r + 1) (entT T)) {a b c x5 x6 x7 x8 x9 x10 x11 : Option Sl} :
    ∃ T' c' env' g', lapM [some .pen, a, b, c, some (.val (tD T)), x5, x6, x7, x8, x9, x10, x11] g = .ok c' env' g' ∧ WholeEnv T' env' ∧ Tbl T' m n ∧ PenOk (k + 1) g' ∧ ((c' = .nx ∧ M.Rn m n r (entT T')) ∨ c' = .bk) := by
  let E1 : Env := [some .pen, a, b, c, some (.val (tD T)), x5, x6, x7, x8, x9, x10, some (.val (.list ((placeL T m n).map rD)))]
  have s1 : sSet 11 (mCall (mFn m__law_places) (mCons (mVar 4) mNil)) [some .pen, a, b, c, some (.val (tD T)), x5, x6, x7, x8, x9, x10, x11] g = .ok .nx E1 g := set_ok (i := 11) (call_ok (ms := mCons (mVar 4) mNil) (cons_ok (ms := mNil) (var_ok rfl) rfl) (fn_ok (ev_places h (by omega) (by omega) g)))
  have t1 : mTest (mOp (fEq false) (mVar 11) (mFz (mLst mNil))) E1 g = .ok (decide ((placeL T m n).map rD = [])) E1 g := test_ok (op_ok (ma := mVar 11) (var_ok rfl) (y := .list []) rfl (by
    rw [fEq_app, if_pos ⟨sh_rDs _, sh_rDs []⟩, ret_app, eqv_nil]
    rfl))
  show ∃ T' c' env' g', lapM _ g = _ ∧ _
  unfold lapM
  rw [seq_ok s1]
  by_cases h0 : (placeL T m n).map rD = []
  · rw [decide_eq_true h0] at t1
    refine ⟨T, .bk, E1, g, ?_, ⟨a, b, c, x5, x6, x7, x8, x9, x10, _, rfl⟩, h, hp.mono (by omega), .inr rfl⟩
    rw [sSeq_app, if_yes t1]
    rfl
  · rw [decide_eq_false h0] at t1
    have l1 := placeL_len T n m
    have l2 : m * n ≤ 20 * 20 := Nat.mul_le_mul hm hn
    obtain ⟨d, g', p1, p2, p3⟩ := ev_pick hp (by omega) (ds := (placeL T m n).map rD) h0 (by rw [List.length_map]; omega)
    obtain ⟨p, hp', rfl⟩ := List.mem_map.mp p2
    obtain ⟨i, j, rfl, hi, hj, hz⟩ := placeL_mem hp'
    let E2 : Env := [some .pen, a, b, c, some (.val (tD T)), some (.val (.int i)), some (.val (.int j)), x7, x8, x9, x10, some (.val (.list ((placeL T m n).map rD)))]
    have s2 : sBind (.two 5 6) (mCall (mFn m__law_pick) (mCons (mVar 0) (mCons (mVar 11) mNil))) E1 g = .ok .nx E2 g' := bind_two (i := 5) (j := 6) (x := .int i) (y := .int j) (call_ok (ms := mCons (mVar 0) (mCons (mVar 11) mNil)) (cons_pen rfl (cons_ok (ms := mNil) (var_ok (i := 11) rfl) rfl)) (fn_ok p1))
    have s3 : sSet 4 (mCall (mFn m__law_pivot) (mCons (mVar 4) (mCons (mVar 5) (mCons (mVar 6) mNil)))) E2 g' = .ok .nx [some .pen, a, b, c, some (.val (tD (pivL T m n i j))), some (.val (.int i)), some (.val (.int j)), x7, x8, x9, x10, some (.val (.list ((placeL T m n).map rD)))] g' :=
      set_ok (i := 4) (call_ok (ms := mCons (mVar 4) (mCons (mVar 5) (mCons (mVar 6) mNil))) (cons_ok (var_ok (i := 4) rfl) (cons_ok (var_ok (i := 5) rfl) (cons_ok (ms := mNil) (var_ok (i := 6) rfl) rfl))) (fn_ok (ev_pivot _ h (by omega) (by omega) hi hj)))
    have q := hr.2 i j hi hj hz
    refine ⟨pivL T m n i j, .nx, [some .pen, a, b, c, some (.val (tD (pivL T m n i j))), some (.val (.int i)), some (.val (.int j)), x7, x8, x9, x10, some (.val (.list ((placeL T m n).map rD)))], g', ?_, ⟨a, b, c, some (.val (.int i)), some (.val (.int j)), x7, x8, x9, x10, some (.val (.list ((placeL T m n).map rD))), rfl⟩, pivL_tbl h q.ent, p3, .inl ⟨rfl, q.congr fun k l hk hl => (pivL_ent hk hl).symm⟩⟩
    rw [seq_ok (show sIf (mTest (mOp (fEq false) (mVar 11) (mFz (mLst mNil)))) sBreak sNil E1 g = .ok .nx E1 g by rw [if_no t1]; rfl), seq_ok s2]
    exact s3
theorem ev_whole_table {tall wide : Nat} (t1 : 1 ≤ tall) (t2 : tall ≤ 20) (w1 : 1 ≤ wide) (w2 : wide ≤ 20) {k : Nat} {g : Pen} (hp : PenOk k g) (hk : k + 3000 ≤ 1000000000) :
    ∃ T m n g', m__law_whole_table [.pen, .val (.int tall), .val (.int wide)] g = .ok (.val (tD T)) g' ∧ Tbl T m n ∧ m ≤ tall ∧ n ≤ wide ∧ PenOk (k + 3000) g' := by
  obtain ⟨way, ga, a1, a2, a3, a4⟩ := draw_app hp (by omega) (k := 7) (by omega) (by omega)
  let E0 : Env := [some .pen, some (.val (.int tall)), some (.val (.int wide)), none, none, none, none, none, none, none, none, none]
  let E1 : Env := [some .pen, some (.val (.int tall)), some (.val (.int wide)), some (.val (.int way)), none, none, none, none, none, none, none, none]
  have s1 : sSet 3 (mCall (mFn m__law_draw) (mCons (mVar 0) (mCons (mC (.int 7)) mNil))) E0 g = .ok .nx E1 ga := set_ok (i := 3) (call_draw (m := mC (.int 7)) (i := 0) (env := E0) rfl rfl a1)
  obtain ⟨T, x5, x6, x7, x8, x9, gb, b1, ⟨m, n, hT, hm, hn, hr⟩, b2⟩ := made_ok (tall := tall) (wide := wide) t1 (by omega) w1 (by omega) a4 (by omega) way
  let E2 : Env := [some .pen, some (.val (.int tall)), some (.val (.int wide)), some (.val (.int way)), some (.val (tD T)), x5, x6, x7, x8, x9, none, none]
  obtain ⟨c, gc, c1, c2, c3, c4⟩ := draw_app b2 (by omega) (k := 4) (by omega) (by omega)
  obtain ⟨c0, rfl⟩ := Int.eq_ofNat_of_zero_le c2
  have hit : itRng1 (mCons (mCall (mFn m__law_draw) (mCons (mVar 0) (mCons (mC (.int 4)) mNil))) mNil) E2 gb = .ok ((List.range c0).map fun (i : Nat) => PyData.int (i : Int)) E2 gc := by
    rw [itRng1_app, bnd_ok (cons_ok (ms := mNil) (call_draw (m := mC (.int 4)) (i := 0) (env := E2) rfl rfl c1) rfl)]
    show (if small62 (c0 : Int) = true then ret (rngD 0 1 (c0 : Int).toNat) else bad) E2 gc = _
    rw [if_pos (by unfold small62; simp; omega), ret_app, Int.toNat_natCast, rng_map]
  have L := for_brk (t := .name 10) (mb := lapM) (φ := fun (i : Nat) => PyData.int (i : Int)) (fun l env g => ∃ T', WholeEnv T' env ∧ Tbl T' m n ∧ PenOk (k + 2002 + l) g ∧ (l ≤ c0 → M.Rn m n (3 - l) (entT T'))) (fun env g => ∃ T', WholeEnv T' env ∧ Tbl T' m n ∧ PenOk (k + 2005) g) (List.range c0) 0
    (fun i x hx env g s => by
      obtain ⟨T', ⟨a, b, c, y5, y6, y7, y8, y9, y10, y11, rfl⟩, h1, h2, h3⟩ := s
      rw [Nat.zero_add] at *
      have hi : i < c0 := by simpa using (List.getElem?_eq_some_iff.mp hx).1
      have hr' := h3 (by omega)
      rw [show 3 - i = (2 - i) + 1 by omega] at hr'
      obtain ⟨T2, c', env', g', q1, q2, q3, q4, q5⟩ := lap_ok h1 (by omega) (by omega) h2 (by omega) hr' (a := a) (b := b) (c := c) (x5 := y5) (x6 := y6) (x7 := y7) (x8 := y8) (x9 := y9) (x10 := some (.val (.int x))) (x11 := y11)
      refine ⟨_, rfl, c', env', g', q1, ?_⟩
      rcases q5 with ⟨rfl, q5⟩ | rfl
      · exact .inl ⟨rfl, T2, q2, q3, q4, fun _ => by rw [show 3 - (i + 1) = 2 - i by omega]; exact q5⟩
      · exact .inr ⟨rfl, T2, q2, q3, q4.mono (by omega)⟩)
    (fun e g ⟨T', h1, h2, h3, _⟩ => ⟨T', h1, h2, h3.mono (by rw [List.length_range]; omega)⟩) E2 gc ⟨T, ⟨_, _, _, _, _, _, _, _, _, _, rfl⟩, hT, c4, fun _ => hr⟩
  obtain ⟨e, gd, L, T', ⟨a, b, c, y5, y6, y7, y8, y9, y10, y11, rfl⟩, h1, h2⟩ := L
  obtain ⟨T2, ge, d1, d2, d3⟩ := ev_signed h1 (by omega) (by omega) h2 (by omega)
  refine ⟨T2, m, n, ge, ?_, d2, hm, hn, d3.mono (by omega)⟩
  refine body_ret (e := [some .pen, a, b, c, some (.val (tD T')), y5, y6, y7, y8, y9, y10, y11]) ?_
  show b__law_whole_table E0 g = _
  unfold b__law_whole_table
  rw [seq_ok s1, seq_ok b1, seq_ok ((for_ok hit).trans L)]
  exact ret_ok (call_ok (ms := mCons (mVar 0) (mCons (mVar 4) mNil)) (cons_pen rfl (cons_ok (ms := mNil) (var_ok (i := 4) rfl) rfl)) (fn_ok d1))
end Z
end
section
set_option linter.all false
set_option maxRecDepth 100000
set_option maxHeartbeats 4000000
/-! OA: what can be shown. -/
namespace Z
open PySem PySem.Spec PyProof.Rows L2
/-- small enough to be shown -/
structure Rs (d : D) (k c : Nat) : Prop where
  show_ : d.showable = true
  nod : d.hasDict = false
  lay : d.canLay0 = true
  dep : d.depth ≤ k
  len : d.shown.length ≤ c
  chars : PyData.strOk d.shown = true
theorem Rs.mono {d : D} {k c k' c' : Nat} (h : Rs d k c) (h1 : k ≤ k') (h2 : c ≤ c') : Rs d k' c' := ⟨h.show_, h.nod, h.lay, Nat.le_trans h.dep h1, Nat.le_trans h.len h2, h.chars⟩
theorem sok_app (x y : PySem.Str) : PyData.strOk (x ++ y) = (PyData.strOk x && PyData.strOk y) := by
  show (x.cps ++ y.cps).all _ = _
  rw [Array.all_append]
  rfl
theorem sok_join {s : PySem.Str} (hs : PyData.strOk s = true) : ∀ {ts : List PySem.Str}, (∀ t ∈ ts, PyData.strOk t = true) → PyData.strOk (Str.join s ts) = true
  | [], _ => show PyData.strOk Str.empty = true by decide +kernel
  | [t], h => h t List.mem_cons_self
  | t :: u :: r, h => by
    have ih := sok_join hs (ts := u :: r) fun w hw => h w (List.mem_cons_of_mem _ hw)
    show PyData.strOk (t ++ s ++ Str.join s (u :: r)) = true
    rw [sok_app, sok_app, h t List.mem_cons_self, hs, ih]
    rfl
theorem sok_from : ∀ {ts : List PySem.Str} (k : Nat) (acc : PySem.Str), PyData.strOk acc = true → (∀ t ∈ ts, PyData.strOk t = true) → PyData.strOk (textFrom k acc ts) = true
  | [], _, acc, h, _ => h
  | t :: r, k, acc, h, hs => by
    show PyData.strOk (textFrom (k + 1) (acc ++ (if k > 0 then ", " else "" : String) ++ t) r) = true
    refine sok_from (k + 1) _ ?_ fun w hw => hs w (List.mem_cons_of_mem _ hw)
    rw [sok_app, sok_app, h, hs t List.mem_cons_self]
    split <;> decide +kernel
theorem sok_tuple {ts : List PySem.Str} (h : ∀ t ∈ ts, PyData.strOk t = true) : PyData.strOk (tupleText ts) = true := by
  unfold tupleText
  rw [sok_app, sok_app, sok_join (by decide +kernel) h]
  split <;> decide +kernel
theorem sok_list {ts : List PySem.Str} (h : ∀ t ∈ ts, PyData.strOk t = true) : PyData.strOk (listText ts) = true := by
  unfold listText
  rw [sok_app, sok_from 0 _ (by decide +kernel) h]
  decide +kernel
theorem rs_all {xs : List D} {k c : Nat} (h : ∀ x ∈ xs, Rs x k c) : PyData.showableAll xs = true ∧ PyData.hasDictAll xs = false ∧ PyData.canLayAll0 xs = true ∧ PyData.depthAll xs ≤ k ∧ ((PyData.shownAll xs).map (·.length)).sum ≤ c * xs.length ∧ (PyData.shownAll xs).length = xs.length ∧ (∀ t ∈ PyData.shownAll xs, PyData.strOk t = true) := by
  induction xs with
  | nil => simp [PyData.showableAll, PyData.hasDictAll, PyData.canLayAll0, PyData.depthAll, PyData.shownAll]
  | cons x xs ih =>
    obtain ⟨h1, h2, h3, h4, h5, h6, h7⟩ := ih fun y hy => h y (List.mem_cons_of_mem _ hy)
    obtain ⟨a1, a2, a3, a4, a5, a6⟩ := h x List.mem_cons_self
    simp only [PyData.showableAll, PyData.hasDictAll, PyData.canLayAll0, PyData.depthAll, PyData.shownAll, h1, h2, h3, a1, a2, a3, List.map_cons, List.sum_cons, List.length_cons, h6, Nat.mul_add, Nat.mul_one]
    refine ⟨rfl, rfl, rfl, by omega, by omega, trivial, fun t ht => ?_⟩
    rcases List.mem_cons.mp ht with rfl | ht
    · exact a6
    · exact h7 t ht
theorem Rs.tuple {xs : List D} {k c : Nat} (h : ∀ x ∈ xs, Rs x k c) : Rs (.tuple xs) (k + 1) ((c + 2) * xs.length + 3) := by
  obtain ⟨h1, h2, h3, h4, h5, h6, h7⟩ := rs_all h
  have q := tupleText_len_le (PyData.shownAll xs)
  refine ⟨by rw [PyData.showable]; exact h1, by rw [PyData.hasDict]; exact h2, by rw [PyData.canLay0]; exact h3, by rw [PyData.depth]; omega, ?_, by rw [PyData.shown]; exact sok_tuple h7⟩
  rw [PyData.shown, Nat.add_mul]
  omega
theorem Rs.list {xs : List D} {k c : Nat} (h : ∀ x ∈ xs, Rs x k c) : Rs (.list xs) (k + 1) ((c + 2) * xs.length + 3) := by
  obtain ⟨h1, h2, h3, h4, h5, h6, h7⟩ := rs_all h
  have q := listText_len_le (PyData.shownAll xs)
  refine ⟨by rw [PyData.showable]; exact h1, by rw [PyData.hasDict]; exact h2, by rw [PyData.canLay0]; exact h3, by rw [PyData.depth]; omega, ?_, by rw [PyData.shown]; exact sok_list h7⟩
  rw [PyData.shown, Nat.add_mul]
  omega
theorem Rs.ok {d : D} {k c : Nat} (h : Rs d k c) (h1 : k ≤ 60) (h2 : c ≤ 1000000) : mReprOk d = true ∧ PyData.strOk d.shown = true := by
  refine ⟨?_, h.chars⟩
  unfold mReprOk
  rw [h.show_, h.nod, h.lay, decide_eq_true (Nat.le_trans h.dep h1), decide_eq_true (show d.shown.length ≤ sizeLine from Nat.le_trans h.len (Nat.le_trans h2 (by decide)))]
  rfl
theorem rs_int {i : Int} (h1 : -9 ≤ i) (h2 : i ≤ 9) : Rs (.int i) 0 2 := by
  have key : ∀ k ∈ List.range 19, PyData.showable (.int ((k : Int) - 9)) = true ∧ (PyData.shown (.int ((k : Int) - 9))).length ≤ 2 ∧ PyData.strOk (PyData.shown (.int ((k : Int) - 9))) = true := by decide +kernel
  have e : i = ((i + 9).toNat : Int) - 9 := by omega
  obtain ⟨a, b, c⟩ := key (i + 9).toNat (by rw [List.mem_range]; omega)
  rw [← e] at a b c
  exact ⟨a, rfl, rfl, by rw [PyData.depth]; omega, b, c⟩
theorem rs_ints {r : List Int} (h : ∀ z ∈ r, -9 ≤ z ∧ z ≤ 9) : ∀ x ∈ r.map PyData.int, Rs x 0 2 := fun x hx => by
  obtain ⟨z, hz, rfl⟩ := List.mem_map.mp hx
  exact rs_int (h z hz).1 (h z hz).2
theorem rs_rD {r : List Int} {n : Nat} (h : ∀ z ∈ r, -9 ≤ z ∧ z ≤ 9) (hn : r.length ≤ n) : Rs (rD r) 1 (4 * n + 3) := by
  have q := Rs.tuple (rs_ints h)
  rw [List.length_map] at q
  exact q.mono (Nat.le_refl _) (by omega)
theorem rs_lD {r : List Int} {n : Nat} (h : ∀ z ∈ r, -9 ≤ z ∧ z ≤ 9) (hn : r.length ≤ n) : Rs (.list (r.map PyData.int)) 1 (4 * n + 3) := by
  have q := Rs.list (rs_ints h)
  rw [List.length_map] at q
  exact q.mono (Nat.le_refl _) (by omega)
theorem rs_map {φ : List Int → D} {L : List (List Int)} {k c : Nat} (h : ∀ r ∈ L, Rs (φ r) k c) : ∀ x ∈ L.map φ, Rs x k c := fun x hx => by
  obtain ⟨r, hr, rfl⟩ := List.mem_map.mp hx
  exact h r hr
theorem rs_hand {T : List (List Int)} {m n : Nat} (h : Tbl T m n) (hm : m ≤ 100) (hn : n ≤ 100) {H : D} (hh : Hand T H) : mReprOk H = true ∧ PyData.strOk H.shown = true := by
  have e : ∀ r ∈ T, (∀ z ∈ r, -9 ≤ z ∧ z ≤ 9) ∧ r.length ≤ 100 := fun r hr => ⟨fun z hz => by have := h.ent r hr z hz; unfold M.V3 at this; omega, by have := h.row r hr; omega⟩
  have hl : T.length ≤ 100 := by have := h.len; omega
  cases hh with
  | tt =>
    have q := Rs.tuple (rs_map (φ := rD) (L := T) fun r hr => rs_rD (e r hr).1 (e r hr).2)
    rw [List.length_map] at q
    exact q.ok (by omega) (by omega)
  | ll =>
    have q := Rs.list (rs_map (φ := fun r => .list (r.map PyData.int)) (L := T) fun r hr => rs_lD (e r hr).1 (e r hr).2)
    rw [List.length_map] at q
    exact q.ok (by omega) (by omega)
  | tl =>
    have q := Rs.tuple (rs_map (φ := fun r => .list (r.map PyData.int)) (L := T) fun r hr => rs_lD (e r hr).1 (e r hr).2)
    rw [List.length_map] at q
    exact q.ok (by omega) (by omega)
/-- two lists of lots -/
theorem rs_two {A B : List (List Int)} (ha : A.length ≤ 100) (hb : B.length ≤ 100) (h : ∀ L, L = A ∨ L = B → ∀ r ∈ L, (∀ z ∈ r, -9 ≤ z ∧ z ≤ 9) ∧ r.length ≤ 6) : mReprOk (.tuple [.tuple (A.map rD), .tuple (B.map rD)]) = true ∧ PyData.strOk (PyData.shown (.tuple [.tuple (A.map rD), .tuple (B.map rD)])) = true := by
  have q : ∀ L, L = A ∨ L = B → Rs (.tuple (L.map rD)) 2 (29 * 100 + 3) := fun L hL => by
    have q := Rs.tuple (rs_map (φ := rD) (L := L) fun r hr => rs_rD (h L hL r hr).1 (h L hL r hr).2)
    rw [List.length_map] at q
    have : L.length ≤ 100 := by rcases hL with rfl | rfl <;> assumption
    exact q.mono (by omega) (by omega)
  have q2 := Rs.tuple (xs := [.tuple (A.map rD), .tuple (B.map rD)]) (k := 2) (c := 29 * 100 + 3) fun x hx => by
    simp only [List.mem_cons, List.not_mem_nil, or_false] at hx
    rcases hx with rfl | rfl
    · exact q A (.inl rfl)
    · exact q B (.inr rfl)
  exact q2.ok (by omega) (by simp)
theorem repr_ok {m : Mir Sl} {d : D} {env env' : Env} {g g' : Pen} (h : m env g = .ok (.val d) env' g') (ok : mReprOk d = true) : mCall (g1 fRepr) (mCons m mNil) env g = .ok (.val (.str d.shown)) env' g' :=
  call_ok (cons_ok (ms := mNil) h rfl) (by
    show (if mReprOk d = true then ret (Sl.val (.str d.shown)) else bad) env' g' = _
    rw [if_pos ok, ret_app])
theorem eqv_str (x y : PySem.Str) : PyData.eqv (.str x) (.str y) = (x == y) := by rw [PyData.eqv]
theorem sh_str {x : PySem.Str} (h : PyData.strOk x = true) : SeqAt.shaped (.str x) = true := by simp [SeqAt.shaped, PyData.canLay0, PyData.depth, h]
theorem eq_str {ma mb : Mir Sl} {x y : PySem.Str} {neg : Bool} {env : Env} {g : Pen} (h1 : ma env g = .ok (.val (.str x)) env g) (h2 : mb env g = .ok (.val (.str y)) env g) (k1 : PyData.strOk x = true) (k2 : PyData.strOk y = true) : mOp (fEq neg) ma mb env g = .ok (.val (.bool (if neg then !(x == y) else x == y))) env g :=
  op_ok h1 h2 (by rw [fEq_app, if_pos ⟨sh_str k1, sh_str k2⟩, ret_app, eqv_str])
theorem str_refl (x : PySem.Str) : (x == x) = true := by simp
end Z
end
section
set_option linter.all false
set_option maxRecDepth 100000
set_option maxHeartbeats 4000000
/-! OB: a lap's table. -/
namespace Z
open PySem PySem.Spec PyProof.Rows L2
@[reducible] def LE (P : Addr) (x2 x3 x4 x5 x6 x7 x8 x9 x10 x11 x12 x13 x14 x15 : Option Sl) : Env := [none, some .pen, x2, x3, x4, x5, x6, x7, x8, x9, x10, x11, x12, x13, x14, x15, some (.tb P)]
theorem cons_penI {i : Nat} {ms : Mir (List Sl)} {l : List Sl} {env env2 : Env} {g g2 : Pen} (e : env[i]? = some (some .pen)) (h : ms env g = .ok l env2 g2) : mCons (mVar i) ms env g = .ok (.pen :: l) env2 g2 := cons_okS (pen_ok' e) rfl h
/-- a number and a draw -/
theorem add_draw {i : Nat} {a k : Int} {env : Env} {n : Nat} {g : Pen} (hp : env[i]? = some (some .pen)) (p : PenOk n g) (hn : n ≤ 1000000000) (hk : 0 < k) (hk2 : k ≤ 1000) : ∃ (z : Nat) (g' : Pen), mOp fAdd (mC (.int a)) (mCall (mFn m__law_draw) (mCons (mVar i) (mCons (mC (.int k)) mNil))) env g = .ok (.val (.int (a + z))) env g' ∧ (z : Int) < k ∧ PenOk (n + 1) g' := by
  obtain ⟨z, g', h1, h2, h3, h4⟩ := draw_app p hn hk hk2
  obtain ⟨z0, rfl⟩ := Int.eq_ofNat_of_zero_le h2
  exact ⟨z0, g', op_okP (ma := mC (.int a)) (x := .int a) rfl (call_draw (m := mC (.int k)) hp rfl h1) rfl, h3, h4⟩
/-- is a draw 0 -/
theorem draw_test {i : Nat} {k : Int} {env : Env} {n : Nat} {g : Pen} (hp : env[i]? = some (some .pen)) (p : PenOk n g) (hn : n ≤ 1000000000) (hk : 0 < k) (hk2 : k ≤ 1000) : ∃ (b : Bool) (g' : Pen), mTest (mOp (fEq false) (mCall (mFn m__law_draw) (mCons (mVar i) (mCons (mC (.int k)) mNil))) (mC (.int 0))) env g = .ok b env g' ∧ PenOk (n + 1) g' := by
  obtain ⟨z, g', h1, h2, h3, h4⟩ := draw_app p hn hk hk2
  refine ⟨decide (z = 0), g', test_ok (op_okP (mb := mC (.int 0)) (y := .int 0) (call_draw (m := mC (.int k)) hp rfl h1) rfl ?_), h4⟩
  rw [fEq_app, if_pos ⟨sh_int _, sh_int _⟩, ret_app, eqv_int]
  rfl
abbrev tab1 : Mir Ctl := (sSet 3 (mCall (mFn m__law_table) (mCons (mVar 1) (mCons (mOp fAdd (mC (.int 2)) (mCall (mFn m__law_draw) (mCons (mVar 1) (mCons (mC (.int 5)) mNil)))) (mCons (mOp fAdd (mC (.int 1)) (mCall (mFn m__law_draw) (mCons (mVar 1) (mCons (mC (.int 5)) mNil)))) mNil)))))
abbrev tab2 : Mir Ctl := (sIf (mTest (mOp (fEq false) (mCall (mFn m__law_draw) (mCons (mVar 1) (mCons (mC (.int 3)) mNil))) (mC (.int 0)))) (sSet 3 (mCall (mFn m__law_rings) (mCons (mVar 1) mNil))) sNil)
abbrev tab3 : Mir Ctl := (sIf (mTest (mOp (fEq false) (mCall (mFn m__law_draw) (mCons (mVar 1) (mCons (mC (.int 3)) mNil))) (mC (.int 0)))) (sSet 3 (mCall (mFn m__law_bent) (mCons (mVar 1) (mCons (mCall (mFn m__law_whole_table) (mCons (mVar 1) (mCons (mOp fAdd (mC (.int 1)) (mCall (mFn m__law_draw) (mCons (mVar 1) (mCons (mC (.int 6)) mNil)))) (mCons (mOp fAdd (mC (.int 1)) (mCall (mFn m__law_draw) (mCons (mVar 1) (mCons (mC (.int 5)) mNil)))) mNil)))) mNil)))) sNil)
section
variable {P : Addr} {x2 x3 x4 x5 x6 x7 x8 x9 x10 x11 x12 x13 x14 x15 : Option Sl} {k : Nat} {g : Pen}
theorem tab1_ok (p : PenOk k g) (hk : k + 1000 ≤ 1000000000) : ∃ T m n g', tab1 (LE P x2 x3 x4 x5 x6 x7 x8 x9 x10 x11 x12 x13 x14 x15) g = .ok .nx (LE P x2 (some (.val (tD T))) x4 x5 x6 x7 x8 x9 x10 x11 x12 x13 x14 x15) g' ∧ Tbl T m n ∧ m ≤ 6 ∧ n ≤ 6 ∧ PenOk (k + 1000) g' := by
  obtain ⟨a, ga, a1, a2, a3⟩ := add_draw (i := 1) (a := 2) (k := 5) (env := LE P x2 x3 x4 x5 x6 x7 x8 x9 x10 x11 x12 x13 x14 x15) rfl p (by omega) (by omega) (by omega)
  obtain ⟨b, gb, b1, b2, b3⟩ := add_draw (i := 1) (a := 1) (k := 5) (env := LE P x2 x3 x4 x5 x6 x7 x8 x9 x10 x11 x12 x13 x14 x15) rfl a3 (by omega) (by omega) (by omega)
  have q : (1 + b) * (2 + a) ≤ 5 * 6 := Nat.mul_le_mul (by omega) (by omega)
  obtain ⟨T, gc, c1, c2, c3⟩ := ev_table b3 (tall := 2 + a) (wide := 1 + b) (by omega) (by omega) (by omega) (by omega) (by omega)
  refine ⟨T, 2 + a, 1 + b, gc, set_ok (i := 3) (call_ok (cons_penI (i := 1) rfl (cons_ok a1 (cons_ok (ms := mNil) b1 rfl))) (fn_ok ?_)), c2, by omega, by omega, c3.mono (by omega)⟩
  exact c1
theorem tab2_ok {T0 : List (List Int)} {m0 n0 : Nat} (h : Tbl T0 m0 n0) (hm : m0 ≤ 6) (hn : n0 ≤ 6) (p : PenOk k g) (hk : k + 1000 ≤ 1000000000) : ∃ T m n g', tab2 (LE P x2 (some (.val (tD T0))) x4 x5 x6 x7 x8 x9 x10 x11 x12 x13 x14 x15) g = .ok .nx (LE P x2 (some (.val (tD T))) x4 x5 x6 x7 x8 x9 x10 x11 x12 x13 x14 x15) g' ∧ Tbl T m n ∧ m ≤ 6 ∧ n ≤ 6 ∧ PenOk (k + 1000) g' := by
  obtain ⟨b, ga, a1, a2⟩ := draw_test (i := 1) (k := 3) (env := LE P x2 (some (.val (tD T0))) x4 x5 x6 x7 x8 x9 x10 x11 x12 x13 x14 x15) rfl p (by omega) (by omega) (by omega)
  cases b with
  | false =>
    refine ⟨T0, m0, n0, ga, ?_, h, hm, hn, a2.mono (by omega)⟩
    exact (if_no a1).trans rfl
  | true =>
    obtain ⟨T, gb, m, b1, b2, b3, b4⟩ := ev_rings a2 (by omega)
    exact ⟨T, m, m, gb, (if_yes a1).trans (set_ok (i := 3) (call_ok (cons_penI (i := 1) (ms := mNil) rfl rfl) (fn_ok b1))), b2, b3, b3, b4.mono (by omega)⟩
theorem tab3_ok {T0 : List (List Int)} {m0 n0 : Nat} (h : Tbl T0 m0 n0) (hm : m0 ≤ 6) (hn : n0 ≤ 6) (p : PenOk k g) (hk : k + 4000 ≤ 1000000000) : ∃ T m n g', tab3 (LE P x2 (some (.val (tD T0))) x4 x5 x6 x7 x8 x9 x10 x11 x12 x13 x14 x15) g = .ok .nx (LE P x2 (some (.val (tD T))) x4 x5 x6 x7 x8 x9 x10 x11 x12 x13 x14 x15) g' ∧ Tbl T m n ∧ m ≤ 6 ∧ n ≤ 6 ∧ PenOk (k + 4000) g' := by
  obtain ⟨b, ga, a1, a2⟩ := draw_test (i := 1) (k := 3) (env := LE P x2 (some (.val (tD T0))) x4 x5 x6 x7 x8 x9 x10 x11 x12 x13 x14 x15) rfl p (by omega) (by omega) (by omega)
  cases b with
  | false =>
    refine ⟨T0, m0, n0, ga, ?_, h, hm, hn, a2.mono (by omega)⟩
    exact (if_no a1).trans rfl
  | true =>
    obtain ⟨a, gb, b1, b2, b3⟩ := add_draw (i := 1) (a := 1) (k := 6) (env := LE P x2 (some (.val (tD T0))) x4 x5 x6 x7 x8 x9 x10 x11 x12 x13 x14 x15) rfl a2 (by omega) (by omega) (by omega)
    obtain ⟨c, gc, c1, c2, c3⟩ := add_draw (i := 1) (a := 1) (k := 5) (env := LE P x2 (some (.val (tD T0))) x4 x5 x6 x7 x8 x9 x10 x11 x12 x13 x14 x15) rfl b3 (by omega) (by omega) (by omega)
    obtain ⟨T1, m, n, gd, d1, d2, d3, d4, d5⟩ := ev_whole_table (tall := 1 + a) (wide := 1 + c) (by omega) (by omega) (by omega) (by omega) c3 (by omega)
    obtain ⟨T, ge, e1, e2, e3⟩ := ev_bent d2 (by omega) (by omega) d5 (by omega)
    have w := call_ok (F := mFn m__law_whole_table) (cons_penI (i := 1) (env := LE P x2 (some (.val (tD T0))) x4 x5 x6 x7 x8 x9 x10 x11 x12 x13 x14 x15) rfl (cons_ok b1 (cons_ok (ms := mNil) c1 rfl))) (fn_ok d1)
    exact ⟨T, m, n, ge, (if_yes a1).trans (set_ok (i := 3) (call_ok (cons_penI (i := 1) rfl (cons_ok (ms := mNil) w rfl)) (fn_ok e1))), e2, by omega, by omega, e3.mono (by omega)⟩
end
end Z
end
section
set_option linter.all false
set_option maxRecDepth 100000
set_option maxHeartbeats 4000000
/-! OC: a lap of the law. -/
namespace Z
open PySem PySem.Spec PyProof.Rows L2
theorem lots_fn : m__law_lots = m_lots_of := rfl
theorem setO_false' (o : Option Sl) : setO false o = o := by
  rcases o with _ | sl
  · rfl
  · cases sl <;> rfl
theorem not_test {m : Mir Bool} {b : Bool} {env env' : Env} {g g' : Pen} (h : m env g = .ok b env' g') : mNotB m env g = .ok (!b) env' g' := by rw [mNotB_app, bnd_ok h]; rfl
theorem after_ok {is : List Nat} {m : Mir Ctl} {env env' : Env} {g g' : Pen} (h : m env g = .ok .nx env' g') : sAfter is m env g = .ok .nx (setlE is 0 env') g' := by rw [sAfter_app, h]
theorem or_test {a b : Mir Bool} {p q : Bool} {env : Env} {g : Pen} (h1 : a env g = .ok p env g) (h2 : b env g = .ok q env g) : mOrB a b env g = .ok (p || q) env g := by
  rw [mOrB_app, bnd_ok h1]
  cases p with
  | true => rfl
  | false => exact h2
theorem len_slot {i : Nat} {T : List (List Int)} {m : Nat} {env : Env} {g : Pen} (e : env[i]? = some (some (.val (tD T)))) (h : T.length = m) : mCall (g1 fLen) (mCons (mVar i) mNil) env g = .ok (.val (.int m)) env g := by
  refine call_ok (cons_ok (ms := mNil) (var_ok e) rfl) ?_
  show fLen (.val (tD T)) env g = _
  rw [fLen_app, seq_tD, onS_some, ret_app, List.length_map, h]
abbrev lap5 : Mir Ctl := (sPar 4 5 (mCall (mFn m__law_lots) (mCons (mCall (g1 fLen) (mCons (mVar 3) mNil)) mNil)) (mCall (mFn m__law_as_passed) (mCons (mVar 1) (mCons (mVar 3) mNil))))
abbrev lap6 : Mir Ctl := (sAfter [7] (sSet 7 (mLc (itVal (mVar 4)) [6] (.name 6) (mNotB (mTest (mCall (mFn m__law_split) (mCons (mVar 3) (mCons (mVar 6) mNil))))) (mVar 6))))
abbrev lap7 : Mir Ctl := (sSet 8 (mCall (mFn m__law_least) (mCons (mVar 7) mNil)))
abbrev lap8 : Mir Ctl := (sAfter [10] (sSet 10 (mLc (itVal (mVar 4)) [6] (.name 6) (mNotB (mTest (mCall (g1 fAny) (mCons (mFz (mLc (itVal (mVar 8)) [9] (.name 9) mYes (mCall (mFn m__law_is_part) (mCons (mVar 9) (mCons (mVar 6) mNil))))) mNil)))) (mVar 6))))
abbrev lap9 : Mir Ctl := (sSet 11 (mCall (g1 fRepr) (mCons (mVar 5) mNil)))
abbrev lap10 : Mir Ctl := (sSet 12 (mTup (mCons (mCall (mFn m_least_bad_lots) (mCons (mVar 5) mNil)) (mCons (mCall (mFn m_greatest_whole_lots) (mCons (mVar 5) mNil)) mNil))))
abbrev lap11 : Mir Ctl := (sIf (mOrB (mTest (mOp (fEq true) (mCall (g1 fRepr) (mCons (mVar 12) mNil)) (mCall (g1 fRepr) (mCons (mTup (mCons (mCall (g1 fTuple) (mCons (mVar 8) mNil)) (mCons (mCall (g1 fTuple) (mCons (mCall (mFn m__law_greatest) (mCons (mVar 10) mNil)) mNil)) mNil))) mNil)))) (mTest (mOp (fEq true) (mCall (g1 fRepr) (mCons (mVar 5) mNil)) (mVar 11)))) (sRet (mC (.bool false))) sNil)
section
variable {P : Addr} {x2 x4 x5 x6 x7 x8 x9 x10 x11 x12 x13 x14 x15 : Option Sl} {k : Nat} {g : Pen} {T : List (List Int)} {m n : Nat}
theorem leastL_mem {l : List Int} (h : l ∈ leastL T m n) (h1 : 1 ≤ m) (hm : m ≤ 6) : l ∈ lotsL m := by
  rw [leastL, M.gather_is_least (lots_ahead h1 hm)] at h
  exact (List.mem_filter.mp (List.mem_filter.mp h).1).1
/-- the great lots -/
def greatL (T : List (List Int)) (m n : Nat) : List (List Int) := (lotsL m).filter (greatB (leastL T m n) m)
theorem lap_rest (h : Tbl T m n) (hm : m ≤ 6) (hn : n ≤ 6) (p : PenOk k g) (hk : k + 1 ≤ 1000000000) : ∃ env g', sSeq lap5 (sSeq lap6 (sSeq lap7 (sSeq lap8 (sSeq lap9 (sSeq lap10 lap11))))) (LE P x2 (some (.val (tD T))) x4 x5 x6 x7 x8 x9 x10 x11 x12 x13 x14 x15) g = .ok .nx env g' ∧ PenOk (k + 1) g' ∧ ∃ y2 y3 y4 y5 y6 y7 y8 y9 y10 y11 y12, env = LE P y2 y3 y4 y5 y6 y7 y8 y9 y10 y11 y12 x13 x14 x15 := by
  have h1 : 1 ≤ m := h.hm
  obtain ⟨H, g', a1, hh, a2⟩ := ev_as_passed p (by omega) T
  let L := lotsL m
  let bad := L.filter fun l => !splitB T n l
  let bar := leastL T m n
  let good := L.filter fun l => !bar.any fun y => inB y l
  have e1 : leastO bad = bar := least_same h hm
  have e2 : greatO good = greatL T m n := great_same h1 hm bar
  have s5 : lap5 (LE P x2 (some (.val (tD T))) x4 x5 x6 x7 x8 x9 x10 x11 x12 x13 x14 x15) g = .ok .nx (LE P x2 (some (.val (tD T))) (some (.val (lstD L))) (some (.val H)) x6 x7 x8 x9 x10 x11 x12 x13 x14 x15) g' := by
    have c1 : mCall (g1 fLen) (mCons (mVar 3) mNil) (LE P x2 (some (.val (tD T))) x4 x5 x6 x7 x8 x9 x10 x11 x12 x13 x14 x15) g = .ok (.val (.int m)) (LE P x2 (some (.val (tD T))) x4 x5 x6 x7 x8 x9 x10 x11 x12 x13 x14 x15) g := len_slot rfl h.len
    have c2 : mCall (mFn m__law_lots) (mCons (mCall (g1 fLen) (mCons (mVar 3) mNil)) mNil) (LE P x2 (some (.val (tD T))) x4 x5 x6 x7 x8 x9 x10 x11 x12 x13 x14 x15) g = .ok (.val (lstD L)) (LE P x2 (some (.val (tD T))) x4 x5 x6 x7 x8 x9 x10 x11 x12 x13 x14 x15) g := call_ok (cons_ok (ms := mNil) c1 rfl) (fn_ok (by rw [lots_fn]; exact ev_lots_of h1 hm g))
    have c3 : mCall (mFn m__law_as_passed) (mCons (mVar 1) (mCons (mVar 3) mNil)) (LE P x2 (some (.val (tD T))) x4 x5 x6 x7 x8 x9 x10 x11 x12 x13 x14 x15) g = .ok (.val H) (LE P x2 (some (.val (tD T))) x4 x5 x6 x7 x8 x9 x10 x11 x12 x13 x14 x15) g' := call_ok (cons_penI (i := 1) rfl (cons_ok (ms := mNil) (var_ok (i := 3) rfl) rfl)) (fn_ok a1)
    exact par_ok c2 c3
  have s6 : lap6 (LE P x2 (some (.val (tD T))) (some (.val (lstD L))) (some (.val H)) x6 x7 x8 x9 x10 x11 x12 x13 x14 x15) g' = .ok .nx (LE P x2 (some (.val (tD T))) (some (.val (lstD L))) (some (.val H)) x6 (some (.val (lstD bad))) x8 x9 x10 x11 x12 x13 x14 x15) g' := by
    refine (after_ok (set_ok (i := 7) (lc_pureT L rD rD (fun l => !splitB T n l) (env := LE P x2 (some (.val (tD T))) (some (.val (lstD L))) (some (.val H)) x6 x7 x8 x9 x10 x11 x12 x13 x14 x15) rfl fun l hl => ⟨_, rfl, not_test (test_ok (call_ok (cons_ok (var_ok (i := 3) rfl) (cons_ok (ms := mNil) (var_ok (i := 6) rfl) rfl)) (fn_ok (ev_split g' h (by omega) (lots_lot h1 hm hl))))), fun _ => ⟨_, var_ok (i := 6) rfl⟩⟩))).trans ?_
    simp [LE, setO_false']
    rfl
  have s7 : lap7 (LE P x2 (some (.val (tD T))) (some (.val (lstD L))) (some (.val H)) x6 (some (.val (lstD bad))) x8 x9 x10 x11 x12 x13 x14 x15) g' = .ok .nx (LE P x2 (some (.val (tD T))) (some (.val (lstD L))) (some (.val H)) x6 (some (.val (lstD bad))) (some (.val (lstD bar))) x9 x10 x11 x12 x13 x14 x15) g' := by
    have q := ev_law_least g' bad
    rw [e1] at q
    exact set_ok (i := 8) (call_ok (cons_ok (ms := mNil) (var_ok (i := 7) rfl) rfl) (fn_ok q))
  have s8 : lap8 (LE P x2 (some (.val (tD T))) (some (.val (lstD L))) (some (.val H)) x6 (some (.val (lstD bad))) (some (.val (lstD bar))) x9 x10 x11 x12 x13 x14 x15) g' = .ok .nx (LE P x2 (some (.val (tD T))) (some (.val (lstD L))) (some (.val H)) x6 (some (.val (lstD bad))) (some (.val (lstD bar))) x9 (some (.val (lstD good))) x11 x12 x13 x14 x15) g' := by
    have lc := lc_pureT (g := g') (vs := [6]) (t := .name 6) (mt := mNotB (mTest (mCall (g1 fAny) (mCons (mFz (mLc (itVal (mVar 8)) [9] (.name 9) mYes (mCall (mFn m__law_is_part) (mCons (mVar 9) (mCons (mVar 6) mNil))))) mNil)))) (me := mVar 6) (mi := itVal (mVar 4)) L rD rD (fun l => !bar.any fun y => inB y l) (env := LE P x2 (some (.val (tD T))) (some (.val (lstD L))) (some (.val H)) x6 (some (.val (lstD bad))) (some (.val (lstD bar))) x9 x10 x11 x12 x13 x14 x15) rfl fun l hl => by
      refine ⟨_, rfl, not_test (test_ok ?_), fun _ => ⟨_, var_ok (i := 6) rfl⟩⟩
      refine call_ok (cons_ok (ms := mNil) (fz_ol (lc_mapP bar rD (fun y => .bool (inB y l)) rfl fun y hy => ?_)) rfl) ?_
      · exact ⟨_, rfl, _, call_ok (l := [.val (rD y), .val (rD l)]) (cons_ok (var_ok (i := 9) rfl) (cons_ok (ms := mNil) (var_ok (i := 6) rfl) rfl)) (fn_ok (g' := g') (d := .val (.bool (inB y l))) (by rw [part_is_within]; exact ev_within g' y l))⟩
      · show fAny (.val (.list (bar.map fun y => .bool (inB y l)))) _ g' = _
        rw [fAny_list, boolsOf_mapF, onS_some, ret_app, List.any_map]
        rfl
    refine (after_ok (set_ok (i := 10) lc)).trans ?_
    simp [LE, setO_false']
    rfl
  obtain ⟨ok1, ok2⟩ := rs_hand h (by omega) (by omega) hh
  have s9 : lap9 (LE P x2 (some (.val (tD T))) (some (.val (lstD L))) (some (.val H)) x6 (some (.val (lstD bad))) (some (.val (lstD bar))) x9 (some (.val (lstD good))) x11 x12 x13 x14 x15) g' = .ok .nx (LE P x2 (some (.val (tD T))) (some (.val (lstD L))) (some (.val H)) x6 (some (.val (lstD bad))) (some (.val (lstD bar))) x9 (some (.val (lstD good))) (some (.val (.str H.shown))) x12 x13 x14 x15) g' :=
    set_ok (i := 11) (repr_ok (var_ok (i := 5) rfl) ok1)
  let fnd : D := .tuple [.tuple (bar.map rD), .tuple ((greatL T m n).map rD)]
  have s10 : lap10 (LE P x2 (some (.val (tD T))) (some (.val (lstD L))) (some (.val H)) x6 (some (.val (lstD bad))) (some (.val (lstD bar))) x9 (some (.val (lstD good))) (some (.val (.str H.shown))) x12 x13 x14 x15) g' = .ok .nx (LE P x2 (some (.val (tD T))) (some (.val (lstD L))) (some (.val H)) x6 (some (.val (lstD bad))) (some (.val (lstD bar))) x9 (some (.val (lstD good))) (some (.val (.str H.shown))) (some (.val fnd)) x13 x14 x15) g' := by
    refine set_ok (i := 12) (sl := .val fnd) (g := g') (env := LE P x2 (some (.val (tD T))) (some (.val (lstD L))) (some (.val H)) x6 (some (.val (lstD bad))) (some (.val (lstD bar))) x9 (some (.val (lstD good))) (some (.val (.str H.shown))) x12 x13 x14 x15) (env' := LE P x2 (some (.val (tD T))) (some (.val (lstD L))) (some (.val H)) x6 (some (.val (lstD bad))) (some (.val (lstD bar))) x9 (some (.val (lstD good))) (some (.val (.str H.shown))) x12 x13 x14 x15) ?_
    rw [mTup_app, bnd_ok (cons_ok (call_ok (cons_ok (ms := mNil) (var_ok (i := 5) rfl) rfl) (fn_ok (ev_least_bad g' h hm (by omega) hh))) (cons_ok (ms := mNil) (call_ok (cons_ok (ms := mNil) (var_ok (i := 5) rfl) rfl) (fn_ok (ev_greatest g' h hm (by omega) hh))) rfl))]
    rfl
  have inL : ∀ l ∈ L, (∀ z ∈ l, -9 ≤ z ∧ z ≤ 9) ∧ l.length ≤ 6 := fun l hl => by
    obtain ⟨_, q2, q3⟩ := lots_lot h1 hm hl
    exact ⟨fun z hz => by have := q3 z hz; omega, q2⟩
  have l63 : L.length ≤ 63 := lots_len m (by simp; omega)
  have lb : bar.length ≤ 63 := by
    show (leastL T m n).length ≤ 63
    rw [leastL, M.gather_is_least (lots_ahead h1 hm)]
    exact Nat.le_trans (List.length_filter_le _ _) (Nat.le_trans (List.length_filter_le _ _) l63)
  have lg : (greatL T m n).length ≤ 63 := Nat.le_trans (List.length_filter_le _ _) l63
  obtain ⟨ok3, ok4⟩ := rs_two (A := bar) (B := greatL T m n) (by omega) (by omega) fun L' hL r hr => by
    rcases hL with rfl | rfl
    · exact inL r (leastL_mem hr h1 hm)
    · exact inL r (List.mem_filter.mp hr).1
  let E : Env := LE P x2 (some (.val (tD T))) (some (.val (lstD L))) (some (.val H)) x6 (some (.val (lstD bad))) (some (.val (lstD bar))) x9 (some (.val (lstD good))) (some (.val (.str H.shown))) (some (.val fnd)) x13 x14 x15
  have hg : mCall (g1 fTuple) (mCons (mCall (mFn m__law_greatest) (mCons (mVar 10) mNil)) mNil) E g' = .ok (.val (.tuple ((greatL T m n).map rD))) E g' := by
    have q := ev_law_greatest g' good
    rw [e2] at q
    exact call_ok (l := [.val (lstD (greatL T m n))]) (cons_ok (ms := mNil) (call_ok (cons_ok (ms := mNil) (var_ok (i := 10) rfl) rfl) (fn_ok q)) rfl) rfl
  have hw : mTup (mCons (mCall (g1 fTuple) (mCons (mVar 8) mNil)) (mCons (mCall (g1 fTuple) (mCons (mCall (mFn m__law_greatest) (mCons (mVar 10) mNil)) mNil)) mNil)) E g' = .ok (.val fnd) E g' := by
    rw [mTup_app, bnd_ok (cons_ok (call_ok (l := [.val (lstD bar)]) (cons_ok (ms := mNil) (var_ok (i := 8) rfl) rfl) (r := .ok (.val (.tuple (bar.map rD))) E g') rfl) (cons_ok (ms := mNil) hg rfl))]
    rfl
  have t1 := test_ok (eq_str (neg := true) (repr_ok (var_ok (i := 12) (env := E) (g := g') rfl) ok3) (repr_ok hw ok3) ok4 ok4)
  have t2 := test_ok (eq_str (neg := true) (repr_ok (var_ok (i := 5) (env := E) (g := g') rfl) ok1) (var_ok (i := 11) rfl) ok2 ok2)
  simp only [str_refl, Bool.not_true, ↓reduceIte] at t1 t2
  have s11 : lap11 E g' = .ok .nx E g' := (if_no (or_test t1 t2)).trans rfl
  refine ⟨E, g', ?_, a2, _, _, _, _, _, _, _, _, _, _, _, rfl⟩
  rw [seq_ok s5, seq_ok s6, seq_ok s7, seq_ok s8, seq_ok s9, seq_ok s10, s11]
end
end Z
end
section
set_option linter.all false
set_option maxRecDepth 100000
set_option maxHeartbeats 4000000
/-! OD: the law. -/
namespace Z
open PySem PySem.Spec PyProof.Rows L2
def lapL : Mir Ctl := sSeq tab1 (sSeq tab2 (sSeq tab3 (sSeq lap5 (sSeq lap6 (sSeq lap7 (sSeq lap8 (sSeq lap9 (sSeq lap10 lap11))))))))
def odds : List D := [.none, .tuple [], .tuple [.tuple [.int 2]], .tuple [.tuple [.int 1, .int 0], .tuple [.int 1]], .str "1", .tuple [.tuple [.bool true]]]
abbrev oddM : Mir Ctl := (sSet 13 (mCall (mFn m__law_pick) (mCons (mVar 1) (mCons (mFz (mLst (mCons (mC .none) (mCons (mTup mNil) (mCons (mTup (mCons (mTup (mCons (mC (.int 2)) mNil)) mNil)) (mCons (mTup (mCons (mTup (mCons (mC (.int 1)) (mCons (mC (.int 0)) mNil))) (mCons (mTup (mCons (mC (.int 1)) mNil)) mNil))) (mCons (mC (.str "1")) (mCons (mTup (mCons (mTup (mCons (mC (.bool true)) mNil)) mNil)) mNil)))))))) mNil))))
abbrev endM (n : Nat) : Mir Ctl := (sRet (mCall (g1 fAll) (mCons (mFz (mLc (itOwn 14) [15] (.name 15) mYes (mOp (fEq false) (mCall (g1 fRepr) (mCons (mCall (fFault faultTb n lamT) (mCons (mVar 15) mNil)) mNil)) (mCall (g1 fRepr) (mCons (mTup (mCons (mC (.str "table")) (mCons (mVar 13) mNil))) mNil))))) mNil)))
theorem b_law_is (n : Nat) (P : Addr) : b_law n P = sSeq (sFor (itRng1 (mCons (mC (.int 2)) mNil)) (.name 2) lapL) (sSeq oddM (sSeq (sSet 14 (mLst (mCons (mLam 16 P 0 n) mNil))) (sSeq (sExpr (mAppend 14 (mLam 16 P 1 n))) (endM n)))) := rfl
theorem odd_bad : ∀ d ∈ odds, ∀ g : Pen, m_least_bad_lots [.val d] g = .exc ⟨"BadTable", [("table", d)]⟩ g ∧ m_greatest_whole_lots [.val d] g = .exc ⟨"BadTable", [("table", d)]⟩ g := by
  intro d hd g
  simp only [odds, List.mem_cons, List.not_mem_nil, or_false] at hd
  rcases hd with rfl | rfl | rfl | rfl | rfl | rfl <;> exact ⟨rfl, rfl⟩
theorem odd_ok : ∀ d ∈ odds, mReprOk (.tuple [.str "table", d]) = true ∧ PyData.strOk (PyData.shown (.tuple [.str "table", d])) = true := by
  intro d hd
  simp only [odds, List.mem_cons, List.not_mem_nil, or_false] at hd
  rcases hd with rfl | rfl | rfl | rfl | rfl | rfl <;> decide +kernel
theorem odd_fault (d : D) : faultD faultTb ⟨"BadTable", [("table", d)]⟩ = some (.tuple [.str "table", d]) := rfl
section
variable {P : Addr} {x2 x3 x4 x5 x6 x7 x8 x9 x10 x11 x12 x13 x14 x15 : Option Sl} {k n : Nat} {g : Pen}
theorem lap_ok' (p : PenOk k g) (hk : k + 10000 ≤ 1000000000) : ∃ env g', lapL (LE P x2 x3 x4 x5 x6 x7 x8 x9 x10 x11 x12 x13 x14 x15) g = .ok .nx env g' ∧ PenOk (k + 10000) g' ∧ ∃ y2 y3 y4 y5 y6 y7 y8 y9 y10 y11 y12, env = LE P y2 y3 y4 y5 y6 y7 y8 y9 y10 y11 y12 x13 x14 x15 := by
  obtain ⟨T1, m1, n1, ga, a1, a2, a3, a4, a5⟩ := tab1_ok (P := P) (x2 := x2) (x3 := x3) (x4 := x4) (x5 := x5) (x6 := x6) (x7 := x7) (x8 := x8) (x9 := x9) (x10 := x10) (x11 := x11) (x12 := x12) (x13 := x13) (x14 := x14) (x15 := x15) p (by omega)
  obtain ⟨T2, m2, n2, gb, b1, b2, b3, b4, b5⟩ := tab2_ok (P := P) (x2 := x2) (x4 := x4) (x5 := x5) (x6 := x6) (x7 := x7) (x8 := x8) (x9 := x9) (x10 := x10) (x11 := x11) (x12 := x12) (x13 := x13) (x14 := x14) (x15 := x15) a2 a3 a4 a5 (by omega)
  obtain ⟨T3, m3, n3, gc, c1, c2, c3, c4, c5⟩ := tab3_ok (P := P) (x2 := x2) (x4 := x4) (x5 := x5) (x6 := x6) (x7 := x7) (x8 := x8) (x9 := x9) (x10 := x10) (x11 := x11) (x12 := x12) (x13 := x13) (x14 := x14) (x15 := x15) b2 b3 b4 b5 (by omega)
  obtain ⟨env, gd, d1, d2, d3⟩ := lap_rest (P := P) (x2 := x2) (x4 := x4) (x5 := x5) (x6 := x6) (x7 := x7) (x8 := x8) (x9 := x9) (x10 := x10) (x11 := x11) (x12 := x12) (x13 := x13) (x14 := x14) (x15 := x15) c2 c3 c4 c5 (by omega)
  refine ⟨env, gd, ?_, d2.mono (by omega), d3⟩
  unfold lapL
  rw [seq_ok a1, seq_ok b1, seq_ok c1]
  exact d1
theorem lam_is {env : Env} {j : Nat} (e : env[j]? = some (some (.tb P))) : mLam j P k n env g = .ok (.val (cloD k n)) env g := by
  unfold mLam
  rw [e]
  exact if_pos rfl
theorem fault_is {q : List Nat × Mir Sl} {env : Env} {d : D} (h1 : lamT k = some q) (h2 : q.2 (capE q.1 env) g = .exc ⟨"BadTable", [("table", d)]⟩ g) : fFault faultTb n lamT [.val (cloD k n)] env g = .ok (.val (.tuple [.str "table", d])) env g := by
  unfold fFault
  simp only [cloOf_clo, h1]
  refine fn_ok ?_
  rw [h2]
  show (match faultD faultTb ⟨"BadTable", [("table", d)]⟩ with | some d => FRes.ok (Sl.val d) g | none => .bad) = _
  rw [odd_fault]
end
theorem exc_call {F : FMir} {ms : Mir (List Sl)} {l : List Sl} {env : Env} {g g' : Pen} {x : Xc} (h : ms env g = .ok l env g) (hf : F l g = .exc x g') : mCall (mFn F) ms env g = .exc x g' := by
  rw [mCall_app, bnd_ok h]
  unfold mFn
  rw [hf]
section
end
theorem law_true : LawTrue N_law.length b_law := by
  intro n P ns fold hns f0 f1
  have p0 : PenOk 0 ⟨ns, 0, 0, 0, fold⟩ := ⟨Nat.le_refl _, f0, by show fold < 2147483648; omega, Int.le_refl _⟩
  obtain ⟨e, ga, L, q, y2, y3, y4, y5, y6, y7, y8, y9, y10, y11, y12, rfl⟩ := for_all (t := .name 2) (mb := lapL) (φ := fun (i : Nat) => PyData.int (i : Int)) (fun i env g => PenOk (i * 10000) g ∧ ∃ y2 y3 y4 y5 y6 y7 y8 y9 y10 y11 y12, env = LE P y2 y3 y4 y5 y6 y7 y8 y9 y10 y11 y12 none none none) (List.range 2) 0
    (fun i x hx env g s => by
      obtain ⟨p, y2, y3, y4, y5, y6, y7, y8, y9, y10, y11, y12, rfl⟩ := s
      have hi : i < 2 := by simpa using (List.getElem?_eq_some_iff.mp hx).1
      obtain ⟨env, g', a1, a2, a3⟩ := lap_ok' (P := P) (x2 := some (.val (.int x))) (x3 := y3) (x4 := y4) (x5 := y5) (x6 := y6) (x7 := y7) (x8 := y8) (x9 := y9) (x10 := y10) (x11 := y11) (x12 := y12) (x13 := none) (x14 := none) (x15 := none) p (by omega)
      exact ⟨_, rfl, .nx, env, g', a1, .inl rfl, a2.mono (by omega), a3⟩)
    (LE P none none none none none none none none none none none none none none) ⟨ns, 0, 0, 0, fold⟩ ⟨p0, _, _, _, _, _, _, _, _, _, _, _, rfl⟩
  have q : PenOk 20000 ga := q
  obtain ⟨d, gb, b1, b2, b3⟩ := ev_pick q (by omega) (ds := odds) (by simp [odds]) (by decide)
  let E1 : Env := LE P y2 y3 y4 y5 y6 y7 y8 y9 y10 y11 y12 (some (.val d)) none none
  have s1 : oddM (LE P y2 y3 y4 y5 y6 y7 y8 y9 y10 y11 y12 none none none) ga = .ok .nx E1 gb := set_ok (i := 13) (call_ok (cons_penI (i := 1) rfl (cons_ok (ms := mNil) (d := .list odds) rfl rfl)) (fn_ok b1))
  let E2 : Env := LE P y2 y3 y4 y5 y6 y7 y8 y9 y10 y11 y12 (some (.val d)) (some (.ol [cloD 0 n])) none
  have s2 : sSet 14 (mLst (mCons (mLam 16 P 0 n) mNil)) E1 gb = .ok .nx E2 gb := by
    refine set_ok (i := 14) (sl := .ol [cloD 0 n]) (env' := E1) ?_
    rw [mLst_app, bnd_ok (cons_ok (ms := mNil) (lam_is (P := P) (env := E1) rfl) rfl)]
    rfl
  let E3 : Env := LE P y2 y3 y4 y5 y6 y7 y8 y9 y10 y11 y12 (some (.val d)) (some (.ol [cloD 0 n, cloD 1 n])) none
  have s3 : sExpr (mAppend 14 (mLam 16 P 1 n)) E2 gb = .ok .nx E3 gb := by
    have a : mAppend 14 (mLam 16 P 1 n) E2 gb = .ok (.val .none) E3 gb := by
      rw [mAppend_app, grd_app, if_pos (show isOl E2 14 = true from rfl), bnd_ok (lam_is (P := P) (env := E2) rfl)]
      rfl
    rw [sExpr_app, bnd_ok a]
    rfl
  have s4 : endM n E3 gb = .ok (.rt (.val (.bool true))) E3 gb := by
    refine ret_ok (call_ok (l := [.val (.list [.bool true, .bool true])]) (cons_ok (ms := mNil) (fz_ol (lc_mapP ([0, 1] : List Nat) (fun k => cloD k n) (fun _ => .bool true) rfl fun k hk => ?_)) rfl) rfl)
    let E4 : Env := (blankE [15] 0 E3).set 15 (some (.val (cloD k n)))
    obtain ⟨o1, o2⟩ := odd_ok d b2
    have fl : fFault faultTb n lamT [.val (cloD k n)] E4 gb = .ok (.val (.tuple [.str "table", d])) E4 gb := by
      simp only [List.mem_cons, List.not_mem_nil, or_false] at hk
      rcases hk with rfl | rfl
      · exact fault_is (q := ([13], lamM0)) rfl (exc_call (l := [.val d]) (env := [some (.val d)]) (cons_ok (ms := mNil) (var_ok (i := 0) rfl) rfl) (odd_bad d b2 gb).1)
      · exact fault_is (q := ([13], lamM1)) rfl (exc_call (l := [.val d]) (env := [some (.val d)]) (cons_ok (ms := mNil) (var_ok (i := 0) rfl) rfl) (odd_bad d b2 gb).2)
    have r1 : mCall (g1 fRepr) (mCons (mCall (fFault faultTb n lamT) (mCons (mVar 15) mNil)) mNil) E4 gb = .ok (.val (.str (PyData.shown (.tuple [.str "table", d])))) E4 gb := repr_ok (call_ok (cons_ok (ms := mNil) (var_ok (i := 15) rfl) rfl) fl) o1
    have r2 : mCall (g1 fRepr) (mCons (mTup (mCons (mC (.str "table")) (mCons (mVar 13) mNil))) mNil) E4 gb = .ok (.val (.str (PyData.shown (.tuple [.str "table", d])))) E4 gb := by
      refine repr_ok ?_ o1
      rw [mTup_app, bnd_ok (cons_ok (d := .str "table") (rfl : mC (.str "table") E4 gb = _) (cons_ok (ms := mNil) (var_ok (i := 13) rfl) rfl))]
      rfl
    have r3 := eq_str (neg := false) r1 r2 o2 o2
    simp only [str_refl, Bool.false_eq_true, ↓reduceIte] at r3
    exact ⟨E4, rfl, E4, r3⟩
  have s0 : sFor (itRng1 (mCons (mC (.int 2)) mNil)) (.name 2) lapL (LE P none none none none none none none none none none none none none none) ⟨ns, 0, 0, 0, fold⟩ = .ok .nx (LE P y2 y3 y4 y5 y6 y7 y8 y9 y10 y11 y12 none none none) ga := by
    refine (for_ok (ds := (List.range 2).map fun (i : Nat) => PyData.int (i : Int)) (env' := LE P none none none none none none none none none none none none none none) (g' := ⟨ns, 0, 0, 0, fold⟩) ?_).trans L
    rw [itRng1_app, bnd_ok (show mCons (mC (.int 2)) mNil (LE P none none none none none none none none none none none none none none) ⟨ns, 0, 0, 0, fold⟩ = .ok [.val (.int 2)] _ _ from rfl)]
    rfl
  refine ⟨E3, gb, ?_⟩
  rw [b_law_is]
  show sSeq _ _ (LE P none none none none none none none none none none none none none none) _ = _
  rw [seq_ok s0, seq_ok s1, seq_ok s2, seq_ok s3]
  exact s4
theorem k80_holds : PySem.Challenge.rw_wholecorners_k80_least_bad_and_greatest.Holds := law_holds law_true
end Z
end
theorem PySem.Challenge.cw_wholecorners_k80_least_bad_and_greatest_holds : PySem.Challenge.rw_wholecorners_k80_least_bad_and_greatest.Holds := by
  exact Z.k80_holds
