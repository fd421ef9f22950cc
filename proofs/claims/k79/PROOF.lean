import PyProof.Rows.All
import Wide.All
import OpenK.AllK
import Wide.FinOn
import KE.KStateDown
import Lean
import HandS.ForMost
import HandS.Defaults
import HandS.Head0
import HandS.Head1
import HandS.Head2
import HandS.HeadEnd
import HandS.HeadHook1
import HandS.HeadHook2
import HandS.Walk
import HandS.Flow
import HandS.Exc
import HandS.TryOnly
import HandS.WordsExc
import KE.KDictKeyed
import HandS.IsInst
import HandS.TupAny
import HandS.Wide
import HandS.Deep
import HandS.TupMul
import HandS.Style
import KE.GoesMore
import KE.GoesZip
import PyProof.Draws
import PyProof.EnumMake
import KE.KRevSl
import HandS.Small
import HandS.Dict
import HandS.ExcOwn
import HandS.More
import HandS.TupLen
import HandS.ExcInit
import KE.KExcSuper
import HandS.Nested
import KE.KDictDisplayH
import PySem.Challenge.RW_scanadds_k79_whole_texts_in_blocks
import HandS.WideBits
import KE.BitLaws
set_option Elab.async false
set_option linter.all false
set_option maxRecDepth 100000
set_option maxHeartbeats 2000000
namespace Sc
open PySem PySem.Spec PyProof.Rows L2
/-! ### data by value -/
inductive D where
  | non | bl (b : Bool) | int (i : Int) | str (x : Str) | tup (ds : List D) | lst (ds : List D)
instance : Inhabited D := ⟨.non⟩
mutual
def D.decEq : (a b : D) → Decidable (a = b)
  | .non, b => by cases b <;> first | exact .isTrue rfl | exact .isFalse (fun z => by cases z)
  | .bl x, b => by
    cases b with
    | bl y => exact if h : x = y then .isTrue (by rw [h]) else .isFalse (fun z => by cases z; exact h rfl)
    | _ => exact .isFalse (fun z => by cases z)
  | .int x, b => by
    cases b with
    | int y => exact if h : x = y then .isTrue (by rw [h]) else .isFalse (fun z => by cases z; exact h rfl)
    | _ => exact .isFalse (fun z => by cases z)
  | .str x, b => by
    cases b with
    | str y => exact if h : x = y then .isTrue (by rw [h]) else .isFalse (fun z => by cases z; exact h rfl)
    | _ => exact .isFalse (fun z => by cases z)
  | .tup x, b => by
    cases b with
    | tup y => exact match D.decEqs x y with | .isTrue h => .isTrue (by rw [h]) | .isFalse h => .isFalse (fun z => by cases z; exact h rfl)
    | _ => exact .isFalse (fun z => by cases z)
  | .lst x, b => by
    cases b with
    | lst y => exact match D.decEqs x y with | .isTrue h => .isTrue (by rw [h]) | .isFalse h => .isFalse (fun z => by cases z; exact h rfl)
    | _ => exact .isFalse (fun z => by cases z)
def D.decEqs : (a b : List D) → Decidable (a = b)
  | [], [] => .isTrue rfl
  | [], _ :: _ => .isFalse (fun z => by cases z)
  | _ :: _, [] => .isFalse (fun z => by cases z)
  | x :: xs, y :: ys => match D.decEq x y, D.decEqs xs ys with
    | .isTrue h, .isTrue g => .isTrue (by rw [h, g])
    | .isFalse h, _ => .isFalse (fun z => by cases z; exact h rfl)
    | _, .isFalse g => .isFalse (fun z => by cases z; exact g rfl)
end
instance : DecidableEq D := D.decEq
/-- a list that is represented: any one that may be read; a fresh one (not there in B) -/
def LsOk (K : PySem.W.Frag) (b : Option Hp) (H : Hp) (a : Addr) (vs : List V) : Prop := match b with
  | none => SqL K H a vs
  | some B => B a = none ∧ H a = some (.lst vs)
mutual
def Rp (K : PySem.W.Frag) (b : Option Hp) (H : Hp) : D → V → Prop
  | .non, v => v = .non
  | .bl x, v => v = .bl x
  | .int i, v => v = .int i
  | .str x, v => v = .str x
  | .tup ds, v => ∃ a vs, v = .ref a ∧ SqT K H a vs ∧ Rps K b H ds vs
  | .lst ds, v => ∃ a vs, v = .ref a ∧ LsOk K b H a vs ∧ Rps K b H ds vs
def Rps (K : PySem.W.Frag) (b : Option Hp) (H : Hp) : List D → List V → Prop
  | [], vs => vs = []
  | d :: ds, vs => ∃ v r, vs = v :: r ∧ Rp K b H d v ∧ Rps K b H ds r
end
mutual
def noL : D → Bool
  | .tup ds => noLs ds
  | .lst _ => false
  | _ => true
def noLs : List D → Bool
  | [] => true
  | d :: ds => noL d && noLs ds
end
theorem noLs_all : ∀ ds : List D, noLs ds = ds.all noL
  | [] => rfl
  | d :: ds => by rw [noLs, noLs_all ds, List.all_cons]
section
variable {K : PySem.W.Frag} {H H' : Hp} {b : Option Hp}
theorem sqT_mono (e : Same H H') {a : Addr} {xs : List V} (h : SqT K H a xs) : SqT K H' a xs := by
  rcases h with (h | ⟨o, h⟩) | h
  · exact .inl (.inl (e _ _ h))
  · exact .inl (.inr ⟨o, e _ _ h⟩)
  · exact .inr h
theorem lsOk_mono (e : Same H H') {a : Addr} {xs : List V} (h : LsOk K b H a xs) : LsOk K b H' a xs := by
  cases b with
  | none => exact e.seq h
  | some B => exact ⟨h.1, e _ _ h.2⟩
theorem LsOk.sq {a : Addr} {xs : List V} (h : LsOk K b H a xs) : SqL K H a xs := by
  cases b with
  | none => exact h
  | some B => exact SqL.of h.2
mutual
theorem Rp.mono (e : Same H H') : ∀ {d : D} {v : V}, Rp K b H d v → Rp K b H' d v
  | .non, _, h => h
  | .bl _, _, h => h
  | .int _, _, h => h
  | .str _, _, h => h
  | .tup ds, _, h => by
    obtain ⟨a, vs, e1, e2, e3⟩ := h
    exact ⟨a, vs, e1, sqT_mono e e2, Rps.mono e e3⟩
  | .lst ds, _, h => by
    obtain ⟨a, vs, e1, e2, e3⟩ := h
    exact ⟨a, vs, e1, lsOk_mono e e2, Rps.mono e e3⟩
theorem Rps.mono (e : Same H H') : ∀ {ds : List D} {vs : List V}, Rps K b H ds vs → Rps K b H' ds vs
  | [], _, h => h
  | d :: ds, _, h => by
    obtain ⟨v, r, e1, e2, e3⟩ := h
    exact ⟨v, r, e1, Rp.mono e e2, Rps.mono e e3⟩
end
mutual
theorem Rp.weak : ∀ {d : D} {v : V}, Rp K b H d v → Rp K none H d v
  | .non, _, h => h
  | .bl _, _, h => h
  | .int _, _, h => h
  | .str _, _, h => h
  | .tup ds, _, h => by
    obtain ⟨a, vs, e1, e2, e3⟩ := h
    exact ⟨a, vs, e1, e2, Rps.weak e3⟩
  | .lst ds, _, h => by
    obtain ⟨a, vs, e1, e2, e3⟩ := h
    exact ⟨a, vs, e1, e2.sq, Rps.weak e3⟩
theorem Rps.weak : ∀ {ds : List D} {vs : List V}, Rps K b H ds vs → Rps K none H ds vs
  | [], _, h => h
  | d :: ds, _, h => by
    obtain ⟨v, r, e1, e2, e3⟩ := h
    exact ⟨v, r, e1, Rp.weak e2, Rps.weak e3⟩
end
/-! another heap, another birth: tuples stand, fresh lists stand and are fresh -/
mutual
theorem Rp.shift {B B' : Hp} (ht : ∀ a xs, SqT K H a xs → SqT K H' a xs) (hl : ∀ a xs, B a = none → H a = some (.lst xs) → B' a = none ∧ H' a = some (.lst xs)) : ∀ {d : D} {v : V}, Rp K (some B) H d v → Rp K (some B') H' d v
  | .non, _, h => h
  | .bl _, _, h => h
  | .int _, _, h => h
  | .str _, _, h => h
  | .tup ds, _, h => by
    obtain ⟨a, vs, e1, e2, e3⟩ := h
    exact ⟨a, vs, e1, ht _ _ e2, Rps.shift ht hl e3⟩
  | .lst ds, _, h => by
    obtain ⟨a, vs, e1, e2, e3⟩ := h
    exact ⟨a, vs, e1, hl _ _ e2.1 e2.2, Rps.shift ht hl e3⟩
theorem Rps.shift {B B' : Hp} (ht : ∀ a xs, SqT K H a xs → SqT K H' a xs) (hl : ∀ a xs, B a = none → H a = some (.lst xs) → B' a = none ∧ H' a = some (.lst xs)) : ∀ {ds : List D} {vs : List V}, Rps K (some B) H ds vs → Rps K (some B') H' ds vs
  | [], _, h => h
  | d :: ds, _, h => by
    obtain ⟨v, r, e1, e2, e3⟩ := h
    exact ⟨v, r, e1, Rp.shift ht hl e2, Rps.shift ht hl e3⟩
end
/-! no list within: tuples alone are asked -/
mutual
theorem Rp.flat {b' : Option Hp} (ht : ∀ a xs, SqT K H a xs → SqT K H' a xs) : ∀ {d : D} {v : V}, noL d = true → Rp K b H d v → Rp K b' H' d v
  | .non, _, _, h => h
  | .bl _, _, _, h => h
  | .int _, _, _, h => h
  | .str _, _, _, h => h
  | .tup ds, _, n, h => by
    obtain ⟨a, vs, e1, e2, e3⟩ := h
    exact ⟨a, vs, e1, ht _ _ e2, Rps.flat ht (by rw [noL] at n; exact n) e3⟩
  | .lst ds, _, n, _ => by rw [noL] at n; cases n
theorem Rps.flat {b' : Option Hp} (ht : ∀ a xs, SqT K H a xs → SqT K H' a xs) : ∀ {ds : List D} {vs : List V}, noLs ds = true → Rps K b H ds vs → Rps K b' H' ds vs
  | [], _, _, h => h
  | d :: ds, _, n, h => by
    obtain ⟨v, r, e1, e2, e3⟩ := h
    rw [noLs, Bool.and_eq_true] at n
    exact ⟨v, r, e1, Rp.flat ht n.1 e2, Rps.flat ht n.2 e3⟩
end
theorem Rps.length : ∀ {ds : List D} {vs : List V}, Rps K b H ds vs → vs.length = ds.length
  | [], _, h => by rw [Rps] at h; subst h; rfl
  | d :: ds, _, h => by
    obtain ⟨v, r, e1, e2, e3⟩ := h
    subst e1
    simp [Rps.length e3]
theorem Rps.get : ∀ {ds : List D} {vs : List V} {i : Nat} {d : D}, Rps K b H ds vs → ds[i]? = some d → ∃ v, vs[i]? = some v ∧ Rp K b H d v
  | [], _, i, d, _, e => by simp at e
  | d0 :: ds, _, 0, d, h, e => by
    obtain ⟨v, r, e1, e2, e3⟩ := h
    simp at e
    subst e e1
    exact ⟨v, rfl, e2⟩
  | d0 :: ds, _, i + 1, d, h, e => by
    obtain ⟨v, r, e1, e2, e3⟩ := h
    subst e1
    simpa using Rps.get (i := i) e3 (by simpa using e)
theorem Rps.getV : ∀ {ds : List D} {vs : List V} {i : Nat} {v : V}, Rps K b H ds vs → vs[i]? = some v → ∃ d, ds[i]? = some d ∧ Rp K b H d v
  | [], _, i, v, h, e => by rw [Rps] at h; subst h; simp at e
  | d0 :: ds, _, 0, v, h, e => by
    obtain ⟨v', r, e1, e2, e3⟩ := h
    subst e1
    simp at e
    subst e
    exact ⟨d0, rfl, e2⟩
  | d0 :: ds, _, i + 1, v, h, e => by
    obtain ⟨v', r, e1, e2, e3⟩ := h
    subst e1
    simpa using Rps.getV (i := i) e3 (by simpa using e)
theorem Rps.append : ∀ {ds es : List D} {vs ws : List V}, Rps K b H ds vs → Rps K b H es ws → Rps K b H (ds ++ es) (vs ++ ws)
  | [], _, _, _, h, g => by rw [Rps] at h; subst h; exact g
  | d :: ds, _, _, _, h, g => by
    obtain ⟨v, r, e1, e2, e3⟩ := h
    subst e1
    exact ⟨v, r ++ _, rfl, e2, Rps.append e3 g⟩
theorem Rps.one {d : D} {v : V} (h : Rp K b H d v) : Rps K b H [d] [v] := ⟨v, [], rfl, h, rfl⟩
theorem Rps.cons {d : D} {v : V} {ds : List D} {vs : List V} (h : Rp K b H d v) (g : Rps K b H ds vs) : Rps K b H (d :: ds) (v :: vs) := ⟨v, vs, rfl, h, g⟩
theorem Rps.nil : Rps K b H [] [] := rfl
theorem Rps.ofAll : ∀ {ds : List D} {vs : List V}, ds.length = vs.length → (∀ (i : Nat) d v, ds[i]? = some d → vs[i]? = some v → Rp K b H d v) → Rps K b H ds vs
  | [], [], _, _ => rfl
  | [], _ :: _, h, _ => by cases h
  | _ :: _, [], h, _ => by cases h
  | d :: ds, v :: vs, h, g => ⟨v, vs, rfl, g 0 d v rfl rfl, Rps.ofAll (by simpa using h) fun i d' v' e1 e2 => g (i + 1) d' v' (by simpa using e1) (by simpa using e2)⟩
end
/-! ### the drawing state of a law -/
structure DrawSt where
  cells : List Int
  great : List Int
  spot : Int
  deriving DecidableEq
/-! ### slots -/
/-- a field of an own object: data, an own list, an own dict whose keys are tuples -/
inductive Fl where
  | v (d : D) | l (ds : List D) | t (kvs : List (D × D))
inductive Slot where
  | emp
  /-- frozen: fresh lists within alone | any | an own list | an own dict with int, text keys | the drawing state (its dict, its lists cells, great) -/
  | fz (d : D) | ar (d : D) | ow (ds : List D) | od (kvs : List (D × D)) | mm (p : Addr × Addr × Addr) (M : DrawSt)
  /-- an own dict whose keys are tuples | an own object of the class c -/
  | td (kvs : List (D × D)) | ob (w : Bool) (c : Str) (fs : List (Str × Bool × Fl))
abbrev Env := List Slot
inductive Res where
  | fz (d : D) | ar (d : D) | nw (ds : List D) | nd (kvs : List (D × D)) | ow (i : Nat) | nt (kvs : List (D × D)) | no (c : Str) (fs : List (Str × Bool × Fl))
/-- what never changes once it stands -/
def Imm : HO → Bool
  | .tup _ => true
  | .frz _ _ => true
  | _ => false
def drawKvs (ac ag : Addr) (n : Int) : List (Key × V) := [(.inr "cells", .ref ac), (.inr "great", .ref ag), (.inr "spot", .int n)]
/-- keys of own dicts -/
def keyD : D → Option Key
  | .int i => some (.inl i)
  | .str x => some (.inr x)
  | _ => none
/-- the pairs of an own dict -/
def Kvs (K : PySem.W.Frag) (b : Option Hp) (H : Hp) : List (D × D) → List (Key × V) → Prop
  | [], l => l = []
  | p :: ps, l => ∃ k v r, l = (k, v) :: r ∧ keyD p.1 = some k ∧ Rp K b H p.2 v ∧ Kvs K b H ps r
/-- tuples of whole numbers, however nested, as keys -/
def nkD : D → Option NestedKey
  | .int i => some (.num i)
  | .tup ds => (nkDs ds).map .tup
  | _ => none
where nkDs : List D → Option (List NestedKey)
  | [] => some []
  | d :: ds => match nkD d, nkDs ds with
    | some k, some ks => some (k :: ks)
    | _, _ => none
/-- the raw dict: the keys, where their tuples stand, the values -/
def TdRaw (a : Addr) (l : List (NestedKey × Addr × V)) (h : Heap) : Prop :=
  (a == sysModules) = false ∧ ∃ o es ep us, h.get? a = some o ∧ o.ExactDict ∧ o.data = .dict es ep ∧ Vals (l.map (·.2.2)) us ∧ ∀ w, es.toList = List.zipWith (fun (x : NestedKey × Addr × V) u => (⟨x.1.hash w, .ref x.2.1, u⟩ : DictEntry)) l us
def tdH (a : Addr) (l : List (NestedKey × Addr × V)) : HO := .ext (TdRaw a l)
def Tvs (K : PySem.W.Frag) (b : Option Hp) (H : Hp) : List (D × D) → List (NestedKey × Addr × V) → Prop
  | [], l => l = []
  | p :: ps, l => ∃ k c v r, l = (k, c, v) :: r ∧ nkD p.1 = some k ∧ k.depth ≤ 8 ∧ Rp K none H p.1 (.ref c) ∧ Rp K b H p.2 v ∧ Tvs K b H ps r
def TdOk (K : PySem.W.Frag) (b : Option Hp) (H : Hp) (a : Addr) (kvs : List (D × D)) (o : HO) : Prop :=
  (kvs = [] ∧ o = .dK []) ∨ ∃ l, o = tdH a l ∧ Tvs K b H kvs l ∧ (l.map (·.1)).Nodup
def FlOk (K : PySem.W.Frag) (H0 H : Hp) (O : List Addr) : Fl → V → Prop
  | .v d, u => O = [] ∧ Rp K none H0 d u
  | .l ds, u => ∃ a vs, O = [a] ∧ u = .ref a ∧ H a = some (.lst vs) ∧ Rps K none H0 ds vs
  | .t kvs, u => ∃ a o, O = [a] ∧ u = .ref a ∧ H a = some o ∧ TdOk K none H0 a kvs o
/-- the fields; a flagged one holds what m tells (what it held when m was taken) -/
def FlsOk (K : PySem.W.Frag) (m : Str → V) (H0 H : Hp) : List Addr → List (Str × Bool × Fl) → List (Str × V) → Prop
  | O, [], r => O = [] ∧ r = []
  | O, (f, b, x) :: fs, r => ∃ O1 O2 u r', O = O1 ++ O2 ∧ r = (f, u) :: r' ∧ (b = true → u = m f) ∧ FlOk K H0 H O1 x u ∧ FlsOk K m H0 H O2 fs r'
def ObOk (K : PySem.W.Frag) (m : Str → V) (H0 H : Hp) (O : List Addr) (c : Str) (fs : List (Str × Bool × Fl)) (v : Option V) : Prop :=
  ∃ a dx r O', O = a :: dx :: O' ∧ O.Nodup ∧ v = some (.ref a) ∧ H a = some (.ins (He.ga K c) dx r) ∧ H dx = some (.own a) ∧ FlsOk K m H0 H O' fs r
def SlotOk (K : PySem.W.Frag) (B : Hp) (m : Str → V) (H0 H : Hp) (O : List Addr) : Slot → Option V → Prop
  | .emp, _ => O = []
  | .fz d, v => O = [] ∧ ∃ u, v = some u ∧ Rp K (some B) H0 d u
  | .ar d, v => O = [] ∧ ∃ u, v = some u ∧ Rp K none H0 d u
  | .ow ds, v => ∃ a vs, O = [a] ∧ v = some (.ref a) ∧ H a = some (.lst vs) ∧ Rps K (some B) H0 ds vs
  | .od kvs, v => ∃ a l, O = [a] ∧ v = some (.ref a) ∧ H a = some (.dK l) ∧ Kvs K (some B) H0 kvs l
  | .mm p M, v => O = [p.1, p.2.1, p.2.2] ∧ p.1 ≠ p.2.1 ∧ p.1 ≠ p.2.2 ∧ p.2.1 ≠ p.2.2 ∧ v = some (.ref p.1) ∧ H p.1 = some (.dK (drawKvs p.2.1 p.2.2 M.spot)) ∧ H p.2.1 = some (.lst (M.cells.map V.int)) ∧ H p.2.2 = some (.lst (M.great.map V.int))
  | .td kvs, v => ∃ a o, O = [a] ∧ v = some (.ref a) ∧ H a = some o ∧ TdOk K (some B) H0 a kvs o
  | .ob w c fs, v => ObOk K m H0 H O c fs v ∧ (w = true → v = some (m ""))
/-- b: what was there at the entry (but what the drawing state owns); t: cells that wait to be stored -/
structure Bs where
  b : Hp
  t : Hp
  m : Str → V
/-- who owns what -/
structure Own (K : PySem.W.Frag) (B : Bs) (H0 H : Hp) (σ : L2.St) (ρ : Env) (O : Nat → List Addr) : Prop where
  ok : ∀ i s, ρ[i]? = some s → SlotOk K B.b B.m H0 H (O i) s σ[i]?.join
  non : ∀ i a, a ∈ O i → H0 a = none
  inj : ∀ i j a, a ∈ O i → a ∈ O j → i = j
  out : ∀ i, ρ.length ≤ i → O i = []
  tmp : ∀ i a, a ∈ O i → B.t a = none
/-- the slots and the heap stand for the environment: B what was there at the entry (but what the drawing state owns), H0 what is frozen -/
structure SD (K : PySem.W.Frag) (B : Bs) (H0 H : Hp) (σ : L2.St) (ρ : Env) : Prop where
  len : σ.length = ρ.length
  bir : Same B.b H0
  sub : Same H0 H
  tmp : ∀ a o, B.t a = some o → H a = some o ∧ H0 a = none
  imm : ∀ a o, H a = some o → Imm o = true → H0 a = some o
  own : ∃ O : Nat → List Addr, Own K B H0 H σ ρ O
section
variable {K : PySem.W.Frag} {B : Bs} {H0 H0' H H' : Hp} {σ : L2.St} {ρ : Env}
theorem Kvs.mono (e : Same H H') : ∀ {kvs : List (D × D)} {l : List (Key × V)} {b : Option Hp}, Kvs K b H kvs l → Kvs K b H' kvs l
  | [], _, _, h => h
  | p :: ps, _, _, h => by
    obtain ⟨k, v, r, e1, e2, e3, e4⟩ := h
    exact ⟨k, v, r, e1, e2, e3.mono e, Kvs.mono e e4⟩
theorem Tvs.mono (e : Same H H') : ∀ {kvs : List (D × D)} {l : List (NestedKey × Addr × V)} {b : Option Hp}, Tvs K b H kvs l → Tvs K b H' kvs l
  | [], _, _, h => h
  | p :: ps, _, _, h => by
    obtain ⟨k, c, v, r, e1, e2, e3, e4, e5, e6⟩ := h
    exact ⟨k, c, v, r, e1, e2, e3, e4.mono e, e5.mono e, Tvs.mono e e6⟩
theorem TdOk.mono (e : Same H H') {kvs : List (D × D)} {a : Addr} {o : HO} {b : Option Hp} (h : TdOk K b H a kvs o) : TdOk K b H' a kvs o := by
  rcases h with h | ⟨l, h1, h2, h3⟩
  · exact .inl h
  · exact .inr ⟨l, h1, h2.mono e, h3⟩
theorem TdOk.imm {kvs : List (D × D)} {a : Addr} {o : HO} {b : Option Hp} (h : TdOk K b H a kvs o) : Imm o = false := by
  rcases h with ⟨_, rfl⟩ | ⟨l, rfl, _⟩ <;> rfl
theorem FlOk.frame {O : List Addr} {x : Fl} {u : V} (h : FlOk K H0 H O x u) (e : Same H0 H0') (k : ∀ a ∈ O, ∀ o, H a = some o → H' a = some o) : FlOk K H0' H' O x u := by
  cases x with
  | v d => exact ⟨h.1, h.2.mono e⟩
  | l ds => obtain ⟨a, vs, e0, e1, e2, e3⟩ := h; exact ⟨a, vs, e0, e1, k a (by simp [e0]) _ e2, e3.mono e⟩
  | t kvs => obtain ⟨a, o, e0, e1, e2, e3⟩ := h; exact ⟨a, o, e0, e1, k a (by simp [e0]) _ e2, e3.mono e⟩
theorem FlOk.there {O : List Addr} {x : Fl} {u : V} (h : FlOk K H0 H O x u) : ∀ a ∈ O, ∃ o, H a = some o ∧ Imm o = false := by
  intro a m
  cases x with
  | v d => rw [h.1] at m; cases m
  | l ds => obtain ⟨b, vs, e0, _, e2, _⟩ := h; rw [e0] at m; simp at m; subst m; exact ⟨_, e2, rfl⟩
  | t kvs => obtain ⟨b, o, e0, _, e2, e3⟩ := h; rw [e0] at m; simp at m; subst m; exact ⟨_, e2, e3.imm⟩
theorem FlsOk.frame {m : Str → V} (e : Same H0 H0') : ∀ {fs : List (Str × Bool × Fl)} {O : List Addr} {r : List (Str × V)}, FlsOk K m H0 H O fs r → (∀ a ∈ O, ∀ o, H a = some o → H' a = some o) → FlsOk K m H0' H' O fs r
  | [], _, _, h, _ => h
  | (f, b, x) :: fs, _, _, h, k => by
    obtain ⟨O1, O2, u, r', rfl, rfl, hm, h1, h2⟩ := h
    exact ⟨O1, O2, u, r', rfl, rfl, hm, h1.frame e fun a m => k a (List.mem_append_left _ m), FlsOk.frame e h2 fun a m => k a (List.mem_append_right _ m)⟩
theorem FlsOk.there {m : Str → V} : ∀ {fs : List (Str × Bool × Fl)} {O : List Addr} {r : List (Str × V)}, FlsOk K m H0 H O fs r → ∀ a ∈ O, ∃ o, H a = some o ∧ Imm o = false
  | [], _, _, h, a, m => by rw [h.1] at m; cases m
  | (f, b, x) :: fs, _, _, h, a, m => by
    obtain ⟨O1, O2, u, r', rfl, rfl, hm, h1, h2⟩ := h
    rcases List.mem_append.mp m with m | m
    · exact h1.there a m
    · exact FlsOk.there h2 a m
theorem ObOk.frame {m : Str → V} {O : List Addr} {c : Str} {fs : List (Str × Bool × Fl)} {v : Option V} (h : ObOk K m H0 H O c fs v) (e : Same H0 H0') (k : ∀ a ∈ O, ∀ o, H a = some o → H' a = some o) : ObOk K m H0' H' O c fs v := by
  obtain ⟨a, dx, r, O', rfl, nd, e1, e2, e3, e4⟩ := h
  exact ⟨a, dx, r, O', rfl, nd, e1, k a (by simp) _ e2, k dx (by simp) _ e3, e4.frame e fun b m => k b (by simp [m])⟩
theorem ObOk.there {m : Str → V} {O : List Addr} {c : Str} {fs : List (Str × Bool × Fl)} {v : Option V} (h : ObOk K m H0 H O c fs v) : ∀ a ∈ O, ∃ o, H a = some o ∧ Imm o = false := by
  obtain ⟨a, dx, r, O', rfl, nd, e1, e2, e3, e4⟩ := h
  intro b m
  rcases List.mem_cons.mp m with rfl | m
  · exact ⟨_, e2, rfl⟩
  · rcases List.mem_cons.mp m with rfl | m
    · exact ⟨_, e3, rfl⟩
    · exact e4.there b m
/-- a slot leans on the frozen heap and on what it owns -/
theorem SlotOk.frame {O : List Addr} {s : Slot} {v : Option V} {Bb : Hp} {m : Str → V} (h : SlotOk K Bb m H0 H O s v) (e : Same H0 H0') (k : ∀ a ∈ O, ∀ o, H a = some o → H' a = some o) : SlotOk K Bb m H0' H' O s v := by
  cases s with
  | emp => exact h
  | fz d => obtain ⟨e0, u, e1, e2⟩ := h; exact ⟨e0, u, e1, e2.mono e⟩
  | ar d => obtain ⟨e0, u, e1, e2⟩ := h; exact ⟨e0, u, e1, e2.mono e⟩
  | ow ds =>
    obtain ⟨a, vs, e0, e1, e2, e3⟩ := h
    exact ⟨a, vs, e0, e1, k a (by simp [e0]) _ e2, e3.mono e⟩
  | od kvs =>
    obtain ⟨a, l, e0, e1, e2, e3⟩ := h
    exact ⟨a, l, e0, e1, k a (by simp [e0]) _ e2, e3.mono e⟩
  | mm p M =>
    obtain ⟨e0, n1, n2, n3, e1, e2, e3, e4⟩ := h
    exact ⟨e0, n1, n2, n3, e1, k p.1 (by simp [e0]) _ e2, k p.2.1 (by simp [e0]) _ e3, k p.2.2 (by simp [e0]) _ e4⟩
  | td kvs => obtain ⟨a, o, e0, e1, e2, e3⟩ := h; exact ⟨a, o, e0, e1, k a (by simp [e0]) _ e2, e3.mono e⟩
  | ob w c fs => exact ⟨ObOk.frame h.1 e k, h.2⟩
theorem SlotOk.there {O : List Addr} {s : Slot} {v : Option V} {Bb : Hp} {m : Str → V} (h : SlotOk K Bb m H0 H O s v) : ∀ a ∈ O, ∃ o, H a = some o ∧ Imm o = false := by
  intro a m
  cases s with
  | emp => rw [show O = [] from h] at m; cases m
  | fz d => rw [h.1] at m; cases m
  | ar d => rw [h.1] at m; cases m
  | ow ds => obtain ⟨b, vs, e0, _, e2, _⟩ := h; rw [e0] at m; simp at m; subst m; exact ⟨_, e2, rfl⟩
  | od kvs => obtain ⟨b, vs, e0, _, e2, _⟩ := h; rw [e0] at m; simp at m; subst m; exact ⟨_, e2, rfl⟩
  | mm p M =>
    obtain ⟨e0, _, _, _, _, e2, e3, e4⟩ := h
    rw [e0] at m
    simp at m
    rcases m with rfl | rfl | rfl
    · exact ⟨_, e2, rfl⟩
    · exact ⟨_, e3, rfl⟩
    · exact ⟨_, e4, rfl⟩
  | td kvs => obtain ⟨b, o, e0, _, e2, e3⟩ := h; rw [e0] at m; simp at m; subst m; exact ⟨_, e2, e3.imm⟩
  | ob w c fs => exact ObOk.there h.1 a m
theorem Own.there {O : Nat → List Addr} (w : Own K B H0 H σ ρ O) {i : Nat} {a : Addr} (m : a ∈ O i) : ∃ o, H a = some o ∧ Imm o = false := by
  cases e : ρ[i]? with
  | none => rw [w.out i (List.getElem?_eq_none_iff.mp e)] at m; cases m
  | some s => exact (w.ok i s e).there a m
/-- all that was frozen and what grew, frozen -/
def fzn (H0 H H' : Hp) : Hp := fun a => match H0 a with
  | some o => some o
  | none => match H a with
    | some _ => none
    | none => H' a
theorem fzn_old {a : Addr} {o : HO} (h : H0 a = some o) : fzn H0 H H' a = some o := by unfold fzn; rw [h]
theorem fzn_own {a : Addr} {o : HO} (h0 : H0 a = none) (h : H a = some o) : fzn H0 H H' a = none := by unfold fzn; rw [h0, h]
theorem fzn_new {a : Addr} (h0 : H0 a = none) (h : H a = none) : fzn H0 H H' a = H' a := by unfold fzn; rw [h0, h]
theorem fzn_same : Same H0 (fzn H0 H H') := fun _ _ h => fzn_old h
theorem SD.none_of (S : SD K B H0 H σ ρ) {a : Addr} (h : H a = none) : H0 a = none := S.sub.free h
theorem SD.tupF (S : SD K B H0 H σ ρ) {a : Addr} {xs : List V} (h : SqT K H a xs) : SqT K H0 a xs := by
  rcases h with (h | ⟨o, h⟩) | h
  · exact .inl (.inl (S.imm _ _ h rfl))
  · exact .inl (.inr ⟨o, S.imm _ _ h rfl⟩)
  · exact .inr h
/-- THE STEP: the heap changes at C alone, which one slot owns or none; that slot anew -/
theorem SD.step (S : SD K B H0 H σ ρ) {O : Nat → List Addr} (w : Own K B H0 H σ ρ O) {ρ' : Env} (C : Addr → Prop) (hl : ρ'.length = ρ.length)
    (keep : ∀ a o, ¬ C a → H a = some o → H' a = some o) (there : ∀ a o, C a → H' a = some o → Imm o = false) (nC : ∀ a, C a → H0 a = none) (nT : ∀ a, C a → B.t a = none)
    (hC : ∀ i s', ρ'[i]? = some s' → (ρ[i]? = some s' ∧ ∀ a ∈ O i, ¬ C a) ∨ SlotOk K B.b B.m (fzn H0 H H') H' (O i) s' σ[i]?.join) : SD K B (fzn H0 H H') H' σ ρ' := by
  refine ⟨by rw [hl]; exact S.len, fun a o e => fzn_old (S.bir a o e), fun a o e => ?_, fun a o e => ?_, fun a o e im => ?_, O, fun j s e => ?_, fun j a m => ?_, w.inj, fun j hj => w.out j (by rw [← hl]; exact hj), w.tmp⟩
  · cases q : H0 a with
    | some u =>
      rw [fzn_old q] at e
      cases e
      exact keep a _ (fun c => by rw [nC a c] at q; cases q) (S.sub a _ q)
    | none =>
      cases q' : H a with
      | some u => rw [fzn_own q q'] at e; cases e
      | none => rw [fzn_new q q'] at e; exact e
  · obtain ⟨h1, h2⟩ := S.tmp a o e
    exact ⟨keep a o (fun c => by rw [nT a c] at e; cases e) h1, fzn_own h2 h1⟩
  · by_cases c : C a
    · rw [there a o c e] at im; cases im
    · cases q' : H a with
      | some u =>
        have e2 := keep a u c q'
        rw [e] at e2
        cases e2
        exact fzn_old (S.imm a o q' im)
      | none => rw [fzn_new (S.none_of q') q']; exact e
  · rcases hC j s e with ⟨e1, n⟩ | g
    · exact (w.ok j s e1).frame fzn_same fun a m o q => keep a o (n a m) q
    · exact g
  · obtain ⟨o, q, _⟩ := w.there m
    exact fzn_own (w.non j a m) q
/-- the heap grows -/
theorem SD.grow (S : SD K B H0 H σ ρ) (e : Same H H') : SD K B (fzn H0 H H') H' σ ρ := by
  obtain ⟨O, w⟩ := S.own
  exact S.step w (fun _ => False) rfl (fun a o _ q => e a o q) (fun _ _ c => c.elim) (fun _ c => c.elim) (fun _ c => c.elim) fun i s' h => .inl ⟨h, fun _ _ c => c⟩
/-- what a grown heap represents, fresh since H, is frozen -/
theorem SD.rpF (S : SD K B H0 H σ ρ) (e : Same H H') {d : D} {v : V} (h : Rp K (some H) H' d v) : Rp K (some B.b) (fzn H0 H H') d v := by
  have S' := S.grow e
  refine h.shift (fun a xs q => S'.tupF q) fun a xs n q => ?_
  have n0 := S.none_of n
  exact ⟨S.bir.free n0, by rw [fzn_new n0 n]; exact q⟩
theorem SD.rpsF (S : SD K B H0 H σ ρ) (e : Same H H') {ds : List D} {vs : List V} (h : Rps K (some H) H' ds vs) : Rps K (some B.b) (fzn H0 H H') ds vs := by
  have S' := S.grow e
  refine h.shift (fun a xs q => S'.tupF q) fun a xs n q => ?_
  have n0 := S.none_of n
  exact ⟨S.bir.free n0, by rw [fzn_new n0 n]; exact q⟩
end
end Sc
set_option maxRecDepth 100000
set_option maxHeartbeats 2000000
namespace Sc
open PySem PySem.Spec PyProof.Rows L2
/-! ### results, denotations -/
abbrev ED := Env → Option (Res × Env)
abbrev TD := Env → Option (Bool × Env)
def RS (K : PySem.W.Frag) (B : Bs) (H0 H : Hp) (σ : L2.St) (ρ : Env) : Res → V → Prop
  | .fz d, v => Rp K (some B.b) H0 d v
  | .ar d, v => Rp K none H0 d v
  | .nw ds, v => ∃ O a vs, Own K B H0 H σ ρ O ∧ (∀ i, a ∉ O i) ∧ B.t a = none ∧ v = .ref a ∧ H0 a = none ∧ H a = some (.lst vs) ∧ Rps K (some B.b) H0 ds vs
  | .nd kvs, v => ∃ O a l, Own K B H0 H σ ρ O ∧ (∀ i, a ∉ O i) ∧ B.t a = none ∧ v = .ref a ∧ H0 a = none ∧ H a = some (.dK l) ∧ Kvs K (some B.b) H0 kvs l
  | .ow i, v => σ[i]? = some (some v)
  | .nt kvs, v => ∃ O a o, Own K B H0 H σ ρ O ∧ (∀ i, a ∉ O i) ∧ B.t a = none ∧ v = .ref a ∧ H0 a = none ∧ H a = some o ∧ TdOk K (some B.b) H0 a kvs o
  | .no c fs, v => ∃ O R, Own K B H0 H σ ρ O ∧ (∀ b ∈ R, (∀ i, b ∉ O i) ∧ B.t b = none ∧ H0 b = none) ∧ ObOk K B.m H0 H R c fs (some v)
def tDE (K : PySem.W.Frag) (f : ED) : TE := fun σ H Q => ∃ B H0 ρ r ρ', SD K B H0 H σ ρ ∧ f ρ = some (r, ρ') ∧ ∀ v H0' H', Same H0 H0' → SD K B H0' H' σ ρ' → RS K B H0' H' σ ρ' r v → Q v H'
def tDT (K : PySem.W.Frag) (f : TD) : TT := fun σ H Q => ∃ B H0 ρ b ρ', SD K B H0 H σ ρ ∧ f ρ = some (b, ρ') ∧ ∀ H0' H', Same H0 H0' → SD K B H0' H' σ ρ' → Q b H'
abbrev DE (X : Cx) (e : Expr) (f : ED) : Prop := PE X e (tDE X.K f)
abbrev DT (X : Cx) (e : Expr) (f : TD) : Prop := PT X e (tDT X.K f)
abbrev DW (X : Cx) (e : Expr) (f : TD) : Prop := PW X e (tDT X.K f)
theorem pe_imp {X : Cx} {e : Expr} {t t' : TE} (h : PE X e t) (i : ∀ σ H Q, t' σ H Q → t σ H Q) : PE X e t' := ⟨fun pins s σ H Q I q => h.run pins s σ H Q I (i σ H Q q)⟩
theorem pt_imp {X : Cx} {e : Expr} {t t' : TT} (h : PT X e t) (i : ∀ σ H Q, t' σ H Q → t σ H Q) : PT X e t' := ⟨fun pins s σ H Q I q => h.run pins s σ H Q I (i σ H Q q)⟩
theorem pw_imp {X : Cx} {e : Expr} {t t' : TT} (h : PW X e t) (i : ∀ σ H Q, t' σ H Q → t σ H Q) : PW X e t' := ⟨fun wh pins s σ H Q I q => h.run wh pins s σ H Q I (i σ H Q q)⟩
theorem pa_imp {X : Cx} {e : List Expr} {t t' : TA} (h : PA X e t) (i : ∀ σ H Q, t' σ H Q → t σ H Q) : PA X e t' := ⟨fun pos pins s σ H Q I q => h.run pos pins s σ H Q I (i σ H Q q)⟩
theorem ps_imp {X : Cx} {st : Stmt} {t t' : TS} (h : PS X st t) (i : ∀ Dn σ H, t' Dn σ H → t Dn σ H) : PS X st t' := ⟨fun pins s σ H Dn I q => h.run pins s σ H Dn I (i Dn σ H q)⟩
theorem pss_imp {X : Cx} {st : List Stmt} {t t' : TS} (h : PSs X st t) (i : ∀ Dn σ H, t' Dn σ H → t Dn σ H) : PSs X st t' := ⟨fun pins s σ H Dn I q => h.run pins s σ H Dn I (i Dn σ H q)⟩
theorem pi_imp {X : Cx} {tg e : Expr} {t t' : TI} (h : PI X tg e t) (i : ∀ σ H R, t' σ H R → t σ H R) : PI X tg e t' := ⟨fun pins s σ H R I q => h.run pins s σ H R I (i σ H R q)⟩
/-! ### held results, their view -/
def hold : Res → Option Res
  | .fz d => some (.fz d)
  | .ar d => some (.ar d)
  | .nw ds => some (.fz (.lst ds))
  | .nd _ => none
  | .nt _ => none
  | .no _ _ => none
  | .ow i => some (.ow i)
def isHeld : Res → Bool
  | .fz _ => true
  | .ar _ => true
  | .ow _ => true
  | _ => false
def view (ρ : Env) : Res → Option (Bool × D)
  | .fz d => some (true, d)
  | .ar d => some (false, d)
  | .nw ds => some (true, .lst ds)
  | .nd _ => none
  | .nt _ => none
  | .no _ _ => none
  | .ow i => match ρ[i]? with
    | some (.ow ds) => some (true, .lst ds)
    | _ => none
/-- a thing of that freshness -/
def mkR (fr : Bool) (d : D) : Res := if fr then .fz d else .ar d
def bo (B : Bs) (fr : Bool) : Option Hp := if fr then some B.b else none
/-- what may be read now: a list's own cell in H, all else frozen -/
def Rv (K : PySem.W.Frag) (b : Option Hp) (H0 H : Hp) : D → V → Prop
  | .lst ds, v => ∃ a vs, v = .ref a ∧ LsOk K b H a vs ∧ Rps K b H0 ds vs
  | .non, v => v = .non
  | .bl x, v => v = .bl x
  | .int i, v => v = .int i
  | .str x, v => v = .str x
  | .tup ds, v => ∃ a vs, v = .ref a ∧ SqT K H0 a vs ∧ Rps K b H0 ds vs
section
variable {K : PySem.W.Frag} {B : Bs} {H0 H0' H H' : Hp} {σ : L2.St} {ρ ρ' : Env} {r r' : Res} {v : V} {d : D} {fr : Bool}
theorem Rp.rv {b : Option Hp} (e : Same H0 H) (h : Rp K b H0 d v) : Rv K b H0 H d v := by
  cases d with
  | lst ds =>
    obtain ⟨a, vs, e1, e2, e3⟩ := h
    exact ⟨a, vs, e1, lsOk_mono e e2, e3⟩
  | _ => exact h
theorem Rv.rp {b : Option Hp} (e : Same H0 H) (h : Rv K b H0 H d v) : Rp K none H d v := by
  cases d with
  | lst ds =>
    obtain ⟨a, vs, e1, e2, e3⟩ := h
    exact ⟨a, vs, e1, e2.sq, (e3.mono e).weak⟩
  | tup ds =>
    have h' : Rp K b H0 (.tup ds) v := h
    exact (h'.mono e).weak
  | _ => exact h
theorem SD.hold (S : SD K B H0 H σ ρ) (h : RS K B H0 H σ ρ r v) (e : hold r = some r') : ∃ H1, Same H0 H1 ∧ SD K B H1 H σ ρ ∧ RS K B H1 H σ ρ r' v ∧ isHeld r' = true := by
  cases r with
  | fz d => cases e; exact ⟨H0, Same.refl _, S, h, rfl⟩
  | ar d => cases e; exact ⟨H0, Same.refl _, S, h, rfl⟩
  | ow i => cases e; exact ⟨H0, Same.refl _, S, h, rfl⟩
  | nd kvs => cases e
  | nt kvs => cases e
  | no c fs => cases e
  | nw ds =>
    cases e
    obtain ⟨O, a, vs, w, na, nt, rfl, n0, ha, hr⟩ := h
    have e1 : Same H0 (upd H0 a (.lst vs)) := fun b o q => by rw [upd_ne (ne_of_none q n0)]; exact q
    refine ⟨upd H0 a (.lst vs), e1, ⟨S.len, S.bir.trans e1, fun b o q => ?_, fun b o q => ⟨(S.tmp b o q).1, by rw [upd_ne (fun z => by rw [z, nt] at q; cases q)]; exact (S.tmp b o q).2⟩, fun b o q i => e1 _ _ (S.imm b o q i), O, fun j s q => (w.ok j s q).frame e1 fun b _ o q => q, fun j b m => ?_, w.inj, w.out, w.tmp⟩, ⟨a, vs, rfl, ⟨S.bir.free n0, upd_same⟩, hr.mono e1⟩, rfl⟩
    · by_cases z : b = a
      · subst z; rw [upd_same] at q; cases q; exact ha
      · rw [upd_ne z] at q; exact S.sub b o q
    · rw [upd_ne (fun z => na j (by rw [← z]; exact m))]; exact w.non j b m
theorem RS.keep (h : RS K B H0 H σ ρ r v) (n : isHeld r = true) (e : Same H0 H0') : RS K B H0' H' σ ρ' r v := by
  cases r with
  | fz d => exact Rp.mono e h
  | ar d => exact Rp.mono e h
  | ow i => exact h
  | nd kvs => cases n
  | nt kvs => cases n
  | no c fs => cases n
  | nw ds => cases n
theorem SD.at_ (S : SD K B H0 H σ ρ) {i : Nat} {s : Slot} (h : ρ[i]? = some s) : ∃ O, Own K B H0 H σ ρ O ∧ SlotOk K B.b B.m H0 H (O i) s σ[i]?.join := by
  obtain ⟨O, w⟩ := S.own
  exact ⟨O, w, w.ok i s h⟩
theorem SD.view (S : SD K B H0 H σ ρ) (h : RS K B H0 H σ ρ r v) (e : view ρ r = some (fr, d)) : Rv K (bo B fr) H0 H d v := by
  cases r with
  | fz d => cases e; exact Rp.rv S.sub h
  | ar d => cases e; exact Rp.rv S.sub h
  | nd kvs => cases e
  | nt kvs => cases e
  | no c fs => cases e
  | nw ds =>
    cases e
    obtain ⟨O, a, vs, w, na, nt, rfl, n0, ha, hr⟩ := h
    exact ⟨a, vs, rfl, ⟨S.bir.free n0, ha⟩, hr⟩
  | ow i =>
    replace e : (match ρ[i]? with | some (.ow ds) => some (true, D.lst ds) | _ => none) = some (fr, d) := e
    cases q : ρ[i]? with
    | none => rw [q] at e; cases e
    | some s =>
      rw [q] at e
      cases s with
      | ow ds =>
        cases e
        obtain ⟨O, w, a, vs, e0, e1, e2, e3⟩ := S.at_ q
        have h' : σ[i]? = some (some v) := h
        rw [h'] at e1
        cases e1
        exact ⟨a, vs, rfl, ⟨S.bir.free (w.non i a (by rw [e0]; simp)), e2⟩, e3⟩
      | _ => cases e
theorem RS.mk {b : Bool} (h : Rp K (bo B b) H0 d v) : RS K B H0 H σ ρ (mkR b d) v := by
  cases b
  · exact h
  · exact h
end
/-! ### names and constants -/
def nmF (i : Nat) : ED := fun ρ => match ρ[i]? with
  | some (.fz d) => some (.fz d, ρ)
  | some (.ar d) => some (.ar d, ρ)
  | some (.ow _) => some (.ow i, ρ)
  | _ => none
def kF (d : D) : ED := fun ρ => some (.fz d, ρ)
section
variable {X : Cx} {pos : Pos}
theorem join_some {α : Type} {o : Option (Option α)} {x : α} (h : o.join = some x) : o = some (some x) := by
  cases o with
  | none => cases h
  | some y => exact congrArg some h
theorem de_name (i : Nat) {x : Str} (hN : X.N[i]? = some x := by rfl) (hv : Vis X.env.scope x := by first | exact Or.inl rfl | exact Or.inr (Or.inl rfl) | exact Or.inr (Or.inr rfl)) (hd : (x == ("__debug__" : Str)) = false := by decide)
    (hcd : (x == ("__classdict__" : Str)) = false := by decide) : DE X (.Name x pos) (nmF i) := by
  refine pe_imp (pe_var (i := i) hN hv hd hcd) fun σ H Q ⟨B, H0, ρ, r, ρ', S, e, k⟩ => ?_
  unfold nmF at e
  cases q : ρ[i]? with
  | none => rw [q] at e; cases e
  | some s =>
    rw [q] at e
    obtain ⟨O, w, so⟩ := S.at_ q
    cases s with
    | fz d =>
      cases e
      obtain ⟨_, u, e1, e2⟩ := so
      exact ⟨u, join_some e1, k u H0 H (Same.refl _) S e2⟩
    | ar d =>
      cases e
      obtain ⟨_, u, e1, e2⟩ := so
      exact ⟨u, join_some e1, k u H0 H (Same.refl _) S e2⟩
    | ow ds =>
      cases e
      obtain ⟨a, vs, _, e1, e2, e3⟩ := so
      exact ⟨.ref a, join_some e1, k _ H0 H (Same.refl _) S (join_some e1)⟩
    | _ => cases e
theorem de_k {e : Expr} {v : V} {d : D} (h : PE X e (tC v)) (hr : ∀ (B : Bs) (H0 : Hp), Rp X.K (some B.b) H0 d v) : DE X e (kF d) := by
  refine pe_imp h fun σ H Q ⟨B, H0, ρ, r, ρ', S, e, k⟩ => ?_
  cases e
  exact k v H0 H (Same.refl _) S (hr B H0)
theorem de_int {i : Int} {j} : DE X (.Constant (.int i) j pos) (kF (.int i)) := de_k pe_int fun _ _ => rfl
theorem de_bl {i : Bool} {j} : DE X (.Constant (.bool i) j pos) (kF (.bl i)) := de_k pe_bl fun _ _ => rfl
theorem de_str {i : Str} {j} : DE X (.Constant (.str i) j pos) (kF (.str i)) := de_k pe_str fun _ _ => rfl
theorem de_non {j} : DE X (.Constant .none j pos) (kF .non) := de_k pe_non fun _ _ => rfl
/-- a module's constant -/
theorem de_glob {x : Str} {u : Value} {v : V} {d : D} (hg : Gl X x := by rfl) (hm : X.mg x = some u) (r : RelV v u) (hr : ∀ (B : Bs) (H0 : Hp), Rp X.K (some B.b) H0 d v) (hd : (x == ("__debug__" : Str)) = false := by decide) : DE X (.Name x pos) (kF d) :=
  de_k (pe_glob hg hm r hd) hr
end
/-! ### two operands -/
theorem ob {α β : Type} {x : Option α} {f : α → Option β} {y : β} (h : x.bind f = some y) : ∃ a, x = some a ∧ f a = some y := Option.bind_eq_some_iff.mp h
/-- evaluated and held -/
def argF (f : ED) : ED := fun ρ => (f ρ).bind fun p => (hold p.1).map fun r => (r, p.2)
/-- one after another, held -/
def binF (f g : ED) (o : Bool × D → Bool × D → Option Res) : ED := fun ρ => (argF f ρ).bind fun p1 => (argF g p1.2).bind fun p2 => (view p2.2 p1.1).bind fun p => (view p2.2 p2.1).bind fun q => (o p q).map fun r => (r, p2.2)
/-- an operation on values does o -/
def OpD (K : PySem.W.Frag) (r : R2) (o : Bool × D → Bool × D → Option Res) : Prop :=
  ∀ (B : Bs) (H0 H : Hp) (σ : L2.St) (ρ : Env) (x y : V) (p q : Bool × D) (res : Res), SD K B H0 H σ ρ → Rv K (bo B p.1) H0 H p.2 x → Rv K (bo B q.1) H0 H q.2 y → o p q = some res →
    ∀ Q : VK, (∀ v H0' H', Same H0 H0' → SD K B H0' H' σ ρ → RS K B H0' H' σ ρ res v → Q v H') → r x y H Q
/-- an evaluated argument, held -/
theorem arg_red {K : PySem.W.Frag} {f : ED} {B : Bs} {H0 H : Hp} {σ : L2.St} {ρ ρ' : Env} {r : Res} (S : SD K B H0 H σ ρ) (e : argF f ρ = some (r, ρ')) {Q : VK}
    (k : ∀ v H0' H', Same H0 H0' → SD K B H0' H' σ ρ' → RS K B H0' H' σ ρ' r v → isHeld r = true → Q v H') : tDE K f σ H Q := by
  obtain ⟨⟨r1, ρ1⟩, e1, e2⟩ := ob e
  obtain ⟨r2, e3, e4⟩ := Option.map_eq_some_iff.mp e2
  cases e4
  refine ⟨B, H0, ρ, r1, ρ1, S, e1, fun x H0a Ha sa Sa Ra => ?_⟩
  obtain ⟨H1, s1, S1, R1, n1⟩ := Sa.hold Ra e3
  exact k x H1 Ha (sa.trans s1) S1 R1 n1
theorem bin_red {K : PySem.W.Frag} {f g : ED} {o : Bool × D → Bool × D → Option Res} {r : R2} (ho : OpD K r o) : ∀ σ H Q, tDE K (binF f g o) σ H Q → tOp r (tDE K f) (tDE K g) σ H Q := by
  rintro σ H Q ⟨B, H0, ρ, res, ρ', S, e, k⟩
  obtain ⟨⟨r1, ρ1⟩, e1, e⟩ := ob e
  obtain ⟨⟨r2, ρ2⟩, e2, e⟩ := ob e
  obtain ⟨p, e3, e⟩ := ob e
  obtain ⟨q, e4, e⟩ := ob e
  obtain ⟨rr, e5, e6⟩ := Option.map_eq_some_iff.mp e
  cases e6
  refine arg_red S e1 fun x H1 Ha s1 S1 R1 n1 => ?_
  refine arg_red S1 e2 fun y H2 Hb s2 S2 R2 n2 => ?_
  refine ho B H2 Hb σ ρ2 x y p q res S2 (S2.view (R1.keep n1 s2) e3) (S2.view R2 e4) e5 Q fun v H0' H' s' S' R' => ?_
  exact k v H0' H' ((s1.trans s2).trans s') S' R'
section
variable {X : Cx} {a b : Expr} {f g : ED} {pos : Pos} {o : Bool × D → Bool × D → Option Res} {r : R2}
theorem de_bin {op : Operator} (h : OpR X (binaryOp op) r) (ho : OpD X.K r o) (ha : DE X a f) (hb : DE X b g) : DE X (.BinOp a op b pos) (binF f g o) := pe_imp (pe_op h ha hb) (bin_red ho)
theorem de_cmp {op : CmpOp} (h : OpR X (compareOp op) r) (ho : OpD X.K r o) (ha : DE X a f) (hb : DE X b g) (hm : behindInMarks op b = false) : DE X (.Compare a [op] [b] pos) (binF f g o) := pe_imp (pe_cmpR h ha hb hm) (bin_red ho)
/-- a comparison as a test -/
def tstF (f : ED) : TD := fun ρ => match f ρ with
  | some (.fz (.bl b), ρ') => some (b, ρ')
  | some (.ar (.bl b), ρ') => some (b, ρ')
  | _ => none
theorem tst_red {K : PySem.W.Frag} {te : TE} (h : ∀ σ H Q, tDE K f σ H Q → te σ H Q) : ∀ σ H Q, tDT K (tstF f) σ H Q → tTest te σ H Q := by
  rintro σ H Q ⟨B, H0, ρ, bb, ρ', S, e, k⟩
  unfold tstF at e
  cases e1 : f ρ with
  | none => rw [e1] at e; cases e
  | some p =>
    obtain ⟨r1, ρ1⟩ := p
    rw [e1] at e
    cases r1 with
    | fz d =>
      cases d with
      | bl z =>
        cases e
        exact h σ H _ ⟨B, H0, ρ, _, _, S, e1, fun v H0' H' s' S' R' => ⟨bb, R', k H0' H' s' S'⟩⟩
      | _ => cases e
    | ar d =>
      cases d with
      | bl z =>
        cases e
        exact h σ H _ ⟨B, H0, ρ, _, _, S, e1, fun v H0' H' s' S' R' => ⟨bb, R', k H0' H' s' S'⟩⟩
      | _ => cases e
    | _ => cases e
theorem dt_cmp {op : CmpOp} (h : OpR X (compareOp op) r) (ho : OpD X.K r o) (ha : DE X a f) (hb : DE X b g) (hm : behindInMarks op b = false) : DT X (.Compare a [op] [b] pos) (tstF (binF f g o)) := pt_imp (pt_cmpR h ha hb hm) (tst_red (bin_red ho))
/-- an expression whose value is a bool, as a test -/
theorem dt_val {e : Expr} (h : DE X e f) (he : ∀ whole, isTrue e X.env whole = (do let v ← whole; standAt e.pos; holding [v] (truthy v)) := by intro _; rfl) : DT X e (tstF f) := pt_imp (pt_val h he) (tst_red fun _ _ _ q => q)
end
/-! ### the operations on data -/
def oI (g : Int → Int → D) : Bool × D → Bool × D → Option Res
  | (_, .int i), (_, .int j) => some (.fz (g i j))
  | _, _ => none
def oIc (c : Int → Int → Bool) (g : Int → Int → D) : Bool × D → Bool × D → Option Res
  | (_, .int i), (_, .int j) => if c i j then some (.fz (g i j)) else none
  | _, _ => none
/-- an atom: the value that it is -/
def atm : D → Option V
  | .non => some .non
  | .bl b => some (.bl b)
  | .int i => some (.int i)
  | .str x => some (.str x)
  | _ => none
theorem atm_rp {K : PySem.W.Frag} {b : Option Hp} {H : Hp} {d : D} {v : V} (h : atm d = some v) : Rp K b H d v := by
  cases d <;> cases h <;> rfl
theorem atm_rv {K : PySem.W.Frag} {b : Option Hp} {H0 H : Hp} {d : D} {v u : V} (h : atm d = some v) (r : Rv K b H0 H d u) : u = v := by
  cases d <;> cases h <;> exact r
section
variable {K : PySem.W.Frag}
theorem opd_I {g : Int → Int → V} {g' : Int → Int → D} (h : ∀ i j, atm (g' i j) = some (g i j)) : OpD K (rI0 g) (oI g') := by
  rintro B H0 H σ ρ x y ⟨p1, p⟩ ⟨q1, q⟩ res S hp hq e Q k
  cases p with
  | int i =>
    cases q with
    | int j =>
      cases e
      cases hp
      cases hq
      exact ⟨i, j, rfl, rfl, k _ H0 H (Same.refl _) S (atm_rp (h i j))⟩
    | _ => cases e
  | _ => cases e
theorem opd_Ic {C : Int → Int → Prop} {c : Int → Int → Bool} {g : Int → Int → V} {g' : Int → Int → D} (hc : ∀ i j, c i j = true → C i j) (h : ∀ i j, c i j = true → atm (g' i j) = some (g i j)) : OpD K (rI C g) (oIc c g') := by
  rintro B H0 H σ ρ x y ⟨p1, p⟩ ⟨q1, q⟩ res S hp hq e Q k
  cases p with
  | int i =>
    cases q with
    | int j =>
      have e' : (if c i j = true then some (Res.fz (g' i j)) else none) = some res := e
      by_cases z : c i j = true
      · rw [if_pos z] at e'
        cases e'
        cases hp
        cases hq
        exact ⟨i, j, rfl, rfl, hc i j z, k _ H0 H (Same.refl _) S (atm_rp (h i j z))⟩
      · rw [if_neg z] at e'; cases e'
    | _ => cases e
  | _ => cases e
end
end Sc
set_option maxRecDepth 100000
set_option maxHeartbeats 2000000
namespace Sc
open PySem PySem.Spec PyProof.Rows L2
/-! ### argument lists -/
def argsF : List ED → Env → Option (List Res × Env)
  | [], ρ => some ([], ρ)
  | f :: fs, ρ => (argF f ρ).bind fun p => (argsF fs p.2).map fun q => (p.1 :: q.1, q.2)
def views (ρ : Env) : List Res → Option (List (Bool × D))
  | [] => some []
  | r :: rs => (view ρ r).bind fun p => (views ρ rs).map fun ps => p :: ps
def RSs (K : PySem.W.Frag) (B : Bs) (H0 H : Hp) (σ : L2.St) (ρ : Env) : List Res → List V → Prop
  | [], vs => vs = []
  | r :: rs, vs => ∃ v ws, vs = v :: ws ∧ RS K B H0 H σ ρ r v ∧ isHeld r = true ∧ RSs K B H0 H σ ρ rs ws
def Rvs (K : PySem.W.Frag) (B : Bs) (H0 H : Hp) : List (Bool × D) → List V → Prop
  | [], vs => vs = []
  | p :: ps, vs => ∃ v ws, vs = v :: ws ∧ Rv K (bo B p.1) H0 H p.2 v ∧ Rvs K B H0 H ps ws
def tDA (K : PySem.W.Frag) (fs : List ED) : TA := fun σ H Q => ∃ B H0 ρ rs ρ', SD K B H0 H σ ρ ∧ argsF fs ρ = some (rs, ρ') ∧ ∀ vs H0' H', Same H0 H0' → SD K B H0' H' σ ρ' → RSs K B H0' H' σ ρ' rs vs → Q vs H'
abbrev DA (X : Cx) (es : List Expr) (fs : List ED) : Prop := PA X es (tDA X.K fs)
section
variable {K : PySem.W.Frag} {B : Bs} {H0 H0' H H' : Hp} {σ : L2.St} {ρ ρ' : Env} {rs : List Res} {vs : List V}
theorem RSs.views (S : SD K B H0 H σ ρ) : ∀ {rs : List Res} {vs : List V} {ps : List (Bool × D)}, RSs K B H0 H σ ρ rs vs → views ρ rs = some ps → Rvs K B H0 H ps vs
  | [], _, _, h, e => by cases e; exact h
  | r :: rs, _, _, h, e => by
    obtain ⟨v, ws, rfl, h1, _, h3⟩ := h
    obtain ⟨p, e1, e2⟩ := ob e
    obtain ⟨ps, e3, e4⟩ := Option.map_eq_some_iff.mp e2
    cases e4
    exact ⟨v, ws, rfl, S.view h1 e1, RSs.views S h3 e3⟩
theorem Rvs.rps (e : Same H0 H) : ∀ {ps : List (Bool × D)} {vs : List V}, Rvs K B H0 H ps vs → Rps K none H (ps.map (·.2)) vs
  | [], _, h => h
  | p :: ps, _, h => by
    obtain ⟨v, ws, rfl, h1, h2⟩ := h
    exact ⟨v, ws, rfl, h1.rp e, Rvs.rps e h2⟩
end
section
variable {X : Cx} {e : Expr} {es : List Expr} {f : ED} {fs : List ED} {pos : Pos}
theorem da_nil : DA X [] [] := by
  refine pa_imp pa_nil fun σ H Q ⟨B, H0, ρ, rs, ρ', S, e, k⟩ => ?_
  cases e
  exact k [] H0 H (Same.refl _) S rfl
theorem da_cons (ha : DE X e f) (hr : DA X es fs) (hs : starEach (e :: es) X.env = (false, eval e X.env) :: starEach es X.env := by rfl) : DA X (e :: es) (f :: fs) := by
  refine pa_imp (pa_cons ha hr hs) fun σ H Q ⟨B, H0, ρ, rs, ρ', S, e, k⟩ => ?_
  obtain ⟨⟨r1, ρ1⟩, e1, e2⟩ := ob e
  obtain ⟨⟨rs2, ρ2⟩, e3, e4⟩ := Option.map_eq_some_iff.mp e2
  cases e4
  refine arg_red S e1 fun v H1 Ha s1 S1 R1 n1 => ?_
  refine ⟨B, H1, ρ1, rs2, ρ2, S1, e3, fun vs H2 Hb s2 S2 R2 => ?_⟩
  exact k (v :: vs) H2 Hb (s1.trans s2) S2 ⟨v, vs, rfl, R1.keep n1 s2, n1, R2⟩
end
/-! ### built-ins by value -/
def CallD (K : PySem.W.Frag) (r : List V → Hp → VK → Prop) (o : List (Bool × D) → Option Res) : Prop :=
  ∀ (B : Bs) (H0 H : Hp) (σ : L2.St) (ρ : Env) (vs : List V) (ps : List (Bool × D)) (res : Res), SD K B H0 H σ ρ → Rvs K B H0 H ps vs → o ps = some res →
    ∀ Q : VK, (∀ v H0' H', Same H0 H0' → SD K B H0' H' σ ρ → RS K B H0' H' σ ρ res v → Q v H') → r vs H Q
def callF (fs : List ED) (o : List (Bool × D) → Option Res) : ED := fun ρ => (argsF fs ρ).bind fun p => (views p.2 p.1).bind fun ps => (o ps).map fun r => (r, p.2)
theorem call_red {K : PySem.W.Frag} {fs : List ED} {o : List (Bool × D) → Option Res} {r : List V → Hp → VK → Prop} (ho : CallD K r o) : ∀ σ H Q, tDE K (callF fs o) σ H Q → tCB r (tDA K fs) σ H Q := by
  rintro σ H Q ⟨B, H0, ρ, res, ρ', S, e, k⟩
  obtain ⟨⟨rs, ρ1⟩, e1, e⟩ := ob e
  obtain ⟨ps, e2, e⟩ := ob e
  obtain ⟨rr, e3, e4⟩ := Option.map_eq_some_iff.mp e
  cases e4
  refine ⟨B, H0, ρ, rs, ρ1, S, e1, fun vs H1 Ha s1 S1 R1 => ?_⟩
  exact ho B H1 Ha σ ρ1 vs ps res S1 (RSs.views S1 R1 e2) e3 Q fun v H0' H' s' S' R' => k v H0' H' (s1.trans s') S' R'
section
variable {X : Cx} {e : Expr} {es : List Expr} {fs : List ED} {pos p : Pos} {o : List (Bool × D) → Option Res} {r : List V → Hp → VK → Prop} {x : Str}
theorem de_callB {id : String} (hc : CallR X (.builtin id) r) (ho : CallD X.K r o) (hm : X.mg x = none) (hv : bootBuiltins x = some (.builtin id)) (ha : DA X (e :: es) fs) (hg : Gl X x := by rfl) (hn : x ≠ "__name__" := by decide) (hdb : (x == ("__debug__" : Str)) = false := by decide)
    (he : starEach (e :: es) X.env = (false, eval e X.env) :: starEach es X.env := by rfl) (hpl : (backTo pos (starEach es X.env)).any (·.1) = false := by rfl) : DE X (.Call (.Name x p) (e :: es) [] pos) (callF fs o) :=
  pe_imp (pe_callB hc hg hm hv ha hn hdb he hpl) (call_red ho)
theorem de_callTy {T : String} (hc : CallR X (.type T) r) (ho : CallD X.K r o) (hm : X.mg x = none) (hv : bootBuiltins x = some (.type T)) (ha : DA X (e :: es) fs) (hg : Gl X x := by rfl) (hn : x ≠ "__name__" := by decide) (hdb : (x == ("__debug__" : Str)) = false := by decide)
    (he : starEach (e :: es) X.env = (false, eval e X.env) :: starEach es X.env := by rfl) (hpl : (backTo pos (starEach es X.env)).any (·.1) = false := by rfl) : DE X (.Call (.Name x p) (e :: es) [] pos) (callF fs o) :=
  pe_imp (pe_callTy hc hg hm hv ha hn hdb he hpl) (call_red ho)
end
/-! what a sequence is -/
theorem Rv.seq {K : PySem.W.Frag} {b : Option Hp} {H0 H : Hp} {d : D} {ds : List D} {v : V} (s : Same H0 H) (e : d = .lst ds ∨ d = .tup ds) (h : Rv K b H0 H d v) : ∃ a vs, v = .ref a ∧ (SqL K H a vs ∨ SqT K H a vs) ∧ Rps K b H0 ds vs := by
  rcases e with rfl | rfl
  · obtain ⟨a, vs, e1, e2, e3⟩ := h; exact ⟨a, vs, e1, .inl e2.sq, e3⟩
  · obtain ⟨a, vs, e1, e2, e3⟩ := h; exact ⟨a, vs, e1, .inr (sqT_mono s e2), e3⟩
def seqOf : D → Option (List D)
  | .lst ds => some ds
  | .tup ds => some ds
  | _ => none
theorem seqOf_or {d : D} {ds : List D} (h : seqOf d = some ds) : d = .lst ds ∨ d = .tup ds := by
  cases d <;> cases h
  · exact .inr rfl
  · exact .inl rfl
def oLen : List (Bool × D) → Option Res
  | [(_, d)] => match seqOf d with
    | some ds => some (.fz (.int ds.length))
    | none => none
  | _ => none
theorem Rvs.one {K : PySem.W.Frag} {B : Bs} {H0 H : Hp} {p : Bool × D} {vs : List V} (h : Rvs K B H0 H [p] vs) : ∃ v, vs = [v] ∧ Rv K (bo B p.1) H0 H p.2 v := by
  obtain ⟨v, ws, rfl, h1, h2⟩ := h
  cases h2
  exact ⟨v, rfl, h1⟩
theorem Rvs.two {K : PySem.W.Frag} {B : Bs} {H0 H : Hp} {p q : Bool × D} {vs : List V} (h : Rvs K B H0 H [p, q] vs) : ∃ v w, vs = [v, w] ∧ Rv K (bo B p.1) H0 H p.2 v ∧ Rv K (bo B q.1) H0 H q.2 w := by
  obtain ⟨v, ws, rfl, h1, h2⟩ := h
  obtain ⟨w, rfl, h3⟩ := h2.one
  exact ⟨v, w, rfl, h1, h3⟩
theorem cd_len {K : PySem.W.Frag} : CallD K (fun xs H Q => ∃ p ys, xs = [.ref p] ∧ (SqL K H p ys ∨ SqT K H p ys) ∧ Q (.int ys.length) H) oLen := by
  intro B H0 H σ ρ vs ps res S hv e Q k
  unfold oLen at e
  split at e
  · rename_i fr d
    obtain ⟨v, rfl, h1⟩ := hv.one
    split at e
    · rename_i ds q
      cases e
      obtain ⟨a, ws, rfl, e2, e3⟩ := Rv.seq S.sub (seqOf_or q) h1
      refine ⟨a, ws, rfl, e2, k _ H0 H (Same.refl _) S ?_⟩
      show V.int _ = V.int _
      rw [e3.length]
    · cases e
  · cases e
/-- a new tuple laid -/
theorem SD.newTup {K : PySem.W.Frag} {B : Bs} {H0 H : Hp} {σ : L2.St} {ρ : Env} {b : Bool} {ds : List D} {vs : List V} {p : Addr} (S : SD K B H0 H σ ρ) (hp : H p = none) (hr : Rps K (bo B b) H0 ds vs) :
    ∃ H1, Same H0 H1 ∧ SD K B H1 (upd H p (.tup vs)) σ ρ ∧ RS K B H1 (upd H p (.tup vs)) σ ρ (mkR b (.tup ds)) (.ref p) := by
  have e1 : Same H (upd H p (.tup vs)) := fun a o q => by rw [upd_ne (ne_of_none q hp)]; exact q
  have S1 := S.grow e1
  refine ⟨_, fzn_same, S1, RS.mk (b := b) ⟨p, vs, rfl, ?_, hr.mono fzn_same⟩⟩
  exact SqT.of (by rw [fzn_new (S.none_of hp) hp, upd_same])
/-- a new list laid -/
theorem SD.newLst {K : PySem.W.Frag} {B : Bs} {H0 H : Hp} {σ : L2.St} {ρ : Env} {ds : List D} {vs : List V} {p : Addr} (S : SD K B H0 H σ ρ) (hp : H p = none) (hr : Rps K (some B.b) H0 ds vs) :
    ∃ H1, Same H0 H1 ∧ SD K B H1 (upd H p (.lst vs)) σ ρ ∧ RS K B H1 (upd H p (.lst vs)) σ ρ (.nw ds) (.ref p) := by
  obtain ⟨O, w⟩ := S.own
  have n0 := S.none_of hp
  have e1 : ∀ a o, H a = some o → (upd H p (.lst vs)) a = some o := fun a o q => by rw [upd_ne (ne_of_none q hp)]; exact q
  have w' : Own K B H0 (upd H p (.lst vs)) σ ρ O := ⟨fun j s q => (w.ok j s q).frame (Same.refl _) fun a _ o q' => e1 a o q', w.non, w.inj, w.out, w.tmp⟩
  refine ⟨H0, Same.refl _, ⟨S.len, S.bir, fun a o q => e1 a o (S.sub a o q), fun a o q => ⟨e1 a o (S.tmp a o q).1, (S.tmp a o q).2⟩, fun a o q i => ?_, O, w'⟩, ⟨O, p, vs, w', fun i m => ?_, ?_, rfl, n0, upd_same, hr⟩⟩
  · by_cases z : a = p
    · subst z; rw [upd_same] at q; cases q; cases i
    · rw [upd_ne z] at q; exact S.imm a o q i
  · obtain ⟨o, q, _⟩ := w.there m
    rw [hp] at q; cases q
  · cases q : B.t p with
    | none => rfl
    | some o => rw [(S.tmp p o q).1] at hp; cases hp
def oTuple : List (Bool × D) → Option Res
  | [(fr, .lst ds)] => some (mkR fr (.tup ds))
  | [(fr, .tup ds)] => some (mkR fr (.tup ds))
  | _ => none
theorem cd_tuple {K : PySem.W.Frag} : CallD K (fun xs H Q => ∃ p ys, xs = [.ref p] ∧ ((SqL K H p ys ∧ ∀ l, H l = none → Q (.ref l) (upd H l (.tup ys))) ∨ (SqT K H p ys ∧ Q (.ref p) H))) oTuple := by
  intro B H0 H σ ρ vs ps res S hv e Q k
  unfold oTuple at e
  split at e
  · rename_i fr ds
    obtain ⟨v, rfl, h1⟩ := hv.one
    cases e
    obtain ⟨a, ws, rfl, e2, e3⟩ := h1; replace e2 := e2.sq
    refine ⟨a, ws, rfl, .inl ⟨e2, fun l hl => ?_⟩⟩
    obtain ⟨H1, s1, S1, R1⟩ := S.newTup hl e3
    exact k _ H1 _ s1 S1 R1
  · rename_i fr ds
    obtain ⟨v, rfl, h1⟩ := hv.one
    cases e
    have h1' : Rp K (bo B fr) H0 (.tup ds) v := h1
    obtain ⟨a, ws, rfl, e2, e3⟩ := h1
    exact ⟨a, ws, rfl, .inr ⟨sqT_mono S.sub e2, k _ H0 H (Same.refl _) S (RS.mk h1')⟩⟩
  · cases e
def oList : List (Bool × D) → Option Res
  | [(true, d)] => match seqOf d with
    | some ds => some (.nw ds)
    | none => none
  | [(false, d)] => match seqOf d with
    | some ds => if noLs ds then some (.nw ds) else none
    | none => none
  | _ => none
theorem cd_list {K : PySem.W.Frag} : CallD K (fun xs H Q => ∃ p ys, xs = [.ref p] ∧ (SqL K H p ys ∨ SqT K H p ys) ∧ ∀ l, H l = none → Q (.ref l) (upd H l (.lst ys))) oList := by
  intro B H0 H σ ρ vs ps res S hv e Q k
  unfold oList at e
  split at e
  · rename_i d
    obtain ⟨v, rfl, h1⟩ := hv.one
    split at e
    · rename_i ds q
      cases e
      obtain ⟨a, ws, rfl, e2, e3⟩ := Rv.seq S.sub (seqOf_or q) h1
      refine ⟨a, ws, rfl, e2, fun l hl => ?_⟩
      obtain ⟨H1, s1, S1, R1⟩ := S.newLst hl e3
      exact k _ H1 _ s1 S1 R1
    · cases e
  · rename_i d
    obtain ⟨v, rfl, h1⟩ := hv.one
    split at e
    · rename_i ds q
      split at e
      · rename_i z
        cases e
        obtain ⟨a, ws, rfl, e2, e3⟩ := Rv.seq S.sub (seqOf_or q) h1
        refine ⟨a, ws, rfl, e2, fun l hl => ?_⟩
        obtain ⟨H1, s1, S1, R1⟩ := S.newLst hl (e3.flat (fun _ _ t => t) z)
        exact k _ H1 _ s1 S1 R1
      · cases e
    · cases e
  · cases e
/-- ints, all of them -/
def intsOf : List D → Option (List Int)
  | [] => some []
  | .int i :: ds => (intsOf ds).map fun is => i :: is
  | _ :: _ => none
def blsOf : List D → Option (List Bool)
  | [] => some []
  | .bl i :: ds => (blsOf ds).map fun is => i :: is
  | _ :: _ => none
theorem intsOf_map : ∀ is : List Int, intsOf (is.map D.int) = some is
  | [] => rfl
  | i :: is => by rw [List.map_cons, intsOf, intsOf_map is]; rfl
theorem blsOf_map : ∀ is : List Bool, blsOf (is.map D.bl) = some is
  | [] => rfl
  | i :: is => by rw [List.map_cons, blsOf, blsOf_map is]; rfl
theorem intsOf_eq : ∀ {ds : List D} {is : List Int}, intsOf ds = some is → ds = is.map D.int
  | [], _, h => by cases h; rfl
  | d :: ds, is, h => by
    cases d with
    | int i =>
      obtain ⟨js, e1, e2⟩ := Option.map_eq_some_iff.mp h
      cases e2
      rw [intsOf_eq e1]; rfl
    | _ => cases h
theorem blsOf_eq : ∀ {ds : List D} {is : List Bool}, blsOf ds = some is → ds = is.map D.bl
  | [], _, h => by cases h; rfl
  | d :: ds, is, h => by
    cases d with
    | bl i =>
      obtain ⟨js, e1, e2⟩ := Option.map_eq_some_iff.mp h
      cases e2
      rw [blsOf_eq e1]; rfl
    | _ => cases h
theorem rps_ints {K : PySem.W.Frag} {b : Option Hp} {H : Hp} : ∀ {is : List Int} {vs : List V}, Rps K b H (is.map D.int) vs → vs = is.map V.int
  | [], _, h => h
  | i :: is, _, h => by
    obtain ⟨v, r, rfl, h1, h2⟩ := h
    have e : v = .int i := h1
    rw [e, rps_ints h2]; rfl
theorem rps_bls {K : PySem.W.Frag} {b : Option Hp} {H : Hp} : ∀ {is : List Bool} {vs : List V}, Rps K b H (is.map D.bl) vs → vs = is.map V.bl
  | [], _, h => h
  | i :: is, _, h => by
    obtain ⟨v, r, rfl, h1, h2⟩ := h
    have e : v = .bl i := h1
    rw [e, rps_bls h2]; rfl
def oSum : List (Bool × D) → Option Res
  | [(_, .lst ds)] => (intsOf ds).map fun is => .fz (.int is.sum)
  | _ => none
theorem cd_sum {K : PySem.W.Frag} : CallD K (rSum K) oSum := by
  intro B H0 H σ ρ vs ps res S hv e Q k
  unfold oSum at e
  split at e
  · rename_i fr ds
    obtain ⟨v, rfl, h1⟩ := hv.one
    obtain ⟨is, e1, e2⟩ := Option.map_eq_some_iff.mp e
    cases e2
    have e3 := intsOf_eq e1
    subst e3
    obtain ⟨a, ws, rfl, e2, e3⟩ := h1; replace e2 := e2.sq
    have e4 := rps_ints e3
    subst e4
    exact ⟨a, is, rfl, e2, k _ H0 H (Same.refl _) S rfl⟩
  · cases e
def oAll : List (Bool × D) → Option Res
  | [(_, .lst ds)] => (blsOf ds).map fun is => .fz (.bl (is.all id))
  | _ => none
def oAny : List (Bool × D) → Option Res
  | [(_, .lst ds)] => (blsOf ds).map fun is => .fz (.bl (is.any id))
  | _ => none
theorem cd_all {K : PySem.W.Frag} : CallD K (rAll K) oAll := by
  intro B H0 H σ ρ vs ps res S hv e Q k
  unfold oAll at e
  split at e
  · rename_i fr ds
    obtain ⟨v, rfl, h1⟩ := hv.one
    obtain ⟨is, e1, e2⟩ := Option.map_eq_some_iff.mp e
    cases e2
    have e3 := blsOf_eq e1
    subst e3
    obtain ⟨a, ws, rfl, e2, e3⟩ := h1; replace e2 := e2.sq
    have e4 := rps_bls e3
    subst e4
    exact ⟨a, is, rfl, e2, k _ H0 H (Same.refl _) S rfl⟩
  · cases e
theorem cd_any {K : PySem.W.Frag} : CallD K (rAny K) oAny := by
  intro B H0 H σ ρ vs ps res S hv e Q k
  unfold oAny at e
  split at e
  · rename_i fr ds
    obtain ⟨v, rfl, h1⟩ := hv.one
    obtain ⟨is, e1, e2⟩ := Option.map_eq_some_iff.mp e
    cases e2
    have e3 := blsOf_eq e1
    subst e3
    obtain ⟨a, ws, rfl, e2, e3⟩ := h1; replace e2 := e2.sq
    have e4 := rps_bls e3
    subst e4
    exact ⟨a, is, rfl, e2, k _ H0 H (Same.refl _) S rfl⟩
  · cases e
/-- the greatest of ints, at least one -/
def maxL : List Int → Int
  | [] => 0
  | [i] => i
  | i :: is => max i (maxL is)
theorem maxL_mem : ∀ {is : List Int}, is ≠ [] → maxL is ∈ is
  | [], h => (h rfl).elim
  | [i], _ => by simp [maxL]
  | i :: j :: is, _ => by
    have ih := maxL_mem (is := j :: is) (by simp)
    rw [maxL]
    by_cases z : i ≤ maxL (j :: is)
    · rw [Int.max_eq_right z]; exact List.mem_cons_of_mem _ ih
    · rw [Int.max_eq_left (by omega)]; exact List.mem_cons_self
    · simp
theorem maxL_le : ∀ {is : List Int} {y : Int}, y ∈ is → y ≤ maxL is
  | [], y, h => by cases h
  | [i], y, h => by simp at h; subst h; exact Int.le_refl _
  | i :: j :: is, y, h => by
    rw [maxL]
    · rcases List.mem_cons.mp h with rfl | h
      · exact Int.le_max_left _ _
      · exact Int.le_trans (maxL_le h) (Int.le_max_right _ _)
    · simp
def oMax : List (Bool × D) → Option Res
  | [(_, .lst ds)] => (intsOf ds).bind fun is => if is = [] then none else some (.fz (.int (maxL is)))
  | [(_, .int i), (_, .int j)] => some (.fz (.int (max i j)))
  | _ => none
theorem cd_max {K : PySem.W.Frag} : CallD K (fun vs H Q => rMax K vs H Q ∨ ∃ i j, vs = [.int i, .int j] ∧ Q (.int (if j > i then j else i)) H) oMax := by
  intro B H0 H σ ρ vs ps res S hv e Q k
  unfold oMax at e
  split at e
  · rename_i fr ds
    obtain ⟨v, rfl, h1⟩ := hv.one
    obtain ⟨is, e1, e2⟩ := ob e
    by_cases z : is = []
    · rw [if_pos z] at e2; cases e2
    · rw [if_neg z] at e2
      cases e2
      have e3 := intsOf_eq e1
      subst e3
      obtain ⟨a, ws, rfl, e2, e3⟩ := h1; replace e2 := e2.sq
      have e4 := rps_ints e3
      subst e4
      refine .inl ⟨a, is, rfl, e2, List.length_pos_iff.mpr z, fun m hm hl => ?_⟩
      have em : m = maxL is := Int.le_antisymm (maxL_le hm) (hl _ (maxL_mem z))
      subst em
      exact k _ H0 H (Same.refl _) S rfl
  · rename_i fr i fr' j
    obtain ⟨v, w, rfl, h1, h2⟩ := hv.two
    cases e
    have e1 : v = .int i := h1
    have e2 : w = .int j := h2
    subst e1 e2
    refine .inr ⟨i, j, rfl, k _ H0 H (Same.refl _) S ?_⟩
    show V.int _ = V.int _
    congr 1
    by_cases z : j > i
    · rw [if_pos z, Int.max_eq_right (by omega)]
    · rw [if_neg z, Int.max_eq_left (by omega)]
  · cases e
def oInt : List (Bool × D) → Option Res
  | [(_, .int i)] => some (.fz (.int i))
  | [(_, .bl b)] => some (.fz (.int (if b then 1 else 0)))
  | _ => none
theorem cd_int {K : PySem.W.Frag} : CallD K (fun xs H Q => (∃ i, xs = [.int i] ∧ Q (.int i) H) ∨ ∃ k, xs = [.bl k] ∧ Q (.int (if k then 1 else 0)) H) oInt := by
  intro B H0 H σ ρ vs ps res S hv e Q k
  unfold oInt at e
  split at e
  · rename_i fr i
    obtain ⟨v, rfl, h1⟩ := hv.one
    cases e
    have e1 : v = .int i := h1
    subst e1
    exact .inl ⟨i, rfl, k _ H0 H (Same.refl _) S rfl⟩
  · rename_i fr i
    obtain ⟨v, rfl, h1⟩ := hv.one
    cases e
    have e1 : v = .bl i := h1
    subst e1
    exact .inr ⟨i, rfl, k _ H0 H (Same.refl _) S rfl⟩
  · cases e
/-! ### isinstance -/
def tyOf : D → String
  | .non => "NoneType"
  | .bl _ => "bool"
  | .int _ => "int"
  | .str _ => "str"
  | .tup _ => "tuple"
  | .lst _ => "list"
/-- the answer for a built-in class -/
def isTy (T : String) (d : D) : Option Bool := kitB (tyOf d) T
theorem sqT_ty {K : PySem.W.Frag} {H : Hp} {a : Addr} {xs : List V} (h : SqT K H a xs) : TyX K H (.ref a) (.type "tuple") := by
  rcases h with (h | ⟨o, h⟩) | ⟨o, its, n, h, c, _⟩
  · exact .base (.tup h)
  · exact .fTuple h
  · exact .kTuple h c
theorem sqL_ty {K : PySem.W.Frag} {H : Hp} {a : Addr} {xs : List V} (h : SqL K H a xs) : TyX K H (.ref a) (.type "list") := by
  rcases h with (h | ⟨o, h⟩) | ⟨o, its, n, h, c, _⟩
  · exact .base (.lst h)
  · exact .base (.frz h)
  · exact .kList h c
theorem Rv.ty {K : PySem.W.Frag} {b : Option Hp} {H0 H : Hp} {d : D} {v : V} (s : Same H0 H) (h : Rv K b H0 H d v) : TyX K H v (.type (tyOf d)) := by
  cases d with
  | non => cases h; exact .base .non
  | bl x => cases h; exact .base (.bl _)
  | int x => cases h; exact .base (.int _)
  | str x => cases h; exact .base (.str _)
  | tup ds => obtain ⟨a, vs, rfl, e2, _⟩ := h; exact sqT_ty (sqT_mono s e2)
  | lst ds => obtain ⟨a, vs, rfl, e2, _⟩ := h; exact sqL_ty e2.sq
@[simp] theorem isTy_int_non : isTy "int" .non = some false := show kitB "NoneType" "int" = some false by decide +kernel
@[simp] theorem isTy_int_bl (x : Bool) : isTy "int" (.bl x) = some true := show kitB "bool" "int" = some true by decide +kernel
@[simp] theorem isTy_int_int (x : Int) : isTy "int" (.int x) = some true := show kitB "int" "int" = some true by decide +kernel
@[simp] theorem isTy_int_str (x : Str) : isTy "int" (.str x) = some false := show kitB "str" "int" = some false by decide +kernel
@[simp] theorem isTy_int_tup (x : List D) : isTy "int" (.tup x) = some false := show kitB "tuple" "int" = some false by decide +kernel
@[simp] theorem isTy_int_lst (x : List D) : isTy "int" (.lst x) = some false := show kitB "list" "int" = some false by decide +kernel
@[simp] theorem isTy_bool_non : isTy "bool" .non = some false := show kitB "NoneType" "bool" = some false by decide +kernel
@[simp] theorem isTy_bool_bl (x : Bool) : isTy "bool" (.bl x) = some true := show kitB "bool" "bool" = some true by decide +kernel
@[simp] theorem isTy_bool_int (x : Int) : isTy "bool" (.int x) = some false := show kitB "int" "bool" = some false by decide +kernel
@[simp] theorem isTy_bool_str (x : Str) : isTy "bool" (.str x) = some false := show kitB "str" "bool" = some false by decide +kernel
@[simp] theorem isTy_bool_tup (x : List D) : isTy "bool" (.tup x) = some false := show kitB "tuple" "bool" = some false by decide +kernel
@[simp] theorem isTy_bool_lst (x : List D) : isTy "bool" (.lst x) = some false := show kitB "list" "bool" = some false by decide +kernel
@[simp] theorem isTy_str_non : isTy "str" .non = some false := show kitB "NoneType" "str" = some false by decide +kernel
@[simp] theorem isTy_str_bl (x : Bool) : isTy "str" (.bl x) = some false := show kitB "bool" "str" = some false by decide +kernel
@[simp] theorem isTy_str_int (x : Int) : isTy "str" (.int x) = some false := show kitB "int" "str" = some false by decide +kernel
@[simp] theorem isTy_str_str (x : Str) : isTy "str" (.str x) = some true := show kitB "str" "str" = some true by decide +kernel
@[simp] theorem isTy_str_tup (x : List D) : isTy "str" (.tup x) = some false := show kitB "tuple" "str" = some false by decide +kernel
@[simp] theorem isTy_str_lst (x : List D) : isTy "str" (.lst x) = some false := show kitB "list" "str" = some false by decide +kernel
@[simp] theorem isTy_tuple_non : isTy "tuple" .non = some false := show kitB "NoneType" "tuple" = some false by decide +kernel
@[simp] theorem isTy_tuple_bl (x : Bool) : isTy "tuple" (.bl x) = some false := show kitB "bool" "tuple" = some false by decide +kernel
@[simp] theorem isTy_tuple_int (x : Int) : isTy "tuple" (.int x) = some false := show kitB "int" "tuple" = some false by decide +kernel
@[simp] theorem isTy_tuple_str (x : Str) : isTy "tuple" (.str x) = some false := show kitB "str" "tuple" = some false by decide +kernel
@[simp] theorem isTy_tuple_tup (x : List D) : isTy "tuple" (.tup x) = some true := show kitB "tuple" "tuple" = some true by decide +kernel
@[simp] theorem isTy_tuple_lst (x : List D) : isTy "tuple" (.lst x) = some false := show kitB "list" "tuple" = some false by decide +kernel
@[simp] theorem isTy_list_non : isTy "list" .non = some false := show kitB "NoneType" "list" = some false by decide +kernel
@[simp] theorem isTy_list_bl (x : Bool) : isTy "list" (.bl x) = some false := show kitB "bool" "list" = some false by decide +kernel
@[simp] theorem isTy_list_int (x : Int) : isTy "list" (.int x) = some false := show kitB "int" "list" = some false by decide +kernel
@[simp] theorem isTy_list_str (x : Str) : isTy "list" (.str x) = some false := show kitB "str" "list" = some false by decide +kernel
@[simp] theorem isTy_list_tup (x : List D) : isTy "list" (.tup x) = some false := show kitB "tuple" "list" = some false by decide +kernel
@[simp] theorem isTy_list_lst (x : List D) : isTy "list" (.lst x) = some true := show kitB "list" "list" = some true by decide +kernel
def isiF (T : String) (f : ED) : ED := fun ρ => (argF f ρ).bind fun p => (view p.2 p.1).bind fun q => (isTy T q.2).map fun b => (.fz (.bl b), p.2)
end Sc
set_option maxRecDepth 100000
set_option maxHeartbeats 2000000
namespace Sc
open PySem PySem.Spec PyProof.Rows L2
/-! ### isinstance -/
section
variable {X : Cx} {a b c : Expr} {es : List Expr} {f g : ED} {fs : List ED} {pos p p2 : Pos}
theorem de_isi {T : String} {x : Str} (he : DE X a f) (hm : X.mg "isinstance" = none) (hT : X.mg x = none) (hv : bootBuiltins x = some (.type T)) (hg : Gl X "isinstance" := by rfl) (hgT : Gl X x := by rfl) (hn : x ≠ "__name__" := by decide) (hdb : (x == ("__debug__" : Str)) = false := by decide)
    (h1 : starEach [a, .Name x p2] X.env = (false, eval a X.env) :: starEach [.Name x p2] X.env := by rfl) (hpl : (backTo pos (starEach [.Name x p2] X.env)).any (·.1) = false := by rfl) (h2 : starEach [.Name x p2] X.env = (false, eval (.Name x p2) X.env) :: starEach [] X.env := by rfl) :
    DE X (.Call (.Name "isinstance" p) [a, .Name x p2] [] pos) (isiF T f) := by
  refine pe_imp (pe_callB call_isi hg hm (by decide +kernel) (pa_cons he (pa_cons (pe_bltn (v := .ty T) hgT hT hv rfl hn hdb) pa_nil h2) h1) (by decide) (by decide) h1 hpl) fun σ H Q ⟨B, H0, ρ, r, ρ', S, e, k⟩ => ?_
  obtain ⟨⟨r1, ρ1⟩, e1, e⟩ := ob e
  obtain ⟨⟨fr, d⟩, e2, e⟩ := ob e
  obtain ⟨bb, e3, e4⟩ := Option.map_eq_some_iff.mp e
  cases e4
  refine arg_red S e1 fun v H1 Ha s1 S1 R1 n1 => ?_
  have hv := S1.view R1 e2
  exact ⟨v, .ty T, .type (tyOf d), .type T, bb, rfl, .ty T, Rv.ty S1.sub hv, kit_ty e3, k _ H1 Ha s1 S1 rfl⟩
/-! ### and, or, not; a if t else b -/
def andT (f g : TD) : TD := fun ρ => (f ρ).bind fun p => if p.1 then g p.2 else some (false, p.2)
def orT (f g : TD) : TD := fun ρ => (f ρ).bind fun p => if p.1 then some (true, p.2) else g p.2
def notT (f : TD) : TD := fun ρ => (f ρ).map fun p => (!p.1, p.2)
theorem tdt_seq {K : PySem.W.Frag} {tt : TD} {B : Bs} {H0 H : Hp} {σ : L2.St} {ρ ρ' : Env} {bb : Bool} (S : SD K B H0 H σ ρ) (e : tt ρ = some (bb, ρ')) {Q : Bool → Hp → Prop} (k : ∀ H0' H', Same H0 H0' → SD K B H0' H' σ ρ' → Q bb H') : tDT K tt σ H Q := ⟨B, H0, ρ, bb, ρ', S, e, k⟩
theorem tdt_mono {K : PySem.W.Frag} {tt : TD} {B : Bs} {H0 H1 H : Hp} {σ : L2.St} {ρ ρ' : Env} {bb : Bool} {Q : Bool → Hp → Prop} (S : SD K B H1 H σ ρ) (e : tt ρ = some (bb, ρ')) (s : Same H0 H1) (k : ∀ H0' H', Same H0 H0' → SD K B H0' H' σ ρ' → Q bb H') : tDT K tt σ H Q :=
  ⟨B, H1, ρ, bb, ρ', S, e, fun H0' H' s' S' => k H0' H' (s.trans s') S'⟩
variable {t u : TD}
theorem dw_and1 (h : DT X a t) : DW X (.BoolOp .And [a] pos) t := pw_and1 h
theorem dw_or1 (h : DT X a t) : DW X (.BoolOp .Or [a] pos) t := pw_or1 h
theorem dw_and (ha : DT X a t) (hb : DW X (.BoolOp .And (b :: es) pos) u) : DW X (.BoolOp .And (a :: b :: es) pos) (andT t u) := by
  refine pw_imp (pw_and ha hb) fun σ H Q ⟨B, H0, ρ, bb, ρ', S, e, k⟩ => ?_
  obtain ⟨⟨b1, ρ1⟩, e1, e⟩ := ob e
  refine ⟨B, H0, ρ, b1, ρ1, S, e1, fun H1 Ha s1 S1 => ?_⟩
  cases b1 with
  | true => exact iteT (tdt_mono S1 e s1 k)
  | false => cases e; exact iteF (k H1 Ha s1 S1)
theorem dw_or (ha : DT X a t) (hb : DW X (.BoolOp .Or (b :: es) pos) u) : DW X (.BoolOp .Or (a :: b :: es) pos) (orT t u) := by
  refine pw_imp (pw_or ha hb) fun σ H Q ⟨B, H0, ρ, bb, ρ', S, e, k⟩ => ?_
  obtain ⟨⟨b1, ρ1⟩, e1, e⟩ := ob e
  refine ⟨B, H0, ρ, b1, ρ1, S, e1, fun H1 Ha s1 S1 => ?_⟩
  cases b1 with
  | false => exact iteF (tdt_mono S1 e s1 k)
  | true => cases e; exact iteT (k H1 Ha s1 S1)
theorem dt_w (h : DW X a t) : DT X a t := h.pt
theorem dt_not (ha : DT X a t) : DT X (.UnaryOp .Not a pos) (notT t) := by
  refine pt_imp (pt_not ha) fun σ H Q ⟨B, H0, ρ, bb, ρ', S, e, k⟩ => ?_
  obtain ⟨⟨b1, ρ1⟩, e1, e2⟩ := Option.map_eq_some_iff.mp e
  cases e2
  exact ⟨B, H0, ρ, b1, ρ1, S, e1, k⟩
/-- .. as values: bools -/
def tvF (t : TD) : ED := fun ρ => (t ρ).map fun p => (.fz (.bl p.1), p.2)
def asB (f : ED) : TD := tstF f
theorem asB_inv {ρ ρ' : Env} {bb : Bool} (e : asB f ρ = some (bb, ρ')) : f ρ = some (.fz (.bl bb), ρ') ∨ f ρ = some (.ar (.bl bb), ρ') := by
  unfold asB tstF at e
  split at e
  · rename_i q; cases e; exact .inl q
  · rename_i q; cases e; exact .inr q
  · cases e
theorem asB_red {K : PySem.W.Frag} {B : Bs} {H0 H : Hp} {σ : L2.St} {ρ ρ' : Env} {bb : Bool} (S : SD K B H0 H σ ρ) (e : asB f ρ = some (bb, ρ')) {Q : VK} (k : ∀ H0' H', Same H0 H0' → SD K B H0' H' σ ρ' → Q (.bl bb) H') : tDE K f σ H Q := by
  rcases asB_inv e with q | q
  · exact ⟨B, H0, ρ, _, ρ', S, q, fun v H0' H' s S' R => by cases R; exact k H0' H' s S'⟩
  · exact ⟨B, H0, ρ, _, ρ', S, q, fun v H0' H' s S' R => by cases R; exact k H0' H' s S'⟩
theorem de_one {op} (h : DE X a f) : DE X (.BoolOp op [a] pos) f := pe_one h
theorem de_and (ha : DE X a f) (hb : DE X (.BoolOp .And (b :: es) pos) g) : DE X (.BoolOp .And (a :: b :: es) pos) (tvF (andT (asB f) (asB g))) := by
  refine pe_imp (pe_and ha hb) fun σ H Q ⟨B, H0, ρ, r, ρ', S, e, k⟩ => ?_
  obtain ⟨⟨b0, ρ0⟩, e0, e2⟩ := Option.map_eq_some_iff.mp e
  cases e2
  obtain ⟨⟨b1, ρ1⟩, e1, e⟩ := ob e0
  refine asB_red S e1 fun H1 Ha s1 S1 => ⟨b1, rfl, ?_⟩
  cases b1 with
  | true => exact iteT (asB_red S1 e fun H2 Hb s2 S2 => k _ H2 Hb (s1.trans s2) S2 rfl)
  | false => cases e; exact iteF (k _ H1 Ha s1 S1 rfl)
theorem de_or (ha : DE X a f) (hb : DE X (.BoolOp .Or (b :: es) pos) g) : DE X (.BoolOp .Or (a :: b :: es) pos) (tvF (orT (asB f) (asB g))) := by
  refine pe_imp (pe_or ha hb) fun σ H Q ⟨B, H0, ρ, r, ρ', S, e, k⟩ => ?_
  obtain ⟨⟨b0, ρ0⟩, e0, e2⟩ := Option.map_eq_some_iff.mp e
  cases e2
  obtain ⟨⟨b1, ρ1⟩, e1, e⟩ := ob e0
  refine asB_red S e1 fun H1 Ha s1 S1 => ⟨b1, rfl, ?_⟩
  cases b1 with
  | false => exact iteF (asB_red S1 e fun H2 Hb s2 S2 => k _ H2 Hb (s1.trans s2) S2 rfl)
  | true => cases e; exact iteT (k _ H1 Ha s1 S1 rfl)
theorem de_not (ha : DE X a f) : DE X (.UnaryOp .Not a pos) (tvF (notT (asB f))) := by
  refine pe_imp (pe_not ha) fun σ H Q ⟨B, H0, ρ, r, ρ', S, e, k⟩ => ?_
  obtain ⟨⟨b0, ρ0⟩, e0, e2⟩ := Option.map_eq_some_iff.mp e
  cases e2
  obtain ⟨⟨b1, ρ1⟩, e1, e2⟩ := Option.map_eq_some_iff.mp e0
  cases e2
  exact asB_red S e1 fun H1 Ha s1 S1 => ⟨b1, rfl, k _ H1 Ha s1 S1 rfl⟩
def ifF (t : TD) (f g : ED) : ED := fun ρ => (t ρ).bind fun p => if p.1 then f p.2 else g p.2
theorem de_if (hc : DT X c t) (ha : DE X a f) (hb : DE X b g) : DE X (.IfExp c a b pos) (ifF t f g) := by
  refine pe_imp (pe_ifExp hc ha hb) fun σ H Q ⟨B, H0, ρ, r, ρ', S, e, k⟩ => ?_
  obtain ⟨⟨b1, ρ1⟩, e1, e⟩ := ob e
  refine ⟨B, H0, ρ, b1, ρ1, S, e1, fun H1 Ha s1 S1 => ?_⟩
  cases b1 with
  | true => exact iteT ⟨B, H1, ρ1, r, ρ', S1, e, fun v H0' H' s' S' R' => k v H0' H' (s1.trans s') S' R'⟩
  | false => exact iteF ⟨B, H1, ρ1, r, ρ', S1, e, fun v H0' H' s' S' R' => k v H0' H' (s1.trans s') S' R'⟩
/-! ### a chain of two comparisons of ints -/
def asI : Bool × D → Option Int
  | (_, .int i) => some i
  | _ => none
theorem asI_rv {K : PySem.W.Frag} {b : Option Hp} {H0 H : Hp} {p : Bool × D} {i : Int} {v : V} (e : asI p = some i) (h : Rv K b H0 H p.2 v) : v = .int i := by
  obtain ⟨fr, d⟩ := p
  cases d <;> cases e
  exact h
def chF (f g h : ED) (o o' : Int → Int → Bool) : ED := fun ρ => (argF f ρ).bind fun p1 => (argF g p1.2).bind fun p2 => ((view p2.2 p1.1).bind asI).bind fun i => ((view p2.2 p2.1).bind asI).bind fun j =>
  if o i j then (argF h p2.2).bind fun p3 => ((view p3.2 p3.1).bind asI).map fun l => (.fz (.bl (o' j l)), p3.2) else some (.fz (.bl false), p2.2)
theorem ch_red {K : PySem.W.Frag} {h : ED} {o o' : Int → Int → Bool} : ∀ σ H Q, tDE K (chF f g h o o') σ H Q → tChain (rI0 fun i j => .bl (o i j)) (rI0 fun i j => .bl (o' i j)) (tDE K f) (tDE K g) (tDE K h) σ H Q := by
  rintro σ H Q ⟨B, H0, ρ, r, ρ', S, e, k⟩
  obtain ⟨⟨r1, ρ1⟩, e1, e⟩ := ob e
  obtain ⟨⟨r2, ρ2⟩, e2, e⟩ := ob e
  obtain ⟨i, e3, e⟩ := ob e
  obtain ⟨j, e4, e⟩ := ob e
  obtain ⟨p1, e3, i1⟩ := ob e3
  obtain ⟨p2, e4, i2⟩ := ob e4
  refine arg_red S e1 fun x H1 Ha s1 S1 R1 n1 => ?_
  refine arg_red S1 e2 fun y H2 Hb s2 S2 R2 n2 => ?_
  have v1 := asI_rv i1 (S2.view (R1.keep n1 s2) e3)
  have v2 := asI_rv i2 (S2.view R2 e4)
  subst v1 v2
  refine ⟨i, j, rfl, rfl, _, rfl, ?_⟩
  by_cases z : o i j = true
  · rw [if_pos z] at e
    rw [z]
    refine iteT ?_
    obtain ⟨⟨r3, ρ3⟩, e5, e⟩ := ob e
    obtain ⟨l, e6, e7⟩ := Option.map_eq_some_iff.mp e
    obtain ⟨p3, e6, i3⟩ := ob e6
    cases e7
    refine arg_red S2 e5 fun w H3 Hc s3 S3 R3 n3 => ?_
    have v3 := asI_rv i3 (S3.view R3 e6)
    subst v3
    exact ⟨j, l, rfl, rfl, k _ H3 Hc ((s1.trans s2).trans s3) S3 rfl⟩
  · rw [if_neg z] at e
    cases e
    rw [Bool.not_eq_true] at z
    rw [z]
    exact iteF (k _ H2 Hb (s1.trans s2) S2 rfl)
variable {h : ED} {op op' : CmpOp} {o o' : Int → Int → Bool}
theorem de_chain (ho : OpR X (compareOp op) (rI0 fun i j => .bl (o i j))) (ho' : OpR X (compareOp op') (rI0 fun i j => .bl (o' i j))) (ha : DE X a f) (hb : DE X b g) (hc : DE X c h) (hm : lastMarks [op, op'] [b, c] = false := by with_unfolding_all rfl) :
    DE X (.Compare a [op, op'] [b, c] pos) (chF f g h o o') := pe_imp (pe_chain ho ho' ha hb hc hm) ch_red
theorem dt_chain (ho : OpR X (compareOp op) (rI0 fun i j => .bl (o i j))) (ho' : OpR X (compareOp op') (rI0 fun i j => .bl (o' i j))) (ha : DE X a f) (hb : DE X b g) (hc : DE X c h) (hm : lastMarks [op, op'] [b, c] = false := by with_unfolding_all rfl) :
    DT X (.Compare a [op, op'] [b, c] pos) (tstF (chF f g h o o')) := pt_imp (pt_chain ho ho' ha hb hc hm) (tst_red ch_red)
end
/-! ### more operations on data -/
section
variable {K : PySem.W.Frag}
/-- the item at i -/
def oIx (p q : Bool × D) : Option Res := (seqOf p.2).bind fun ds => (asI q).bind fun i => (atI ds i).map fun x => mkR p.1 x
theorem atI_map {K : PySem.W.Frag} {b : Option Hp} {H : Hp} {ds : List D} {vs : List V} {i : Int} {d : D} (h : Rps K b H ds vs) (e : atI ds i = some d) : ∃ v, atI vs i = some v ∧ Rp K b H d v := by
  unfold atI at e ⊢
  rw [← h.length] at e
  obtain ⟨j, e1, e2⟩ := ob e
  obtain ⟨v, e3, e4⟩ := h.get e2
  exact ⟨v, by rw [e1]; exact e3, e4⟩
theorem opd_ix : OpD K (fun x y H Q => rIxL K x y H Q ∨ rIxT K x y H Q) oIx := by
  intro B H0 H σ ρ x y p q res S hp hq e Q k
  obtain ⟨ds, z, e⟩ := ob e
  obtain ⟨i, z2, e⟩ := ob e
  obtain ⟨d, e3, e4⟩ := Option.map_eq_some_iff.mp e
  cases e4
  have hy := asI_rv z2 hq
  subst hy
  obtain ⟨a, vs, rfl, hs, hr⟩ := Rv.seq S.sub (seqOf_or z) hp
  obtain ⟨v, e5, e6⟩ := atI_map hr e3
  have fin := k v H0 H (Same.refl _) S (RS.mk e6)
  rcases hs with hs | hs
  · exact .inl ⟨a, vs, _, v, rfl, rfl, hs, e5, fin⟩
  · exact .inr ⟨a, vs, _, v, rfl, rfl, hs, e5, fin⟩
end
section
variable {X : Cx} {a b : Expr} {f g : ED} {pos : Pos}
theorem de_ix (ha : DE X a f) (hb : DE X b g) (hs : PlainIx b := by exact fun _ _ => rfl) : DE X (.Subscript a b pos) (binF f g oIx) := pe_imp (pe_ix (ix_list.or ix_tup) ha hb hs) (bin_red opd_ix)
end
end Sc
set_option maxRecDepth 100000
set_option maxHeartbeats 2000000
namespace Sc
open PySem PySem.Spec PyProof.Rows L2
/-! ### storing -/
def putR (ρ : Env) (i : Nat) (r : Res) : Option Env :=
  if i < ρ.length then match r with
    | .fz d => some (ρ.set i (.fz d))
    | .ar d => some (ρ.set i (.ar d))
    | .nw ds => some (ρ.set i (.ow ds))
    | .nd kvs => some (ρ.set i (.od kvs))
    | .nt kvs => some (ρ.set i (.td kvs))
    | .no c fs => some (ρ.set i (.ob false c fs))
    | .ow j => match ρ[j]? with
      | some (.ow ds) => some ((ρ.set j (.fz (.lst ds))).set i (.fz (.lst ds)))
      | _ => none
  else none
section
variable {K : PySem.W.Frag} {B : Bs} {H0 H0' H H' : Hp} {σ : L2.St} {ρ ρ' : Env} {r r' : Res} {v : V} {d : D} {fr : Bool}
theorem joinset_same {i : Nat} (h : i < σ.length) : (σ.set i (some v))[i]?.join = some v := by
  rw [List.getElem?_set_self h]; rfl
theorem joinset_ne {i j : Nat} (h : j ≠ i) : (σ.set i (some v))[j]?.join = σ[j]?.join := by
  rw [List.getElem?_set_ne (Ne.symm h)]
/-- a slot anew, with what it owns -/
theorem SD.slot (S : SD K B H0 H σ ρ) {O : Nat → List Addr} (w : Own K B H0 H σ ρ O) {i : Nat} (hi : i < ρ.length) {s : Slot} {Oi : List Addr}
    (so : SlotOk K B.b B.m H0 H Oi s (some v)) (hn : ∀ a ∈ Oi, H0 a = none) (hd : ∀ a ∈ Oi, ∀ j, j ≠ i → a ∉ O j) (ht : ∀ a ∈ Oi, B.t a = none) : SD K B H0 H (σ.set i (some v)) (ρ.set i s) := by
  have hi' : i < σ.length := by rw [S.len]; exact hi
  refine ⟨by simp [S.len], S.bir, S.sub, S.tmp, S.imm, fun j => if j = i then Oi else O j, fun j s' e => ?_, fun j a m => ?_, fun j k a m1 m2 => ?_, fun j hj => ?_, fun j a m => ?_⟩
  · by_cases z : j = i
    · subst z
      rw [List.getElem?_set_self hi] at e
      cases e
      rw [if_pos rfl, joinset_same hi']
      exact so
    · rw [List.getElem?_set_ne (Ne.symm z)] at e
      rw [if_neg z, joinset_ne z]
      exact w.ok j s' e
  · by_cases z : j = i
    · rw [if_pos z] at m; exact hn a m
    · rw [if_neg z] at m; exact w.non j a m
  · by_cases z1 : j = i
    · by_cases z2 : k = i
      · rw [z1, z2]
      · rw [if_pos z1] at m1; rw [if_neg z2] at m2; exact (hd a m1 k z2 m2).elim
    · by_cases z2 : k = i
      · rw [if_neg z1] at m1; rw [if_pos z2] at m2; exact (hd a m2 j z1 m1).elim
      · rw [if_neg z1] at m1; rw [if_neg z2] at m2; exact w.inj j k a m1 m2
  · rw [List.length_set] at hj
    rw [if_neg (by omega)]
    exact w.out j hj
  · by_cases z : j = i
    · rw [if_pos z] at m; exact ht a m
    · rw [if_neg z] at m; exact w.tmp j a m
/-- .. the value as it was -/
theorem SD.slotV (S : SD K B H0 H σ ρ) {O : Nat → List Addr} (w : Own K B H0 H σ ρ O) {i : Nat} (hi : i < ρ.length) {s : Slot} {Oi : List Addr}
    (so : SlotOk K B.b B.m H0 H Oi s σ[i]?.join) (hn : ∀ a ∈ Oi, H0 a = none) (hd : ∀ a ∈ Oi, ∀ j, j ≠ i → a ∉ O j) (ht : ∀ a ∈ Oi, B.t a = none) : SD K B H0 H σ (ρ.set i s) := by
  refine ⟨by simp [S.len], S.bir, S.sub, S.tmp, S.imm, fun j => if j = i then Oi else O j, fun j s' e => ?_, fun j a m => ?_, fun j k a m1 m2 => ?_, fun j hj => ?_, fun j a m => ?_⟩
  · by_cases z : j = i
    · subst z
      rw [List.getElem?_set_self hi] at e
      cases e
      rw [if_pos rfl]
      exact so
    · rw [List.getElem?_set_ne (Ne.symm z)] at e
      rw [if_neg z]
      exact w.ok j s' e
  · by_cases z : j = i
    · rw [if_pos z] at m; exact hn a m
    · rw [if_neg z] at m; exact w.non j a m
  · by_cases z1 : j = i
    · by_cases z2 : k = i
      · rw [z1, z2]
      · rw [if_pos z1] at m1; rw [if_neg z2] at m2; exact (hd a m1 k z2 m2).elim
    · by_cases z2 : k = i
      · rw [if_neg z1] at m1; rw [if_pos z2] at m2; exact (hd a m2 j z1 m1).elim
      · rw [if_neg z1] at m1; rw [if_neg z2] at m2; exact w.inj j k a m1 m2
  · rw [List.length_set] at hj
    rw [if_neg (by omega)]
    exact w.out j hj
  · by_cases z : j = i
    · rw [if_pos z] at m; exact ht a m
    · rw [if_neg z] at m; exact w.tmp j a m
/-- an own list frozen -/
theorem SD.freeze (S : SD K B H0 H σ ρ) {j : Nat} {ds : List D} (e : ρ[j]? = some (.ow ds)) (hv : σ[j]? = some (some v)) :
    ∃ H1, Same H0 H1 ∧ SD K B H1 H σ (ρ.set j (.fz (.lst ds))) ∧ Rp K (some B.b) H1 (.lst ds) v := by
  obtain ⟨O, w⟩ := S.own
  obtain ⟨a, vs, e0, e1, e2, e3⟩ := w.ok j _ e
  rw [hv] at e1
  cases e1
  have n0 : H0 a = none := w.non j a (by rw [e0]; simp)
  have nt : B.t a = none := w.tmp j a (by rw [e0]; simp)
  have hj : j < ρ.length := (List.getElem?_eq_some_iff.mp e).1
  have s1 : Same H0 (upd H0 a (.lst vs)) := fun b o q => by rw [upd_ne (ne_of_none q n0)]; exact q
  have rp : Rp K (some B.b) (upd H0 a (.lst vs)) (.lst ds) (.ref a) := ⟨a, vs, rfl, ⟨S.bir.free n0, upd_same⟩, e3.mono s1⟩
  refine ⟨upd H0 a (.lst vs), s1, ⟨by simp [S.len], S.bir.trans s1, fun b o q => ?_, fun b o q => ⟨(S.tmp b o q).1, by rw [upd_ne (fun z => by rw [z, nt] at q; cases q)]; exact (S.tmp b o q).2⟩, fun b o q i => s1 _ _ (S.imm b o q i), fun k => if k = j then [] else O k, fun k s q => ?_, fun k b m => ?_, fun k l b m1 m2 => ?_, fun k hk => ?_, fun k b m => ?_⟩, rp⟩
  · by_cases z : b = a
    · subst z; rw [upd_same] at q; cases q; exact e2
    · rw [upd_ne z] at q; exact S.sub b o q
  · by_cases z : k = j
    · subst z
      rw [List.getElem?_set_self hj] at q
      cases q
      rw [if_pos rfl]
      exact ⟨rfl, _, by rw [hv]; rfl, rp⟩
    · rw [List.getElem?_set_ne (Ne.symm z)] at q
      rw [if_neg z]
      exact (w.ok k s q).frame s1 fun b _ o q => q
  · by_cases z : k = j
    · rw [if_pos z] at m; cases m
    · rw [if_neg z] at m
      rw [upd_ne (fun y => z (w.inj k j a (by rw [← y]; exact m) (by rw [e0]; simp)))]
      exact w.non k b m
  · by_cases z1 : k = j
    · rw [if_pos z1] at m1; cases m1
    · by_cases z2 : l = j
      · rw [if_pos z2] at m2; cases m2
      · rw [if_neg z1] at m1; rw [if_neg z2] at m2; exact w.inj k l b m1 m2
  · rw [List.length_set] at hk
    rw [if_neg (by omega)]
    exact w.out k hk
  · by_cases z : k = j
    · rw [if_pos z] at m; cases m
    · rw [if_neg z] at m; exact w.tmp k b m
theorem SD.put (S : SD K B H0 H σ ρ) (R : RS K B H0 H σ ρ r v) {i : Nat} (e : putR ρ i r = some ρ') : ∃ H1, Same H0 H1 ∧ SD K B H1 H (σ.set i (some v)) ρ' := by
  unfold putR at e
  split at e
  · rename_i hi
    obtain ⟨O, w⟩ := S.own
    have no : ∀ a ∈ ([] : List Addr), False := fun a m => by cases m
    cases r with
    | fz d =>
      cases e
      exact ⟨H0, Same.refl _, S.slot w hi (Oi := []) ⟨rfl, v, rfl, R⟩ (fun a m => (no a m).elim) (fun a m => (no a m).elim) fun a m => (no a m).elim⟩
    | ar d =>
      cases e
      exact ⟨H0, Same.refl _, S.slot w hi (Oi := []) ⟨rfl, v, rfl, R⟩ (fun a m => (no a m).elim) (fun a m => (no a m).elim) fun a m => (no a m).elim⟩
    | nw ds =>
      cases e
      obtain ⟨O, a, vs, w, na, nt, rfl, n0, ha, hr⟩ := R
      exact ⟨H0, Same.refl _, S.slot w hi (Oi := [a]) ⟨a, vs, rfl, rfl, ha, hr⟩ (fun b m => by rw [List.mem_singleton.mp m]; exact n0) (fun b m j _ => by rw [List.mem_singleton.mp m]; exact na j) fun b m => by rw [List.mem_singleton.mp m]; exact nt⟩
    | nd kvs =>
      cases e
      obtain ⟨O, a, l, w, na, nt, rfl, n0, ha, hk⟩ := R
      exact ⟨H0, Same.refl _, S.slot w hi (Oi := [a]) ⟨a, l, rfl, rfl, ha, hk⟩ (fun b m => by rw [List.mem_singleton.mp m]; exact n0) (fun b m j _ => by rw [List.mem_singleton.mp m]; exact na j) fun b m => by rw [List.mem_singleton.mp m]; exact nt⟩
    | nt kvs =>
      cases e
      obtain ⟨O, a, o, w, na, nt, rfl, n0, ha, hk⟩ := R
      exact ⟨H0, Same.refl _, S.slot w hi (Oi := [a]) ⟨a, o, rfl, rfl, ha, hk⟩ (fun b m => by rw [List.mem_singleton.mp m]; exact n0) (fun b m j _ => by rw [List.mem_singleton.mp m]; exact na j) fun b m => by rw [List.mem_singleton.mp m]; exact nt⟩
    | no c fs =>
      cases e
      obtain ⟨O, R, w, hR, ho⟩ := R
      exact ⟨H0, Same.refl _, S.slot w hi (Oi := R) ⟨ho, fun z => (nomatch z)⟩ (fun b m => (hR b m).2.2) (fun b m j _ => (hR b m).1 j) fun b m => (hR b m).2.1⟩
    | ow j =>
      replace e : (match ρ[j]? with | some (.ow ds) => some ((ρ.set j (.fz (.lst ds))).set i (.fz (.lst ds))) | _ => none) = some ρ' := e
      split at e
      · rename_i ds q
        cases e
        obtain ⟨H1, s1, S1, rp⟩ := S.freeze q R
        obtain ⟨O, w⟩ := S1.own
        exact ⟨H1, s1, S1.slot w (by simpa using hi) (Oi := []) ⟨rfl, v, rfl, rp⟩ (fun a m => (no a m).elim) (fun a m => (no a m).elim) fun a m => (no a m).elim⟩
      · cases e
  · cases e
end
/-! ### a thing moved into another: an own list is frozen -/
def itF (f : ED) : Env → Option ((Bool × D) × Env) := fun ρ => (f ρ).bind fun p => match p.1 with
  | .fz d => some ((true, d), p.2)
  | .ar d => some ((noL d, d), p.2)
  | .nw ds => some ((true, .lst ds), p.2)
  | .nd _ => none
  | .nt _ => none
  | .no _ _ => none
  | .ow j => match p.2[j]? with
    | some (.ow ds) => some ((true, .lst ds), p.2.set j (.fz (.lst ds)))
    | _ => none
theorem it_red {K : PySem.W.Frag} {f : ED} {B : Bs} {H0 H : Hp} {σ : L2.St} {ρ ρ' : Env} {p : Bool × D} (S : SD K B H0 H σ ρ) (e : itF f ρ = some (p, ρ')) {Q : VK}
    (k : ∀ v H0' H', Same H0 H0' → SD K B H0' H' σ ρ' → Rp K (bo B p.1) H0' p.2 v → Q v H') : tDE K f σ H Q := by
  obtain ⟨⟨r1, ρ1⟩, e1, e2⟩ := ob e
  refine ⟨B, H0, ρ, r1, ρ1, S, e1, fun v H1 Ha s1 S1 R1 => ?_⟩
  cases r1 with
  | fz d => cases e2; exact k v H1 Ha s1 S1 R1
  | ar d =>
    cases e2
    refine k v H1 Ha s1 S1 ?_
    show Rp K (bo B (noL d)) H1 d v
    cases z : noL d with
    | true => exact Rp.flat (fun _ _ t => t) z R1
    | false => exact R1
  | nd kvs => cases e2
  | nt kvs => cases e2
  | no c fs => cases e2
  | nw ds =>
    cases e2
    obtain ⟨H2, s2, S2, R2, n2⟩ := S1.hold R1 (r' := .fz (.lst ds)) rfl
    exact k v H2 Ha (s1.trans s2) S2 R2
  | ow j =>
    replace e2 : (match ρ1[j]? with | some (.ow ds) => some ((true, D.lst ds), ρ1.set j (.fz (.lst ds))) | _ => none) = some (p, ρ') := e2
    split at e2
    · rename_i ds q
      cases e2
      obtain ⟨H2, s2, S2, R2⟩ := S1.freeze q R1
      exact k v H2 Ha (s1.trans s2) S2 R2
    · cases e2
def itsF : List ED → Env → Option (List (Bool × D) × Env)
  | [], ρ => some ([], ρ)
  | f :: fs, ρ => (itF f ρ).bind fun p => (itsF fs p.2).map fun q => (p.1 :: q.1, q.2)
/-- items that stand -/
def Rpp (K : PySem.W.Frag) (B : Bs) (H0 : Hp) : List (Bool × D) → List V → Prop
  | [], vs => vs = []
  | p :: ps, vs => ∃ v ws, vs = v :: ws ∧ Rp K (bo B p.1) H0 p.2 v ∧ Rpp K B H0 ps ws
theorem Rpp.all {K : PySem.W.Frag} {B : Bs} {H0 : Hp} : ∀ {ps : List (Bool × D)} {vs : List V}, Rpp K B H0 ps vs → Rps K (bo B (ps.all (·.1))) H0 (ps.map (·.2)) vs
  | [], _, h => h
  | p :: ps, _, h => by
    obtain ⟨v, ws, rfl, h1, h2⟩ := h
    have h3 := Rpp.all h2
    obtain ⟨fr, d⟩ := p
    rw [List.all_cons]
    show Rps K (bo B (fr && ps.all (·.1))) H0 (d :: _) _
    cases fr with
    | false => exact ⟨v, ws, rfl, h1, (by cases q : ps.all (·.1) with
      | true => rw [q] at h3; exact Rps.weak h3
      | false => rw [q] at h3; exact h3)⟩
    | true =>
      cases q : ps.all (·.1) with
      | true => rw [q] at h3; exact ⟨v, ws, rfl, h1, h3⟩
      | false => rw [q] at h3; exact ⟨v, ws, rfl, Rp.weak h1, h3⟩
/-- argument lists whose items move -/
def tDI (K : PySem.W.Frag) (fs : List ED) : TA := fun σ H Q => ∃ B H0 ρ ps ρ', SD K B H0 H σ ρ ∧ itsF fs ρ = some (ps, ρ') ∧ ∀ vs H0' H', Same H0 H0' → SD K B H0' H' σ ρ' → Rpp K B H0' ps vs → Q vs H'
abbrev DI (X : Cx) (es : List Expr) (fs : List ED) : Prop := PA X es (tDI X.K fs)
section
variable {X : Cx} {e : Expr} {es : List Expr} {f : ED} {fs : List ED} {pos : Pos}
theorem di_nil : DI X [] [] := by
  refine pa_imp pa_nil fun σ H Q ⟨B, H0, ρ, rs, ρ', S, e, k⟩ => ?_
  cases e
  exact k [] H0 H (Same.refl _) S rfl
theorem di_cons (ha : DE X e f) (hr : DI X es fs) (hs : starEach (e :: es) X.env = (false, eval e X.env) :: starEach es X.env := by rfl) : DI X (e :: es) (f :: fs) := by
  refine pa_imp (pa_cons ha hr hs) fun σ H Q ⟨B, H0, ρ, rs, ρ', S, e, k⟩ => ?_
  obtain ⟨⟨r1, ρ1⟩, e1, e2⟩ := ob e
  obtain ⟨⟨rs2, ρ2⟩, e3, e4⟩ := Option.map_eq_some_iff.mp e2
  cases e4
  refine it_red S e1 fun v H1 Ha s1 S1 R1 => ?_
  refine ⟨B, H1, ρ1, rs2, ρ2, S1, e3, fun vs H2 Hb s2 S2 R2 => ?_⟩
  exact k (v :: vs) H2 Hb (s1.trans s2) S2 ⟨v, vs, rfl, Rp.mono s2 R1, R2⟩
/-- displays -/
def tupF (fs : List ED) : ED := fun ρ => (itsF fs ρ).map fun p => (mkR (p.1.all (·.1)) (.tup (p.1.map (·.2))), p.2)
def lstF (fs : List ED) : ED := fun ρ => (itsF fs ρ).bind fun p => if p.1.all (·.1) then some (.nw (p.1.map (·.2)), p.2) else none
theorem rpp_len {K : PySem.W.Frag} {B : Bs} {H0 : Hp} : ∀ {ps : List (Bool × D)} {vs : List V}, Rpp K B H0 ps vs → vs.length = ps.length
  | [], _, h => by cases h; rfl
  | p :: ps, _, h => by
    obtain ⟨v, ws, rfl, _, h2⟩ := h
    simp [rpp_len h2]
theorem itsF_len : ∀ {fs : List ED} {ρ ρ' : Env} {ps : List (Bool × D)}, itsF fs ρ = some (ps, ρ') → ps.length = fs.length
  | [], _, _, _, e => by cases e; rfl
  | f :: fs, _, _, _, e => by
    obtain ⟨⟨r1, ρ1⟩, e1, e2⟩ := ob e
    obtain ⟨⟨rs2, ρ2⟩, e3, e4⟩ := Option.map_eq_some_iff.mp e2
    cases e4
    simp [itsF_len e3]
theorem de_tup {x1} (h : DI X es fs) (hz : fs.length ≤ 1000 := by decide) : DE X (.Tuple es x1 pos) (tupF fs) := by
  refine pe_imp (pe_tup h) fun σ H Q ⟨B, H0, ρ, r, ρ', S, e, k⟩ => ?_
  obtain ⟨⟨ps, ρ2⟩, e1, e2⟩ := Option.map_eq_some_iff.mp e
  cases e2
  refine ⟨B, H0, ρ, ps, _, S, e1, fun vs H1 Ha s1 S1 R1 => ⟨Nat.le_of_lt (small1000 (by rw [rpp_len R1, itsF_len e1]; exact hz)), fun p hp => ?_⟩⟩
  obtain ⟨H2, s2, S2, R2⟩ := S1.newTup hp R1.all
  exact k _ H2 _ (s1.trans s2) S2 R2
theorem de_lst (h : DI X es fs) (hz : fs.length ≤ 1000 := by decide) : DE X (.List es pos) (lstF fs) := by
  refine pe_imp (pe_lst h) fun σ H Q ⟨B, H0, ρ, r, ρ', S, e, k⟩ => ?_
  obtain ⟨⟨ps, ρ1⟩, e1, e2⟩ := ob e
  replace e2 : (if ps.all (·.1) then some (Res.nw (ps.map (·.2)), ρ1) else none) = some (r, ρ') := e2
  split at e2
  · rename_i z
    cases e2
    refine ⟨B, H0, ρ, ps, _, S, e1, fun vs H1 Ha s1 S1 R1 => ⟨Nat.le_of_lt (small1000 (by rw [rpp_len R1, itsF_len e1]; exact hz)), fun p hp => ?_⟩⟩
    have R1' := R1.all
    rw [z] at R1'
    obtain ⟨H2, s2, S2, R2⟩ := S1.newLst hp R1'
    exact k _ H2 _ (s1.trans s2) S2 R2
  · cases e2
end
/-! ### statements -/
inductive Out where
  | nx (ρ : Env) | rt (d : D) (ρ : Env) | bk (ρ : Env) | ct (ρ : Env) | ex (c : Str) (ρ : Env)
abbrev FS := Env → Option Out
/-- what follows an end -/
def After (K : PySem.W.Frag) (W : WX) (B : Bs) (H0 : Hp) (Dn : Ends) : Out → Prop
  | .nx ρ => ∀ σ H0' H', Same H0 H0' → SD K B H0' H' σ ρ → Dn.nx σ H'
  | .bk ρ => ∀ σ H0' H', Same H0 H0' → SD K B H0' H' σ ρ → Dn.bk σ H'
  | .ct ρ => ∀ σ H0' H', Same H0 H0' → SD K B H0' H' σ ρ → Dn.ct σ H'
  | .rt d ρ => ∀ v σ H0' H', Same H0 H0' → SD K B H0' H' σ ρ → Rp K (some B.b) H0' d v → Dn.rt v H'
  | .ex c ρ => ∀ dd σ H0' H', Same H0 H0' → SD K B H0' H' σ ρ → W (.ref (He.ga K c)) dd σ H'
def tDS (K : PySem.W.Frag) (W : WX) (f : FS) : TS := fun Dn σ H => ∃ B H0 ρ out, SD K B H0 H σ ρ ∧ f ρ = some out ∧ After K W B H0 Dn out
abbrev DS (X : Cx) (W : WX) (st : Stmt) (f : FS) : Prop := PS X st (tDS X.K W f)
abbrev DSs (X : Cx) (W : WX) (st : List Stmt) (f : FS) : Prop := PSs X st (tDS X.K W f)
theorem After.mono {K : PySem.W.Frag} {W : WX} {B : Bs} {H0 H1 : Hp} {Dn : Ends} (s : Same H0 H1) : ∀ {o : Out}, After K W B H0 Dn o → After K W B H1 Dn o
  | .nx _, h => fun σ Ha Hb s' => h σ Ha Hb (s.trans s')
  | .bk _, h => fun σ Ha Hb s' => h σ Ha Hb (s.trans s')
  | .ct _, h => fun σ Ha Hb s' => h σ Ha Hb (s.trans s')
  | .rt _ _, h => fun v σ Ha Hb s' => h v σ Ha Hb (s.trans s')
  | .ex _ _, h => fun v σ Ha Hb s' => h v σ Ha Hb (s.trans s')
/-- nothing to do -/
def skF : FS := fun ρ => some (.nx ρ)
def seqS (f g : FS) : FS := fun ρ => (f ρ).bind fun o => match o with
  | .nx ρ' => g ρ'
  | o => some o
def neS : FS := fun _ => none
def bkS : FS := fun ρ => some (.bk ρ)
def ctS : FS := fun ρ => some (.ct ρ)
def ifS (t : TD) (f g : FS) : FS := fun ρ => (t ρ).bind fun p => if p.1 then f p.2 else g p.2
/-- what a def gives back -/
def retD (ρ : Env) : Res → Option D
  | .fz d => some d
  | .ar d => if noL d then some d else none
  | .nw ds => some (.lst ds)
  | .nd _ => none
  | .nt _ => none
  | .no _ _ => none
  | .ow j => match ρ[j]? with
    | some (.ow ds) => some (.lst ds)
    | _ => none
def rtS (f : ED) : FS := fun ρ => (itF f ρ).bind fun p => if p.1.1 then some (.rt p.1.2 p.2) else none
def rnS : FS := fun ρ => some (.rt .non ρ)
def setS (i : Nat) (f : ED) : FS := fun ρ => (f ρ).bind fun p => (putR p.2 i p.1).map fun ρ' => .nx ρ'
def drS (f : ED) : FS := fun ρ => (f ρ).map fun p => .nx p.2
section
variable {X : Cx} {W : WX} {st : Stmt} {rest body : List Stmt} {a b : Expr} {f g : FS} {pos : Pos} {fe : ED} {t : TD}
theorem ds_nil : DSs X W [] skF := pss_imp pss_nil fun Dn σ H ⟨B, H0, ρ, out, S, e, k⟩ => by
  cases e
  exact k σ H0 H (Same.refl _) S
theorem seq_red {K : PySem.W.Frag} {W : WX} : ∀ Dn σ H, tDS K W (seqS f g) Dn σ H → tSeq (tDS K W f) (tDS K W g) Dn σ H := by
  rintro Dn σ H ⟨B, H0, ρ, out, S, e, k⟩
  obtain ⟨o, e1, e2⟩ := ob e
  refine ⟨B, H0, ρ, o, S, e1, ?_⟩
  cases o with
  | nx ρ' => exact fun σ' Ha Hb s' S' => ⟨B, Ha, ρ', out, S', e2, k.mono s'⟩
  | rt d ρ' => cases e2; exact k
  | bk ρ' => cases e2; exact k
  | ct ρ' => cases e2; exact k
  | ex c ρ' => cases e2; exact k
theorem ds_cons (h1 : DS X W st f) (h2 : DSs X W rest g) : DSs X W (st :: rest) (seqS f g) := pss_imp (pss_cons h1 h2) seq_red
theorem ds_one (h1 : DS X W st f) : DSs X W [st] f := pss_one h1
theorem ds_never : DS X W st neS := ps_imp ps_never fun Dn σ H ⟨B, H0, ρ, out, S, e, k⟩ => by cases e
theorem dss_never : DSs X W body neS := pss_imp pss_never fun Dn σ H ⟨B, H0, ρ, out, S, e, k⟩ => by cases e
theorem ds_pass : DS X W (.Pass pos) skF := ps_imp ps_pass fun Dn σ H ⟨B, H0, ρ, out, S, e, k⟩ => by
  cases e
  exact k σ H0 H (Same.refl _) S
theorem ds_doc {x j pos'} : DS X W (.Expr (.Constant (.str x) j pos) pos') skF := ps_imp ps_doc fun Dn σ H ⟨B, H0, ρ, out, S, e, k⟩ => by
  cases e
  exact k σ H0 H (Same.refl _) S
theorem ds_break : DS X W (.Break pos) bkS := ps_imp ps_break fun Dn σ H ⟨B, H0, ρ, out, S, e, k⟩ => by
  cases e
  exact k σ H0 H (Same.refl _) S
theorem ds_cont : DS X W (.Continue pos) ctS := ps_imp ps_continue fun Dn σ H ⟨B, H0, ρ, out, S, e, k⟩ => by
  cases e
  exact k σ H0 H (Same.refl _) S
theorem ds_if {x y : List Stmt} (hc : DT X a t) (hx : DSs X W x f) (hy : DSs X W y g) : DS X W (.If a x y pos) (ifS t f g) := by
  refine ps_imp (ps_if hc hx hy) fun Dn σ H ⟨B, H0, ρ, out, S, e, k⟩ => ?_
  obtain ⟨⟨b1, ρ1⟩, e1, e⟩ := ob e
  refine ⟨B, H0, ρ, b1, ρ1, S, e1, fun H1 Ha s1 S1 => ?_⟩
  cases b1 with
  | true => exact iteT ⟨B, H1, ρ1, out, S1, e, k.mono s1⟩
  | false => exact iteF ⟨B, H1, ρ1, out, S1, e, k.mono s1⟩
theorem ds_ret (h : DE X a fe) : DS X W (.Return (some a) pos) (rtS fe) := by
  refine ps_imp (ps_ret h) fun Dn σ H ⟨B, H0, ρ, out, S, e, k⟩ => ?_
  obtain ⟨⟨p, ρ1⟩, e1, e2⟩ := ob e
  replace e2 : (if p.1 = true then some (Out.rt p.2 ρ1) else none) = some out := e2
  split at e2
  · rename_i z
    cases e2
    refine it_red S e1 fun v H1 Ha s1 S1 R1 => ?_
    rw [z] at R1
    exact k v σ H1 Ha s1 S1 R1
  · cases e2
theorem ds_retN : DS X W (.Return none pos) rnS := by
  refine ps_imp ps_retN fun Dn σ H ⟨B, H0, ρ, out, S, e, k⟩ => ?_
  cases e
  exact k .non σ H0 H (Same.refl _) S rfl
theorem ds_set {i : Nat} {x : Str} {pos' : Pos} (h : DE X a fe) (hN : X.N.Nodup) (hi : X.N[i]? = some x) (hx : Loc X.env.scope x) (hs : swapsWith a (some (.Name x pos')) pos.line X.env = pure false := by rfl) (hf : X.fn x = true ∨ X.env.scope.names.lookup x = some .local := by first | exact .inl rfl | exact .inr rfl | assumption) :
    DS X W (.Assign [.Name x pos'] a pos) (setS i fe) := by
  refine ps_imp (ps_set hN hi hx h hs hf) fun Dn σ H ⟨B, H0, ρ, out, S, e, k⟩ => ?_
  obtain ⟨⟨r1, ρ1⟩, e1, e2⟩ := ob e
  obtain ⟨ρ2, e3, e4⟩ := Option.map_eq_some_iff.mp e2
  cases e4
  refine ⟨B, H0, ρ, r1, ρ1, S, e1, fun v H1 Ha s1 S1 R1 => ?_⟩
  obtain ⟨H2, s2, S2⟩ := S1.put R1 e3
  exact k _ H2 Ha (s1.trans s2) S2
theorem ds_drop (h : DE X a fe) (hs : swapsWith a none pos.line X.env = pure false := by rfl) : DS X W (.Expr a pos) (drS fe) := by
  refine ps_imp (ps_expr h hs) fun Dn σ H ⟨B, H0, ρ, out, S, e, k⟩ => ?_
  obtain ⟨⟨r1, ρ1⟩, e1, e2⟩ := Option.map_eq_some_iff.mp e
  cases e2
  exact ⟨B, H0, ρ, r1, ρ1, S, e1, fun v H1 Ha s1 S1 R1 => k σ H1 Ha s1 S1⟩
end
end Sc
set_option maxRecDepth 100000
set_option maxHeartbeats 2000000
namespace Sc
open PySem PySem.Spec PyProof.Rows L2
/-! ### targets -/
abbrev Bnd := List (Nat × (Bool × D))
abbrev GD := Bool × D → Option Bnd
def BsOk (K : PySem.W.Frag) (B : Bs) (H0 : Hp) : Bnd → L2.St → L2.St → Prop
  | [], σ, σ' => σ' = σ
  | b :: bs, σ, σ' => ∃ u, Rp K (bo B b.2.1) H0 b.2.2 u ∧ BsOk K B H0 bs (σ.set b.1 (some u)) σ'
def mkS (p : Bool × D) : Slot := if p.1 then .fz p.2 else .ar p.2
def setB : Env → Bnd → Option Env
  | ρ, [] => some ρ
  | ρ, b :: bs => if b.1 < ρ.length then setB (ρ.set b.1 (mkS b.2)) bs else none
def tDG (K : PySem.W.Frag) (g : GD) : TG := fun v σ H Q => ∃ B H0 p bs, Same H0 H ∧ Rp K (bo B p.1) H0 p.2 v ∧ g p = some bs ∧ ∀ σ', BsOk K B H0 bs σ σ' → Q σ' H
def tDGs (K : PySem.W.Frag) (fr : Bool) (ds : List D) (g : List GD) (f : Bool → List D → List GD → Option Bnd) : TGs := fun vs σ H Q => ∃ B H0 bs, Same H0 H ∧ Rps K (bo B fr) H0 ds vs ∧ f fr ds g = some bs ∧ ∀ σ', BsOk K B H0 bs σ σ' → Q σ' H
abbrev DG (X : Cx) (tg : Expr) (g : GD) : Prop := PG X tg (tDG X.K g)
theorem pg_imp {X : Cx} {e : Expr} {t t' : TG} (h : PG X e t) (i : ∀ v σ H Q, t' v σ H Q → t v σ H Q) : PG X e t' := ⟨fun pins s σ H v u Q I r q => h.run pins s σ H v u Q I r (i v σ H Q q)⟩
theorem pgs_imp {X : Cx} {e : List Expr} {t t' : TGs} (h : PGs X e t) (i : ∀ v σ H Q, t' v σ H Q → t v σ H Q) : PGs X e t' := ⟨fun pins s σ H v u Q I r q => h.run pins s σ H v u Q I r (i v σ H Q q)⟩
def gnm (i : Nat) : GD := fun p => some [(i, p)]
def gds (fr : Bool) : List D → List GD → Option Bnd
  | [], [] => some []
  | d :: ds, g :: gs => (g (fr, d)).bind fun a => (gds fr ds gs).map fun b => a ++ b
  | _, _ => none
def gtp (gs : List GD) : GD := fun p => match p.2 with
  | .tup ds => gds p.1 ds gs
  | _ => none
theorem BsOk.append {K : PySem.W.Frag} {B : Bs} {H0 : Hp} : ∀ {a b : Bnd} {σ σ1 σ2 : L2.St}, BsOk K B H0 a σ σ1 → BsOk K B H0 b σ1 σ2 → BsOk K B H0 (a ++ b) σ σ2
  | [], _, _, _, _, h1, h2 => by cases h1; exact h2
  | x :: a, _, _, _, _, h1, h2 => by
    obtain ⟨u, r, h⟩ := h1
    exact ⟨u, r, BsOk.append h h2⟩
theorem BsOk.len {K : PySem.W.Frag} {B : Bs} {H0 : Hp} : ∀ {a : Bnd} {σ σ1 : L2.St}, BsOk K B H0 a σ σ1 → σ1.length = σ.length
  | [], _, _, h1 => by cases h1; rfl
  | x :: a, _, _, h1 => by
    obtain ⟨u, r, h⟩ := h1
    rw [BsOk.len h, List.length_set]
theorem SD.setB {K : PySem.W.Frag} {B : Bs} {H0 H : Hp} : ∀ {bs : Bnd} {σ σ' : L2.St} {ρ ρ' : Env}, SD K B H0 H σ ρ → BsOk K B H0 bs σ σ' → setB ρ bs = some ρ' → SD K B H0 H σ' ρ'
  | [], _, _, _, _, S, h, e => by cases h; cases e; exact S
  | b :: bs, σ, σ', ρ, ρ', S, h, e => by
    obtain ⟨u, r, h⟩ := h
    unfold Sc.setB at e
    split at e
    · rename_i z
      obtain ⟨O, w⟩ := S.own
      have no : ∀ a ∈ ([] : List Addr), False := fun a m => by cases m
      refine SD.setB (S.slot w z (s := mkS b.2) (Oi := []) ?_ (fun a m => (no a m).elim) (fun a m => (no a m).elim) fun a m => (no a m).elim) h e
      obtain ⟨i, fr, d⟩ := b
      cases fr
      · exact ⟨rfl, u, rfl, r⟩
      · exact ⟨rfl, u, rfl, r⟩
    · cases e
section
variable {X : Cx} {e : Expr} {es : List Expr} {g : GD} {gs : List GD} {pos : Pos}
theorem dg_name (i : Nat) {x : Str} (hN : X.N.Nodup) (hi : X.N[i]? = some x) (hx : Loc X.env.scope x) (hf : X.fn x = true ∨ X.env.scope.names.lookup x = some .local := by first | exact .inl rfl | exact .inr rfl | assumption) : DG X (.Name x pos) (gnm i) :=
  pg_imp (pg_name hN hi hx hf) fun v σ H Q ⟨B, H0, p, bs, s, r, e, k⟩ => by
    cases e
    exact k _ ⟨v, r, rfl⟩
def DGs (X : Cx) (es : List Expr) (gs : List GD) : Prop := ∀ fr ds, PGs X es (tDGs X.K fr ds gs gds)
theorem dgs_nil : DGs X [] [] := fun fr ds => pgs_imp pgs_nil fun v σ H Q ⟨B, H0, bs, s, r, e, k⟩ => by
  cases ds with
  | nil => cases e; exact ⟨r, k σ rfl⟩
  | cons d ds => cases e
theorem dgs_cons (h1 : DG X e g) (h2 : DGs X es gs) (hs : (assignEach (e :: es) X.env).map (·.2) = assign e X.env :: (assignEach es X.env).map (·.2) := by rfl) : DGs X (e :: es) (g :: gs) := fun fr ds => by
  cases ds with
  | nil => exact pgs_imp (pgs_cons h1 (h2 fr []) hs) fun v σ H Q ⟨B, H0, bs, s, r, e, k⟩ => by cases e
  | cons d ds =>
    refine pgs_imp (pgs_cons h1 (h2 fr ds) hs) fun v σ H Q ⟨B, H0, bs, s, r, e, k⟩ => ?_
    obtain ⟨a, e1, e2⟩ := ob e
    obtain ⟨b, e3, e4⟩ := Option.map_eq_some_iff.mp e2
    cases e4
    obtain ⟨v, vs, rfl, r1, r2⟩ := r
    exact ⟨v, vs, rfl, B, H0, (fr, d), a, s, r1, e1, fun σ1 h1 => ⟨B, H0, b, s, r2, e3, fun σ2 h2 => k σ2 (h1.append h2)⟩⟩
theorem gds_len {fr : Bool} : ∀ {ds : List D} {gs : List GD} {bs : Bnd}, gds fr ds gs = some bs → ds.length = gs.length
  | [], [], _, _ => rfl
  | [], _ :: _, _, e => by cases e
  | _ :: _, [], _, e => by cases e
  | d :: ds, g :: gs, _, e => by
    obtain ⟨a, e1, e2⟩ := ob e
    obtain ⟨b, e3, e4⟩ := Option.map_eq_some_iff.mp e2
    simp [gds_len e3]
/-- a tuple of targets -/
theorem dg_tup {k : Nat} (hc : X.calm = true) (h : DGs X es gs) (hl : gs.length = es.length := by rfl) (hn : (assignEach es X.env).length = es.length := by rfl) (hst : (assignEach es X.env).findIdx? (·.1) = none := by rfl) : DG X (.Tuple es k pos) (gtp gs) := by
  refine ⟨fun pins s σ H v u Q I r ⟨B, H0, ⟨fr, d⟩, bs, sm, rp, e, kk⟩ => ?_⟩
  cases d with
  | tup ds =>
    have e' : gds fr ds gs = some bs := e
    refine (pg_tup hc (h fr ds) hn hst).run pins s σ H v u Q I r ?_
    obtain ⟨a, vs, e1, e2, e3⟩ := rp
    exact ⟨a, vs, e1, sqT_mono sm e2, by rw [e3.length, gds_len e', hl], B, H0, bs, sm, e3, e', kk⟩
  | _ => cases e
end
/-- target = e, the value moved -/
def asgS (g : GD) (f : ED) : FS := fun ρ => (itF f ρ).bind fun p => (g p.1).bind fun bs => (setB p.2 bs).map fun ρ' => .nx ρ'
theorem ds_asg {X : Cx} {W : WX} {tg e : Expr} {g : GD} {f : ED} {pos : Pos} (he : DE X e f) (hg : DG X tg g) (hs : swapsWithSole [tg] e pos.line X.env = pure false := by rfl) (hw : swappedStores [tg] e X.env = pure none := by rfl)
    (h1 : (assignEach [tg] X.env).map (·.2) = [assign tg X.env] := by rfl) : DS X W (.Assign [tg] e pos) (asgS g f) := by
  refine ps_imp (ps_asg he hg hs hw h1) fun Dn σ H ⟨B, H0, ρ, out, S, e, k⟩ => ?_
  obtain ⟨⟨p, ρ1⟩, e1, e⟩ := ob e
  obtain ⟨bs, e2, e⟩ := ob e
  obtain ⟨ρ2, e3, e4⟩ := Option.map_eq_some_iff.mp e
  cases e4
  exact it_red S e1 fun v H1 Ha s1 S1 R1 => ⟨B, H1, p, bs, S1.sub, R1, e2, fun σ' hb => k σ' H1 Ha s1 (S1.setB hb e3)⟩
/-! ### what a loop goes over -/
abbrev IF := Env → Option (List (Bool × D) × Env)
structure WkD (K : PySem.W.Frag) (J : It) (B : Bs) (H0 : Hp) (ps : List (Bool × D)) : Prop where
  goes : ∀ i p H1 B1 H σ ρ, ps[i]? = some p → Same H0 H1 → SD K B1 H1 H σ ρ → J.go i H
  stops : ∀ H1 B1 H σ ρ, Same H0 H1 → SD K B1 H1 H σ ρ → J.stop ps.length H
  yields : ∀ i p H1 B1 H σ ρ x H', ps[i]? = some p → Same H0 H1 → B1.b = B.b → SD K B1 H1 H σ ρ → J.yld i H x H' → ∃ H2, Same H1 H2 ∧ SD K B1 H2 H' σ ρ ∧ Rp K (bo B p.1) H2 p.2 x
def tDIt (K : PySem.W.Frag) (F : IF) : TI := fun σ H R => ∃ B H0 ρ ps ρ', SD K B H0 H σ ρ ∧ F ρ = some (ps, ρ') ∧ ∀ J H0' H', Same H0 H0' → SD K B H0' H' σ ρ' → WkD K J B H0' ps → R J H'
abbrev DIt (X : Cx) (tg e : Expr) (F : IF) : Prop := PI X tg e (tDIt X.K F)
/-! ### for -/
def forL (g : GD) (b : FS) : List (Bool × D) → FS
  | [], ρ => some (.nx ρ)
  | p :: ps, ρ => (g p).bind fun bs => (setB ρ bs).bind fun ρ1 => (b ρ1).bind fun o => match o with
    | .nx ρ2 => forL g b ps ρ2
    | .ct ρ2 => forL g b ps ρ2
    | .bk ρ2 => some (.nx ρ2)
    | o => some o
def forS (F : IF) (g : GD) (b : FS) : FS := fun ρ => (F ρ).bind fun p => forL g b p.1 p.2
theorem bo_eq {B B' : Bs} (h : B.b = B'.b) (fr : Bool) : bo B fr = bo B' fr := by unfold bo; rw [h]
theorem ds_for {X : Cx} {W : WX} {tg iter : Expr} {body : List Stmt} {F : IF} {g : GD} {b : FS} {pos : Pos} (hp : PassesOwn (model X.prog X.w) X.A X.env X.xe) (hc : X.calm = true) (hi : DIt X tg iter F) (hg : DG X tg g) (hb : DSs X W body b)
    (hs : ∀ x, foldedSetIterable iter X.env x = pure x := by intro _; rfl) : DS X W (.For tg iter body [] pos) (forS F g b) := by
  refine ps_imp (ps_for hp hc hi hg hb hs) fun Dn σ H ⟨B, H0, ρ, out, S, e, k⟩ => ?_
  obtain ⟨⟨ps, ρ1⟩, e1, e2⟩ := ob e
  refine ⟨B, H0, ρ, ps, ρ1, S, e1, fun J H1 Ha s1 S1 wk => ?_⟩
  refine ⟨fun i m σ H => m = ps.length - i ∧ i ≤ ps.length ∧ ∃ H2 ρ2, Same H1 H2 ∧ SD X.K B H2 H σ ρ2 ∧ forL g b (ps.drop i) ρ2 = some out, ⟨ps.length, by simp, Nat.zero_le _, H1, ρ1, Same.refl _, S1, e2⟩, ?_⟩
  rintro i m σ H ⟨rfl, hi, H2, ρ2, s2, S2, e3⟩
  by_cases hlt : i < ps.length
  · have ep : ps[i]? = some ps[i] := by simp [hlt]
    have ed : ps.drop i = ps[i] :: ps.drop (i + 1) := List.drop_eq_getElem_cons hlt
    rw [ed] at e3
    obtain ⟨bs, e4, e3⟩ := ob e3
    obtain ⟨ρ3, e5, e3⟩ := ob e3
    obtain ⟨o, e6, e3⟩ := ob e3
    refine .inr ⟨wk.goes i _ H2 B H σ ρ2 ep s2 S2, fun σ' H' => ∃ m', m' < ps.length - i ∧ m' = ps.length - (i + 1) ∧ i + 1 ≤ ps.length ∧ ∃ H3 ρ4, Same H1 H3 ∧ SD X.K B H3 H' σ' ρ4 ∧ forL g b (ps.drop (i + 1)) ρ4 = some out, fun _ _ z => z, fun x H' y => ?_⟩
    obtain ⟨H3, s3, S3, R3⟩ := wk.yields i _ H2 B H σ ρ2 x H' ep s2 rfl S2 y
    refine ⟨B, H3, ps[i], bs, S3.sub, R3, e4, fun σ' hbs => ?_⟩
    refine ⟨B, H3, ρ3, o, S3.setB hbs e5, e6, ?_⟩
    have s13 := (s1.trans s2).trans s3
    cases o with
    | nx ρ4 => exact fun σ'' H4 Hb s4 S4 => ⟨_, by omega, rfl, by omega, H4, ρ4, (s2.trans s3).trans s4, S4, e3⟩
    | ct ρ4 => exact fun σ'' H4 Hb s4 S4 => ⟨_, by omega, rfl, by omega, H4, ρ4, (s2.trans s3).trans s4, S4, e3⟩
    | bk ρ4 => cases e3; exact fun σ'' H4 Hb s4 S4 => k σ'' H4 Hb (s13.trans s4) S4
    | rt d ρ4 => cases e3; exact k.mono s13
    | ex c ρ4 => cases e3; exact k.mono s13
  · have ei : i = ps.length := by omega
    subst ei
    rw [List.drop_length] at e3
    cases e3
    exact .inl ⟨wk.stops H2 B H σ ρ2 s2 S2, k σ H2 H (s1.trans s2) S2⟩
/-! ### while -/
def whL (t : TD) (b : FS) : Nat → FS
  | 0, _ => none
  | n + 1, ρ => (t ρ).bind fun p => if p.1 then (b p.2).bind fun o => match o with
    | .nx ρ2 => whL t b n ρ2
    | .ct ρ2 => whL t b n ρ2
    | .bk ρ2 => some (.nx ρ2)
    | o => some o else some (.nx p.2)
theorem whL_mono (t : TD) (b : FS) : ∀ {n : Nat} {ρ : Env} {o : Out}, whL t b n ρ = some o → ∀ {m : Nat}, n ≤ m → whL t b m ρ = some o
  | 0, _, _, e, _, _ => by cases e
  | n + 1, ρ, o, e, m, h => by
    obtain ⟨m, rfl⟩ : ∃ m', m = m' + 1 := ⟨m - 1, by omega⟩
    obtain ⟨⟨c, ρ1⟩, e1, e2⟩ := ob e
    unfold whL
    rw [e1]
    show (if c = true then _ else _) = _
    replace e2 : (if c = true then (b ρ1).bind fun o => match o with
      | .nx ρ2 => whL t b n ρ2
      | .ct ρ2 => whL t b n ρ2
      | .bk ρ2 => some (.nx ρ2)
      | o => some o else some (.nx ρ1)) = some o := e2
    by_cases z : c = true
    · rw [if_pos z] at e2 ⊢
      obtain ⟨o1, e3, e4⟩ := ob e2
      show (b ρ1).bind _ = _
      rw [e3]
      cases o1 with
      | nx ρ2 => exact whL_mono t b (n := n) e4 (by omega)
      | ct ρ2 => exact whL_mono t b (n := n) e4 (by omega)
      | bk ρ2 => exact e4
      | rt d ρ2 => exact e4
      | ex d ρ2 => exact e4
    · rw [if_neg z] at e2 ⊢
      exact e2
open Classical in
noncomputable def whS (t : TD) (b : FS) : FS := fun ρ => if h : ∃ n o, whL t b n ρ = some o then some (Classical.choose (Classical.choose_spec h)) else none
theorem whS_of {t : TD} {b : FS} {n : Nat} {ρ : Env} {o : Out} (e : whL t b n ρ = some o) : whS t b ρ = some o := by
  have h : ∃ n o, whL t b n ρ = some o := ⟨n, o, e⟩
  unfold whS
  rw [dif_pos h]
  have e2 := Classical.choose_spec (Classical.choose_spec h)
  rcases Nat.le_total n (Classical.choose h) with q | q
  · have e3 := whL_mono t b e q
    exact e2.symm.trans e3
  · have e3 := whL_mono t b e2 q
    exact e3.symm.trans e
theorem of_whS {t : TD} {b : FS} {ρ : Env} {o : Out} (e : whS t b ρ = some o) : ∃ n, whL t b n ρ = some o := by
  unfold whS at e
  split at e
  · rename_i h
    cases e
    exact ⟨_, Classical.choose_spec (Classical.choose_spec h)⟩
  · cases e
theorem ds_while {X : Cx} {W : WX} {c : Expr} {body : List Stmt} {t : TD} {b : FS} {pos : Pos} (hp : PassesOwn (model X.prog X.w) X.A X.env X.xe) (hc : DT X c t) (hb : DSs X W body b) : DS X W (.While c body [] pos) (whS t b) := by
  refine ps_imp (ps_while hp hc hb) fun Dn σ H ⟨B, H0, ρ, out, S, e, k⟩ => ?_
  obtain ⟨n, e⟩ := of_whS e
  refine ⟨fun m σ H => ∃ H1 ρ1, Same H0 H1 ∧ SD X.K B H1 H σ ρ1 ∧ whL t b m ρ1 = some out, ⟨n, H0, ρ, Same.refl _, S, e⟩, ?_⟩
  rintro m σ H ⟨H1, ρ1, s1, S1, e1⟩
  cases m with
  | zero => cases e1
  | succ m =>
    obtain ⟨⟨c1, ρ2⟩, e2, e3⟩ := ob e1
    refine ⟨B, H1, ρ1, c1, ρ2, S1, e2, fun H2 Ha s2 S2 => ?_⟩
    cases c1 with
    | true =>
      obtain ⟨o, e4, e5⟩ := ob e3
      refine iteT ⟨fun σ' H' => ∃ m', m' < m + 1 ∧ ∃ H1 ρ1, Same H0 H1 ∧ SD X.K B H1 H' σ' ρ1 ∧ whL t b m' ρ1 = some out, fun _ _ z => z, B, H2, ρ2, o, S2, e4, ?_⟩
      have s02 := s1.trans s2
      cases o with
      | nx ρ4 => exact fun σ'' H4 Hb s4 S4 => ⟨m, by omega, H4, ρ4, s02.trans s4, S4, e5⟩
      | ct ρ4 => exact fun σ'' H4 Hb s4 S4 => ⟨m, by omega, H4, ρ4, s02.trans s4, S4, e5⟩
      | bk ρ4 => cases e5; exact fun σ'' H4 Hb s4 S4 => k σ'' H4 Hb (s02.trans s4) S4
      | rt d ρ4 => cases e5; exact k.mono s02
      | ex c ρ4 => cases e5; exact k.mono s02
    | false => cases e3; exact iteF (k σ H2 Ha (s1.trans s2) S2)
/-! ### name op= e -/
def augS (i : Nat) (g : ED) (o : Bool × D → Bool × D → Option Res) : FS := fun ρ => (argF (nmF i) ρ).bind fun p1 => (argF g p1.2).bind fun p2 => (view p2.2 p1.1).bind fun p => (view p2.2 p2.1).bind fun q => (o p q).bind fun r => (putR p2.2 i r).map fun ρ' => .nx ρ'
/-- a list's item anew, at the end, .. : the own list in slot i -/
theorem SD.wr {K : PySem.W.Frag} {B : Bs} {H0 H : Hp} {σ : L2.St} {ρ : Env} {i : Nat} {a : Addr} {es : List D} {ws : List V} (S : SD K B H0 H σ ρ) {ds : List D} (e : ρ[i]? = some (.ow ds)) (ea : σ[i]? = some (some (.ref a))) (hr : Rps K (some B.b) H0 es ws) :
    ∃ H1, Same H0 H1 ∧ SD K B H1 (upd H a (.lst ws)) σ (ρ.set i (.ow es)) := by
  obtain ⟨O, w⟩ := S.own
  obtain ⟨a', vs, e0, e1, e2, e3⟩ := w.ok i _ e
  rw [ea] at e1
  cases e1
  have hi : i < ρ.length := (List.getElem?_eq_some_iff.mp e).1
  refine ⟨_, fzn_same, S.step w (ρ' := ρ.set i (.ow es)) (H' := upd H a (.lst ws)) (fun b => b = a) (by simp) (fun b o n q => by rw [upd_ne n]; exact q) (fun b o c q => by subst c; rw [upd_same] at q; cases q; rfl) (fun b c => by subst c; exact w.non i b (by rw [e0]; simp)) (fun b c => by subst c; exact w.tmp i b (by rw [e0]; simp)) fun j s' q => ?_⟩
  by_cases z : j = i
  · subst z
    rw [List.getElem?_set_self hi] at q
    cases q
    exact .inr ⟨a, ws, e0, by rw [ea]; rfl, upd_same, hr.mono fzn_same⟩
  · rw [List.getElem?_set_ne (Ne.symm z)] at q
    refine .inl ⟨q, fun b m c => z ?_⟩
    subst c
    exact w.inj j i b m (by rw [e0]; simp)
abbrev LIM : Nat := 1000000
theorem lim_le : LIM < sizeLine := by decide
/-- x.append(e) -/
def isOw : Option Slot → Bool
  | some (.ow _) => true
  | _ => false
def appF (i : Nat) (f : ED) : ED := fun ρ => if isOw ρ[i]? then (itF f ρ).bind fun p => match p.2[i]? with
  | some (.ow ds) => if p.1.1 = true ∧ ds.length < LIM then some (.fz .non, p.2.set i (.ow (ds ++ [p.1.2]))) else none
  | _ => none else none
theorem isOw_iff {s : Option Slot} (h : isOw s = true) : ∃ ds, s = some (.ow ds) := by
  cases s with
  | none => cases h
  | some s => cases s <;> cases h; exact ⟨_, rfl⟩
theorem SD.owAt {K : PySem.W.Frag} {B : Bs} {H0 H : Hp} {σ : L2.St} {ρ : Env} {i : Nat} {ds : List D} (S : SD K B H0 H σ ρ) (e : ρ[i]? = some (.ow ds)) : ∃ a vs, σ[i]? = some (some (.ref a)) ∧ H a = some (.lst vs) ∧ Rps K (some B.b) H0 ds vs := by
  obtain ⟨O, w⟩ := S.own
  obtain ⟨a, vs, e0, e1, e2, e3⟩ := w.ok i _ e
  exact ⟨a, vs, join_some e1, e2, e3⟩
section
variable {X : Cx} {e : Expr} {f : ED} {pos apos cpos p : Pos}
theorem de_app (i : Nat) {x : Str} (he : DE X e f) (hN : X.N[i]? = some x := by rfl) (hv : Vis X.env.scope x := by first | exact Or.inl rfl | exact Or.inr (Or.inl rfl) | exact Or.inr (Or.inr rfl)) (hd : (x == ("__debug__" : Str)) = false := by decide)
    (hcd : (x == ("__classdict__" : Str)) = false := by decide)
    (hbase : attributeBase (.Name x p) "append" X.env (eval (.Name x p) X.env) = eval (.Name x p) X.env := by rfl)
    (hfew : ((backTo cpos (starEach [e] X.env)).all (fun x => !x.1) && (backToKw cpos (keywordEach [] X.env)).all (fun x => x.1.isSome)
      && decide ([e].length + ([] : List Keyword).length + (if ([] : List Keyword).isEmpty then 0 else 1) < 30)) = true := by rfl)
    (hline : (apos.endLine == cpos.line) = true := by rfl) (hs : starEach [e] X.env = (false, eval e X.env) :: starEach [] X.env := by rfl) (hplain : (backTo cpos (starEach [] X.env)).any (·.1) = false := by rfl) :
    DE X (.Call (.Attribute (.Name x p) "append" apos) [e] [] cpos) (appF i f) := by
  refine pe_imp (pe_bm PySem.F.plainAttrs_list PySem.F.slot_list_append PySem.F.type_list_append mt_append (pe_var (i := i) hN hv hd hcd) (pa_cons he pa_nil hs) hbase hfew hline hs hplain) fun σ H Q ⟨B, H0, ρ, r, ρ', S, e, k⟩ => ?_
  unfold appF at e
  split at e
  · rename_i z0
    obtain ⟨ds0, q0⟩ := isOw_iff z0
    obtain ⟨a, vs0, ea, hH, _⟩ := S.owAt q0
    obtain ⟨⟨⟨fr, d⟩, ρ1⟩, e1, e2⟩ := ob e
    replace e2 : (match ρ1[i]? with
      | some (.ow ds) => if fr = true ∧ ds.length < LIM then some (Res.fz .non, ρ1.set i (.ow (ds ++ [d]))) else none
      | _ => none) = some (r, ρ') := e2
    split at e2
    · rename_i ds q
      split at e2
      · rename_i z
        obtain ⟨rfl, hz⟩ := z
        cases e2
        refine ⟨_, ea, .inl ⟨rfl, vs0, SqL.of hH⟩, it_red S e1 fun v H1 Ha s1 S1 R1 => ?_⟩
        obtain ⟨a', vs, ea', hH', hr⟩ := S1.owAt q
        rw [ea] at ea'
        cases ea'
        obtain ⟨H2, s2, S2⟩ := S1.wr q ea (hr.append (.one R1))
        exact ⟨a, vs, v, rfl, rfl, hH', by rw [hr.length]; exact Nat.lt_trans hz lim_le, k _ H2 _ (s1.trans s2) S2 rfl⟩
      · cases e2
    · cases e2
  · cases e
end
end Sc
set_option maxRecDepth 100000
set_option maxHeartbeats 2000000
namespace Sc
open PySem PySem.Spec PyProof.Rows L2
/-! ### cells that wait -/
def Bs.put (B : Bs) (a : Addr) (o : HO) : Bs := ⟨B.b, upd B.t a o, B.m⟩
section
variable {K : PySem.W.Frag} {B : Bs} {H0 H0' H H' : Hp} {σ σ' : L2.St} {ρ ρ' : Env} {r r' : Res} {v : V} {d : D} {a : Addr} {o o' : HO}
theorem SD.hideA (S : SD K B H0 H σ ρ) {O : Nat → List Addr} (w : Own K B H0 H σ ρ O) (na : ∀ i, a ∉ O i) (n0 : H0 a = none) (ha : H a = some o) : SD K (B.put a o) H0 H σ ρ := by
  refine ⟨S.len, S.bir, S.sub, fun b u e => ?_, S.imm, O, w.ok, w.non, w.inj, w.out, fun i b m => ?_⟩
  · by_cases z : b = a
    · subst z
      have e' : upd B.t b o b = some u := e
      rw [upd_same] at e'
      cases e'
      exact ⟨ha, n0⟩
    · have e' : upd B.t a o b = some u := e
      rw [upd_ne z] at e'
      exact S.tmp b u e'
  · show upd B.t a o b = none
    rw [upd_ne (fun z => na i (by rw [← z]; exact m))]
    exact w.tmp i b m
theorem SD.showA (S : SD K (B.put a o) H0 H σ ρ) (nt : B.t a = none) : SD K B H0 H σ ρ ∧ (∃ O, Own K B H0 H σ ρ O ∧ ∀ i, a ∉ O i) ∧ H0 a = none ∧ H a = some o := by
  obtain ⟨O, w⟩ := S.own
  have t1 : (B.put a o).t a = some o := upd_same
  have ne : ∀ i b, b ∈ O i → b ≠ a := fun i b m z => by
    have q := w.tmp i b m
    rw [z, t1] at q
    cases q
  have w' : Own K B H0 H σ ρ O := ⟨w.ok, w.non, w.inj, w.out, fun i b m => by
    have q : upd B.t a o b = none := w.tmp i b m
    rw [upd_ne (ne i b m)] at q
    exact q⟩
  refine ⟨⟨S.len, S.bir, S.sub, fun b u e => ?_, S.imm, O, w'⟩, ⟨O, w', fun i m => ne i a m rfl⟩, (S.tmp a o t1).2, (S.tmp a o t1).1⟩
  exact S.tmp b u (show upd B.t a o b = some u by rw [upd_ne (fun z => by rw [z, nt] at e; cases e)]; exact e)
theorem SD.setA (S : SD K (B.put a o) H0 H σ ρ) (hi : Imm o' = false) : SD K (B.put a o') H0 (upd H a o') σ ρ := by
  obtain ⟨O, w⟩ := S.own
  have t1 : (B.put a o).t a = some o := upd_same
  have n0 := (S.tmp a o t1).2
  have ne : ∀ i b, b ∈ O i → b ≠ a := fun i b m z => by
    have q := w.tmp i b m
    rw [z, t1] at q
    cases q
  refine ⟨S.len, S.bir, fun b u e => by rw [upd_ne (fun z => by rw [z, n0] at e; cases e)]; exact S.sub b u e, fun b u e => ?_, fun b u e i => ?_, O, fun i s e => (w.ok i s e).frame (Same.refl _) fun b m u q => by rw [upd_ne (ne i b m)]; exact q, w.non, w.inj, w.out, fun i b m => ?_⟩
  · by_cases z : b = a
    · subst z
      have e' : upd B.t b o' b = some u := e
      rw [upd_same] at e'
      cases e'
      exact ⟨upd_same, n0⟩
    · have e' : upd B.t a o' b = some u := e
      rw [upd_ne z] at e'
      rw [upd_ne z]
      exact S.tmp b u (show upd B.t a o b = some u by rw [upd_ne z]; exact e')
  · by_cases z : b = a
    · subst z; rw [upd_same] at e; cases e; rw [hi] at i; cases i
    · rw [upd_ne z] at e; exact S.imm b u e i
  · show upd B.t a o' b = none
    rw [upd_ne (ne i b m)]
    have q : upd B.t a o b = none := w.tmp i b m
    rw [upd_ne (ne i b m)] at q
    exact q
/-- a result but no own slot's -/
def isKept : Res → Bool
  | .ow _ => false
  | .no _ _ => false
  | _ => true
/-- kept while all else goes on -/
theorem SD.keep (S : SD K B H0 H σ ρ) (R : RS K B H0 H σ ρ r v) (n : isKept r = true) :
    ∃ B', B'.b = B.b ∧ SD K B' H0 H σ ρ ∧ ∀ H0' H' σ' ρ', Same H0 H0' → SD K B' H0' H' σ' ρ' → SD K B H0' H' σ' ρ' ∧ RS K B H0' H' σ' ρ' r v := by
  cases r with
  | fz d => exact ⟨B, rfl, S, fun H0' H' σ' ρ' s S' => ⟨S', Rp.mono s R⟩⟩
  | ar d => exact ⟨B, rfl, S, fun H0' H' σ' ρ' s S' => ⟨S', Rp.mono s R⟩⟩
  | ow j => cases n
  | nw ds =>
    obtain ⟨O, a, vs, w, na, nt, rfl, n0, ha, hr⟩ := R
    refine ⟨B.put a (.lst vs), rfl, S.hideA w na n0 ha, fun H0' H' σ' ρ' s S' => ?_⟩
    obtain ⟨S1, ⟨O', w', na'⟩, n0', ha'⟩ := S'.showA nt
    exact ⟨S1, O', a, vs, w', na', nt, rfl, n0', ha', hr.mono s⟩
  | nd kvs =>
    obtain ⟨O, a, l, w, na, nt, rfl, n0, ha, hk⟩ := R
    refine ⟨B.put a (.dK l), rfl, S.hideA w na n0 ha, fun H0' H' σ' ρ' s S' => ?_⟩
    obtain ⟨S1, ⟨O', w', na'⟩, n0', ha'⟩ := S'.showA nt
    exact ⟨S1, O', a, l, w', na', nt, rfl, n0', ha', hk.mono s⟩
  | nt kvs =>
    obtain ⟨O, a, o, w, na, nt, rfl, n0, ha, hk⟩ := R
    refine ⟨B.put a o, rfl, S.hideA w na n0 ha, fun H0' H' σ' ρ' s S' => ?_⟩
    obtain ⟨S1, ⟨O', w', na'⟩, n0', ha'⟩ := S'.showA nt
    exact ⟨S1, O', a, o, w', na', nt, rfl, n0', ha', hk.mono s⟩
  | no c fs => cases n
end
/-! ### a, b = x, y: what is new stays own -/
def kpF (f : ED) : ED := fun ρ => (f ρ).bind fun p => match p.1 with
  | .ow j => match p.2[j]? with
    | some (.ow ds) => some (.fz (.lst ds), p.2.set j (.fz (.lst ds)))
    | _ => none
  | .no _ _ => none
  | r => some (r, p.2)
theorem kp_red {K : PySem.W.Frag} {f : ED} {B : Bs} {H0 H : Hp} {σ : L2.St} {ρ ρ' : Env} {r : Res} (S : SD K B H0 H σ ρ) (e : kpF f ρ = some (r, ρ')) {Q : VK}
    (k : ∀ v H0' H', Same H0 H0' → SD K B H0' H' σ ρ' → RS K B H0' H' σ ρ' r v → isKept r = true → Q v H') : tDE K f σ H Q := by
  obtain ⟨⟨r1, ρ1⟩, e1, e2⟩ := ob e
  refine ⟨B, H0, ρ, r1, ρ1, S, e1, fun v H1 Ha s1 S1 R1 => ?_⟩
  cases r1 with
  | fz d => cases e2; exact k v H1 Ha s1 S1 R1 rfl
  | ar d => cases e2; exact k v H1 Ha s1 S1 R1 rfl
  | nw d => cases e2; exact k v H1 Ha s1 S1 R1 rfl
  | nd kvs => cases e2; exact k v H1 Ha s1 S1 R1 rfl
  | nt kvs => cases e2; exact k v H1 Ha s1 S1 R1 rfl
  | no c fs => cases e2
  | ow j =>
    replace e2 : (match ρ1[j]? with | some (.ow ds) => some (Res.fz (.lst ds), ρ1.set j (.fz (.lst ds))) | _ => none) = some (r, ρ') := e2
    split at e2
    · rename_i ds q
      cases e2
      obtain ⟨H2, s2, S2, R2⟩ := S1.freeze q R1
      exact k v H2 Ha (s1.trans s2) S2 R2 rfl
    · cases e2
def par2 (i j : Nat) (f g : ED) : FS := fun ρ => (kpF f ρ).bind fun p1 => (kpF g p1.2).bind fun p2 => (putR p2.2 j p2.1).bind fun ρ3 => (putR ρ3 i p1.1).map fun ρ4 => .nx ρ4
def par3 (i j l : Nat) (f g h : ED) : FS := fun ρ => (kpF f ρ).bind fun p1 => (kpF g p1.2).bind fun p2 => (kpF h p2.2).bind fun p3 => (putR p3.2 l p3.1).bind fun ρ4 => (putR ρ4 j p2.1).bind fun ρ5 => (putR ρ5 i p1.1).map fun ρ6 => .nx ρ6
section
variable {X : Cx} {W : WX} {a b c : Expr} {f g h : ED} {pos : Pos}
theorem ds_par {i j : Nat} {x y : Str} {px py pt : Pos} {kt k2 pt2} (hc : X.calm = true) (hN : X.N.Nodup) (hi : X.N[i]? = some x) (hj : X.N[j]? = some y) (hij : i ≠ j)
    (hx : X.env.scope.names.lookup x = some .local) (hy : X.env.scope.names.lookup y = some .local) (ha : DE X a f) (hb : DE X b g)
    (hw : swappedStores [.Tuple [.Name x px, .Name y py] kt pt] (.Tuple [a, b] k2 pt2) X.env = pure (some [x, y]))
    (h1 : starEach (a :: [b]) X.env = (false, eval a X.env) :: starEach [b] X.env := by rfl) (h2 : starEach (b :: []) X.env = (false, eval b X.env) :: starEach [] X.env := by rfl)
    (hs : swapsWithSole [.Tuple [.Name x px, .Name y py] kt pt] (.Tuple [a, b] k2 pt2) pos.line X.env = pure false := by rfl) :
    DS X W (.Assign [.Tuple [.Name x px, .Name y py] kt pt] (.Tuple [a, b] k2 pt2) pos) (par2 i j f g) := by
  refine ps_imp (ps_par hc hN hi hj hij hx hy (pa_cons ha (pa_cons hb pa_nil h2) h1) hw hs) fun Dn σ H ⟨B, H0, ρ, out, S, e, k⟩ => ?_
  obtain ⟨⟨r1, ρ1⟩, e1, e⟩ := ob e
  obtain ⟨⟨r2, ρ2⟩, e2, e⟩ := ob e
  obtain ⟨ρ3, e3, e⟩ := ob e
  obtain ⟨ρ4, e4, e5⟩ := Option.map_eq_some_iff.mp e
  cases e5
  refine kp_red S e1 fun v H1 Ha s1 S1 R1 n1 => ?_
  obtain ⟨B1, b1, S1', back1⟩ := S1.keep R1 n1
  refine kp_red S1' e2 fun w H2 Hb s2 S2 R2 n2 => ⟨v, w, rfl, ?_⟩
  obtain ⟨H3, s3, S3⟩ := S2.put R2 e3
  obtain ⟨S3', R3⟩ := back1 H3 Hb _ _ (s2.trans s3) S3
  obtain ⟨H4, s4, S4⟩ := S3'.put R3 e4
  rw [List.set_comm _ _ hij]
  exact k _ H4 Hb (((s1.trans s2).trans s3).trans s4) S4
theorem ds_par3 {i j l : Nat} {x y z : Str} {px py pz pt pos : Pos} {kt k2 pt2} (hc : X.calm = true) (hN : X.N.Nodup) (hi : X.N[i]? = some x) (hj : X.N[j]? = some y) (hl : X.N[l]? = some z) (hij : i ≠ j) (hil : i ≠ l) (hjl : j ≠ l)
    (hx : X.env.scope.names.lookup x = some .local) (hy : X.env.scope.names.lookup y = some .local) (hz : X.env.scope.names.lookup z = some .local) (ha : DE X a f) (hb : DE X b g) (hh : DE X c h)
    (hw : swappedStores [.Tuple [.Name x px, .Name y py, .Name z pz] kt pt] (.Tuple [a, b, c] k2 pt2) X.env = pure (some [x, y, z]))
    (h1 : starEach (a :: [b, c]) X.env = (false, eval a X.env) :: starEach [b, c] X.env := by rfl) (h2 : starEach (b :: [c]) X.env = (false, eval b X.env) :: starEach [c] X.env := by rfl) (h3 : starEach (c :: []) X.env = (false, eval c X.env) :: starEach [] X.env := by rfl)
    (hs : swapsWithSole [.Tuple [.Name x px, .Name y py, .Name z pz] kt pt] (.Tuple [a, b, c] k2 pt2) pos.line X.env = pure false := by rfl) :
    DS X W (.Assign [.Tuple [.Name x px, .Name y py, .Name z pz] kt pt] (.Tuple [a, b, c] k2 pt2) pos) (par3 i j l f g h) := by
  refine ps_imp (ps_par3 hc hN hi hj hl hij hil hjl hx hy hz (pa_cons ha (pa_cons hb (pa_cons hh pa_nil h3) h2) h1) hw hs) fun Dn σ H ⟨B, H0, ρ, out, S, e, k⟩ => ?_
  obtain ⟨⟨r1, ρ1⟩, e1, e⟩ := ob e
  obtain ⟨⟨r2, ρ2⟩, e2, e⟩ := ob e
  obtain ⟨⟨r3, ρ3⟩, e3, e⟩ := ob e
  obtain ⟨ρ4, e4, e⟩ := ob e
  obtain ⟨ρ5, e5, e⟩ := ob e
  obtain ⟨ρ6, e6, e7⟩ := Option.map_eq_some_iff.mp e
  cases e7
  refine kp_red S e1 fun v H1 Ha s1 S1 R1 n1 => ?_
  obtain ⟨B1, b1, S1', back1⟩ := S1.keep R1 n1
  refine kp_red S1' e2 fun w H2 Hb s2 S2 R2 n2 => ?_
  obtain ⟨B2, b2, S2', back2⟩ := S2.keep R2 n2
  refine kp_red S2' e3 fun u H3 Hc s3 S3 R3 n3 => ⟨v, w, u, rfl, ?_⟩
  obtain ⟨H4, s4, S4⟩ := S3.put R3 e4
  obtain ⟨S4', R4⟩ := back2 H4 Hc _ _ (s3.trans s4) S4
  obtain ⟨H5, s5, S5⟩ := S4'.put R4 e5
  obtain ⟨S5', R5⟩ := back1 H5 Hc _ _ ((s2.trans (s3.trans s4)).trans s5) S5
  obtain ⟨H6, s6, S6⟩ := S5'.put R5 e6
  rw [show ((σ.set i (some v)).set j (some w)).set l (some u) = ((σ.set l (some u)).set j (some w)).set i (some v) by
    rw [List.set_comm _ _ hij, List.set_comm (some v) (some u) hil, List.set_comm _ _ hjl]]
  exact k _ H6 Hc (((((s1.trans s2).trans s3).trans s4).trans s5).trans s6) S6
end
/-! ### comprehensions -/
def wipeE (ρ : Env) : List Nat → Env
  | [] => ρ
  | v :: vs => (wipeE ρ vs).set v .emp
/-- a slot that owns nothing -/
def isLight : Option Slot → Bool
  | some .emp => true
  | some (.fz _) => true
  | some (.ar _) => true
  | _ => false
/-- the slots vs as they were -/
def restE (ρ0 ρ : Env) : List Nat → Env
  | [] => ρ
  | v :: vs => (restE ρ0 ρ vs).set v (ρ0[v]?.getD .emp)
def ttY : TD := fun ρ => some (true, ρ)
def lcL (g : GD) (t : TD) (f : ED) (vs : List Nat) : List (Bool × D) → Env → Option (List D × Env)
  | [], ρ => some ([], ρ)
  | p :: ps, ρ => (g p).bind fun bs => if bs.all (fun b => vs.contains b.1) then (setB ρ bs).bind fun ρ1 => (t ρ1).bind fun q => if q.1
      then (itF f q.2).bind fun y => if y.1.1 then (lcL g t f vs ps (wipeE y.2 vs)).map fun r => (y.1.2 :: r.1, r.2) else none
      else lcL g t f vs ps (wipeE q.2 vs)
    else none
def lcF (F : IF) (g : GD) (t : TD) (f : ED) (vs : List Nat) : ED := fun ρ => (F ρ).bind fun p => if vs.all (fun v => isLight p.2[v]?) then (lcL g t f vs p.1 (wipeE p.2 vs)).bind fun r => if r.1.length ≤ LIM then some (.nw r.1, restE p.2 r.2 vs) else none else none
section
variable {K : PySem.W.Frag} {B : Bs} {H0 H0' H H' : Hp} {σ σ' : L2.St} {ρ ρ' : Env}
theorem wipe_in {i : Nat} : ∀ {vs : List Nat}, i ∈ vs → (wipe σ vs)[i]?.join = none
  | v :: vs, h => by
    unfold wipe
    by_cases z : v = i
    · subst z
      by_cases hl : v < (wipe σ vs).length
      · rw [List.getElem?_set_self hl]; rfl
      · rw [List.getElem?_eq_none (by rw [List.length_set]; omega)]; rfl
    · rw [List.getElem?_set_ne z]
      rcases List.mem_cons.mp h with q | q
      · exact (z q.symm).elim
      · exact wipe_in q
theorem wipeE_len : ∀ {vs : List Nat}, (wipeE ρ vs).length = ρ.length
  | [] => rfl
  | v :: vs => by unfold wipeE; rw [List.length_set, wipeE_len]
theorem wipeE_out {i : Nat} : ∀ {vs : List Nat}, i ∉ vs → (wipeE ρ vs)[i]? = ρ[i]?
  | [], _ => rfl
  | v :: vs, h => by
    unfold wipeE
    rw [List.getElem?_set_ne (fun z => h (by rw [z]; exact List.mem_cons_self)), wipeE_out (fun m => h (List.mem_cons_of_mem _ m))]
theorem wipeE_in {i : Nat} : ∀ {vs : List Nat}, i ∈ vs → i < ρ.length → (wipeE ρ vs)[i]? = some .emp
  | v :: vs, h, hl => by
    unfold wipeE
    by_cases z : v = i
    · subst z; rw [List.getElem?_set_self (by rw [wipeE_len]; exact hl)]
    · rw [List.getElem?_set_ne z]
      rcases List.mem_cons.mp h with q | q
      · exact (z q.symm).elim
      · exact wipeE_in q hl
/-- slots that hold nothing may hold anything -/
theorem SD.val (S : SD K B H0 H σ ρ) (hl : σ'.length = σ.length) (h : ∀ (i : Nat) (s : Sc.Slot), ρ[i]? = some s → s ≠ .emp → σ'[i]?.join = σ[i]?.join) : SD K B H0 H σ' ρ := by
  obtain ⟨O, w⟩ := S.own
  refine ⟨hl.trans S.len, S.bir, S.sub, S.tmp, S.imm, O, fun i s e => ?_, w.non, w.inj, w.out, w.tmp⟩
  by_cases z : s = .emp
  · subst z; exact w.ok i _ e
  · rw [h i s e z]; exact w.ok i s e
theorem SD.wipeE (S : SD K B H0 H σ ρ) (vs : List Nat) : SD K B H0 H (wipe σ vs) (Sc.wipeE ρ vs) := by
  obtain ⟨O, w⟩ := S.own
  refine ⟨by rw [wipe_length, wipeE_len]; exact S.len, S.bir, S.sub, S.tmp, S.imm, fun i => if i ∈ vs then [] else O i, fun i s e => ?_, fun i a m => ?_, fun i j a m1 m2 => ?_, fun i hi => ?_, fun i a m => ?_⟩
  · by_cases z : i ∈ vs
    · rw [wipeE_in z (by rw [← wipeE_len (vs := vs)]; exact (List.getElem?_eq_some_iff.mp e).1)] at e
      cases e
      rw [if_pos z]
      rfl
    · rw [wipeE_out z] at e
      rw [if_neg z, wipe_out z]
      exact w.ok i s e
  · split at m
    · cases m
    · exact w.non i a m
  · split at m1
    · cases m1
    · split at m2
      · cases m2
      · exact w.inj i j a m1 m2
  · rw [wipeE_len] at hi
    split
    · rfl
    · exact w.out i hi
  · split at m
    · cases m
    · exact w.tmp i a m
theorem SD.unwipe {vs : List Nat} (S : SD K B H0 H (wipe σ vs) ρ) (h : ∀ v ∈ vs, ∀ s : Sc.Slot, ρ[v]? = some s → s = .emp) : SD K B H0 H σ ρ :=
  S.val (wipe_length σ vs).symm fun i s e n => by
    have z : i ∉ vs := fun m => n (h i m s e)
    rw [wipe_out z]
theorem SD.rewipe {vs : List Nat} (S : SD K B H0 H σ ρ) (h : ∀ v ∈ vs, ∀ s : Sc.Slot, ρ[v]? = some s → s = .emp) : SD K B H0 H (wipe σ vs) ρ :=
  S.val (wipe_length σ vs) fun i s e n => by
    have z : i ∉ vs := fun m => n (h i m s e)
    rw [wipe_out z]
theorem restE_len {ρ0 : Env} : ∀ {vs : List Nat}, (restE ρ0 ρ vs).length = ρ.length
  | [] => rfl
  | v :: vs => by unfold restE; rw [List.length_set, restE_len]
theorem restE_out {ρ0 : Env} {i : Nat} : ∀ {vs : List Nat}, i ∉ vs → (restE ρ0 ρ vs)[i]? = ρ[i]?
  | [], _ => rfl
  | v :: vs, h => by
    unfold restE
    rw [List.getElem?_set_ne (fun z => h (by rw [z]; exact List.mem_cons_self)), restE_out (fun m => h (List.mem_cons_of_mem _ m))]
theorem restE_in {ρ0 : Env} {i : Nat} : ∀ {vs : List Nat}, i ∈ vs → i < ρ.length → (restE ρ0 ρ vs)[i]? = some (ρ0[i]?.getD .emp)
  | v :: vs, h, hl => by
    unfold restE
    by_cases z : v = i
    · subst z; rw [List.getElem?_set_self (by rw [restE_len]; exact hl)]
    · rw [List.getElem?_set_ne z]
      rcases List.mem_cons.mp h with q | q
      · exact (z q.symm).elim
      · exact restE_in q hl
/-- the outer slots again -/
theorem SD.restore {B1 : Bs} {H1 H2 : Hp} {ρ0 : Env} {vs : List Nat} (S0 : SD K B H0 H σ ρ0) (hL : vs.all (fun v => isLight ρ0[v]?) = true) (hB : B1.b = B.b) (s : Same H0 H1) (S : SD K B1 H1 H2 (wipe σ vs) ρ) : SD K B1 H1 H2 σ (restE ρ0 ρ vs) := by
  obtain ⟨O0, w0⟩ := S0.own
  obtain ⟨O, w⟩ := S.own
  have hl : σ.length = ρ.length := by rw [← S.len, wipe_length]
  refine ⟨by rw [restE_len]; exact hl, S.bir, S.sub, S.tmp, S.imm, fun i => if i ∈ vs then [] else O i, fun i s' e => ?_, fun i a m => ?_, fun i j a m1 m2 => ?_, fun i hi => ?_, fun i a m => ?_⟩
  · by_cases z : i ∈ vs
    · rw [if_pos z]
      have hi : i < ρ.length := by rw [← restE_len (ρ0 := ρ0) (vs := vs)]; exact (List.getElem?_eq_some_iff.mp e).1
      rw [restE_in z hi] at e
      cases e
      have hli := List.all_eq_true.mp hL i z
      cases q : ρ0[i]? with
      | none => rfl
      | some u =>
        rw [q] at hli
        have ok := w0.ok i u q
        cases u with
        | emp => rfl
        | fz d =>
          obtain ⟨_, x, e1, e2⟩ := ok
          refine ⟨rfl, x, e1, ?_⟩
          rw [hB]
          exact Rp.mono s e2
        | ar d =>
          obtain ⟨_, x, e1, e2⟩ := ok
          exact ⟨rfl, x, e1, Rp.mono s e2⟩
        | _ => cases hli
    · rw [restE_out z] at e
      rw [if_neg z]
      have ok := w.ok i s' e
      rw [wipe_out z] at ok
      exact ok
  · split at m
    · cases m
    · exact w.non i a m
  · split at m1
    · cases m1
    · split at m2
      · cases m2
      · exact w.inj i j a m1 m2
  · rw [restE_len] at hi
    split
    · rfl
    · exact w.out i hi
  · split at m
    · cases m
    · exact w.tmp i a m
theorem wipe_set {i : Nat} {x : Option V} : ∀ {vs : List Nat}, i ∈ vs → wipe (σ.set i x) vs = wipe σ vs
  | v :: vs, h => by
    by_cases hm : i ∈ vs
    · unfold wipe; rw [wipe_set hm]
    · have e : v = i := by
        rcases List.mem_cons.mp h with q | q
        · exact q.symm
        · exact (hm q).elim
      subst e
      have e2 : wipe (σ.set v x) vs = (wipe σ vs).set v x := by
        apply List.ext_getElem?
        intro j
        by_cases z : j = v
        · subst z
          rw [wipe_out hm]
          by_cases hl : j < σ.length
          · rw [List.getElem?_set_self hl, List.getElem?_set_self (by rw [wipe_length]; exact hl)]
          · rw [List.getElem?_eq_none (by rw [List.length_set]; omega), List.getElem?_eq_none (by rw [List.length_set, wipe_length]; omega)]
        · rw [List.getElem?_set_ne (Ne.symm z)]
          exact wipe_get z
      show (wipe (σ.set v x) vs).set v none = (wipe σ vs).set v none
      rw [e2, List.set_set]
where
  wipe_get {i j : Nat} {x : Option V} {σ : L2.St} (z : j ≠ i) : ∀ {vs : List Nat}, (wipe (σ.set i x) vs)[j]? = (wipe σ vs)[j]?
  | [] => by rw [show wipe (σ.set i x) [] = σ.set i x from rfl, show wipe σ [] = σ from rfl, List.getElem?_set_ne (Ne.symm z)]
  | v :: vs => by
    show ((wipe (σ.set i x) vs).set v none)[j]? = ((wipe σ vs).set v none)[j]?
    by_cases q : v = j
    · subst q
      by_cases hl : v < σ.length
      · rw [List.getElem?_set_self (by rw [wipe_length, List.length_set]; exact hl), List.getElem?_set_self (by rw [wipe_length]; exact hl)]
      · rw [List.getElem?_eq_none (by rw [List.length_set, wipe_length, List.length_set]; omega), List.getElem?_eq_none (by rw [List.length_set, wipe_length]; omega)]
    · rw [List.getElem?_set_ne q, List.getElem?_set_ne q]
      exact wipe_get z
theorem BsOk.wiped {vs : List Nat} : ∀ {bs : Bnd} {σ σ' : L2.St}, BsOk K B H0 bs σ σ' → bs.all (fun b => vs.contains b.1) = true → wipe σ' vs = wipe σ vs
  | [], _, _, h, _ => by cases h; rfl
  | b :: bs, σ, σ', h, e => by
    obtain ⟨u, _, h⟩ := h
    rw [List.all_cons, Bool.and_eq_true] at e
    rw [BsOk.wiped h e.2, wipe_set (by simpa using e.1)]
theorem BsOk.mono {H1 : Hp} (s : Same H0 H1) : ∀ {bs : Bnd} {σ σ' : L2.St}, BsOk K B H0 bs σ σ' → BsOk K B H1 bs σ σ'
  | [], _, _, h => h
  | b :: bs, σ, σ', h => by
    obtain ⟨u, r, h⟩ := h
    exact ⟨u, r.mono s, BsOk.mono s h⟩
end
end Sc
set_option maxRecDepth 100000
set_option maxHeartbeats 2000000
namespace Sc
open PySem PySem.Spec PyProof.Rows L2
/-! ### list comprehensions -/
abbrev DTs (X : Cx) (ifs : List Expr) (t : TD) : Prop := PTs X ifs (tDT X.K t)
theorem pts_imp {X : Cx} {e : List Expr} {t t' : TT} (h : PTs X e t) (i : ∀ σ H Q, t' σ H Q → t σ H Q) : PTs X e t' := ⟨fun pins s σ H Q I q => h.run pins s σ H Q I (i σ H Q q)⟩
theorem dts_nil {X : Cx} : DTs X [] ttY := pts_imp pts_nil fun σ H Q ⟨B, H0, ρ, b, ρ', S, e, k⟩ => by
  cases e
  exact k H0 H (Same.refl _) S
theorem dts_one {X : Cx} {c : Expr} {t : TD} (h : DT X c t) : DTs X [c] t := pts_one h
theorem rps_snoc {K : PySem.W.Frag} {b : Option Hp} {H : Hp} {ds : List D} {vs : List V} {d : D} {v : V} (h : Rps K b H ds vs) (r : Rp K b H d v) : Rps K b H (ds ++ [d]) (vs ++ [v]) := h.append (.one r)
theorem lcL_len {g : GD} {t : TD} {f : ED} {vs : List Nat} : ∀ {ps : List (Bool × D)} {ρ ρ' : Env} {ds : List D}, lcL g t f vs ps ρ = some (ds, ρ') → ds.length ≤ ps.length
  | [], _, _, _, e => by cases e; exact Nat.le_refl _
  | p :: ps, ρ, ρ', ds, e => by
    obtain ⟨bs, e1, e⟩ := ob e
    replace e : (if bs.all (fun b => vs.contains b.1) then (setB ρ bs).bind fun ρ1 => (t ρ1).bind fun q => if q.1
      then (itF f q.2).bind fun y => if y.1.1 then (lcL g t f vs ps (wipeE y.2 vs)).map fun r => (y.1.2 :: r.1, r.2) else none
      else lcL g t f vs ps (wipeE q.2 vs)
    else none) = some (ds, ρ') := e
    split at e
    · obtain ⟨ρ1, e2, e⟩ := ob e
      obtain ⟨⟨c, ρ2⟩, e3, e⟩ := ob e
      cases c with
      | true =>
        replace e : ((itF f ρ2).bind fun y => if y.1.1 then (lcL g t f vs ps (wipeE y.2 vs)).map fun r => (y.1.2 :: r.1, r.2) else none) = some (ds, ρ') := e
        obtain ⟨⟨⟨fr, d⟩, ρ3⟩, e4, e⟩ := ob e
        cases fr with
        | true =>
          obtain ⟨⟨r1, r2⟩, e5, e6⟩ := Option.map_eq_some_iff.mp e
          cases e6
          exact Nat.succ_le_succ (lcL_len e5)
        | false => cases e
      | false => exact Nat.le_succ_of_le (lcL_len (show lcL g t f vs ps (wipeE ρ2 vs) = some (ds, ρ') from e))
    · cases e
/-- what the loop's reading asks is given -/
theorem lc_red {K : PySem.W.Frag} {F : IF} {g : GD} {t : TD} {f : ED} {vs : List Nat} : ∀ σ H Q, tDE K (lcF F g t f vs) σ H Q → tLc (tDIt K F) (tDG K g) (tDT K t) (tDE K f) vs σ H Q := by
  rintro σ H Q ⟨B, H0, ρ, res, ρ', S, e, k⟩
  obtain ⟨⟨ps, ρ1⟩, e1, e⟩ := ob e
  replace e : (if vs.all (fun v => isLight ρ1[v]?) then (lcL g t f vs ps (wipeE ρ1 vs)).bind fun r => if r.1.length ≤ LIM then some (Res.nw r.1, restE ρ1 r.2 vs) else none else none) = some (res, ρ') := e
  split at e
  · rename_i hemp
    obtain ⟨⟨tot, ρf⟩, e2, e3⟩ := ob e
    replace e3 : (if tot.length ≤ LIM then some (Res.nw tot, restE ρ1 ρf vs) else none) = some (res, ρ') := e3
    split at e3
    · rename_i hlim
      cases e3
      have emps : ∀ {ρ5 : Env}, ∀ v ∈ vs, ∀ s : Sc.Slot, (wipeE ρ5 vs)[v]? = some s → s = .emp := fun {ρ5} v m s q => by
        rw [wipeE_in m (by rw [← wipeE_len (vs := vs)]; exact (List.getElem?_eq_some_iff.mp q).1)] at q
        cases q; rfl
      refine ⟨B, H0, ρ, ps, ρ1, S, e1, fun J H1 Ha s1 S1 wk Dd hD => ?_⟩
      obtain ⟨H2, s2, S2, R2⟩ := S1.newLst hD (ds := []) (vs := []) rfl
      obtain ⟨O, a', vs', w, na, nt, ea, n0, ha, hr⟩ := R2
      cases ea
      rw [upd_same] at ha
      cases ha
      have S2' := S2.hideA w na n0 (o := .lst []) upd_same
      refine ⟨fun i m H => m = ps.length - i ∧ i ≤ ps.length ∧ ∃ H3 ρ2 acc ds rest, Same H2 H3 ∧ SD K (B.put Dd (.lst acc)) H3 H (wipe σ vs) ρ2 ∧ Rps K (some B.b) H3 ds acc ∧ (∀ v ∈ vs, ∀ s : Sc.Slot, ρ2[v]? = some s → s = .emp) ∧ lcL g t f vs (ps.drop i) ρ2 = some (rest, ρf) ∧ ds ++ rest = tot,
        ⟨ps.length, by simp, Nat.zero_le _, H2, wipeE ρ1 vs, [], [], tot, Same.refl _, S2'.wipeE vs, rfl, emps, e2, rfl⟩, ?_⟩
      rintro i m H ⟨rfl, hi, H3, ρ2, acc, ds, rest, s3, S3, hacc, emp2, e4, etot⟩
      by_cases hlt : i < ps.length
      · have ep : ps[i]? = some ps[i] := by simp [hlt]
        have ed : ps.drop i = ps[i] :: ps.drop (i + 1) := List.drop_eq_getElem_cons hlt
        rw [ed] at e4
        obtain ⟨bs, e5, e6⟩ := ob e4
        replace e6 : (if bs.all (fun b => vs.contains b.1) then (setB ρ2 bs).bind fun ρ1 => (t ρ1).bind fun q => if q.1
            then (itF f q.2).bind fun y => if y.1.1 then (lcL g t f vs (ps.drop (i + 1)) (wipeE y.2 vs)).map fun r => (y.1.2 :: r.1, r.2) else none
            else lcL g t f vs (ps.drop (i + 1)) (wipeE q.2 vs) else none) = some (rest, ρf) := e6
        split at e6
        · rename_i hin
          obtain ⟨ρ3, e7, e8⟩ := ob e6
          obtain ⟨⟨c, ρ4⟩, e9, e10⟩ := ob e8
          refine .inr ⟨wk.goes i _ H3 _ H _ ρ2 ep (s2.trans s3) S3, fun H' => ∃ m', m' < ps.length - i ∧ m' = ps.length - (i + 1) ∧ i + 1 ≤ ps.length ∧ ∃ H3 ρ2 acc ds rest, Same H2 H3 ∧ SD K (B.put Dd (.lst acc)) H3 H' (wipe σ vs) ρ2 ∧ Rps K (some B.b) H3 ds acc ∧ (∀ v ∈ vs, ∀ s : Sc.Slot, ρ2[v]? = some s → s = .emp) ∧ lcL g t f vs (ps.drop (i + 1)) ρ2 = some (rest, ρf) ∧ ds ++ rest = tot,
            fun _ z => z, fun x H' y => ?_⟩
          obtain ⟨H4, s4, S4, R4⟩ := wk.yields i _ H3 (B.put Dd (.lst acc)) H _ ρ2 x H' ep (s2.trans s3) rfl S3 y
          refine ⟨B.put Dd (.lst acc), H4, ps[i], bs, S4.sub, R4, e5, fun σ' hbs => ?_⟩
          have hw : wipe σ' vs = wipe (wipe σ vs) vs := hbs.wiped hin
          have hww : wipe (wipe σ vs) vs = wipe σ vs := by
            apply List.ext_getElem?
            intro j
            by_cases z : j ∈ vs
            · by_cases hl : j < σ.length
              · have q1 : j < (wipe (wipe σ vs) vs).length := by rw [wipe_length, wipe_length]; exact hl
                have q2 : j < (wipe σ vs).length := by rw [wipe_length]; exact hl
                have z1 := wipe_in (σ := wipe σ vs) z
                have z2 := wipe_in (σ := σ) z
                rw [List.getElem?_eq_getElem q1] at z1 ⊢
                rw [List.getElem?_eq_getElem q2] at z2 ⊢
                rw [show (wipe (wipe σ vs) vs)[j] = none from z1, show (wipe σ vs)[j] = none from z2]
              · rw [List.getElem?_eq_none (by rw [wipe_length, wipe_length]; omega), List.getElem?_eq_none (by rw [wipe_length]; omega)]
            · rw [wipe_out z]
          rw [hww] at hw
          refine ⟨hw, B.put Dd (.lst acc), H4, ρ3, c, ρ4, S4.setB hbs e7, e9, fun H5 Hb s5 S5 => ?_⟩
          have hlen : acc.length = ds.length := hacc.length
          cases c with
          | true =>
            replace e10 : ((itF f ρ4).bind fun y => if y.1.1 then (lcL g t f vs (ps.drop (i + 1)) (wipeE y.2 vs)).map fun r => (y.1.2 :: r.1, r.2) else none) = some (rest, ρf) := e10
            obtain ⟨⟨⟨fr, d⟩, ρ5⟩, e11, e12⟩ := ob e10
            cases fr with
            | false => cases e12
            | true =>
              obtain ⟨⟨r1, r2⟩, e13, e14⟩ := Option.map_eq_some_iff.mp e12
              cases e14
              refine iteT (it_red S5 e11 fun v H6 Hc s6 S6 R6 => ?_)
              have hS := S6.setA (o' := .lst (acc ++ [v])) rfl
              refine ⟨acc, (S6.showA nt).2.2.2, ?_, _, by omega, rfl, by omega, H6, wipeE ρ5 vs, acc ++ [v], ds ++ [d], r1, ((s3.trans s4).trans s5).trans s6, ?_, ?_, emps, e13, by rw [← etot]; simp⟩
              · refine Nat.lt_of_le_of_lt ?_ lim_le
                rw [hlen]
                have e15 : ds.length + (r1.length + 1) = tot.length := by rw [← etot]; simp
                omega
              · have S7 := hS.wipeE vs
                rw [hw] at S7
                exact S7
              · exact rps_snoc (hacc.mono ((s4.trans s5).trans s6)) R6
          | false =>
            replace e10 : lcL g t f vs (ps.drop (i + 1)) (wipeE ρ4 vs) = some (rest, ρf) := e10
            refine iteF ⟨_, by omega, rfl, by omega, H5, wipeE ρ4 vs, acc, ds, rest, (s3.trans s4).trans s5, ?_, hacc.mono (s4.trans s5), emps, e10, etot⟩
            have S7 := S5.wipeE vs
            rw [hw] at S7
            exact S7
        · cases e6
      · have ei : i = ps.length := by omega
        subst ei
        rw [List.drop_length] at e4
        cases e4
        rw [List.append_nil] at etot
        subst etot
        obtain ⟨S4, ⟨O4, w4, na4⟩, n4, ha4⟩ := (SD.restore (B1 := B.put Dd (.lst acc)) S1 hemp rfl (s2.trans s3) S3).showA nt
        exact .inl ⟨wk.stops H3 _ H _ _ (s2.trans s3) S3, k _ H3 H ((s1.trans s2).trans s3) S4 ⟨O4, Dd, acc, w4, na4, nt, rfl, n4, ha4, hacc⟩⟩
    · cases e3
  · cases e
section
variable {X : Cx} {W : WX} {elt tg iter : Expr} {ifs : List Expr} {scope : Scope} {own : List (Str × Nat)} {pos spos py : Pos} {F : IF} {g : GD} {t : TD} {f : ED}
theorem de_lc (hc : X.calm = true) (hN : X.N.Nodup) (hi : DIt X tg iter F) (ok : BlkOk X.N X.env.scope scope own)
    (hg : ∀ (s : Shared) (H : Hp) (C : Addr) (cl : List (Str × Addr)) (fp : List Addr), DG (X.blk s H scope (compEnvC scope cl C X.env) fp) tg g) (ht : ∀ (s : Shared) (H : Hp) (C : Addr) (cl : List (Str × Addr)) (fp : List Addr), DTs (X.blk s H scope (compEnvC scope cl C X.env) fp) ifs t)
    (he : ∀ (s : Shared) (H : Hp) (C : Addr) (cl : List (Str × Addr)) (fp : List Addr), DE (X.blk s H scope (compEnvC scope cl C X.env) fp) elt f) (hs : ∀ x, foldedSetIterable iter X.env x = pure x := by intro _; rfl) :
    DE X (.ListComp elt [⟨tg, iter, ifs, 0⟩] scope pos) (lcF F g t f (own.map (·.2))) := pe_imp (pe_lc hc hN hi ok hg ht he hs) lc_red
theorem ds_setLc {i : Nat} {y : Str} (hc : X.calm = true) (hN : X.N.Nodup) (hy : X.N[i]? = some y) (hyl : X.env.scope.names.lookup y = some .local)
    (hsw : swapsWith (.ListComp elt [⟨tg, iter, ifs, 0⟩] scope pos) (some (.Name y py)) spos.line X.env = pure true) (hi : DIt X tg iter F) (ok : BlkOk X.N X.env.scope scope own)
    (hg : ∀ (s : Shared) (H : Hp) (C : Addr) (cl : List (Str × Addr)) (fp : List Addr), DG (X.blk s H scope (compEnvC scope cl C X.env) fp) tg g) (ht : ∀ (s : Shared) (H : Hp) (C : Addr) (cl : List (Str × Addr)) (fp : List Addr), DTs (X.blk s H scope (compEnvC scope cl C X.env) fp) ifs t)
    (he : ∀ (s : Shared) (H : Hp) (C : Addr) (cl : List (Str × Addr)) (fp : List Addr), DE (X.blk s H scope (compEnvC scope cl C X.env) fp) elt f) (hs : ∀ x, foldedSetIterable iter X.env x = pure x := by intro _; rfl) :
    DS X W (.Assign [.Name y py] (.ListComp elt [⟨tg, iter, ifs, 0⟩] scope pos) spos) (setS i (lcF F g t f (own.map (·.2)))) := by
  refine ps_imp (ps_setLc (g := tDG X.K g) (tt := tDT X.K t) (te := tDE X.K f) hc hN hy hyl hsw hi ok hg ht he hs) fun Dn σ H ⟨B, H0, ρ, out, S, e, k⟩ => ?_
  obtain ⟨⟨r1, ρ1⟩, e1, e2⟩ := ob e
  obtain ⟨ρ2, e3, e4⟩ := Option.map_eq_some_iff.mp e2
  cases e4
  refine lc_red σ H _ ⟨B, H0, ρ, r1, ρ1, S, e1, fun v H1 Ha s1 S1 R1 => ?_⟩
  obtain ⟨H2, s2, S2⟩ := S1.put R1 e3
  exact k _ H2 Ha (s1.trans s2) S2
end
end Sc
set_option maxRecDepth 100000
set_option maxHeartbeats 2000000
namespace PySem
open Sem (wp)
theorem meets_enumerate_newB {v : Value} {o : Obj} {Hh : Heap → Prop} (B : Begins v o Hh) :
    Meets (Builtin.«enumerate.__new__» ⟨[.type "enumerate", v], []⟩) (fun _ R s => Hh s.heap ∧
      R (.ok (.ret (.ref (s.heap.push o).objs.size)))
        { s with heap := (s.heap.push o).push { cls := .type "enumerate", data := .fields #[.none, .bool false, .ref s.heap.objs.size, rawInt 0, .none, .none] } }) :=
  .of_wp fun prog w A R s h => by
    obtain ⟨hp, g, d, tk, os⟩ := s; obtain ⟨h1, h⟩ := h
    have hsub := sub_enumerate
    have q1 : ∀ {A' : Around} {E : Value → Shared → Prop} {Q : Value → Shared → Prop}, Q (.ref hp.objs.size) ⟨(hp.push o), g, d, tk, os⟩ → wpAny (model prog w) A' (pyIter v) Q E ⟨hp, g, d, tk, os⟩ :=
      fun q => B.iter prog w _ _ ⟨hp, g, d, tk, os⟩ _ h1 q
    wp_walk
    refine wpAny_stack_any fun st => wpAny_pure ?_
    split
    · rename_i c _ _ _ _ _
      cases (c == Value.type "enumerate")
      · wp_walk using q1
        exact ⟨_, rfl, h⟩
      · wp_walk using q1
        exact ⟨_, rfl, h⟩
    · wp_walk using q1
      exact ⟨_, rfl, h⟩
theorem call_enumerate_B {prog : Program} {w : World} {A : Around} {E : Value → Shared → Prop} {s : Shared} {v : Value} {o : Obj} {Hh : Heap → Prop} {Q : Value → Shared → Prop} (B : Begins v o Hh) (hH : Hh s.heap)
    (h : ∀ h', IsEnum h' (s.heap.objs.size + 1) s.heap.objs.size 0 .none → h'.get? s.heap.objs.size = some o → h'.objs.size = s.heap.objs.size + 2 →
      (∀ b o, s.heap.get? b = some o → h'.get? b = some o) → Q (.ref (s.heap.objs.size + 1)) { s with heap := h' }) :
    wpAny (model prog w) A (call (.type "enumerate") [v]) Q E s := by
  refine callType_new F.called_enumerate (by decide) (F.typeCall_enumerate_1 _) (F.newCall_enumerate_1 _) (fun obj => F.args_object_init_2 obj _) F.entry_enumerate_new
    (meets_enumerate_newB B) ⟨hH, ?_⟩
  have hz : (s.heap.push o).objs.size = s.heap.objs.size + 1 := Heap.size_push ..
  show _ ∧ _
  rw [hz]
  have he : IsEnum ((s.heap.push o).push { cls := .type "enumerate", data := .fields #[.none, .bool false, .ref s.heap.objs.size, rawInt 0, .none, .none] }) (s.heap.objs.size + 1) s.heap.objs.size 0 .none := by
    have := Heap.get?_push_size (s.heap.push o)
      (o := { cls := .type "enumerate", data := .fields #[.none, .bool false, .ref s.heap.objs.size, rawInt 0, .none, .none] }) rfl
    rw [hz] at this; exact this
  refine ⟨⟨_, he, rfl⟩, h _ he (Heap.get?_push_of_some _ (Heap.get?_push_size _ B.free)) (by rw [Heap.size_push, hz]) fun b o x => Heap.get?_push_of_some _ (Heap.get?_push_of_some _ x)⟩
end PySem
namespace Sc
open PySem PySem.Spec PyProof.Rows L2
/-! ### sequences that are lists or tuples -/
def SqX (K : PySem.W.Frag) (H : Hp) (a : Addr) (xs : List V) (t : Bool) : Prop := if t then SqT K H a xs else SqL K H a xs
def HpX (t : Bool) (h : Heap) (a : Addr) (its : Array Value) : Prop := if t then h.IsTuple a its else h.IsList a its
def ItX (t : Bool) (h : Heap) (it a : Addr) (i : Nat) : Prop := if t then h.IsTupleIter it a i else h.IsListIter it a i
def itO (t : Bool) (a : Addr) : Obj := if t then { cls := .type "tuple_iterator", data := .fields #[.ref a, .int 0 0] } else { cls := .type "list_iterator", data := .fields #[.ref a, .int 0 0] }
theorem itX_of {t : Bool} {h : Heap} {it a : Addr} (e : h.get? it = some (itO t a)) : ItX t h it a 0 := by
  cases t
  · exact ⟨_, e, rfl, rfl⟩
  · exact ⟨_, e, rfl, rfl⟩
theorem itX_at {t : Bool} {h h' : Heap} {it a : Addr} {i : Nat} (x : ItX t h it a i) (k : ∀ o, h.get? it = some o → h'.get? it = some o) : ItX t h' it a i := by
  cases t
  · exact Heap.IsListIter.at (show h.IsListIter it a i from x) k
  · exact Heap.IsTupleIter.at (show h.IsTupleIter it a i from x) k
theorem itX_obj {t : Bool} {h : Heap} {it a : Addr} {i : Nat} (x : ItX t h it a i) : ∃ o, h.get? it = some o ∧ ∀ v, o.data ≠ .cell v := by
  cases t
  · obtain ⟨o, e, _, d⟩ := (show h.IsListIter it a i from x); exact ⟨o, e, fun v z => by rw [d] at z; cases z⟩
  · obtain ⟨o, e, _, d⟩ := (show h.IsTupleIter it a i from x); exact ⟨o, e, fun v z => by rw [d] at z; cases z⟩
theorem drawsX {prog : Program} {w : World} {A : Around} (t : Bool) (hh : A.handled = none) (it a : Addr) (hne : a ≠ it) (items : Array Value) :
    Draws prog w A it [it, a] items.size (fun i v => items[i]? = some v) (fun i h => ItX t h it a i ∧ HpX t h a items) := by
  cases t
  · exact Draws.list hh it a hne items
  · exact Draws.tuple hh it a hne items
theorem beginsX (t : Bool) (a : Addr) (items : Array Value) : Begins (.ref a) (itO t a) fun h => HpX t h a items := by
  cases t
  · exact begins_list a items
  · exact begins_tuple a items
section
variable {X : Cx} {pins : List (Addr × Obj)} {σ : L2.St} {H : Hp} {s : Shared} {a : Addr} {xs ys : List V} {t : Bool}
theorem seqX (I : Inv X pins σ H s) (h : SqX X.K H a xs t) : ∃ its : List Value, Vals xs its ∧ HpX t s.heap a its.toArray ∧ a < s.heap.objs.size := by
  cases t
  · obtain ⟨its, r, p, _⟩ := I.list h
    exact ⟨its, r, p.isList, p.lt⟩
  · obtain ⟨its, r, p, _⟩ := I.tuple h
    obtain ⟨o, e, _⟩ := id p
    exact ⟨its, r, p, Heap.lt_size e⟩
theorem injX (I : Inv X pins σ H s) (h : SqX X.K H a xs t) (h' : SqX X.K H a ys t) : xs = ys := by
  cases t
  · exact I.list_inj h h'
  · exact I.tuple_inj h h'
end
/-! ### enumerate -/
def IeX (K : PySem.W.Frag) (a : Addr) (t : Bool) : It :=
  ⟨fun i H => ∃ (xs : List V) (x : V), SqX K H a xs t ∧ xs[i]? = some x, fun i H v H' => ∃ T x, v = .ref T ∧ H T = none ∧ H' = upd H T (.tup [.int (i : Nat), x]) ∧ ∀ xs, SqX K H a xs t → xs[i]? = some x, fun i H => ∃ xs : List V, SqX K H a xs t ∧ xs.length = i⟩
theorem turn_enumX {P : Program} {w : World} {K : PySem.W.Frag} {elts : List Expr} {kk : Nat} {tpos : Pos} (t : Bool) (a e it : Addr) (hne : e ≠ it) (hea : e ≠ a) (hia : a ≠ it) :
    Turn P w K (.Tuple elts kk tpos) (IeX K a t) [e, it] e (fun i h => (∃ old, IsEnum h e it ((i : Nat) : Int) old) ∧ ItX t h it a i) where
  mem := by simp
  obj := fun i h st b hb => by
    obtain ⟨⟨old, he⟩, hi⟩ := st
    have e' : b = e ∨ b = it := by simpa using hb
    rcases e' with z | z
    · rw [z]; exact ⟨_, he, fun v q => nomatch q⟩
    · rw [z]; exact itX_obj hi
  keep := fun i h h' st k => let ⟨⟨old, he⟩, hi⟩ := st; ⟨⟨old, k e (by simp) _ he⟩, itX_at hi fun o q => k it (by simp) o q⟩
  item := by
    intro X hP hw hK hc i pins s σ H E I hf st hg
    subst hP hw hK
    obtain ⟨⟨old, he⟩, hit⟩ := st
    obtain ⟨xs, x, hq, hx⟩ := hg
    obtain ⟨its, rv, p, hl⟩ := seqX I hq
    obtain ⟨u, hu, ru⟩ := rv.get hx
    have hel : e < s.heap.objs.size := Heap.lt_size he
    have hil : it < s.heap.objs.size := by obtain ⟨_, q, _⟩ := itX_obj hit; exact Heap.lt_size q
    have hlt : i < its.toArray.size := by
      have z : i < its.length := (List.getElem?_eq_some_iff.mp hu).1
      simpa using z
    have hu' : its.toArray[i]? = some u := by simpa using hu
    refine wpAny_pyNext_enum_itemD (drawsX t (show X.A.in1.handled = none from I.ok.hd hc) it a hia its.toArray) he ⟨hit, p⟩ hlt hne (by simp [hne, hea]) fun x' h' tk hx' ho hit' hT hsz hk => ?_
    rw [hu'] at hx'
    cases hx'
    refine ⟨_, rfl, wpAny_letOwnedTupleGo_enum (s := { s with heap := h', toks := tk + 1 }) ho fun h'' he' sb => ?_⟩
    have hT2 : h''.get? s.heap.objs.size = some { cls := .type "tuple", data := .seq #[.int i tk, u] } := (sb.2 _ (Nat.ne_of_gt hel)).trans hT
    have new : ObjOk X.prog X.w (upd H s.heap.objs.size (.tup [.int (i : Nat), x])) h'' s.heap.objs.size (.tup [.int (i : Nat), x]) :=
      ⟨by show 2 ≤ sizeLine; decide, [.int i tk, u], .cons ⟨_, rfl⟩ (.cons ru .nil), ⟨_, hT2, rfl, _, rfl⟩⟩
    have I1 : Inv X pins σ (upd H s.heap.objs.size (.tup [.int (i : Nat), x])) { s with heap := h'', toks := tk + 1 } :=
      I.turnedNew (ch := [e, it]) (fun b ob hb q => (sb.2 b (fun z => hb (by simp [z]))).trans (hk b ob (fun z => hb (by simp [z])) (fun z => hb (by simp [z])) q)) hf (Nat.le_refl _) new
    refine ⟨.ref s.heap.objs.size, _, I1, rfl, ⟨_, x, rfl, I.hok.fresh (Nat.le_refl _), rfl, fun ys hy => by rw [injX I hy hq]; exact hx⟩, ⟨⟨u, ?_⟩, itX_at hit'.1 fun o q => (sb.2 it (Ne.symm hne)).trans q⟩, fun b hb => ?_⟩
    · have e1 : ((i + 1 : Nat) : Int) = (i : Int) + 1 := by omega
      rw [e1]; exact he'
    · have hb' : b < s.heap.objs.size := by
        have e' : b = e ∨ b = it := by simpa using hb
        rcases e' with z | z
        · rw [z]; exact hel
        · rw [z]; exact hil
      rw [upd_ne (Nat.ne_of_lt hb')]
      exact (hf b hb).1
  done := by
    intro X hP hw hK hc i pins s σ H E I hf st hg
    subst hP hw hK
    obtain ⟨⟨old, he⟩, hit⟩ := st
    obtain ⟨xs, hq, rfl⟩ := hg
    obtain ⟨its, rv, p, hl⟩ := seqX I hq
    obtain ⟨f0, f1, f2, f3, f4, f5⟩ := hf it (by simp)
    have hl := rv.length
    rw [show xs.length = its.toArray.size by simpa using hl] at hit he
    exact wpAny_pyNext_enum_endD (drawsX t (show X.A.in1.handled = none from I.ok.hd hc) it a hia its.toArray) he ⟨hit, p⟩ fun h' eb => ⟨rfl, I.turned (t' := s.toks) (fun b o hb q => eb b o hb q) f0 f1 f3 f4 f5⟩
  self := fun A i s Q E st h => let ⟨⟨_, he⟩, _⟩ := st; wpAny_pyIter_enum he h
def iEnumX (K : PySem.W.Frag) (ta : TA) : TI := fun σ H R => ta σ H fun vs H1 => ∃ a xs t, vs = [.ref a] ∧ SqX K H1 a xs t ∧ R (IeX K a t) H1
theorem pi_enumX {X : Cx} {e : Expr} {ta : TA} {p pos tpos : Pos} {elts : List Expr} {kk : Nat} (hg : Gl X "enumerate") (hm : X.mg "enumerate" = none) (ha : PA X [e] ta) (hs : starEach [e] X.env = (false, eval e X.env) :: starEach [] X.env := by rfl) :
    PI X (.Tuple elts kk tpos) (.Call (.Name "enumerate" p) [e] [] pos) (iEnumX X.K ta) := by
  refine ⟨fun pins s σ H R I h => ?_⟩
  refine Call_ (ld_blt I hg hm boot_enumerate (PyProof.Rows.callWith_type1 (thn (ha.run pos pins s σ H _ I h) fun us s1 ⟨vs, H1, I1, r1, q1⟩ => ?_) hs rfl))
  obtain ⟨a, xs, t, ex, hq, q⟩ := q1
  subst ex
  cases r1 with
  | cons r rr =>
    cases rr
    cases r
    obtain ⟨its, rv, p', hlt⟩ := seqX I1 hq
    refine call_enumerate_B (beginsX t a its.toArray) p' fun h' he hit hsz hk => wpAny_pyIter_enum he ?_
    have I2 : Inv X pins σ H1 { s1 with heap := h' } := I1.kept (t' := s1.toks) hk
    refine ⟨s1.heap.objs.size + 1, [s1.heap.objs.size + 1, s1.heap.objs.size], _, _, H1, rfl, I2, turn_enumX t a (s1.heap.objs.size + 1) s1.heap.objs.size (Nat.succ_ne_self _) (Nat.ne_of_gt (Nat.lt_succ_of_lt hlt)) (Nat.ne_of_lt hlt), ⟨⟨.none, he⟩, itX_of hit⟩, fun b hb => ?_, q⟩
    have e' : b = s1.heap.objs.size + 1 ∨ b = s1.heap.objs.size := by simpa using hb
    have hle : s1.heap.objs.size ≤ b := by
      rcases e' with z | z
      · rw [z]; exact Nat.le_add_right _ _
      · rw [z]; exact Nat.le_refl _
    exact I1.fpOk hle (I1.hok.fresh hle)
/-! ### zip -/
def IzX (K : PySem.W.Frag) (a b : Addr) (t u : Bool) : It :=
  ⟨fun i H => ∃ (xs ys : List V) (x y : V), SqX K H a xs t ∧ SqX K H b ys u ∧ xs[i]? = some x ∧ ys[i]? = some y,
    fun i H v H' => ∃ T x y, v = .ref T ∧ H T = none ∧ H' = upd H T (.tup [x, y]) ∧ (∀ xs, SqX K H a xs t → xs[i]? = some x) ∧ ∀ ys, SqX K H b ys u → ys[i]? = some y,
    fun i H => ∃ xs ys : List V, SqX K H a xs t ∧ SqX K H b ys u ∧ i = min xs.length ys.length⟩
theorem turn_zipX {P : Program} {w : World} {K : PySem.W.Frag} {elts : List Expr} {kk : Nat} {tpos : Pos} {a b z TI TO i1 i2 : Addr} (t u : Bool) (D : ZipSep2 z TI TO i1 i2 [i1, a] [i2, b]) :
    Turn P w K (.Tuple elts kk tpos) (IzX K a b t u) [z, TI, TO, i1, i2] z (fun i h => IsZip h z TI TO .none ∧ IsPair h TI (.ref i1) (.ref i2) ∧ (∃ x y, IsPair h TO x y) ∧ ItX t h i1 a i ∧ ItX u h i2 b i) where
  mem := by simp
  obj := fun i h st c hc => by
    obtain ⟨hz, hTI, ⟨x, y, hTO⟩, h1, h2⟩ := st
    have e' : c = z ∨ c = TI ∨ c = TO ∨ c = i1 ∨ c = i2 := by simpa using hc
    rcases e' with q | q | q | q | q
    · rw [q]; exact ⟨_, hz, fun v q => nomatch q⟩
    · rw [q]; exact ⟨_, hTI, fun v q => nomatch q⟩
    · rw [q]; exact ⟨_, hTO, fun v q => nomatch q⟩
    · rw [q]; exact itX_obj h1
    · rw [q]; exact itX_obj h2
  keep := fun i h h' st k => by
    obtain ⟨hz, hTI, ⟨x, y, hTO⟩, h1, h2⟩ := st
    exact ⟨k z (by simp) _ hz, k TI (by simp) _ hTI, ⟨x, y, k TO (by simp) _ hTO⟩, itX_at h1 fun o q => k i1 (by simp) o q, itX_at h2 fun o q => k i2 (by simp) o q⟩
  item := by
    intro X hP hw hK hc i pins s σ H E I hf st hg
    subst hP hw hK
    obtain ⟨hz, hTI, ⟨x0, y0, hTO⟩, h1, h2⟩ := st
    obtain ⟨xs, ys, x, y, hqx, hqy, hx, hy⟩ := hg
    obtain ⟨its, rv, p, _⟩ := seqX I hqx
    obtain ⟨its2, rv2, p2, _⟩ := seqX I hqy
    obtain ⟨v1, hu, ru⟩ := rv.get hx
    obtain ⟨v2, hu2, ru2⟩ := rv2.get hy
    have hzl : z < s.heap.objs.size := Heap.lt_size hz
    have hlt1 : i < its.toArray.size := by
      have z : i < its.length := (List.getElem?_eq_some_iff.mp hu).1
      simpa using z
    have hlt2 : i < its2.toArray.size := by
      have z : i < its2.length := (List.getElem?_eq_some_iff.mp hu2).1
      simpa using z
    have hh : X.A.in1.handled = none := I.ok.hd hc
    have na : a ≠ i1 := fun q => D.zi1 (by
      exfalso
      rcases t with _ | _
      · obtain ⟨o, e, c, d⟩ := (show s.heap.IsListIter i1 a i from h1)
        obtain ⟨o', e', c', n, d'⟩ := (show s.heap.IsList a its.toArray from p)
        rw [q, e] at e'; cases e'; exact absurd (Value.type.inj (c.symm.trans c')) (by decide)
      · obtain ⟨o, e, c, d⟩ := (show s.heap.IsTupleIter i1 a i from h1)
        obtain ⟨o', e', c', n, d'⟩ := (show s.heap.IsTuple a its.toArray from p)
        rw [q, e] at e'; cases e'; exact absurd (Value.type.inj (c.symm.trans c')) (by decide))
    have nb : b ≠ i2 := fun q => D.zi1 (by
      exfalso
      rcases u with _ | _
      · obtain ⟨o, e, c, d⟩ := (show s.heap.IsListIter i2 b i from h2)
        obtain ⟨o', e', c', n, d'⟩ := (show s.heap.IsList b its2.toArray from p2)
        rw [q, e] at e'; cases e'; exact absurd (Value.type.inj (c.symm.trans c')) (by decide)
      · obtain ⟨o, e, c, d⟩ := (show s.heap.IsTupleIter i2 b i from h2)
        obtain ⟨o', e', c', n, d'⟩ := (show s.heap.IsTuple b its2.toArray from p2)
        rw [q, e] at e'; cases e'; exact absurd (Value.type.inj (c.symm.trans c')) (by decide))
    refine wpAny_pyNext_zipD2_item D (drawsX t hh i1 a na its.toArray) (drawsX u hh i2 b nb its2.toArray) hz hTI hTO ⟨h1, p⟩ ⟨h2, p2⟩ hlt1 hlt2 fun x1 x2 h' tk hx1 hx2 z' TO' h1' h2' hT hsz hk => ?_
    rw [show its.toArray[i]? = some v1 by simpa using hu] at hx1
    rw [show its2.toArray[i]? = some v2 by simpa using hu2] at hx2
    cases hx1
    cases hx2
    refine ⟨_, rfl, wpAny_letOwnedTupleGo_zip (s := { s with heap := h', toks := tk }) z' fun h'' z'' sb => ?_⟩
    have hT2 : h''.get? s.heap.objs.size = some { cls := .type "tuple", data := .seq #[v1, v2] } := (sb.2 _ (Nat.ne_of_gt hzl)).trans hT
    have new : ObjOk X.prog X.w (upd H s.heap.objs.size (.tup [x, y])) h'' s.heap.objs.size (.tup [x, y]) :=
      ⟨by show 2 ≤ sizeLine; decide, [v1, v2], .cons ru (.cons ru2 .nil), ⟨_, hT2, rfl, _, rfl⟩⟩
    have I1 : Inv X pins σ (upd H s.heap.objs.size (.tup [x, y])) { s with heap := h'', toks := tk } :=
      I.turnedNew (ch := [z, TI, TO, i1, i2]) (fun c o hb q => (sb.2 c (fun q' => hb (by simp [q']))).trans (hk c o (fun q' => hb (by simp [q'])) (fun q' => hb (by simp [q'])) (fun q' => hb (by simp [q'])) (fun q' => hb (by simp [q'])) q)) hf (Nat.le_refl _) new
    refine ⟨.ref s.heap.objs.size, _, I1, rfl, ⟨_, x, y, rfl, I.hok.fresh (Nat.le_refl _), rfl, fun l hl => by rw [injX I hl hqx]; exact hx, fun l hl => by rw [injX I hl hqy]; exact hy⟩, ⟨z'', ?_, ⟨v1, v2, ?_⟩, ?_, ?_⟩, fun c hcm => ?_⟩
    · exact (sb.2 _ D.TIz).trans (hk _ _ D.TIz D.TITO D.TIi1 D.TIi2 hTI)
    · exact (sb.2 _ D.TOz).trans TO'
    · exact itX_at h1'.1 fun o q => (sb.2 _ (Ne.symm D.zi1)).trans q
    · exact itX_at h2'.1 fun o q => (sb.2 _ (Ne.symm D.zi2)).trans q
    · have hlt : c < s.heap.objs.size := by
        have e' : c = z ∨ c = TI ∨ c = TO ∨ c = i1 ∨ c = i2 := by simpa using hcm
        rcases e' with q | q | q | q | q
        · rw [q]; exact hzl
        · rw [q]; exact Heap.lt_size hTI
        · rw [q]; exact Heap.lt_size hTO
        · rw [q]; obtain ⟨_, e1, _⟩ := itX_obj h1; exact Heap.lt_size e1
        · rw [q]; obtain ⟨_, e2, _⟩ := itX_obj h2; exact Heap.lt_size e2
      rw [upd_ne (Nat.ne_of_lt hlt)]
      exact (hf c hcm).1
  done := by
    intro X hP hw hK hc i pins s σ H E I hf st hg
    subst hP hw hK
    obtain ⟨hz, hTI, ⟨x0, y0, hTO⟩, h1, h2⟩ := st
    obtain ⟨xs, ys, hqx, hqy, hend⟩ := hg
    obtain ⟨its, rv, p, _⟩ := seqX I hqx
    obtain ⟨its2, rv2, p2, _⟩ := seqX I hqy
    have l1 := rv.length
    have l2 := rv2.length
    have hh : X.A.in1.handled = none := I.ok.hd hc
    have na : a ≠ i1 := fun q => D.zi1 (by
      exfalso
      rcases t with _ | _
      · obtain ⟨o, e, c, d⟩ := (show s.heap.IsListIter i1 a i from h1)
        obtain ⟨o', e', c', n, d'⟩ := (show s.heap.IsList a its.toArray from p)
        rw [q, e] at e'; cases e'; exact absurd (Value.type.inj (c.symm.trans c')) (by decide)
      · obtain ⟨o, e, c, d⟩ := (show s.heap.IsTupleIter i1 a i from h1)
        obtain ⟨o', e', c', n, d'⟩ := (show s.heap.IsTuple a its.toArray from p)
        rw [q, e] at e'; cases e'; exact absurd (Value.type.inj (c.symm.trans c')) (by decide))
    have nb : b ≠ i2 := fun q => D.zi1 (by
      exfalso
      rcases u with _ | _
      · obtain ⟨o, e, c, d⟩ := (show s.heap.IsListIter i2 b i from h2)
        obtain ⟨o', e', c', n, d'⟩ := (show s.heap.IsList b its2.toArray from p2)
        rw [q, e] at e'; cases e'; exact absurd (Value.type.inj (c.symm.trans c')) (by decide)
      · obtain ⟨o, e, c, d⟩ := (show s.heap.IsTupleIter i2 b i from h2)
        obtain ⟨o', e', c', n, d'⟩ := (show s.heap.IsTuple b its2.toArray from p2)
        rw [q, e] at e'; cases e'; exact absurd (Value.type.inj (c.symm.trans c')) (by decide))
    have s1 : its.toArray.size = its.length := by simp
    have s2 : its2.toArray.size = its2.length := by simp
    exact wpAny_pyNext_zipD2_end D (drawsX t hh i1 a na its.toArray) (drawsX u hh i2 b nb its2.toArray) hz hTI hTO ⟨h1, p⟩ ⟨h2, p2⟩ (by omega) (by omega) (by omega) fun h' tk hk => ⟨rfl, I.turnedL (ch := [z, TI, TO, i1, i2]) (fun c o hb q =>
      hk c o (fun q' => hb (by simp [q'])) (fun q' => hb (by simp [q'])) (fun q' => hb (by simp [q'])) (fun q' => hb (by simp [q'])) q) hf⟩
  self := fun A i s Q E st h => wpAny_pyIter_zip st.1 h
theorem nin2 {x y z : Nat} (h1 : x ≠ y) (h2 : x ≠ z) : x ∉ [y, z] := fun h => by
  rcases List.mem_cons.mp h with h | h
  · exact h1 h
  · exact h2 (List.mem_singleton.mp h)
theorem zip_sep (n a b : Nat) (l1 : a < n) (l2 : b < n) : ZipSep2 (n + 4) (n + 2) (n + 3) n (n + 1) [n, a] [n + 1, b] :=
  ⟨show (n + 2 : Nat) ≠ n + 4 by omega, show (n + 3 : Nat) ≠ n + 4 by omega, show (n + 2 : Nat) ≠ n + 3 by omega, show (n + 2 : Nat) ≠ n by omega, List.mem_cons_self, nin2 (by omega) (by omega), nin2 (by omega) (by omega),
    show (n + 2 : Nat) ≠ n + 1 by omega, List.mem_cons_self, nin2 (by omega) (by omega), nin2 (by omega) (by omega), nin2 (by omega) (by omega), nin2 (by omega) (by omega)⟩
def iZipX (K : PySem.W.Frag) (ta : TA) : TI := fun σ H R => ta σ H fun vs H1 => ∃ a b xs ys t u, vs = [.ref a, .ref b] ∧ SqX K H1 a xs t ∧ SqX K H1 b ys u ∧ R (IzX K a b t u) H1
theorem pi_zipX {X : Cx} {e e2 : Expr} {ta : TA} {p pos tpos : Pos} {elts : List Expr} {kk : Nat} (hg : Gl X "zip") (hm : X.mg "zip" = none) (ha : PA X [e, e2] ta)
    (hs : starEach [e, e2] X.env = (false, eval e X.env) :: starEach [e2] X.env := by rfl) (hpl : (backTo pos (starEach [e2] X.env)).any (·.1) = false := by rfl) :
    PI X (.Tuple elts kk tpos) (.Call (.Name "zip" p) [e, e2] [] pos) (iZipX X.K ta) := by
  refine ⟨fun pins s σ H R I h => ?_⟩
  refine Call_ (ld_blt I hg hm PyProof.Rows.boot_zip (PyProof.Rows.callWith_type1 (thn (ha.run pos pins s σ H _ I h) fun us s1 ⟨vs, H1, I1, r1, q1⟩ => ?_) hs hpl))
  obtain ⟨a, b, xs, ys, t, u, ex, hqx, hqy, q⟩ := q1
  subst ex
  cases r1 with
  | cons r rr =>
    cases rr with
    | cons r' rr =>
      cases rr
      cases r
      cases r'
      have fresh5 : ∀ c, c ∈ [s1.heap.objs.size + 4, s1.heap.objs.size + 2, s1.heap.objs.size + 3, s1.heap.objs.size, s1.heap.objs.size + 1] → FpOk X pins H1 c := fun c hcm => by
        have e' : c = s1.heap.objs.size + 4 ∨ c = s1.heap.objs.size + 2 ∨ c = s1.heap.objs.size + 3 ∨ c = s1.heap.objs.size ∨ c = s1.heap.objs.size + 1 := by simpa using hcm
        have hle : s1.heap.objs.size ≤ c := by omega
        exact I1.fpOk hle (I1.hok.fresh hle)
      obtain ⟨its, rv, p1, l1⟩ := seqX I1 hqx
      obtain ⟨its2, rv2, p2, l2⟩ := seqX I1 hqy
      refine zip_begins2 (beginsX t a its.toArray) (beginsX u b its2.toArray) p1 p2 fun h' hz hTI hTO h1 h2 hsz hk => wpAny_pyIter_zip hz ?_
      have I2 : Inv X pins σ H1 { s1 with heap := h' } := I1.kept (t' := s1.toks) hk
      have D : ZipSep2 (s1.heap.objs.size + 4) (s1.heap.objs.size + 2) (s1.heap.objs.size + 3) s1.heap.objs.size (s1.heap.objs.size + 1) [s1.heap.objs.size, a] [s1.heap.objs.size + 1, b] := zip_sep _ _ _ l1 l2
      exact ⟨s1.heap.objs.size + 4, [s1.heap.objs.size + 4, s1.heap.objs.size + 2, s1.heap.objs.size + 3, s1.heap.objs.size, s1.heap.objs.size + 1], _, _, H1, rfl, I2, turn_zipX t u D, ⟨hz, hTI, ⟨_, _, hTO⟩, itX_of h1, itX_of h2⟩, fresh5, q⟩
end Sc
set_option maxRecDepth 100000
set_option maxHeartbeats 4000000
namespace Sc
open PySem PySem.Spec PyProof.Rows L2 HT
section
variable {prog : Program} {w : World} {A : Around} {E : Value → Shared → Prop} {s : Shared}
theorem sliceApplied_rev {sl : Addr} {vs : Value} {n : Nat} {Q : Int × Int × Nat → Shared → Prop} (hs : s.heap.IsSliceOf sl .none .none vs) (ps : IsPart vs (some (-1)))
    (h : Q ((n : Int) - 1, -1, n) s) : wpAny (model prog w) A (Builtin.Slice.sliceApplied (.ref sl) (pure (n : Int))) Q E s := by
  obtain ⟨os, hos, hcs, hds⟩ := id hs
  unfold Builtin.Slice.sliceApplied Builtin.Slice.sliceFields
  refine wpAny_bind (wpAny_bind (wpAny_field hos hds (x := .none) rfl (wpAny_bind (wpAny_field hos hds (x := .none) rfl (wpAny_bind (wpAny_field hos hds (x := vs) rfl (wpAny_pure ?_)))))))
  refine wpAny_bind (slicePart_ ps ?_)
  show wpAny _ _ (if ((-1 : Int) == 0) = true then _ else _) _ _ s
  rw [if_neg (by decide)]
  refine wpAny_bind (slicePart_ .none (wpAny_bind (slicePart_ .none (wpAny_bind (wpAny_pure ?_)))))
  show wpAny _ _ (match Builtin.Slice.sliceAdjust none none (-1) (n : Int) with | (lo, hi) => pure (lo, (-1 : Int), Builtin.Slice.slicePlaces lo hi (-1))) _ _ s
  have e1 : Builtin.Slice.sliceAdjust none none (-1) (n : Int) = ((n : Int) - 1, -1) := by
    unfold Builtin.Slice.sliceAdjust
    simp
  have e2 : Builtin.Slice.slicePlaces ((n : Int) - 1) (-1) (-1) = n := by
    unfold Builtin.Slice.slicePlaces
    simp
    omega
  rw [e1]
  show wpAny _ _ (pure ((n : Int) - 1, (-1 : Int), Builtin.Slice.slicePlaces ((n : Int) - 1) (-1) (-1))) _ _ s
  rw [e2]
  exact wpAny_pure h
theorem pick_rev (xs : Array Value) : ((List.range xs.size).filterMap fun (m : Nat) => xs[(((xs.size : Int) - 1) + (m : Int) * -1).toNat]?).toArray = xs.toList.reverse.toArray := by
  congr 1
  have e : (fun (m : Nat) => xs[(((xs.size : Int) - 1) + (m : Int) * -1).toNat]?) = (fun x => xs[x]?) ∘ fun k => xs.size - 1 - k := by
    funext m
    show _ = xs[xs.size - 1 - m]?
    have : (((xs.size : Int) - 1) + (m : Int) * -1).toNat = xs.size - 1 - m := by omega
    rw [this]
  rw [e, ← List.filterMap_map, PySem.W.krv_range, List.filterMap_reverse, PySem.W.krv_all]
theorem getItem_tuple_rev {t sl : Addr} {items : Array Value} {vs : Value} {Q : Value → Shared → Prop} (ht : IsTup s.heap t items) (hs : s.heap.IsSliceOf sl .none .none vs) (ps : IsPart vs (some (-1)))
    (h : Q (.ref s.heap.objs.size) { s with heap := s.heap.push { cls := .type "tuple", data := .seq items.toList.reverse.toArray } })
    (hsz : items.size ≤ sizeLine) : wpAny (model prog w) A (getItem (.ref t) (.ref sl)) Q E s := by
  obtain ⟨os, hos, hcs, hds⟩ := id hs
  have hTs : s.TypeIs (.ref sl) "slice" := ⟨os, hos, hcs⟩
  unfold getItem
  try with_reducible refine wpAny_holding ?_
  first | refine wpAny_bind (wpAny_pure ?_) | skip
  refine wpAny_bind (wpAny_sequenceKey ht.typeIs (by decide) ?_)
  refine wpAny_bind (wpAny_callSpecial?_slot (name := Str.ofString "__getitem__") ht.typeIs PyProof.Rows.slot_tuple_getitem
    (wpAny_call_entry PyProof.Rows.slot_tuple_getitem ht.typeIs entry_tuple_getitem ?_ (args_tuple_getitem _ _)))
  show wpAny _ _ (Builtin.Tuple.tupleItemsOf (.ref t) >>= _) _ _ s
  refine wpAny_bind (tupleItemsOf_ ht ?_)
  refine wpAny_bind (wpAny_typeOf hTs ?_)
  rw [if_pos (by decide)]
  refine wpAny_bind (sliceApplied_rev hs ps ?_)
  have hno : ¬ ((((items.size : Int) - 1) == 0 && (-1 : Int) == 1 && items.size == items.size) = true) := by
    intro q
    rw [Bool.and_eq_true, Bool.and_eq_true] at q
    exact absurd (eq_of_beq q.1.2) (by decide)
  show wpAny _ _ (if (((items.size : Int) - 1) == 0 && (-1 : Int) == 1 && items.size == items.size) = true then _ else _) _ _ s
  rw [if_neg hno, pick_rev]
  have hz : sizeOk (.seq items.toList.reverse.toArray) := by
    show items.toList.reverse.toArray.size ≤ sizeLine
    rw [List.size_toArray, List.length_reverse, Array.length_toList]
    exact hsz
  first
    | exact wpAny_bind (m := Builtin.Tuple.tupleExact _) (wpAny_newObj_type (wpAny_pure ⟨_, rfl, wpAny_pure h⟩) hz)
    | exact wpAny_bind (m := Builtin.Tuple.tupleExact _) (wpAny_newObj_type (wpAny_bind (wpAny_pure (wpAny_pure ⟨_, rfl, wpAny_pure h⟩))) hz)
theorem tuple_mulS (l : Addr) (items : Array Value) (n : Nat) (dd : Option Addr) (sl : Array (Option Value)) (x : Int) (u : Tok) (c0 : (decide (x < -(2 ^ 63)) || decide (x ≥ 2 ^ 63)) = false) (c1 : (items.isEmpty || x == 1) = true) :
    Meets (Builtin.«tuple.__mul__» ⟨[.ref l, .int x u], []⟩) (fun _ R s => s.heap.get? l = some { cls := .type "tuple", dict := dd, data := .seq items n, slots := sl } ∧
      R (.ok (.ret (Value.ref l))) s) :=
  .of_wp fun prog w A R s h => by
    obtain ⟨hp, g, d, tk, os⟩ := s
    obtain ⟨hl, h⟩ := h
    have f1 := AutoSeq1.idx_int
    wp_walk using wpAny_loadPart' hl
    repeat (first
      | (refine wpAny_ite_false (decide_eq_false (by rw [c0]; exact Bool.false_ne_true)) ?_; wp_walk using wpAny_loadPart' hl)
      | (refine wpAny_ite_true (decide_eq_true c1) ?_; wp_walk using wpAny_loadPart' hl))
    exact ⟨_, rfl, h⟩
theorem tuple_mulZ (l : Addr) (items : Array Value) (n : Nat) (dd : Option Addr) (sl : Array (Option Value)) (x : Int) (u : Tok) (c0 : (decide (x < -(2 ^ 63)) || decide (x ≥ 2 ^ 63)) = false) (c1 : (items.isEmpty || x == 1) = false) (c2 : (decide (x ≤ 0) || items.isEmpty) = true) :
    Meets (Builtin.«tuple.__mul__» ⟨[.ref l, .int x u], []⟩) (fun _ R s => s.heap.get? l = some { cls := .type "tuple", dict := dd, data := .seq items n, slots := sl } ∧
      R (.ok (.ret (Value.ref s.heap.objs.size))) { s with heap := s.heap.push { cls := Value.type "tuple", data := Data.seq #[] }, toks := s.toks }) :=
  .of_wp fun prog w A R s h => by
    obtain ⟨hp, g, d, tk, os⟩ := s
    obtain ⟨hl, h⟩ := h
    have f1 := AutoSeq1.idx_int
    wp_walk using wpAny_loadPart' hl
    repeat (first
      | (refine wpAny_ite_false (decide_eq_false (by rw [c0]; exact Bool.false_ne_true)) ?_; wp_walk using wpAny_loadPart' hl)
      | (refine wpAny_ite_false (decide_eq_false (by rw [c1]; exact Bool.false_ne_true)) ?_; wp_walk using wpAny_loadPart' hl)
      | (refine wpAny_ite_true (decide_eq_true c2) ?_; wp_walk using wpAny_loadPart' hl))
    exact ⟨_, rfl, h⟩
end
/-- tuple * int: any count up to 100000 -/
def rRepA (K : PySem.W.Frag) : R2 := fun x y H Q => ∃ l k xs, x = .ref l ∧ y = .int k ∧ SqT K H l xs ∧ -1000000 ≤ k ∧ k ≤ 1000000 ∧ xs.length * k.toNat ≤ 1000000 ∧ xs.length ≤ 1000 ∧
  ((xs = [] ∨ k = 1) → Q (.ref l) H) ∧ (xs ≠ [] → k ≠ 1 → ∀ p, H p = none → Q (.ref p) (upd H p (.tup (List.replicate k.toNat xs).flatten)))
section
variable {X : Cx}
theorem op_repA : OpR X (binaryOp .Mult) (rRepA X.K) := by
  intro pins s σ H x y v u Q I rx ry h
  obtain ⟨l, k, xs, rfl, rfl, hT, h0, h1, hm, hz, qs, q⟩ := h
  cases rx
  obtain ⟨t, rfl⟩ := ry
  obtain ⟨its, r, ⟨⟨cls, dd, data, sl⟩, ho, hc, n, hd⟩, hs⟩ := I.tuple hT
  simp only at hc hd
  subst hc hd
  have hle : its.length = xs.length := r.length.symm
  have c0 : (decide (k < -(2 ^ 63)) || decide (k ≥ 2 ^ 63)) = false := by
    rw [decide_eq_false (by omega), decide_eq_false (by omega)] <;> rfl
  have hsz0 : its.toArray.size = xs.length := by rw [List.size_toArray, hle]
  have road : ∀ {Q' : Value → Shared → Prop}, wpAny (model X.prog X.w) X.A (call (.builtin "tuple.__mul__") [.ref l, .int k t]) Q' X.xe s → True := fun _ => trivial
  by_cases hs1 : xs = [] ∨ k = 1
  · have c1 : (its.toArray.isEmpty || k == 1) = true := by
      rcases hs1 with e | e
      · subst e
        have : its = [] := List.eq_nil_of_length_eq_zero hle
        rw [this]; rfl
      · rw [e]; simp
    refine wpAny_binaryOp_repeat_ref (T := "tuple") (U := "int") (by decide) ⟨_, ho, rfl⟩ (fun s' => typeIs_int s' k t) noFill_tuple_mul F.fills_int_mul F.slot_int_rmul repeat_tuple F.slot_int_index.lookup
      (call_meets F.slot_int_rmul (typeIs_int s k t) F.entry_int_rmul (F.args_int_rmul_2 _ _) (int_rmul_tuple k t l its.toArray n dd sl)
        ⟨ho, rfl, ⟨_, ho, rfl⟩, call_meets F.slot_tuple_mul ⟨_, ho, rfl⟩ F.entry_tuple_mul (F.args_tuple_mul_2 _ _) (tuple_mulS l its.toArray n dd sl k t c0 c1) ⟨ho, ?_⟩⟩)
    exact ⟨.ref l, H, I, rfl, qs hs1⟩
  · have hne : xs ≠ [] := fun e => hs1 (.inl e)
    have hk1 : k ≠ 1 := fun e => hs1 (.inr e)
    have hn : its ≠ [] := fun e => hne (by
      rw [e] at hle
      exact List.eq_nil_of_length_eq_zero hle.symm)
    have hi : its.toArray.isEmpty = false := by
      cases its with
      | nil => exact absurd rfl hn
      | cons a b => rfl
    have c1 : (its.toArray.isEmpty || k == 1) = false := by
      rw [hi, Bool.false_or]
      exact beq_eq_false_iff_ne.mpr hk1
    by_cases hk0 : k ≤ 0
    · have c2 : (decide (k ≤ 0) || its.toArray.isEmpty) = true := by rw [decide_eq_true hk0]; rfl
      refine wpAny_binaryOp_repeat_ref (T := "tuple") (U := "int") (by decide) ⟨_, ho, rfl⟩ (fun s' => typeIs_int s' k t) noFill_tuple_mul F.fills_int_mul F.slot_int_rmul repeat_tuple F.slot_int_index.lookup
        (call_meets F.slot_int_rmul (typeIs_int s k t) F.entry_int_rmul (F.args_int_rmul_2 _ _) (int_rmul_tuple k t l its.toArray n dd sl)
          ⟨ho, rfl, ⟨_, ho, rfl⟩, call_meets F.slot_tuple_mul ⟨_, ho, rfl⟩ F.entry_tuple_mul (F.args_tuple_mul_2 _ _) (tuple_mulZ l its.toArray n dd sl k t c0 c1 c2) ⟨ho, ?_⟩⟩)
      have e0 : k.toNat = 0 := by omega
      have q' := q hne hk1 _ (I.hok.fresh (Nat.le_refl _))
      rw [e0] at q'
      refine ⟨.ref s.heap.objs.size, _, I.laid (t' := s.toks) (o := .tup []) (fun b ob q => Heap.get?_push_of_some _ q) (Nat.le_refl _) ?_, rfl, q'⟩
      exact ⟨Nat.zero_le _, [], .nil, IsTup.new _ _⟩
    · have hm2 : ((its.toArray.size : Nat) : Int) * k ≤ 1000000 := by
        rw [hsz0]
        have e1 : ((xs.length : Nat) : Int) * k = ((xs.length * k.toNat : Nat) : Int) := by
          rw [Int.natCast_mul, Int.toNat_of_nonneg (by omega)]
        rw [e1]
        omega
      have flen : (List.replicate k.toNat its).flatten.length ≤ sizeLine := by
        rw [PyProof.Rows.lm_len_rep_flat, hle, sizeLine_eq, Nat.mul_comm]
        omega
      have c2 : (decide (k ≤ 0) || its.toArray.isEmpty) = false := by
        rw [hi, Bool.or_false]
        exact decide_eq_false (by omega)
      have c4 : Builtin.Tuple.tupleTooMany (((its.toArray.size : Nat) : Int) * k) = false := by
        unfold Builtin.Tuple.tupleTooMany
        rw [sizeLine_eq]
        exact decide_eq_false (by omega)
      refine wpAny_binaryOp_repeat_ref (T := "tuple") (U := "int") (by decide) ⟨_, ho, rfl⟩ (fun s' => typeIs_int s' k t) noFill_tuple_mul F.fills_int_mul F.slot_int_rmul repeat_tuple F.slot_int_index.lookup
        (call_meets F.slot_int_rmul (typeIs_int s k t) F.entry_int_rmul (F.args_int_rmul_2 _ _) (int_rmul_tuple k t l its.toArray n dd sl)
          ⟨ho, rfl, ⟨_, ho, rfl⟩, call_meets F.slot_tuple_mul ⟨_, ho, rfl⟩ F.entry_tuple_mul (F.args_tuple_mul_2 _ _) (tuple_mulW l its.toArray n dd sl k t c0 c1 c2 (by omega) c4 (by rw [size_rep, List.size_toArray]; exact flen)) ⟨ho, ?_⟩⟩)
      rw [size_rep]
      refine ⟨.ref s.heap.objs.size, _, I.laid (t' := s.toks) (o := .tup (List.replicate k.toNat xs).flatten) (fun b ob q => Heap.get?_push_of_some _ q) (Nat.le_refl _) ?_, rfl, q hne hk1 _ (I.hok.fresh (Nat.le_refl _))⟩
      exact ⟨by rw [PyProof.Rows.lm_len_rep_flat, sizeLine_eq, Nat.mul_comm]; omega, _, r.rep k.toNat, IsTup.new _ _⟩
/-- t[::-1] of a tuple -/
def tRevT (K : PySem.W.Frag) (te : TE) : TE := fun σ H Q => te σ H fun x H1 => ∃ a xs, x = .ref a ∧ SqT K H1 a xs ∧ ∀ p, H1 p = none → Q (.ref p) (upd H1 p (.tup xs.reverse))
theorem pe_revT {e : Expr} {te : TE} {k : Nat} {p1 p2 p3 pos : Pos} (he : PE X e te) : PE X (.Subscript e (.Slice none none (some (.UnaryOp .USub (.Constant (.int 1) k p1) p2)) p3) pos) (tRevT X.K te) := by
  refine ⟨fun pins s σ H Q I h => ?_⟩
  refine Subscript_ (thn (he.run pins s σ H _ I h) fun v s1 ⟨x, H1, I1, r1, q1⟩ => ?_)
  obtain ⟨a, xs, ex, hx, q⟩ := q1
  subst ex
  cases r1
  have hst : PO X (some (.UnaryOp .USub (.Constant (.int 1) k p1) p2)) (tPart (tUn (rU fun i => .int (-i)) (tC (.int 1)))) := po_some (pe_un un_neg pe_int)
  refine wpAny_Slice (wpAny_mono (po_none.run pins s1 σ H1 (fun o H2 => o = none ∧ H2 = H1) I1 ⟨rfl, rfl⟩) (fun vl s2 ⟨l, H2, I2, pl, el, e2⟩ => ?_) fun _ _ z => z)
  subst el e2
  refine thn (po_none.run pins s2 σ H2 (fun o H3 => o = none ∧ H3 = H2) I2 ⟨rfl, rfl⟩) fun vu s3 ⟨u, H3, I3, pu, eu, e3⟩ => ?_
  subst eu e3
  refine thn (hst.run pins s3 σ H3 (fun o H4 => o = some (-1) ∧ H4 = H3) I3 ⟨1, rfl, -1, rfl, rfl, rfl⟩) fun vs s4 ⟨o, H4, I4, ps, eo, e4⟩ => ?_
  subst eo e4
  cases pl
  cases pu
  have I5 : Inv X pins σ H4 { s4 with heap := s4.heap.push { cls := .type "slice", data := .fields #[.none, .none, vs] } } := I4.kept (t' := s4.toks) fun b ob q => Heap.get?_push_of_some _ q
  obtain ⟨its, r, ht, hz⟩ := I5.tuple hx
  have hlen := r.length
  show wpAny (model X.prog X.w) X.A (subscriptTail e (.Slice none none (some (.UnaryOp .USub (.Constant (.int 1) k p1) p2)) p3) (.ref a) (.ref s4.heap.objs.size)) (EP X pins σ Q) X.xe { s4 with heap := s4.heap.push { cls := .type "slice", data := .fields #[.none, .none, vs] } }
  refine tail_any (ops := [.ref a, .ref s4.heap.objs.size]) ht.typeIs (PyProof.Rows.slot_tuple_getitem.lookup) ?_ (by with_unfolding_all rfl)
  refine getItem_tuple_rev ht (Heap.IsSliceOf.new _ .none .none vs) ps ?_ (by rw [List.size_toArray]; omega)
  refine ⟨.ref _, _, I5.laid (t' := s4.toks) (o := .tup xs.reverse) (fun b ob q => Heap.get?_push_of_some _ q) (Nat.le_refl _) ?_, rfl, q _ (I5.hok.fresh (Nat.le_refl _))⟩
  exact ⟨by rw [List.length_reverse]; exact hz, _, r.reverse, IsTup.new _ _⟩
end
end Sc
set_option maxRecDepth 100000
set_option maxHeartbeats 2000000
namespace Sc
open PySem PySem.Spec PyProof.Rows L2
/-! ### what loops go over -/
def iSeq (K : PySem.W.Frag) (tl : TE) : TI := fun σ H R => tl σ H fun x H1 => ∃ a, x = .ref a ∧ (((∃ xs, SqL K H1 a xs) ∧ R (Itl K a) H1) ∨ ((∃ xs, SqT K H1 a xs) ∧ R (Itt K a) H1))
theorem pi_seq {X : Cx} {tg l : Expr} {tl : TE} (hl : PE X l tl) : PI X tg l (iSeq X.K tl) := by
  refine ⟨fun pins s σ H R I h => ?_⟩
  refine thn (hl.run pins s σ H _ I h) fun v s1 ⟨x, H1, I1, r1, q1⟩ => ?_
  obtain ⟨a, e, ⟨⟨xs, hq⟩, q⟩ | ⟨⟨xs, hq⟩, q⟩⟩ := q1
  · subst e
    cases r1
    obtain ⟨its, rv, p, hz⟩ := I1.list hq
    refine wpAny_pyIter_list p.isList ?_
    refine ⟨s1.heap.objs.size, [s1.heap.objs.size], _, _, H1, rfl, I1.kept (t' := s1.toks) fun b o e => Heap.get?_push_of_some _ e, turn_list a _, ⟨_, Heap.get?_push_size _ rfl, rfl, rfl⟩, fun b hb => ?_, q⟩
    have e : b = s1.heap.objs.size := by simpa using hb
    subst e
    exact I1.fpOk (Nat.le_refl _) (I1.hok.fresh (Nat.le_refl _))
  · subst e
    cases r1
    obtain ⟨its, rv, p, hz⟩ := I1.tuple hq
    refine wpAny_pyIter_tuple (show s1.heap.IsTuple a its.toArray from p) ?_
    refine ⟨s1.heap.objs.size, [s1.heap.objs.size], _, _, H1, rfl, I1.kept (t' := s1.toks) fun b o e => Heap.get?_push_of_some _ e, turn_tuple a _, ⟨_, Heap.get?_push_size _ rfl, rfl, rfl⟩, fun b hb => ?_, q⟩
    have e : b = s1.heap.objs.size := by simpa using hb
    subst e
    exact I1.fpOk (Nat.le_refl _) (I1.hok.fresh (Nat.le_refl _))
def seqI (f : ED) : IF := fun ρ => (itF f ρ).bind fun p => (seqOf p.1.2).map fun ds => (ds.map fun d => (p.1.1, d), p.2)
section
variable {K : PySem.W.Frag} {B : Bs} {H0 H : Hp}
/-- a frozen sequence: its cell, its items -/
theorem Rp.seqX {b : Option Hp} {d : D} {ds : List D} {v : V} (h : Rp K b H0 d v) (e : seqOf d = some ds) : ∃ a vs t, v = .ref a ∧ (∀ H, Same H0 H → SqX K H a vs t) ∧ Rps K b H0 ds vs := by
  cases d with
  | lst es =>
    cases e
    obtain ⟨a, vs, e1, e2, e3⟩ := h
    exact ⟨a, vs, false, e1, fun H s => s.seq e2.sq, e3⟩
  | tup es =>
    cases e
    obtain ⟨a, vs, e1, e2, e3⟩ := h
    exact ⟨a, vs, true, e1, fun H s => sqT_mono s e2, e3⟩
  | _ => cases e
theorem wk_seq {a : Addr} {vs : List V} {t : Bool} {fr : Bool} {ds : List D} (hs : ∀ H, Same H0 H → SqX K H a vs t) (hr : Rps K (bo B fr) H0 ds vs) : WkD K (if t then Itt K a else Itl K a) B H0 (ds.map fun d => (fr, d)) := by
  have hl := hr.length
  have hy : ∀ (i : Nat) (p : Bool × D) (H1 : Hp) (B1 : Bs) (H : Hp) (σ : L2.St) (ρ : Env) (x : V) (H' : Hp), (ds.map fun d => (fr, d))[i]? = some p → Same H0 H1 → SD K B1 H1 H σ ρ → H' = H → (∀ xs, SqX K H a xs t → xs[i]? = some x) → ∃ H2, Same H1 H2 ∧ SD K B1 H2 H' σ ρ ∧ Rp K (bo B p.1) H2 p.2 x := fun i p H1 B1 H σ ρ x H' ep s1 S1 eH ex => by
    subst eH
    rw [List.getElem?_map] at ep
    obtain ⟨d, ed, e2⟩ := Option.map_eq_some_iff.mp ep
    cases e2
    obtain ⟨v, ev, rv⟩ := hr.get ed
    have ex := ex vs (hs _ (s1.trans S1.sub))
    rw [ev] at ex
    cases ex
    exact ⟨H1, Same.refl _, S1, rv.mono s1⟩
  cases t with
  | false =>
    refine ⟨fun i p H1 B1 H σ ρ ep s1 S1 => ?_, fun H1 B1 H σ ρ s1 S1 => ⟨vs, hs H (s1.trans S1.sub), by simp [hl]⟩, fun i p H1 B1 H σ ρ x H' ep s1 _ S1 y => hy i p H1 B1 H σ ρ x H' ep s1 S1 y.1 y.2⟩
    rw [List.getElem?_map] at ep
    obtain ⟨d, ed, e2⟩ := Option.map_eq_some_iff.mp ep
    obtain ⟨v, ev, rv⟩ := hr.get ed
    exact ⟨vs, v, hs H (s1.trans S1.sub), ev⟩
  | true =>
    refine ⟨fun i p H1 B1 H σ ρ ep s1 S1 => ?_, fun H1 B1 H σ ρ s1 S1 => ⟨vs, hs H (s1.trans S1.sub), by simp [hl]⟩, fun i p H1 B1 H σ ρ x H' ep s1 _ S1 y => hy i p H1 B1 H σ ρ x H' ep s1 S1 y.1 y.2⟩
    rw [List.getElem?_map] at ep
    obtain ⟨d, ed, e2⟩ := Option.map_eq_some_iff.mp ep
    obtain ⟨v, ev, rv⟩ := hr.get ed
    exact ⟨vs, v, hs H (s1.trans S1.sub), ev⟩
end
theorem di_seq {X : Cx} {tg e : Expr} {f : ED} (h : DE X e f) : DIt X tg e (seqI f) := by
  refine pi_imp (pi_seq h) fun σ H R ⟨B, H0, ρ, ps, ρ', S, e, k⟩ => ?_
  obtain ⟨⟨⟨fr, d⟩, ρ1⟩, e1, e2⟩ := ob e
  obtain ⟨ds, e3, e4⟩ := Option.map_eq_some_iff.mp e2
  cases e4
  refine it_red S e1 fun v H1 Ha s1 S1 R1 => ?_
  obtain ⟨a, vs, t, rfl, hs, hr⟩ := R1.seqX e3
  have wk := wk_seq (B := B) (fr := fr) hs hr
  have q := k _ H1 Ha s1 S1 wk
  cases t with
  | false => exact ⟨a, rfl, .inl ⟨⟨vs, hs Ha S1.sub⟩, q⟩⟩
  | true => exact ⟨a, rfl, .inr ⟨⟨vs, hs Ha S1.sub⟩, q⟩⟩
/-- ranges -/
def rngL (lo : Int) (n : Nat) (c : Int) : List (Bool × D) := (List.range n).map fun (i : Nat) => (true, D.int (lo + (i : Int) * c))
def BIG : Int := 1000000000000
def smallI (i : Int) : Bool := decide (-BIG ≤ i) && decide (i ≤ BIG)
def vI (ρ : Env) (r : Res) : Option Int := (view ρ r).bind asI
def rng1I (f : ED) : IF := fun ρ => (argF f ρ).bind fun p => (vI p.2 p.1).bind fun j => if smallI j then some (rngL 0 j.toNat 1, p.2) else none
def rng2I (f g : ED) : IF := fun ρ => (argF f ρ).bind fun p => (argF g p.2).bind fun q => (vI q.2 p.1).bind fun i => (vI q.2 q.1).bind fun j => if smallI i && smallI j then some (rngL i (j - i).toNat 1, q.2) else none
/-- range(i, j, -1) -/
def rngdI (f g h : ED) : IF := fun ρ => (argF f ρ).bind fun p => (argF g p.2).bind fun q => (argF h q.2).bind fun r => (vI r.2 p.1).bind fun i => (vI r.2 q.1).bind fun j => (vI r.2 r.1).bind fun c => if smallI i && smallI j && c == -1 then some (rngL i (i - j).toNat (-1), r.2) else none
theorem smallI_iff {i : Int} (h : smallI i = true) : -(2 ^ 62) ≤ i ∧ i < 2 ^ 62 := by
  unfold smallI BIG at h
  simp at h
  omega
section
variable {K : PySem.W.Frag} {B : Bs} {H0 H : Hp}
theorem rngL_get {lo c : Int} {n i : Nat} {p : Bool × D} (h : (rngL lo n c)[i]? = some p) : i < n ∧ p = (true, .int (lo + (i : Int) * c)) := by
  unfold rngL at h
  rw [List.getElem?_map] at h
  obtain ⟨d, ed, e2⟩ := Option.map_eq_some_iff.mp h
  obtain ⟨h1, h2⟩ := List.getElem?_eq_some_iff.mp ed
  simp at h1 h2
  subst h2
  exact ⟨h1, e2.symm⟩
theorem wk_rng {lo : Int} {n : Nat} : WkD K (Itr lo n) B H0 (rngL lo n 1) := by
  refine ⟨fun i p H1 B1 H σ ρ ep s1 S1 => (rngL_get ep).1, fun H1 B1 H σ ρ s1 S1 => by unfold rngL; simp; exact Nat.le_refl _, fun i p H1 B1 H σ ρ x H' ep s1 _ S1 y => ?_⟩
  obtain ⟨h1, rfl⟩ := rngL_get ep
  obtain ⟨rfl, rfl⟩ := y
  exact ⟨H1, Same.refl _, S1, by rw [Int.mul_one]; rfl⟩
theorem wk_rngC {lo c : Int} {n : Nat} : WkD K (Itc lo c n) B H0 (rngL lo n c) := by
  refine ⟨fun i p H1 B1 H σ ρ ep s1 S1 => (rngL_get ep).1, fun H1 B1 H σ ρ s1 S1 => by unfold rngL; simp; exact Nat.le_refl _, fun i p H1 B1 H σ ρ x H' ep s1 _ S1 y => ?_⟩
  obtain ⟨h1, rfl⟩ := rngL_get ep
  obtain ⟨rfl, rfl⟩ := y
  exact ⟨H1, Same.refl _, S1, rfl⟩
theorem vI_rs {σ : L2.St} {ρ : Env} {r : Res} {v : V} {i : Int} (S : SD K B H0 H σ ρ) (R : RS K B H0 H σ ρ r v) (e : vI ρ r = some i) : v = .int i := by
  obtain ⟨p, e1, e2⟩ := ob e
  exact asI_rv e2 (S.view R e1)
end
section
variable {X : Cx} {tg a b c : Expr} {f g h : ED} {p pos : Pos}
theorem di_rng1 (ha : DE X a f) (hm : X.mg "range" = none) (hg : Gl X "range" := by rfl) (hs : starEach [a] X.env = [(false, eval a X.env)] := by rfl) : DIt X tg (.Call (.Name "range" p) [a] [] pos) (rng1I f) := by
  refine pi_imp (pi_range1 hg hm (pa_cons ha pa_nil hs) hs) fun σ H R ⟨B, H0, ρ, ps, ρ', S, e, k⟩ => ?_
  obtain ⟨⟨r1, ρ1⟩, e1, e⟩ := ob e
  obtain ⟨j, e2, e⟩ := ob e
  replace e : (if smallI j then some (rngL 0 j.toNat 1, ρ1) else none) = some (ps, ρ') := e
  split at e
  · rename_i z
    cases e
    refine arg_red S e1 fun v H1 Ha s1 S1 R1 n1 => ?_
    have hv := vI_rs S1 R1 e2
    subst hv
    obtain ⟨z1, z2⟩ := smallI_iff z
    exact ⟨j, rfl, z1, z2, k _ H1 Ha s1 S1 wk_rng⟩
  · cases e
theorem di_rng2 (ha : DE X a f) (hb : DE X b g) (hm : X.mg "range" = none) (hg : Gl X "range" := by rfl) (hs : starEach [a, b] X.env = [(false, eval a X.env), (false, eval b X.env)] := by rfl) (hs2 : starEach [b] X.env = [(false, eval b X.env)] := by rfl) :
    DIt X tg (.Call (.Name "range" p) [a, b] [] pos) (rng2I f g) := by
  refine pi_imp (pi_range2 hg hm (pa_cons ha (pa_cons hb pa_nil hs2) (by rw [hs, hs2])) hs hs2) fun σ H R ⟨B, H0, ρ, ps, ρ', S, e, k⟩ => ?_
  obtain ⟨⟨r1, ρ1⟩, e1, e⟩ := ob e
  obtain ⟨⟨r2, ρ2⟩, e2, e⟩ := ob e
  obtain ⟨i, e3, e⟩ := ob e
  obtain ⟨j, e4, e⟩ := ob e
  replace e : (if smallI i && smallI j then some (rngL i (j - i).toNat 1, ρ2) else none) = some (ps, ρ') := e
  split at e
  · rename_i z
    rw [Bool.and_eq_true] at z
    cases e
    refine arg_red S e1 fun v H1 Ha s1 S1 R1 n1 => ?_
    refine arg_red S1 e2 fun w H2 Hb s2 S2 R2 n2 => ?_
    have hv := vI_rs S2 (R1.keep n1 s2) e3
    have hw := vI_rs S2 R2 e4
    subst hv hw
    obtain ⟨z1, z2⟩ := smallI_iff z.1
    obtain ⟨z3, z4⟩ := smallI_iff z.2
    exact ⟨i, j, rfl, ⟨z1, z2, z3, z4⟩, k _ H2 Hb (s1.trans s2) S2 wk_rng⟩
  · cases e
theorem di_rngd (ha : DE X a f) (hb : DE X b g) (hc : DE X c h) (hm : X.mg "range" = none) (hg : Gl X "range" := by rfl) (hs : starEach [a, b, c] X.env = (false, eval a X.env) :: starEach [b, c] X.env := by rfl) (hs2 : starEach [b, c] X.env = (false, eval b X.env) :: starEach [c] X.env := by rfl) (hs3 : starEach [c] X.env = (false, eval c X.env) :: starEach [] X.env := by rfl)
    (hpl : (backTo pos (starEach [b, c] X.env)).any (·.1) = false := by rfl) :
    DIt X tg (.Call (.Name "range" p) [a, b, c] [] pos) (rngdI f g h) := by
  refine pi_imp (pi_range3 hg hm (pa_cons ha (pa_cons hb (pa_cons hc pa_nil hs3) hs2) hs) hs hpl) fun σ H R ⟨B, H0, ρ, ps, ρ', S, e, k⟩ => ?_
  obtain ⟨⟨r1, ρ1⟩, e1, e⟩ := ob e
  obtain ⟨⟨r2, ρ2⟩, e2, e⟩ := ob e
  obtain ⟨⟨r3, ρ3⟩, e3, e⟩ := ob e
  obtain ⟨i, e4, e⟩ := ob e
  obtain ⟨j, e5, e⟩ := ob e
  obtain ⟨l, e6, e⟩ := ob e
  replace e : (if smallI i && smallI j && l == -1 then some (rngL i (i - j).toNat (-1), ρ3) else none) = some (ps, ρ') := e
  split at e
  · rename_i z
    rw [Bool.and_eq_true, Bool.and_eq_true] at z
    cases e
    refine arg_red S e1 fun v H1 Ha s1 S1 R1 n1 => ?_
    refine arg_red S1 e2 fun w H2 Hb s2 S2 R2 n2 => ?_
    refine arg_red S2 e3 fun u H3 Hc s3 S3 R3 n3 => ?_
    have hv := vI_rs S3 (R1.keep n1 (s2.trans s3)) e4
    have hw := vI_rs S3 (R2.keep n2 s3) e5
    have hu := vI_rs S3 R3 e6
    subst hv hw hu
    obtain ⟨z1, z2⟩ := smallI_iff z.1.1
    obtain ⟨z3, z4⟩ := smallI_iff z.1.2
    have z5 : l = -1 := eq_of_beq z.2
    subst z5
    exact ⟨i, j, -1, _, rfl, RgC.neg z1 z2 z3 z4, k _ H3 Hc ((s1.trans s2).trans s3) S3 wk_rngC⟩
  · cases e
/-- enumerate, zip -/
def enI (f : ED) : IF := fun ρ => (itF f ρ).bind fun p => (seqOf p.1.2).map fun ds => ((List.range ds.length).zip ds |>.map fun x => (p.1.1, D.tup [.int (x.1 : Nat), x.2]), p.2)
theorem enI_get {fr : Bool} {ds : List D} {i : Nat} {p : Bool × D} (h : ((List.range ds.length).zip ds |>.map fun x => (fr, D.tup [.int (x.1 : Nat), x.2]))[i]? = some p) : ∃ d, ds[i]? = some d ∧ p = (fr, .tup [.int (i : Nat), d]) := by
  rw [List.getElem?_map] at h
  obtain ⟨⟨j, d⟩, ed, e2⟩ := Option.map_eq_some_iff.mp h
  rw [List.getElem?_zip_eq_some] at ed
  obtain ⟨e3, e4⟩ := ed
  obtain ⟨h1, h2⟩ := List.getElem?_eq_some_iff.mp e3
  simp at h1 h2
  subst h2
  exact ⟨d, e4, e2.symm⟩
theorem pair_new {K : PySem.W.Frag} {B B1 : Bs} {H1 H H' : Hp} {σ : L2.St} {ρ : Env} {T : Addr} {x y : V} {d e : D} {fr : Bool} (hB : B1.b = B.b) (S : SD K B1 H1 H σ ρ) (hT : H T = none) (eH : H' = upd H T (.tup [x, y])) (rx : Rp K (bo B fr) H1 d x) (ry : Rp K (bo B fr) H1 e y) :
    ∃ H2, Same H1 H2 ∧ SD K B1 H2 H' σ ρ ∧ Rp K (bo B fr) H2 (.tup [d, e]) (.ref T) := by
  subst eH
  have hb : bo B1 fr = bo B fr := bo_eq hB fr
  rw [← hb] at rx ry
  have S' := S.grow (H' := upd H T (.tup [x, y])) (fun a o q => by rw [upd_ne (ne_of_none q hT)]; exact q)
  refine ⟨_, fzn_same, S', ?_⟩
  rw [← hb]
  exact ⟨T, [x, y], rfl, SqT.of (by rw [fzn_new (S.none_of hT) hT, upd_same]), .cons (rx.mono fzn_same) (.cons (ry.mono fzn_same) .nil)⟩
theorem di_enum {elts : List Expr} {kk : Nat} {tpos : Pos} (ha : DE X a f) (hm : X.mg "enumerate" = none) (hg : Gl X "enumerate" := by rfl) (hs : starEach [a] X.env = (false, eval a X.env) :: starEach [] X.env := by rfl) : DIt X (.Tuple elts kk tpos) (.Call (.Name "enumerate" p) [a] [] pos) (enI f) := by
  refine pi_imp (pi_enumX hg hm (pa_cons ha pa_nil hs) hs) fun σ H R ⟨B, H0, ρ, ps, ρ', S, e, k⟩ => ?_
  obtain ⟨⟨⟨fr, d⟩, ρ1⟩, e1, e2⟩ := ob e
  obtain ⟨ds, e3, e4⟩ := Option.map_eq_some_iff.mp e2
  cases e4
  refine it_red S e1 fun v H1 Ha s1 S1 R1 => ?_
  obtain ⟨a, vs, t, rfl, hsq, hr⟩ := R1.seqX e3
  have hl := hr.length
  refine ⟨a, vs, t, rfl, hsq Ha S1.sub, k _ H1 Ha s1 S1 ⟨fun i p H2 B1 H σ ρ ep s2 S2 => ?_, fun H2 B1 H σ ρ s2 S2 => ⟨vs, hsq H (s2.trans S2.sub), by simp [hl]⟩, fun i p H2 B1 H σ ρ x H' ep s2 hB S2 y => ?_⟩⟩
  · obtain ⟨d, ed, _⟩ := enI_get ep
    obtain ⟨v, ev, rv⟩ := hr.get ed
    exact ⟨vs, v, hsq H (s2.trans S2.sub), ev⟩
  · obtain ⟨d, ed, rfl⟩ := enI_get ep
    obtain ⟨v, ev, rv⟩ := hr.get ed
    obtain ⟨T, x', rfl, hT, eH, ex⟩ := y
    have ex := ex vs (hsq H (s2.trans S2.sub))
    rw [ev] at ex
    cases ex
    exact pair_new hB S2 hT eH rfl (rv.mono s2)
/-- zip(a, b) -/
def zpI (f g : ED) : IF := fun ρ => (itF f ρ).bind fun p => (itF g p.2).bind fun q => (seqOf p.1.2).bind fun ds => (seqOf q.1.2).map fun es => ((ds.zip es).map fun x => (p.1.1 && q.1.1, D.tup [x.1, x.2]), q.2)
theorem rp_and {K : PySem.W.Frag} {B : Bs} {H : Hp} {d : D} {v : V} {x y : Bool} (h : Rp K (bo B x) H d v) : Rp K (bo B (x && y)) H d v := by
  cases x
  · exact h
  · cases y
    · exact h.weak
    · exact h
theorem rp_and' {K : PySem.W.Frag} {B : Bs} {H : Hp} {d : D} {v : V} {x y : Bool} (h : Rp K (bo B y) H d v) : Rp K (bo B (x && y)) H d v := by
  rw [Bool.and_comm]; exact rp_and h
theorem di_zip {elts : List Expr} {kk : Nat} {tpos : Pos} (ha : DE X a f) (hb : DE X b g) (hm : X.mg "zip" = none) (hg : Gl X "zip" := by rfl) (hs : starEach [a, b] X.env = (false, eval a X.env) :: starEach [b] X.env := by rfl) (hs2 : starEach [b] X.env = (false, eval b X.env) :: starEach [] X.env := by rfl)
    (hpl : (backTo pos (starEach [b] X.env)).any (·.1) = false := by rfl) : DIt X (.Tuple elts kk tpos) (.Call (.Name "zip" p) [a, b] [] pos) (zpI f g) := by
  refine pi_imp (pi_zipX hg hm (pa_cons ha (pa_cons hb pa_nil hs2) hs) hs hpl) fun σ H R ⟨B, H0, ρ, ps, ρ', S, e, k⟩ => ?_
  obtain ⟨⟨⟨fr, d⟩, ρ1⟩, e1, e⟩ := ob e
  obtain ⟨⟨⟨fr2, d2⟩, ρ2⟩, e2, e⟩ := ob e
  obtain ⟨ds, e3, e⟩ := ob e
  obtain ⟨es, e4, e5⟩ := Option.map_eq_some_iff.mp e
  cases e5
  refine it_red S e1 fun v H1 Ha s1 S1 R1 => ?_
  refine it_red S1 e2 fun w H2 Hb s2 S2 R2 => ?_
  obtain ⟨a, vs, t, rfl, hsq, hr⟩ := (R1.mono s2).seqX e3
  obtain ⟨b, ws, u, rfl, hsq2, hr2⟩ := R2.seqX e4
  have hl := hr.length
  have hl2 := hr2.length
  have get : ∀ {i : Nat} {p : Bool × D}, ((ds.zip es).map fun x => (fr && fr2, D.tup [x.1, x.2]))[i]? = some p → ∃ d e, ds[i]? = some d ∧ es[i]? = some e ∧ p = (fr && fr2, D.tup [d, e]) := fun {i p} h => by
    rw [List.getElem?_map] at h
    obtain ⟨⟨d, e⟩, ed, e2⟩ := Option.map_eq_some_iff.mp h
    rw [List.getElem?_zip_eq_some] at ed
    exact ⟨d, e, ed.1, ed.2, e2.symm⟩
  refine ⟨a, b, vs, ws, t, u, rfl, hsq Hb S2.sub, hsq2 Hb S2.sub, k _ H2 Hb (s1.trans s2) S2 ⟨fun i p H3 B1 H σ ρ ep s3 S3 => ?_, fun H3 B1 H σ ρ s3 S3 => ⟨vs, ws, hsq H (s3.trans S3.sub), hsq2 H (s3.trans S3.sub), by simp [hl, hl2]⟩, fun i p H3 B1 H σ ρ x H' ep s3 hB S3 y => ?_⟩⟩
  · obtain ⟨d, e, ed, ee, _⟩ := get ep
    obtain ⟨v, ev, rv⟩ := hr.get ed
    obtain ⟨w, ew, rw'⟩ := hr2.get ee
    exact ⟨vs, ws, v, w, hsq H (s3.trans S3.sub), hsq2 H (s3.trans S3.sub), ev, ew⟩
  · obtain ⟨d, e, ed, ee, rfl⟩ := get ep
    obtain ⟨v, ev, rv⟩ := hr.get ed
    obtain ⟨w, ew, rw'⟩ := hr2.get ee
    obtain ⟨T, x', y', rfl, hT, eH, ex, ey⟩ := y
    have ex := ex vs (hsq H (s3.trans S3.sub))
    have ey := ey ws (hsq2 H (s3.trans S3.sub))
    rw [ev] at ex
    rw [ew] at ey
    cases ex
    cases ey
    exact pair_new hB S3 hT eH (rp_and (rv.mono s3)) (rp_and' (rw'.mono s3))
end
end Sc
set_option maxRecDepth 100000
set_option maxHeartbeats 2000000
namespace Sc
open PySem PySem.Spec PyProof.Rows L2
/-! ### ints -/
def cMul (i j : Int) : Bool := decide (i.natAbs < 2 ^ 64) || decide (j.natAbs < 2 ^ 64)
def cDiv (_ j : Int) : Bool := decide (0 < j) && decide (j < 1073741824)
def cMod (_ j : Int) : Bool := decide (0 < j)
def cShr (_ j : Int) : Bool := decide (0 ≤ j)
def cPow (i j : Int) : Bool := decide (0 ≤ j) && decide (j ≤ 1000000) && decide (i.natAbs < 2 ^ 64)
abbrev oAdd := oI fun i j => .int (i + j)
abbrev oSub := oI fun i j => .int (i - j)
abbrev oMul := oIc cMul fun i j => .int (i * j)
abbrev oDiv := oIc cDiv fun i j => .int (i / j)
abbrev oMod := oIc cMod fun i j => .int (i % j)
abbrev oAnd := oI fun i j => .int (Builtin.bitAnd i j)
abbrev oOr := oI fun i j => .int (Builtin.bitOr i j)
abbrev oXor := oI fun i j => .int (Builtin.bitXor i j)
abbrev oShr := oIc cShr fun i j => .int (i / 2 ^ j.toNat)
abbrev oShl := oIc cPow fun i j => .int (i * 2 ^ j.toNat)
abbrev oPow := oIc cPow fun i j => .int (i ^ j.toNat)
abbrev oLt := oI fun i j => .bl (decide (i < j))
abbrev oLe := oI fun i j => .bl (decide (i ≤ j))
abbrev oGt := oI fun i j => .bl (decide (j < i))
abbrev oGe := oI fun i j => .bl (decide (j ≤ i))
section
variable {K : PySem.W.Frag}
theorem od_add : OpD K (rI0 fun i j => .int (i + j)) oAdd := opd_I fun _ _ => rfl
theorem od_sub : OpD K (rI0 fun i j => .int (i - j)) oSub := opd_I fun _ _ => rfl
theorem od_and : OpD K (rI0 fun i j => .int (Builtin.bitAnd i j)) oAnd := opd_I fun _ _ => rfl
theorem od_or : OpD K (rI0 fun i j => .int (Builtin.bitOr i j)) oOr := opd_I fun _ _ => rfl
theorem od_xor : OpD K (rI0 fun i j => .int (Builtin.bitXor i j)) oXor := opd_I fun _ _ => rfl
theorem od_lt : OpD K (rI0 fun i j => .bl (decide (i < j))) oLt := opd_I fun _ _ => rfl
theorem od_le : OpD K (rI0 fun i j => .bl (decide (i ≤ j))) oLe := opd_I fun _ _ => rfl
theorem od_gt : OpD K (rI0 fun i j => .bl (decide (j < i))) oGt := opd_I fun _ _ => rfl
theorem od_ge : OpD K (rI0 fun i j => .bl (decide (j ≤ i))) oGe := opd_I fun _ _ => rfl
theorem od_mul : OpD K (rI CMul fun i j => .int (i * j)) oMul := opd_Ic (fun i j h => by
  unfold cMul at h
  rw [Bool.or_eq_true, decide_eq_true_eq, decide_eq_true_eq] at h
  rcases h with h | h
  · exact .inl (by omega)
  · exact .inr (by omega)) fun _ _ _ => rfl
theorem od_div : OpD K (rI CDiv fun i j => .int (i / j)) oDiv := opd_Ic (fun i j h => by
  unfold cDiv at h
  rw [Bool.and_eq_true, decide_eq_true_eq, decide_eq_true_eq] at h
  exact h) fun _ _ _ => rfl
theorem od_mod : OpD K (rI (fun _ j => 0 < j) fun i j => .int (i % j)) oMod := opd_Ic (fun i j h => by
  unfold cMod at h
  rw [decide_eq_true_eq] at h
  exact h) fun _ _ _ => rfl
theorem od_shr : OpD K (rI (fun _ j => 0 ≤ j) fun i j => .int (i / 2 ^ j.toNat)) oShr := opd_Ic (fun i j h => by
  unfold cShr at h
  rw [decide_eq_true_eq] at h
  exact h) fun _ _ _ => rfl
theorem cPow_ok {i j : Int} (h : cPow i j = true) : CPow i j := by
  unfold cPow at h
  rw [Bool.and_eq_true, Bool.and_eq_true, decide_eq_true_eq, decide_eq_true_eq, decide_eq_true_eq] at h
  exact ⟨h.1.1, h.1.2, h.2⟩
theorem od_shl : OpD K (rI CPow fun i j => .int (i * 2 ^ j.toNat)) oShl := opd_Ic (fun _ _ h => cPow_ok h) fun _ _ _ => rfl
theorem od_pow : OpD K (rI CPow fun i j => .int (i ^ j.toNat)) oPow := opd_Ic (fun _ _ h => cPow_ok h) fun _ _ _ => rfl
/-! ### is None -/
def oIs (neg : Bool) : Bool × D → Bool × D → Option Res := fun p q => match q.2 with
  | .non => some (.fz (.bl (if neg then !decide (p.2 = .non) else decide (p.2 = .non))))
  | _ => none
theorem rv_non {b : Option Hp} {H0 H : Hp} {d : D} {v : V} (h : Rv K b H0 H d v) : decide (v = .non) = decide (d = .non) := by
  cases d with
  | non => cases h; rfl
  | bl x => cases h; rfl
  | int i => cases h; rfl
  | str z => cases h; rfl
  | tup ds => obtain ⟨a, vs, rfl, _⟩ := h; rfl
  | lst ds => obtain ⟨a, vs, rfl, _⟩ := h; rfl
theorem od_is : OpD K (fun x y H Q => y = .non ∧ Q (.bl (decide (x = .non))) H) (oIs false) := by
  rintro B H0 H σ ρ x y ⟨p1, p⟩ ⟨q1, q⟩ res S hp hq e Q k
  cases q with
  | non =>
    cases e
    cases hq
    refine ⟨rfl, k _ H0 H (Same.refl _) S ?_⟩
    show V.bl _ = V.bl _
    rw [rv_non hp]; rfl
  | _ => cases e
theorem od_isnt : OpD K (fun x y H Q => y = .non ∧ Q (.bl (!decide (x = .non))) H) (oIs true) := by
  rintro B H0 H σ ρ x y ⟨p1, p⟩ ⟨q1, q⟩ res S hp hq e Q k
  cases q with
  | non =>
    cases e
    cases hq
    refine ⟨rfl, k _ H0 H (Same.refl _) S ?_⟩
    show V.bl _ = V.bl _
    rw [rv_non hp]; rfl
  | _ => cases e
end
/-! ### == of data -/
mutual
def pyOf : D → PyData
  | .non => .none
  | .bl b => .bool b
  | .int i => .int i
  | .str x => .str x
  | .tup ds => .tuple (pyOfs ds)
  | .lst ds => .list (pyOfs ds)
def pyOfs : List D → List PyData
  | [] => []
  | d :: ds => pyOf d :: pyOfs ds
end
mutual
/-- no bool within -/
def nob : D → Bool
  | .bl _ => false
  | .tup ds => nobs ds
  | .lst ds => nobs ds
  | _ => true
def nobs : List D → Bool
  | [] => true
  | d :: ds => nob d && nobs ds
end
mutual
/-- texts within are short -/
def sok : D → Bool
  | .str x => PySem.PyData.canLay0 (.str x)
  | .tup ds => soks ds
  | .lst ds => soks ds
  | _ => true
def soks : List D → Bool
  | [] => true
  | d :: ds => sok d && soks ds
end
mutual
def dep : D → Nat
  | .tup ds => deps ds + 1
  | .lst ds => deps ds + 1
  | _ => 1
def deps : List D → Nat
  | [] => 0
  | d :: ds => max (dep d) (deps ds)
end
mutual
theorem eqv_pyOf : ∀ {d e : D}, nob d = true → nob e = true → PyData.eqv (pyOf d) (pyOf e) = decide (d = e)
  | .bl _, _, h, _ => by simp [nob] at h
  | .non, e, _, h2 => by cases e <;> simp [nob] at h2 <;> simp [pyOf, PyData.eqv]
  | .int i, e, _, h2 => by cases e <;> simp [nob] at h2 <;> simp [pyOf, PyData.eqv]; rw [Bool.eq_iff_iff]; simp
  | .str i, e, _, h2 => by cases e <;> simp [nob] at h2 <;> simp [pyOf, PyData.eqv]; rw [Bool.eq_iff_iff]; simp
  | .tup ds, e, h, h2 => by
    cases e with
    | tup es =>
      simp only [nob] at h h2
      simp only [pyOf, PyData.eqv]
      rw [eqvs_pyOf h h2]
      simp
    | bl b => simp [nob] at h2
    | _ => simp [pyOf, PyData.eqv]
  | .lst ds, e, h, h2 => by
    cases e with
    | lst es =>
      simp only [nob] at h h2
      simp only [pyOf, PyData.eqv]
      rw [eqvs_pyOf h h2]
      simp
    | bl b => simp [nob] at h2
    | _ => simp [pyOf, PyData.eqv]
theorem eqvs_pyOf : ∀ {ds es : List D}, nobs ds = true → nobs es = true → PyData.eqvAll (pyOfs ds) (pyOfs es) = decide (ds = es)
  | [], [], _, _ => by simp [pyOfs, PyData.eqvAll]
  | [], _ :: _, _, _ => by simp [pyOfs, PyData.eqvAll]
  | _ :: _, [], _, _ => by simp [pyOfs, PyData.eqvAll]
  | d :: ds, e :: es, h, h2 => by
    simp only [nobs, Bool.and_eq_true] at h h2
    simp only [pyOfs, PyData.eqvAll]
    rw [eqv_pyOf h.1 h2.1, eqvs_pyOf h.2 h2.2, Bool.eq_iff_iff]
    simp
end
section
variable {K : PySem.W.Frag} {H : Hp} {b : Option Hp}
mutual
theorem Rp.dp : ∀ {d : D} {v : V}, Rp K b H d v → Dp K H v (pyOf d)
  | .non, _, h => by cases h; exact .non
  | .bl _, _, h => by cases h; exact .bl _
  | .int _, _, h => by cases h; exact .int _
  | .str _, _, h => by cases h; exact .str _
  | .tup ds, _, h => by
    obtain ⟨a, vs, rfl, e2, e3⟩ := h
    exact .tup e2 (Rps.dp e3)
  | .lst ds, _, h => by
    obtain ⟨a, vs, rfl, e2, e3⟩ := h
    exact .lst e2.sq (Rps.dp e3)
theorem Rps.dp : ∀ {ds : List D} {vs : List V}, Rps K b H ds vs → DpAll K H vs (pyOfs ds)
  | [], _, h => by cases h; exact .nil
  | d :: ds, _, h => by
    obtain ⟨v, r, rfl, e2, e3⟩ := h
    exact .cons (Rp.dp e2) (Rps.dp e3)
end
end
mutual
theorem canLay_pyOf : ∀ {d : D}, sok d = true → (pyOf d).canLay0 = true
  | .non, _ => by simp [pyOf, PyData.canLay0]
  | .bl _, _ => by simp [pyOf, PyData.canLay0]
  | .int _, _ => by simp [pyOf, PyData.canLay0]
  | .str x, h => by rw [sok] at h; rw [pyOf]; exact h
  | .tup ds, h => by rw [pyOf, PyData.canLay0]; exact canLay_pyOfs (by rw [sok] at h; exact h)
  | .lst ds, h => by rw [pyOf, PyData.canLay0]; exact canLay_pyOfs (by rw [sok] at h; exact h)
theorem canLay_pyOfs : ∀ {ds : List D}, soks ds = true → PyData.canLayAll0 (pyOfs ds) = true
  | [], _ => by simp [pyOfs, PyData.canLayAll0]
  | d :: ds, h => by
    rw [soks, Bool.and_eq_true] at h
    rw [pyOfs, PyData.canLayAll0, canLay_pyOf h.1, canLay_pyOfs h.2]
    rfl
end
mutual
theorem depth_pyOf : ∀ {d : D}, (pyOf d).depth ≤ dep d
  | .non => by simp [pyOf, PyData.depth, dep]
  | .bl _ => by simp [pyOf, PyData.depth, dep]
  | .int _ => by simp [pyOf, PyData.depth, dep]
  | .str x => by simp [pyOf, PyData.depth, dep]
  | .tup ds => by have := depth_pyOfs (ds := ds); simp [pyOf, PyData.depth, dep]; omega
  | .lst ds => by have := depth_pyOfs (ds := ds); simp [pyOf, PyData.depth, dep]; omega
theorem depth_pyOfs : ∀ {ds : List D}, PyData.depthAll (pyOfs ds) ≤ deps ds
  | [] => by simp [pyOfs, PyData.depthAll, deps]
  | d :: ds => by have := depth_pyOf (d := d); have := depth_pyOfs (ds := ds); simp only [pyOfs, PyData.depthAll, deps]; omega
end
def okEq (d : D) : Bool := nob d && sok d && decide (dep d ≤ 60)
def bothB : D → D → Bool
  | .bl _, .bl _ => true
  | _, _ => false
def oEq (neg : Bool) : Bool × D → Bool × D → Option Res := fun p q => if (okEq p.2 && okEq q.2) || bothB p.2 q.2 then some (.fz (.bl (if neg then !decide (p.2 = q.2) else decide (p.2 = q.2)))) else none
theorem okEq_iff {d : D} (h : okEq d = true) : nob d = true ∧ SeqAt.shaped (pyOf d) = true := by
  unfold okEq at h
  rw [Bool.and_eq_true, Bool.and_eq_true, decide_eq_true_eq] at h
  refine ⟨h.1.1, ?_⟩
  unfold SeqAt.shaped
  rw [canLay_pyOf h.1.2, Bool.true_and, decide_eq_true_eq]
  have := depth_pyOf (d := d)
  omega
theorem bothB_iff {d e : D} (h : bothB d e = true) : ∃ x y, d = .bl x ∧ e = .bl y := by
  cases d <;> cases e <;> simp [bothB] at h
  exact ⟨_, _, rfl, rfl⟩
section
variable {K : PySem.W.Frag}
theorem dp_rv {b : Option Hp} {H0 H : Hp} {d : D} {v : V} (s : Same H0 H) (h : Rv K b H0 H d v) : Dp K H v (pyOf d) := (h.rp s).dp
theorem eq_both {d e : D} (h : ((okEq d && okEq e) || bothB d e) = true) : SeqAt.shaped (pyOf d) = true ∧ SeqAt.shaped (pyOf e) = true ∧ PyData.eqv (pyOf d) (pyOf e) = decide (d = e) := by
  rw [Bool.or_eq_true] at h
  rcases h with h | h
  · rw [Bool.and_eq_true] at h
    obtain ⟨n1, s1⟩ := okEq_iff h.1
    obtain ⟨n2, s2⟩ := okEq_iff h.2
    exact ⟨s1, s2, eqv_pyOf n1 n2⟩
  · obtain ⟨x, y, rfl, rfl⟩ := bothB_iff h
    refine ⟨by simp [pyOf, SeqAt.shaped, PyData.canLay0, PyData.depth], by simp [pyOf, SeqAt.shaped, PyData.canLay0, PyData.depth], ?_⟩
    simp only [pyOf, PyData.eqv]
    rw [Bool.eq_iff_iff]
    simp
theorem od_eq : OpD K (rEqD K) (oEq false) := by
  rintro B H0 H σ ρ x y ⟨p1, p⟩ ⟨q1, q⟩ res S hp hq e Q k
  unfold oEq at e
  split at e
  · rename_i z
    cases e
    obtain ⟨z1, z2, z3⟩ := eq_both z
    refine ⟨_, _, dp_rv S.sub hp, dp_rv S.sub hq, z1, z2, k _ H0 H (Same.refl _) S ?_⟩
    show V.bl _ = V.bl _
    rw [z3]; rfl
  · cases e
theorem od_ne : OpD K (rNeD K) (oEq true) := by
  rintro B H0 H σ ρ x y ⟨p1, p⟩ ⟨q1, q⟩ res S hp hq e Q k
  unfold oEq at e
  split at e
  · rename_i z
    cases e
    obtain ⟨z1, z2, z3⟩ := eq_both z
    refine ⟨_, _, dp_rv S.sub hp, dp_rv S.sub hq, z1, z2, k _ H0 H (Same.refl _) S ?_⟩
    show V.bl _ = V.bl _
    rw [z3]; rfl
  · cases e
/-! ### x in a sequence of atoms -/
def atN : D → Bool
  | .non => true
  | .int _ => true
  | .str _ => true
  | _ => false
def oIn (neg : Bool) : Bool × D → Bool × D → Option Res := fun p q => (seqOf q.2).bind fun ds => if atN p.2 && ds.all atN then some (.fz (.bl (if neg then !decide (p.2 ∈ ds) else decide (p.2 ∈ ds)))) else none
theorem atN_flat {b : Option Hp} {H0 : Hp} {d : D} {v : V} (h : Rp K b H0 d v) (n : atN d = true) : flatV v = true := by
  cases d <;> simp [atN] at n <;> (cases h; rfl)
theorem atN_flats {b : Option Hp} {H0 : Hp} : ∀ {ds : List D} {vs : List V}, Rps K b H0 ds vs → ds.all atN = true → vs.all flatV = true
  | [], _, h, _ => by cases h; rfl
  | d :: ds, _, h, n => by
    obtain ⟨v, r, rfl, e2, e3⟩ := h
    rw [List.all_cons, Bool.and_eq_true] at n
    rw [List.all_cons, atN_flat e2 n.1, atN_flats e3 n.2]; rfl
theorem atN_eq {b b' : Option Hp} {H0 H0' : Hp} {d e : D} {v u : V} (h : Rp K b H0 d v) (n : atN d = true) (h' : Rp K b' H0' e u) (n' : atN e = true) : eqV u v = decide (d = e) := by
  cases d <;> simp [atN] at n <;> cases e <;> simp [atN] at n' <;> cases h <;> cases h' <;> simp [eqV] <;> (rw [Bool.eq_iff_iff]; simp; constructor <;> exact Eq.symm)
theorem atN_in {b b' : Option Hp} {H0 H0' : Hp} {d : D} {v : V} (h : Rp K b H0 d v) (n : atN d = true) : ∀ {ds : List D} {vs : List V}, Rps K b' H0' ds vs → ds.all atN = true → inV v vs = decide (d ∈ ds)
  | [], _, h', _ => by cases h'; simp [inV]
  | e :: ds, _, h', n' => by
    obtain ⟨u, r, rfl, e2, e3⟩ := h'
    rw [List.all_cons, Bool.and_eq_true] at n'
    have ih := atN_in h n e3 n'.2
    unfold inV at ih ⊢
    rw [List.any_cons, ih, atN_eq h n e2 n'.1, Bool.eq_iff_iff]
    simp
theorem rv_rp0 {b : Option Hp} {H0 H : Hp} {d : D} {v : V} (h : Rv K b H0 H d v) (n : atN d = true) : Rp K b H0 d v := by
  cases d <;> simp [atN] at n <;> exact h
theorem od_in (neg : Bool) : OpD K (rIn K neg) (oIn neg) := by
  rintro B H0 H σ ρ x y ⟨p1, p⟩ ⟨q1, q⟩ res S hp hq e Q k
  obtain ⟨ds, z, e⟩ := ob e
  replace e : (if atN p && ds.all atN then some (Res.fz (.bl (if neg then !decide (p ∈ ds) else decide (p ∈ ds)))) else none) = some res := e
  split at e
  · rename_i zz
    rw [Bool.and_eq_true] at zz
    cases e
    obtain ⟨a, vs, rfl, hs, hr⟩ := Rv.seq S.sub (seqOf_or z) hq
    have hp' := rv_rp0 hp zz.1
    refine ⟨a, vs, rfl, hs, atN_flat hp' zz.1, atN_flats hr zz.2, k _ H0 H (Same.refl _) S ?_⟩
    show V.bl _ = V.bl _
    rw [atN_in hp' zz.1 hr zz.2]
  · cases e
/-! ### + and * of sequences -/
def oCatT : Bool × D → Bool × D → Option Res := fun p q => match p.2, q.2 with
  | .tup ds, .tup es => if ds.length + es.length ≤ LIM then some (mkR (p.1 && q.1) (.tup (ds ++ es))) else none
  | _, _ => none
theorem rps_and {B : Bs} {H : Hp} {x y : Bool} {ds : List D} {vs : List V} (h : Rps K (bo B x) H ds vs) : Rps K (bo B (x && y)) H ds vs := by
  cases x
  · exact h
  · cases y
    · exact h.weak
    · exact h
theorem rps_and' {B : Bs} {H : Hp} {x y : Bool} {ds : List D} {vs : List V} (h : Rps K (bo B y) H ds vs) : Rps K (bo B (x && y)) H ds vs := by
  rw [Bool.and_comm]; exact rps_and h
theorem lim_le' {n : Nat} (h : n ≤ LIM) : n ≤ sizeLine := Nat.le_trans h (Nat.le_of_lt lim_le)
theorem od_catT : OpD K (rCatA K) oCatT := by
  rintro B H0 H σ ρ x y ⟨p1, p⟩ ⟨q1, q⟩ res S hp hq e Q k
  cases p with
  | tup ds =>
    cases q with
    | tup es =>
      replace e : (if ds.length + es.length ≤ LIM then some (mkR (p1 && q1) (.tup (ds ++ es))) else none) = some res := e
      split at e
      · rename_i z
        cases e
        have hp0 : Rp K (bo B p1) H0 (.tup ds) x := hp
        have hq0 : Rp K (bo B q1) H0 (.tup es) y := hq
        obtain ⟨a, vs, rfl, hs1, hr1⟩ := hp
        obtain ⟨b, ws, rfl, hs2, hr2⟩ := hq
        refine ⟨a, b, vs, ws, rfl, rfl, sqT_mono S.sub hs1, sqT_mono S.sub hs2, lim_le' (by rw [hr1.length, hr2.length]; exact z), fun e1 => ?_, fun e1 e2 => ?_, fun e1 e2 l hl => ?_⟩
        · subst e1
          have e2 : ds = [] := List.eq_nil_of_length_eq_zero (by have := hr1.length; simpa using this.symm)
          subst e2
          exact k _ H0 H (Same.refl _) S (RS.mk (rp_and' hq0))
        · subst e2
          have e2 : es = [] := List.eq_nil_of_length_eq_zero (by have := hr2.length; simpa using this.symm)
          subst e2
          rw [List.append_nil] at k
          exact k _ H0 H (Same.refl _) S (RS.mk (rp_and hp0))
        · obtain ⟨H1, s1, S1, R1⟩ := S.newTup hl (Rps.append (rps_and (y := q1) hr1) (rps_and' (x := p1) hr2))
          exact k _ H1 _ s1 S1 R1
      · cases e
    | _ => cases e
  | _ => cases e
def oCatL : Bool × D → Bool × D → Option Res := fun p q => match p.2, q.2 with
  | .lst ds, .lst es => if p.1 = true ∧ q.1 = true ∧ ds.length + es.length ≤ LIM then some (.nw (ds ++ es)) else none
  | _, _ => none
theorem od_catL : OpD K rCat oCatL := by
  rintro B H0 H σ ρ x y ⟨p1, p⟩ ⟨q1, q⟩ res S hp hq e Q k
  cases p with
  | lst ds =>
    cases q with
    | lst es =>
      replace e : (if p1 = true ∧ q1 = true ∧ ds.length + es.length ≤ LIM then some (Res.nw (ds ++ es)) else none) = some res := e
      split at e
      · rename_i z
        obtain ⟨rfl, rfl, z⟩ := z
        cases e
        obtain ⟨a, vs, rfl, hs1, hr1⟩ := hp
        obtain ⟨b, ws, rfl, hs2, hr2⟩ := hq
        refine ⟨a, b, vs, ws, rfl, rfl, hs1.2, hs2.2, lim_le' (by rw [hr1.length, hr2.length]; exact z), fun l hl => ?_⟩
        obtain ⟨H1, s1, S1, R1⟩ := S.newLst hl (Rps.append hr1 hr2)
        exact k _ H1 _ s1 S1 R1
      · cases e
    | _ => cases e
  | _ => cases e
def repD (n : Nat) (ds : List D) : List D := (List.replicate n ds).flatten
theorem Rps.rep {b : Option Hp} {H : Hp} {ds : List D} {vs : List V} (h : Rps K b H ds vs) : ∀ n : Nat, Rps K b H (repD n ds) (List.replicate n vs).flatten
  | 0 => rfl
  | n + 1 => by
    unfold repD
    rw [List.replicate_succ, List.replicate_succ, List.flatten_cons, List.flatten_cons]
    exact h.append (Rps.rep h n)
theorem repD_one (ds : List D) : repD 1 ds = ds := by simp [repD]
theorem repD_nil (n : Nat) : repD n [] = [] := by simp [repD]
def oRepT : Bool × D → Bool × D → Option Res := fun p q => match p.2, q.2 with
  | .tup ds, .int i => if -1000000 ≤ i ∧ i ≤ 1000000 ∧ ds.length * i.toNat ≤ 1000000 ∧ ds.length ≤ 1000 then some (mkR p.1 (.tup (repD i.toNat ds))) else none
  | _, _ => none
theorem od_repT : OpD K (rRepA K) oRepT := by
  rintro B H0 H σ ρ x y ⟨p1, p⟩ ⟨q1, q⟩ res S hp hq e Q k
  cases p with
  | tup ds =>
    cases q with
    | int i =>
      replace e : (if -1000000 ≤ i ∧ i ≤ 1000000 ∧ ds.length * i.toNat ≤ 1000000 ∧ ds.length ≤ 1000 then some (mkR p1 (.tup (repD i.toNat ds))) else none) = some res := e
      split at e
      · rename_i z
        obtain ⟨z1, z2, z3, z4⟩ := z
        cases e
        cases hq
        have hp0 : Rp K (bo B p1) H0 (.tup ds) x := hp
        obtain ⟨a, vs, rfl, hs1, hr1⟩ := hp
        have hl := hr1.length
        refine ⟨a, i, vs, rfl, rfl, sqT_mono S.sub hs1, z1, z2, by rw [hl]; exact z3, by rw [hl]; exact z4, fun c => ?_, fun c1 c2 l hl => ?_⟩
        · have e : repD i.toNat ds = ds := by
            rcases c with c | c
            · subst c
              have e2 : ds = [] := List.eq_nil_of_length_eq_zero (by simpa using hl.symm)
              rw [e2, repD_nil]
            · subst c
              exact repD_one ds
          rw [e] at k
          exact k _ H0 H (Same.refl _) S (RS.mk hp0)
        · obtain ⟨H1, s1, S1, R1⟩ := S.newTup hl (hr1.rep i.toNat)
          exact k _ H1 _ s1 S1 R1
      · cases e
    | _ => cases e
  | _ => cases e
def oRepL : Bool × D → Bool × D → Option Res := fun p q => match p.2, q.2 with
  | .lst ds, .int i => if p.1 = true ∧ -1000000 ≤ i ∧ i ≤ 1000000 ∧ ds.length * i.toNat ≤ 1000000 then some (.nw (repD i.toNat ds)) else none
  | _, _ => none
theorem lim2 {n : Nat} (h : n ≤ 1000000) : n ≤ sizeLine := lim_le' h
theorem od_repL : OpD K rRep oRepL := by
  rintro B H0 H σ ρ x y ⟨p1, p⟩ ⟨q1, q⟩ res S hp hq e Q k
  cases p with
  | lst ds =>
    cases q with
    | int i =>
      replace e : (if p1 = true ∧ -1000000 ≤ i ∧ i ≤ 1000000 ∧ ds.length * i.toNat ≤ 1000000 then some (Res.nw (repD i.toNat ds)) else none) = some res := e
      split at e
      · rename_i z
        obtain ⟨rfl, z1, z2, z3⟩ := z
        cases e
        cases hq
        obtain ⟨a, vs, rfl, hs1, hr1⟩ := hp
        have hl := hr1.length
        refine ⟨a, i, vs, rfl, rfl, hs1.2, by omega, by omega, by rw [hl]; exact lim2 z3, fun l hl => ?_⟩
        obtain ⟨H1, s1, S1, R1⟩ := S.newLst hl (hr1.rep i.toNat)
        exact k _ H1 _ s1 S1 R1
      · cases e
    | _ => cases e
  | _ => cases e
end
end Sc
set_option maxRecDepth 100000
set_option maxHeartbeats 2000000
namespace Sc
open PySem PySem.Spec PyProof.Rows L2
/-! ### operations in one -/
abbrev O2 := Bool × D → Bool × D → Option Res
def oAlt (o o' : O2) : O2 := fun p q => (o p q).orElse fun _ => o' p q
theorem OpD.or {K : PySem.W.Frag} {r r' : R2} {o o' : O2} (h : OpD K r o) (h' : OpD K r' o') : OpD K (fun x y H Q => r x y H Q ∨ r' x y H Q) (oAlt o o') := by
  intro B H0 H σ ρ x y p q res S hp hq e Q k
  unfold oAlt at e
  cases z : o p q with
  | some u =>
    rw [z] at e
    cases e
    exact .inl (h B H0 H σ ρ x y p q _ S hp hq z Q k)
  | none =>
    rw [z] at e
    exact .inr (h' B H0 H σ ρ x y p q _ S hp hq e Q k)
def oPlus : O2 := oAlt oAdd (oAlt oCatT oCatL)
def oTimes : O2 := oAlt oMul (oAlt oRepT oRepL)
section
variable {X : Cx} {a b c e : Expr} {f g h : ED} {pos p2 : Pos}
theorem de_add (ha : DE X a f) (hb : DE X b g) : DE X (.BinOp a .Add b pos) (binF f g oPlus) := de_bin (op_add.or (op_catA.or op_cat)) (od_add.or (od_catT.or od_catL)) ha hb
theorem de_mul (ha : DE X a f) (hb : DE X b g) : DE X (.BinOp a .Mult b pos) (binF f g oTimes) := de_bin (op_mul.or (op_repA.or op_rep)) (od_mul.or (od_repT.or od_repL)) ha hb
theorem de_sub (ha : DE X a f) (hb : DE X b g) : DE X (.BinOp a .Sub b pos) (binF f g oSub) := de_bin op_sub od_sub ha hb
theorem de_div (ha : DE X a f) (hb : DE X b g) : DE X (.BinOp a .FloorDiv b pos) (binF f g oDiv) := de_bin op_fdiv od_div ha hb
theorem de_mod (ha : DE X a f) (hb : DE X b g) : DE X (.BinOp a .Mod b pos) (binF f g oMod) := de_bin op_mod od_mod ha hb
theorem de_bitand (ha : DE X a f) (hb : DE X b g) : DE X (.BinOp a .BitAnd b pos) (binF f g oAnd) := de_bin op_and od_and ha hb
theorem de_bitor (ha : DE X a f) (hb : DE X b g) : DE X (.BinOp a .BitOr b pos) (binF f g oOr) := de_bin op_or od_or ha hb
theorem de_bitxor (ha : DE X a f) (hb : DE X b g) : DE X (.BinOp a .BitXor b pos) (binF f g oXor) := de_bin op_xor od_xor ha hb
theorem de_shr (ha : DE X a f) (hb : DE X b g) : DE X (.BinOp a .RShift b pos) (binF f g oShr) := de_bin op_shr od_shr ha hb
theorem de_shl (ha : DE X a f) (hb : DE X b g) : DE X (.BinOp a .LShift b pos) (binF f g oShl) := de_bin op_shl od_shl ha hb
theorem de_pow (ha : DE X a f) (hb : DE X b g) : DE X (.BinOp a .Pow b pos) (binF f g oPow) := de_bin op_pow od_pow ha hb
theorem de_lt (ha : DE X a f) (hb : DE X b g) (hm : behindInMarks .Lt b = false := by rfl) : DE X (.Compare a [.Lt] [b] pos) (binF f g oLt) := de_cmp op_lt od_lt ha hb hm
theorem de_le (ha : DE X a f) (hb : DE X b g) (hm : behindInMarks .LtE b = false := by rfl) : DE X (.Compare a [.LtE] [b] pos) (binF f g oLe) := de_cmp op_le od_le ha hb hm
theorem de_gt (ha : DE X a f) (hb : DE X b g) (hm : behindInMarks .Gt b = false := by rfl) : DE X (.Compare a [.Gt] [b] pos) (binF f g oGt) := de_cmp op_gt od_gt ha hb hm
theorem de_ge (ha : DE X a f) (hb : DE X b g) (hm : behindInMarks .GtE b = false := by rfl) : DE X (.Compare a [.GtE] [b] pos) (binF f g oGe) := de_cmp op_ge od_ge ha hb hm
theorem de_eq (hu : X.A.units + 64 < cLine) (ha : DE X a f) (hb : DE X b g) (hm : behindInMarks .Eq b = false := by rfl) : DE X (.Compare a [.Eq] [b] pos) (binF f g (oEq false)) := de_cmp (op_eqD hu) od_eq ha hb hm
theorem de_ne (hu : X.A.units + 64 < cLine) (ha : DE X a f) (hb : DE X b g) (hm : behindInMarks .NotEq b = false := by rfl) : DE X (.Compare a [.NotEq] [b] pos) (binF f g (oEq true)) := de_cmp (op_neD hu) od_ne ha hb hm
theorem de_isx (ha : DE X a f) (hb : DE X b g) (hm : behindInMarks .Is b = false := by rfl) : DE X (.Compare a [.Is] [b] pos) (binF f g (oIs false)) := de_cmp op_isN od_is ha hb hm
theorem de_isnt (ha : DE X a f) (hb : DE X b g) (hm : behindInMarks .IsNot b = false := by rfl) : DE X (.Compare a [.IsNot] [b] pos) (binF f g (oIs true)) := de_cmp op_notN od_isnt ha hb hm
theorem de_inx (ha : DE X a f) (hb : DE X b g) (hm : behindInMarks .In b = false := by rfl) : DE X (.Compare a [.In] [b] pos) (binF f g (oIn false)) := de_cmp op_in_seq (od_in false) ha hb hm
theorem de_nin (ha : DE X a f) (hb : DE X b g) (hm : behindInMarks .NotIn b = false := by rfl) : DE X (.Compare a [.NotIn] [b] pos) (binF f g (oIn true)) := de_cmp op_notIn_seq (od_in true) ha hb hm
theorem dt_lt (ha : DE X a f) (hb : DE X b g) (hm : behindInMarks .Lt b = false := by rfl) : DT X (.Compare a [.Lt] [b] pos) (tstF (binF f g oLt)) := dt_cmp op_lt od_lt ha hb hm
theorem dt_le (ha : DE X a f) (hb : DE X b g) (hm : behindInMarks .LtE b = false := by rfl) : DT X (.Compare a [.LtE] [b] pos) (tstF (binF f g oLe)) := dt_cmp op_le od_le ha hb hm
theorem dt_gt (ha : DE X a f) (hb : DE X b g) (hm : behindInMarks .Gt b = false := by rfl) : DT X (.Compare a [.Gt] [b] pos) (tstF (binF f g oGt)) := dt_cmp op_gt od_gt ha hb hm
theorem dt_ge (ha : DE X a f) (hb : DE X b g) (hm : behindInMarks .GtE b = false := by rfl) : DT X (.Compare a [.GtE] [b] pos) (tstF (binF f g oGe)) := dt_cmp op_ge od_ge ha hb hm
theorem dt_eq (hu : X.A.units + 64 < cLine) (ha : DE X a f) (hb : DE X b g) (hm : behindInMarks .Eq b = false := by rfl) : DT X (.Compare a [.Eq] [b] pos) (tstF (binF f g (oEq false))) := dt_cmp (op_eqD hu) od_eq ha hb hm
theorem dt_ne (hu : X.A.units + 64 < cLine) (ha : DE X a f) (hb : DE X b g) (hm : behindInMarks .NotEq b = false := by rfl) : DT X (.Compare a [.NotEq] [b] pos) (tstF (binF f g (oEq true))) := dt_cmp (op_neD hu) od_ne ha hb hm
theorem dt_isx (ha : DE X a f) (hb : DE X b g) (hm : behindInMarks .Is b = false := by rfl) : DT X (.Compare a [.Is] [b] pos) (tstF (binF f g (oIs false))) := dt_cmp op_isN od_is ha hb hm
theorem dt_isnt (ha : DE X a f) (hb : DE X b g) (hm : behindInMarks .IsNot b = false := by rfl) : DT X (.Compare a [.IsNot] [b] pos) (tstF (binF f g (oIs true))) := dt_cmp op_notN od_isnt ha hb hm
theorem dt_inx (ha : DE X a f) (hb : DE X b g) (hm : behindInMarks .In b = false := by rfl) : DT X (.Compare a [.In] [b] pos) (tstF (binF f g (oIn false))) := dt_cmp op_in_seq (od_in false) ha hb hm
theorem dt_nin (ha : DE X a f) (hb : DE X b g) (hm : behindInMarks .NotIn b = false := by rfl) : DT X (.Compare a [.NotIn] [b] pos) (tstF (binF f g (oIn true))) := dt_cmp op_notIn_seq (od_in true) ha hb hm
/-- -e -/
def negF (f : ED) : ED := fun ρ => (argF f ρ).bind fun p => (vI p.2 p.1).map fun i => (.fz (.int (-i)), p.2)
theorem de_neg (ha : DE X a f) : DE X (.UnaryOp .USub a pos) (negF f) := by
  refine pe_imp (pe_un un_neg ha) fun σ H Q ⟨B, H0, ρ, r, ρ', S, e, k⟩ => ?_
  obtain ⟨⟨r1, ρ1⟩, e1, e⟩ := ob e
  obtain ⟨i, e2, e3⟩ := Option.map_eq_some_iff.mp e
  cases e3
  refine arg_red S e1 fun v H1 Ha s1 S1 R1 n1 => ?_
  have hv := vI_rs S1 R1 e2
  subst hv
  exact ⟨i, rfl, k _ H1 Ha s1 S1 rfl⟩
/-! ### slices -/
abbrev PF := Env → Option (Option Int × Env)
def tDO (K : PySem.W.Frag) (f : PF) : TO := fun σ H Q => ∃ B H0 ρ o ρ', SD K B H0 H σ ρ ∧ f ρ = some (o, ρ') ∧ ∀ H0' H', Same H0 H0' → SD K B H0' H' σ ρ' → Q o H'
abbrev DO (X : Cx) (e : Option Expr) (f : PF) : Prop := PO X e (tDO X.K f)
theorem po_imp {X : Cx} {e : Option Expr} {t t' : TO} (h : PO X e t) (i : ∀ σ H Q, t' σ H Q → t σ H Q) : PO X e t' := ⟨fun pins s σ H Q I q => h.run pins s σ H Q I (i σ H Q q)⟩
def noP : PF := fun ρ => some (none, ρ)
def soP (f : ED) : PF := fun ρ => (argF f ρ).bind fun p => (vI p.2 p.1).map fun i => (some i, p.2)
theorem do_none : DO X none noP := po_imp po_none fun σ H Q ⟨B, H0, ρ, o, ρ', S, e, k⟩ => by
  cases e
  exact k H0 H (Same.refl _) S
theorem do_some (ha : DE X a f) : DO X (some a) (soP f) := by
  refine po_imp (po_some ha) fun σ H Q ⟨B, H0, ρ, o, ρ', S, e, k⟩ => ?_
  obtain ⟨⟨r1, ρ1⟩, e1, e⟩ := ob e
  obtain ⟨i, e2, e3⟩ := Option.map_eq_some_iff.mp e
  cases e3
  refine arg_red S e1 fun v H1 Ha s1 S1 R1 n1 => ?_
  have hv := vI_rs S1 R1 e2
  subst hv
  exact ⟨i, rfl, k H1 Ha s1 S1⟩
def cutD (xs : List D) (lo hi : Option Int) : List D := (xs.drop (HT.sIx xs.length 0 lo)).take (HT.sIx xs.length xs.length hi - HT.sIx xs.length 0 lo)
theorem Rps.drop {K : PySem.W.Frag} {bb : Option Hp} {H : Hp} : ∀ {ds : List D} {vs : List V} (n : Nat), Rps K bb H ds vs → Rps K bb H (ds.drop n) (vs.drop n)
  | _, _, 0, h => h
  | [], _, n + 1, h => by cases h; exact rfl
  | d :: ds, _, n + 1, h => by
    obtain ⟨v, r, rfl, e2, e3⟩ := h
    exact Rps.drop n e3
theorem Rps.take {K : PySem.W.Frag} {bb : Option Hp} {H : Hp} : ∀ {ds : List D} {vs : List V} (n : Nat), Rps K bb H ds vs → Rps K bb H (ds.take n) (vs.take n)
  | _, _, 0, h => rfl
  | [], _, n + 1, h => by cases h; exact rfl
  | d :: ds, _, n + 1, h => by
    obtain ⟨v, r, rfl, e2, e3⟩ := h
    exact ⟨v, r.take n, rfl, e2, Rps.take n e3⟩
theorem Rps.cut {K : PySem.W.Frag} {bb : Option Hp} {H : Hp} {ds : List D} {vs : List V} {lo hi : Option Int} (h : Rps K bb H ds vs) : Rps K bb H (cutD ds lo hi) (cutV vs lo hi) := by
  unfold cutD cutV
  rw [h.length]
  exact (h.drop _).take _
theorem cutD_whole {ds : List D} {lo hi : Option Int} (h : HT.sIx ds.length 0 lo = 0 ∧ HT.sIx ds.length ds.length hi = ds.length) : cutD ds lo hi = ds := by
  unfold cutD
  rw [h.1, h.2]
  simp
def slF (f : ED) (lo hi : PF) : ED := fun ρ => (argF f ρ).bind fun p => (lo p.2).bind fun l => (hi l.2).bind fun u => (view u.2 p.1).bind fun q => match q.2 with
  | .tup ds => some (mkR q.1 (.tup (cutD ds l.1 u.1)), u.2)
  | .lst ds => if q.1 || noLs ds then some (.nw (cutD ds l.1 u.1), u.2) else none
  | _ => none
theorem de_slice {l u : Option Expr} {lo hi : PF} (he : DE X e f) (hl : DO X l lo) (hu : DO X u hi) : DE X (.Subscript e (.Slice l u none p2) pos) (slF f lo hi) := by
  refine pe_imp (pe_slice (sl_tupA.or sl_list) he hl hu) fun σ H Q ⟨B, H0, ρ, r, ρ', S, e, k⟩ => ?_
  obtain ⟨⟨r1, ρ1⟩, e1, e⟩ := ob e
  obtain ⟨⟨lv, ρ2⟩, e2, e⟩ := ob e
  obtain ⟨⟨uv, ρ3⟩, e3, e⟩ := ob e
  obtain ⟨⟨fr, d⟩, e4, e⟩ := ob e
  refine arg_red S e1 fun v H1 Ha s1 S1 R1 n1 => ?_
  refine ⟨B, H1, ρ1, lv, ρ2, S1, e2, fun H2 Hb s2 S2 => ?_⟩
  refine ⟨B, H2, ρ2, uv, ρ3, S2, e3, fun H3 Hc s3 S3 => ?_⟩
  have s13 := (s1.trans s2).trans s3
  have hv := S3.view (R1.keep n1 (s2.trans s3)) e4
  cases d with
  | tup ds =>
    cases e
    have hv0 : Rp X.K (bo B fr) H3 (.tup ds) v := hv
    obtain ⟨a, vs, rfl, hs, hr⟩ := hv
    have hl := hr.length
    refine .inl ⟨a, vs, rfl, sqT_mono S3.sub hs, fun w => ?_, fun w p hp => ?_⟩
    · rw [hl] at w
      rw [cutD_whole w] at k
      exact k _ H3 Hc s13 S3 (RS.mk hv0)
    · obtain ⟨H4, s4, S4, R4⟩ := S3.newTup hp (hr.cut (lo := lv) (hi := uv))
      exact k _ H4 _ (s13.trans s4) S4 R4
  | lst ds =>
    replace e : (if fr || noLs ds then some (Res.nw (cutD ds lv uv), ρ3) else none) = some (r, ρ') := e
    split at e
    · rename_i z
      cases e
      obtain ⟨a, vs, rfl, hs, hr⟩ := hv
      refine .inr ⟨a, vs, rfl, hs.sq, fun p hp => ?_⟩
      have hr' : Rps X.K (some B.b) H3 ds vs := by
        cases fr with
        | true => exact hr
        | false => exact hr.flat (fun _ _ t => t) (by simpa using z)
      obtain ⟨H4, s4, S4, R4⟩ := S3.newLst hp (hr'.cut (lo := lv) (hi := uv))
      exact k _ H4 _ (s13.trans s4) S4 R4
    · cases e
  | _ => cases e
/-- xs[::-1] of a tuple -/
def rvF (f : ED) : ED := fun ρ => (argF f ρ).bind fun p => (view p.2 p.1).bind fun q => match q.2 with
  | .tup ds => some (mkR q.1 (.tup ds.reverse), p.2)
  | _ => none
theorem Rps.reverse {K : PySem.W.Frag} {bb : Option Hp} {H : Hp} : ∀ {ds : List D} {vs : List V}, Rps K bb H ds vs → Rps K bb H ds.reverse vs.reverse
  | [], _, h => by cases h; exact rfl
  | d :: ds, _, h => by
    obtain ⟨v, r, rfl, e2, e3⟩ := h
    rw [List.reverse_cons, List.reverse_cons]
    exact (Rps.reverse e3).append (.one e2)
theorem de_revT {k : Nat} {p1 p2 p3 : Pos} (he : DE X e f) : DE X (.Subscript e (.Slice none none (some (.UnaryOp .USub (.Constant (.int 1) k p1) p2)) p3) pos) (rvF f) := by
  refine pe_imp (pe_revT he) fun σ H Q ⟨B, H0, ρ, r, ρ', S, e, k⟩ => ?_
  obtain ⟨⟨r1, ρ1⟩, e1, e⟩ := ob e
  obtain ⟨⟨fr, d⟩, e2, e⟩ := ob e
  refine arg_red S e1 fun v H1 Ha s1 S1 R1 n1 => ?_
  have hv := S1.view R1 e2
  cases d with
  | tup ds =>
    cases e
    obtain ⟨a, vs, rfl, hs, hr⟩ := hv
    refine ⟨a, vs, rfl, sqT_mono S1.sub hs, fun p hp => ?_⟩
    obtain ⟨H4, s4, S4, R4⟩ := S1.newTup hp hr.reverse
    exact k _ H4 _ (s1.trans s4) S4 R4
  | _ => cases e
end
/-! ### own dicts -/
def getK (kvs : List (D × D)) (d : D) : Option D := (kvs.find? fun kv => decide (kv.1 = d)).map (·.2)
def putKD (kvs : List (D × D)) (d e : D) : List (D × D) := if kvs.any fun kv => decide (kv.1 = d) then kvs.map (fun kv => if kv.1 = d then (kv.1, e) else kv) else kvs ++ [(d, e)]
def isKey : D → Bool
  | .int _ => true
  | .str _ => true
  | _ => false
theorem isKey_iff {d : D} (h : isKey d = true) : ∃ k, keyD d = some k := by
  cases d <;> simp [isKey] at h
  · exact ⟨_, rfl⟩
  · exact ⟨_, rfl⟩
theorem keyD_inj {d e : D} {k : Key} (h : keyD d = some k) (h' : keyD e = some k) : d = e := by
  cases d <;> cases e <;> simp [keyD] at h h' <;> subst h <;> first | (cases h'; rfl) | skip
  · cases h'
  · cases h'
theorem keyD_eq {d e : D} {k l : Key} (h : keyD d = some k) (h' : keyD e = some l) : (k = l) = (d = e) := by
  apply propext
  constructor
  · intro z; subst z; exact keyD_inj h h'
  · intro z; subst z; rw [h] at h'; exact Option.some.inj h'
theorem keyD_v {K : PySem.W.Frag} {b : Option Hp} {H0 H : Hp} {d : D} {v : V} {k : Key} (h : Rv K b H0 H d v) (e : keyD d = some k) : v = kV k := by
  cases d <;> simp [keyD] at e <;> subst e <;> exact h
section
variable {K : PySem.W.Frag} {b : Option Hp} {H : Hp} {d e : D} {k : Key} {v : V}
theorem Kvs.get (hk : keyD d = some k) : ∀ {kvs : List (D × D)} {l : List (Key × V)}, Kvs K b H kvs l → match getK kvs d with
    | some x => ∃ v, valV l k = some v ∧ Rp K b H x v
    | none => valV l k = none
  | [], _, h => by cases h; rfl
  | p :: ps, _, h => by
    obtain ⟨k', v, r, rfl, e2, e3, e4⟩ := h
    have ih := Kvs.get hk e4
    unfold getK at ih ⊢
    rw [List.find?_cons]
    by_cases z : p.1 = d
    · rw [decide_eq_true z]
      have e5 : k' = k := by rw [keyD_eq e2 hk]; exact z
      exact ⟨v, valV_pos (p := (k', v)) e5, e3⟩
    · rw [decide_eq_false z]
      have e5 : ¬ k' = k := by rw [keyD_eq e2 hk]; exact z
      rw [valV_neg (p := (k', v)) e5]
      exact ih
theorem Kvs.append : ∀ {kvs kvs' : List (D × D)} {l l' : List (Key × V)}, Kvs K b H kvs l → Kvs K b H kvs' l' → Kvs K b H (kvs ++ kvs') (l ++ l')
  | [], _, _, _, h, h' => by cases h; exact h'
  | p :: ps, _, _, _, h, h' => by
    obtain ⟨k', v, r, rfl, e2, e3, e4⟩ := h
    exact ⟨k', v, r ++ _, rfl, e2, e3, Kvs.append e4 h'⟩
theorem Kvs.any (hk : keyD d = some k) : ∀ {kvs : List (D × D)} {l : List (Key × V)}, Kvs K b H kvs l → (l.any fun kv => decide (kv.1 = k)) = kvs.any fun kv => decide (kv.1 = d)
  | [], _, h => by cases h; rfl
  | p :: ps, _, h => by
    obtain ⟨k', v, r, rfl, e2, e3, e4⟩ := h
    rw [List.any_cons, List.any_cons, Kvs.any hk e4]
    congr 1
    exact decide_eq_decide.mpr (by rw [keyD_eq e2 hk])
theorem Kvs.map (hk : keyD d = some k) (hv : Rp K b H e v) : ∀ {kvs : List (D × D)} {l : List (Key × V)}, Kvs K b H kvs l → Kvs K b H (kvs.map fun kv => if kv.1 = d then (kv.1, e) else kv) (l.map fun kv => if kv.1 = k then (kv.1, v) else kv)
  | [], _, h => by cases h; rfl
  | p :: ps, _, h => by
    obtain ⟨k', v', r, rfl, e2, e3, e4⟩ := h
    rw [List.map_cons, List.map_cons]
    by_cases z : p.1 = d
    · have e5 : k' = k := by rw [keyD_eq e2 hk]; exact z
      rw [if_pos z, if_pos e5]
      exact ⟨k', v, _, rfl, e2, hv, Kvs.map hk hv e4⟩
    · have e5 : ¬ k' = k := by rw [keyD_eq e2 hk]; exact z
      rw [if_neg z, if_neg e5]
      exact ⟨k', v', _, rfl, e2, e3, Kvs.map hk hv e4⟩
theorem Kvs.put (hk : keyD d = some k) (hv : Rp K b H e v) {kvs : List (D × D)} {l : List (Key × V)} (h : Kvs K b H kvs l) : Kvs K b H (putKD kvs d e) (putK l k v) := by
  unfold putKD putK
  rw [h.any hk]
  by_cases z : (kvs.any fun kv => decide (kv.1 = d)) = true
  · rw [if_pos z, if_pos z]
    exact h.map hk hv
  · rw [if_neg z, if_neg z]
    exact h.append ⟨k, v, [], rfl, hk, hv, rfl⟩
theorem Kvs.length : ∀ {kvs : List (D × D)} {l : List (Key × V)}, Kvs K b H kvs l → l.length = kvs.length
  | [], _, h => by cases h; rfl
  | p :: ps, _, h => by
    obtain ⟨k', v', r, rfl, e2, e3, e4⟩ := h
    simp [Kvs.length e4]
end
def isOd : Option Slot → Bool
  | some (.od _) => true
  | _ => false
theorem isOd_iff {s : Option Slot} (h : isOd s = true) : ∃ ds, s = some (.od ds) := by
  cases s with
  | none => cases h
  | some s => cases s <;> cases h; exact ⟨_, rfl⟩
section
variable {K : PySem.W.Frag} {B : Bs} {H0 H : Hp} {σ : L2.St} {ρ : Env} {i : Nat} {kvs : List (D × D)}
theorem SD.odAt (S : SD K B H0 H σ ρ) (e : ρ[i]? = some (.od kvs)) : ∃ a l, σ[i]? = some (some (.ref a)) ∧ H a = some (.dK l) ∧ Kvs K (some B.b) H0 kvs l := by
  obtain ⟨O, w⟩ := S.own
  obtain ⟨a, vs, e0, e1, e2, e3⟩ := w.ok i _ e
  exact ⟨a, vs, join_some e1, e2, e3⟩
theorem SD.wrD {a : Addr} {kvs' : List (D × D)} {l' : List (Key × V)} (S : SD K B H0 H σ ρ) (e : ρ[i]? = some (.od kvs)) (ea : σ[i]? = some (some (.ref a))) (hr : Kvs K (some B.b) H0 kvs' l') :
    ∃ H1, Same H0 H1 ∧ SD K B H1 (upd H a (.dK l')) σ (ρ.set i (.od kvs')) := by
  obtain ⟨O, w⟩ := S.own
  obtain ⟨a', vs, e0, e1, e2, e3⟩ := w.ok i _ e
  rw [ea] at e1
  cases e1
  have hi : i < ρ.length := (List.getElem?_eq_some_iff.mp e).1
  refine ⟨_, fzn_same, S.step w (ρ' := ρ.set i (.od kvs')) (H' := upd H a (.dK l')) (fun b => b = a) (by simp) (fun b o n q => by rw [upd_ne n]; exact q) (fun b o c q => by subst c; rw [upd_same] at q; cases q; rfl) (fun b c => by subst c; exact w.non i b (by rw [e0]; simp)) (fun b c => by subst c; exact w.tmp i b (by rw [e0]; simp)) fun j s' q => ?_⟩
  by_cases z : j = i
  · subst z
    rw [List.getElem?_set_self hi] at q
    cases q
    exact .inr ⟨a, l', e0, by rw [ea]; rfl, upd_same, hr.mono fzn_same⟩
  · rw [List.getElem?_set_ne (Ne.symm z)] at q
    refine .inl ⟨q, fun b m c => z ?_⟩
    subst c
    exact w.inj j i b m (by rw [e0]; simp)
end
/-- d[e], e in d, e not in d, len(d), d in slot i -/
def dgF (i : Nat) (g : ED) : ED := fun ρ => if isOd ρ[i]? then (argF g ρ).bind fun p => (view p.2 p.1).bind fun q => match p.2[i]? with
  | some (.od kvs) => if isKey q.2 then (getK kvs q.2).map fun x => (.fz x, p.2) else none
  | _ => none else none
def dnF (neg : Bool) (i : Nat) (g : ED) : ED := fun ρ => (argF g ρ).bind fun p => (view p.2 p.1).bind fun q => match p.2[i]? with
  | some (.od kvs) => if isKey q.2 then some (.fz (.bl (if neg then !(getK kvs q.2).isSome else (getK kvs q.2).isSome)), p.2) else none
  | _ => none
section
variable {X : Cx} {a b c e : Expr} {f g h : ED} {pos p2 p : Pos} {x : Str}
theorem de_dget (i : Nat) (hu : X.A.units + 1 < cLine) (hg : DE X a g) (hN : X.N[i]? = some x := by rfl) (hv : Vis X.env.scope x := by first | exact Or.inl rfl | exact Or.inr (Or.inl rfl) | exact Or.inr (Or.inr rfl)) (hd : (x == ("__debug__" : Str)) = false := by decide)
    (hcd : (x == ("__classdict__" : Str)) = false := by decide) (hs : NoSl a := by exact fun _ _ => rfl) : DE X (.Subscript (.Name x p) a pos) (dgF i g) := by
  refine pe_imp (pe_dget hu (pe_var (i := i) hN hv hd hcd) hg hs) fun σ H Q ⟨B, H0, ρ, r, ρ', S, e, k⟩ => ?_
  unfold dgF at e
  split at e
  · rename_i z0
    obtain ⟨kvs0, q0⟩ := isOd_iff z0
    obtain ⟨da, l0, ea, _, _⟩ := S.odAt q0
    obtain ⟨⟨r1, ρ1⟩, e1, e⟩ := ob e
    obtain ⟨⟨fr, d⟩, e2, e⟩ := ob e
    replace e : (match ρ1[i]? with
      | some (.od kvs) => if isKey d then (getK kvs d).map fun x => (Res.fz x, ρ1) else none
      | _ => none) = some (r, ρ') := e
    split at e
    · rename_i kvs q
      split at e
      · rename_i z
        obtain ⟨y, e3, e4⟩ := Option.map_eq_some_iff.mp e
        cases e4
        refine ⟨_, ea, arg_red S e1 fun v H1 Ha s1 S1 R1 n1 => ?_⟩
        obtain ⟨kk, hk⟩ := isKey_iff z
        have hv := keyD_v (S1.view R1 e2) hk
        subst hv
        obtain ⟨da', l, ea', hH, hl⟩ := S1.odAt q
        rw [ea] at ea'
        cases ea'
        have hg := hl.get hk
        rw [e3] at hg
        obtain ⟨w, e5, e6⟩ := hg
        exact ⟨da, w, rfl, by have := DGet.k (k := kk) hH; rw [e5] at this; exact this, k _ H1 Ha s1 S1 e6⟩
      · cases e
    · cases e
  · cases e
theorem dn_red (i : Nat) (neg : Bool) {tn : TE → TE → TE} (ht : ∀ ty td σ H Q, (ty σ H fun y H1 => td σ H1 fun x H2 => ∃ a o, x = .ref a ∧ DGet H2 a y o ∧ Q (.bl (if neg then !o.isSome else o.isSome)) H2) → tn ty td σ H Q) : ∀ σ H Q, tDE X.K (dnF neg i g) σ H Q → tn (tDE X.K g) (tVar i) σ H Q := by
  rintro σ H Q ⟨B, H0, ρ, r, ρ', S, e, k⟩
  obtain ⟨⟨r1, ρ1⟩, e1, e⟩ := ob e
  obtain ⟨⟨fr, d⟩, e2, e⟩ := ob e
  replace e : (match ρ1[i]? with
    | some (.od kvs) => if isKey d then some (Res.fz (.bl (if neg then !(getK kvs d).isSome else (getK kvs d).isSome)), ρ1) else none
    | _ => none) = some (r, ρ') := e
  split at e
  · rename_i kvs q
    split at e
    · rename_i z
      cases e
      refine ht _ _ σ H Q (arg_red S e1 fun v H1 Ha s1 S1 R1 n1 => ?_)
      obtain ⟨kk, hk⟩ := isKey_iff z
      have hv := keyD_v (S1.view R1 e2) hk
      subst hv
      obtain ⟨da, l, ea, hH, hl⟩ := S1.odAt q
      have hg := hl.get hk
      refine ⟨_, ea, da, valV l kk, rfl, DGet.k hH, k _ H1 Ha s1 S1 ?_⟩
      have e5 : (valV l kk).isSome = (getK kvs d).isSome := by
        cases z2 : getK kvs d with
        | none => rw [z2] at hg; rw [show valV l kk = none from hg]; rfl
        | some y => rw [z2] at hg; obtain ⟨w, e6, _⟩ := hg; rw [e6]; rfl
      show V.bl _ = V.bl _
      rw [e5]
    · cases e
  · cases e
theorem de_din (i : Nat) (hu : X.A.units + 1 < cLine) (hg : DE X a g) (hN : X.N[i]? = some x := by rfl) (hv : Vis X.env.scope x := by first | exact Or.inl rfl | exact Or.inr (Or.inl rfl) | exact Or.inr (Or.inr rfl)) (hd : (x == ("__debug__" : Str)) = false := by decide)
    (hcd : (x == ("__classdict__" : Str)) = false := by decide) (hm : behindInMarks .In (.Name x p) = false := by rfl) : DE X (.Compare a [.In] [.Name x p] pos) (dnF false i g) :=
  pe_imp (pe_cmp (pc_din hu hg (pe_var (i := i) hN hv hd hcd)) hm) (dn_red (X := X) (g := g) i false (tn := tDIn) fun _ _ _ _ _ q => q)
theorem de_dnin (i : Nat) (hu : X.A.units + 1 < cLine) (hg : DE X a g) (hN : X.N[i]? = some x := by rfl) (hv : Vis X.env.scope x := by first | exact Or.inl rfl | exact Or.inr (Or.inl rfl) | exact Or.inr (Or.inr rfl)) (hd : (x == ("__debug__" : Str)) = false := by decide)
    (hcd : (x == ("__classdict__" : Str)) = false := by decide) (hm : behindInMarks .NotIn (.Name x p) = false := by rfl) : DE X (.Compare a [.NotIn] [.Name x p] pos) (dnF true i g) :=
  pe_imp (pe_cmp (pc_dnotin hu hg (pe_var (i := i) hN hv hd hcd)) hm) (dn_red (X := X) (g := g) i true (tn := tDNotIn) fun _ _ _ _ _ q => q)
theorem tst_B {te : TE} (h : ∀ σ H Q, tDE X.K f σ H Q → te σ H Q) : ∀ σ H Q, tDT X.K (tstF f) σ H Q → tB te σ H Q := tst_red h
theorem dt_din (i : Nat) (hu : X.A.units + 1 < cLine) (hg : DE X a g) (hN : X.N[i]? = some x := by rfl) (hv : Vis X.env.scope x := by first | exact Or.inl rfl | exact Or.inr (Or.inl rfl) | exact Or.inr (Or.inr rfl)) (hd : (x == ("__debug__" : Str)) = false := by decide)
    (hcd : (x == ("__classdict__" : Str)) = false := by decide) (hm : behindInMarks .In (.Name x p) = false := by rfl) : DT X (.Compare a [.In] [.Name x p] pos) (tstF (dnF false i g)) :=
  pt_imp (pt_cmp (pc_din hu hg (pe_var (i := i) hN hv hd hcd)) hm) (tst_B (dn_red (X := X) (g := g) i false (tn := tDIn) fun _ _ _ _ _ q => q))
theorem dt_dnin (i : Nat) (hu : X.A.units + 1 < cLine) (hg : DE X a g) (hN : X.N[i]? = some x := by rfl) (hv : Vis X.env.scope x := by first | exact Or.inl rfl | exact Or.inr (Or.inl rfl) | exact Or.inr (Or.inr rfl)) (hd : (x == ("__debug__" : Str)) = false := by decide)
    (hcd : (x == ("__classdict__" : Str)) = false := by decide) (hm : behindInMarks .NotIn (.Name x p) = false := by rfl) : DT X (.Compare a [.NotIn] [.Name x p] pos) (tstF (dnF true i g)) :=
  pt_imp (pt_cmp (pc_dnotin hu hg (pe_var (i := i) hN hv hd hcd)) hm) (tst_B (dn_red (X := X) (g := g) i true (tn := tDNotIn) fun _ _ _ _ _ q => q))
/-! ### x[e] = e', x an own list or dict -/
def stS (i : Nat) (g f : ED) : FS := fun ρ => (itF f ρ).bind fun p => if p.1.1 then match p.2[i]? with
    | some (.ow _) => (argF g p.2).bind fun q => (vI q.2 q.1).bind fun j => match q.2[i]? with
      | some (.ow ds) => (ixN ds.length j).map fun n => .nx (q.2.set i (.ow (ds.set n p.1.2)))
      | _ => none
    | some (.od _) => (argF g p.2).bind fun q => (view q.2 q.1).bind fun y => match q.2[i]? with
      | some (.od kvs) => if isKey y.2 ∧ kvs.length < LIM then some (.nx (q.2.set i (.od (putKD kvs y.2 p.1.2)))) else none
      | _ => none
    | _ => none
  else none
theorem PSet.or {X : Cx} {t t' : TSet} (h : PSet X t) (h' : PSet X t') : PSet X (fun o i v H Q => t o i v H Q ∨ t' o i v H Q) := by
  intro pins s σ H o i v ov iv u Q I r1 r2 r3 q
  rcases q with q | q
  · exact h pins s σ H o i v ov iv u Q I r1 r2 r3 q
  · exact h' pins s σ H o i v ov iv u Q I r1 r2 r3 q
theorem Rps.set {K : PySem.W.Frag} {bb : Option Hp} {H : Hp} {d : D} {v : V} (hv : Rp K bb H d v) : ∀ {ds : List D} {vs : List V} (n : Nat), Rps K bb H ds vs → Rps K bb H (ds.set n d) (vs.set n v)
  | [], _, n, h => by cases h; exact rfl
  | e :: ds, _, 0, h => by
    obtain ⟨w, r, rfl, e2, e3⟩ := h
    exact ⟨v, r, rfl, hv, e3⟩
  | e :: ds, _, n + 1, h => by
    obtain ⟨w, r, rfl, e2, e3⟩ := h
    exact ⟨w, _, rfl, e2, Rps.set hv n e3⟩
theorem ds_st {W : WX} (i : Nat) (hu : X.A.units + 1 < cLine) (hg : DE X a g) (he : DE X e f) (hN : X.N[i]? = some x := by rfl) (hv : Vis X.env.scope x := by first | exact Or.inl rfl | exact Or.inr (Or.inl rfl) | exact Or.inr (Or.inr rfl)) (hd : (x == ("__debug__" : Str)) = false := by decide)
    (hcd : (x == ("__classdict__" : Str)) = false := by decide)
    (ha : ∀ v, assign (.Subscript (.Name x p) a p2) X.env v = (do
      let ov ← holding [v] (eval (.Name x p) X.env)
      let iv ← holding [v, ov] (eval a X.env)
      standAt p2
      holding [v, ov, iv] (setItem ov iv v)
      release [v, ov, iv] []) := by intro _; rfl)
    (hs : swapsWithSole [.Subscript (.Name x p) a p2] e pos.line X.env = pure false := by rfl) (hw : swappedStores [.Subscript (.Name x p) a p2] e X.env = pure none := by rfl)
    (h1 : (assignEach [.Subscript (.Name x p) a p2] X.env).map (·.2) = [assign (.Subscript (.Name x p) a p2) X.env] := by rfl) : DS X W (.Assign [.Subscript (.Name x p) a p2] e pos) (stS i g f) := by
  refine ps_imp (ps_asg he (pg_sub (pe_var (i := i) hN hv hd hcd) hg (PSet.or set_list (set_dict hu)) ha) hs hw h1) fun Dn σ H ⟨B, H0, ρ, out, S, e, k⟩ => ?_
  obtain ⟨⟨⟨fr, d⟩, ρ1⟩, e1, e⟩ := ob e
  cases fr with
  | false => cases e
  | true =>
    replace e : (match ρ1[i]? with
      | some (.ow _) => (argF g ρ1).bind fun q => (vI q.2 q.1).bind fun j => match q.2[i]? with
        | some (.ow ds) => (ixN ds.length j).map fun n => Out.nx (q.2.set i (.ow (ds.set n d)))
        | _ => none
      | some (.od _) => (argF g ρ1).bind fun q => (view q.2 q.1).bind fun y => match q.2[i]? with
        | some (.od kvs) => if isKey y.2 ∧ kvs.length < LIM then some (.nx (q.2.set i (.od (putKD kvs y.2 d)))) else none
        | _ => none
      | _ => none) = some out := e
    refine it_red S e1 fun v H1 Ha s1 S1 R1 => ?_
    split at e
    · rename_i ds0 q0
      obtain ⟨a0, vs0, ea, _, _⟩ := S1.owAt q0
      obtain ⟨⟨r2, ρ2⟩, e2, e⟩ := ob e
      obtain ⟨j, e3, e⟩ := ob e
      replace e : (match ρ2[i]? with
        | some (.ow ds) => (ixN ds.length j).map fun n => Out.nx (ρ2.set i (.ow (ds.set n d)))
        | _ => none) = some out := e
      split at e
      · rename_i ds q
        obtain ⟨n, e4, e5⟩ := Option.map_eq_some_iff.mp e
        cases e5
        refine ⟨_, ea, arg_red S1 e2 fun w H2 Hb s2 S2 R2 n2 => .inl ?_⟩
        have hw := vI_rs S2 R2 e3
        subst hw
        obtain ⟨a1, vs, ea1, hH, hr⟩ := S2.owAt q
        rw [ea] at ea1
        cases ea1
        obtain ⟨H3, s3, S3⟩ := S2.wr q ea (Rps.set (R1.mono s2) n hr)
        exact ⟨a0, vs, j, n, rfl, rfl, hH, by rw [hr.length]; exact e4, k _ H3 _ ((s1.trans s2).trans s3) S3⟩
      · cases e
    · rename_i kvs0 q0
      obtain ⟨a0, l0, ea, _, _⟩ := S1.odAt q0
      obtain ⟨⟨r2, ρ2⟩, e2, e⟩ := ob e
      obtain ⟨⟨fr2, y⟩, e3, e⟩ := ob e
      replace e : (match ρ2[i]? with
        | some (.od kvs) => if isKey y ∧ kvs.length < LIM then some (Out.nx (ρ2.set i (.od (putKD kvs y d)))) else none
        | _ => none) = some out := e
      split at e
      · rename_i kvs q
        split at e
        · rename_i z
          cases e
          refine ⟨_, ea, arg_red S1 e2 fun w H2 Hb s2 S2 R2 n2 => .inr ?_⟩
          obtain ⟨kk, hk⟩ := isKey_iff z.1
          have hv := keyD_v (S2.view R2 e3) hk
          subst hv
          obtain ⟨a1, l, ea1, hH, hl⟩ := S2.odAt q
          rw [ea] at ea1
          cases ea1
          obtain ⟨H3, s3, S3⟩ := S2.wrD q ea (hl.put hk (R1.mono s2))
          exact ⟨a0, _, rfl, DPut.k hH (by rw [hl.length]; exact Nat.lt_trans z.2 lim_le), k _ H3 _ ((s1.trans s2).trans s3) S3⟩
        · cases e
      · cases e
    · cases e
/-- name += int, name -= int -/
def intAt (ρ : Env) (i : Nat) : Option Int := match ρ[i]? with
  | some (.fz (.int x)) => some x
  | some (.ar (.int x)) => some x
  | _ => none
def augI (i : Nat) (o : Int → Int → Int) (g : ED) : FS := fun ρ => (intAt ρ i).bind fun x => (argF g ρ).bind fun p => (vI p.2 p.1).bind fun y => (putR p.2 i (.fz (.int (o x y)))).map fun ρ' => .nx ρ'
theorem SD.intAt {K : PySem.W.Frag} {B : Bs} {H0 H : Hp} {σ : L2.St} {ρ : Env} {i : Nat} {x : Int} (S : SD K B H0 H σ ρ) (e : intAt ρ i = some x) : σ[i]? = some (some (.int x)) := by
  unfold Sc.intAt at e
  obtain ⟨O, w⟩ := S.own
  split at e
  · rename_i y q
    cases e
    obtain ⟨_, u, e1, e2⟩ := w.ok i _ q
    rw [show u = V.int x from e2] at e1
    exact join_some e1
  · rename_i y q
    cases e
    obtain ⟨_, u, e1, e2⟩ := w.ok i _ q
    rw [show u = V.int x from e2] at e1
    exact join_some e1
  · cases e
theorem ds_aug {W : WX} (i : Nat) {op : Operator} {o : Int → Int → Int} {pos' : Pos} (ho : PIp X op (ipI o)) (hg : DE X a g) (hN : X.N.Nodup) (hi : X.N[i]? = some x) (hx : Loc X.env.scope x) (hf : X.fn x = true ∨ X.env.scope.names.lookup x = some .local := by first | exact .inl rfl | exact .inr rfl | assumption) :
    DS X W (.AugAssign (.Name x pos') op a pos) (augI i o g) := by
  refine ps_imp (ps_aug hN hi hx hg ho hf) fun Dn σ H ⟨B, H0, ρ, out, S, e, k⟩ => ?_
  obtain ⟨z, e0, e⟩ := ob e
  obtain ⟨⟨r1, ρ1⟩, e1, e⟩ := ob e
  obtain ⟨y, e2, e⟩ := ob e
  obtain ⟨ρ2, e3, e4⟩ := Option.map_eq_some_iff.mp e
  cases e4
  refine ⟨_, S.intAt e0, arg_red S e1 fun v H1 Ha s1 S1 R1 n1 => ?_⟩
  have hv := vI_rs S1 R1 e2
  subst hv
  obtain ⟨H2, s2, S2⟩ := S1.put (r := .fz (.int (o z y))) (v := .int (o z y)) rfl e3
  exact ⟨z, y, rfl, rfl, k _ H2 Ha (s1.trans s2) S2⟩
end
end Sc
set_option maxRecDepth 100000
set_option maxHeartbeats 2000000
namespace Sc
open PySem PySem.Spec PyProof.Rows L2
/-! ### what a def does -/
inductive Ret where
  | ret (d : D) | exc (c : Str)
abbrev RF := List D → Option Ret
def GoR (K : PySem.W.Frag) (H : Hp) (Q : VK) (E : XK) : Ret → Prop
  | .ret d => ∀ v H', Same H H' → Rp K (some H) H' d v → Q v H'
  | .exc c => ∀ dd H', Same H H' → E (.ref (He.ga K c)) dd H'
def spF (K : PySem.W.Frag) (n : Nat) (F : RF) : Sp := fun vs H Q E => ∃ ds r, Rps K none H ds vs ∧ ds.length = n ∧ F ds = some r ∧ GoR K H Q E r
def envOf (n : Nat) (ds : List D) : Env := ds.map Sc.Slot.ar ++ List.replicate (n - ds.length) .emp
def outR : Out → Option Ret
  | .nx _ => some (.ret .non)
  | .rt d _ => some (.ret d)
  | .ex c _ => some (.exc c)
  | _ => none
def runF (n : Nat) (fb : FS) : RF := fun ds => (fb (envOf n ds)).bind outR
theorem start_len {N : List Str} {vs : List V} (h : vs.length ≤ N.length) : (L2.start N vs).length = N.length := by
  unfold L2.start
  simp
  omega
theorem sd_start {K : PySem.W.Frag} {H : Hp} {N : List Str} {vs : List V} {ds : List D} (h : Rps K none H ds vs) (hl : ds.length ≤ N.length) : SD K ⟨H, fun _ => none, fun _ => .non⟩ H H (L2.start N vs) (envOf N.length ds) := by
  have hv := h.length
  refine ⟨?_, Same.refl _, Same.refl _, fun a o e => (nomatch e), fun a o e _ => e, fun _ => [], fun i s e => ?_, fun i a m => (nomatch m), fun i j a m => (nomatch m), fun i hi => rfl, fun i a m => (nomatch m)⟩
  · rw [start_len (by omega)]
    unfold envOf
    simp
    omega
  · unfold envOf at e
    by_cases z : i < ds.length
    · rw [List.getElem?_append_left (by simpa using z), List.getElem?_map] at e
      obtain ⟨d, e1, e2⟩ := Option.map_eq_some_iff.mp e
      subst e2
      obtain ⟨v, e3, e4⟩ := h.get e1
      refine ⟨rfl, v, ?_, e4⟩
      unfold L2.start
      rw [List.getElem?_append_left (by simp; omega), List.getElem?_map, e3]
      rfl
    · rw [List.getElem?_append_right (by simp; omega), List.getElem?_replicate] at e
      split at e
      · cases e; rfl
      · cases e
section
variable {P : Program} {w : World} {K : PySem.W.Frag} {mg : Str → Option Value} {base : Heap} {x qual : Str} {params : Arguments} {body : List Stmt} {scope : Scope} {f : Addr} {fd : FuncData} {N ps : List Str} {k : Nat} {fb : FS}
theorem fs_le (S : FnScope N ps scope) : ps.length ≤ N.length := by
  have h := congrArg List.length S.pre
  rw [List.length_take] at h
  omega
/-- THE RULE for a def -/
theorem fn_D (F : FunD K x qual params body scope [] [] f fd) (S : FnScope N ps scope)
    (hb : ∀ (cdv : Value) (A : Around) (outer : List PySem.Env) (s : Shared) (H : Hp) (E : XK), Room k (A.deeper (envOfC qual scope s.heap.objs.size f cdv)) →
      DSs (cxOf (L2.CX P w) P w K mg base N qual scope f cdv A outer s H E) (fun cls d _ H => E cls d H) body fb) : FnOk P w K mg base (L2.CX P w) (k + 1) f fd ps (spF K ps.length (runF N.length fb)) := by
  refine F.ok S (fun vs H Q E ⟨ds, r, h1, h2, _⟩ => by rw [h1.length, h2]) fun cdv A outer s H vs Q E hr ⟨ds, r, h1, h2, h3, h4⟩ => ⟨_, hb cdv A outer s H E hr, ?_⟩
  obtain ⟨out, e1, e2⟩ := ob h3
  refine ⟨⟨H, fun _ => none, fun _ => .non⟩, H, envOf N.length ds, out, sd_start h1 (by rw [h2]; exact fs_le S), e1, ?_⟩
  cases out with
  | nx ρ =>
    cases e2
    exact fun σ H0' H' s' S' => h4 .non H' (s'.trans S'.sub) rfl
  | rt d ρ =>
    cases e2
    exact fun v σ H0' H' s' S' R => h4 v H' (s'.trans S'.sub) (Rp.mono S'.sub R)
  | ex c ρ =>
    cases e2
    exact fun dd σ H0' H' s' S' => h4 dd H' (s'.trans S'.sub)
  | bk ρ => cases e2
  | ct ρ => cases e2
end
/-- a def that may be called by its name -/
structure Cal (P : Program) (w : World) (K : PySem.W.Frag) (mg : Str → Option Value) (base : Heap) (k : Nat) (x : Str) (ps : List Str) (sp : Sp) : Prop where
  ex : ∃ fd, FnOk P w K mg base (L2.CX P w) k (He.ga K x) fd ps sp ∧ Binds K fd ps []
  gl : mg x = some (.ref (He.ga K x))
  kp : PySem.W.keepIn K (.ref (He.ga K x)) = true
theorem Cal.mono {P : Program} {w : World} {K : PySem.W.Frag} {mg : Str → Option Value} {base : Heap} {j k : Nat} {x : Str} {ps : List Str} {sp : Sp} (C : Cal P w K mg base j x ps sp) (h : j ≤ k) : Cal P w K mg base k x ps sp :=
  let ⟨fd, F, b⟩ := C.ex
  ⟨⟨fd, F.mono h, b⟩, C.gl, C.kp⟩
/-! ### what a call gives -/
def resD (d : D) : Res := match d with
  | .lst ds => if noLs ds then .nw ds else .fz (.lst ds)
  | d => .fz d
section
variable {K : PySem.W.Frag} {B : Bs} {H0 H H' : Hp} {σ : L2.St} {ρ : Env} {d : D} {v : V}
/-- the heap grew; the new list at a is not frozen -/
theorem SD.growBut (S : SD K B H0 H σ ρ) (e : Same H H') {a : Addr} {vs : List V} (n : H a = none) (ha : H' a = some (.lst vs)) :
    ∃ H1, Same H0 H1 ∧ SD K B H1 H' σ ρ ∧ H1 a = none ∧ (∃ O, Own K B H1 H' σ ρ O ∧ ∀ i, a ∉ O i) ∧ B.t a = none := by
  have n0 := S.none_of n
  have S' := S.grow e
  have nt : B.t a = none := by
    cases q : B.t a with
    | none => rfl
    | some o => rw [(S.tmp a o q).1] at n; cases n
  have s1 : Same H0 (fun b => if b = a then none else fzn H0 H H' b) := fun b o q => by
    show (if b = a then none else fzn H0 H H' b) = some o
    rw [if_neg (fun z => by rw [z, n0] at q; cases q)]
    exact fzn_old q
  obtain ⟨O, w⟩ := S.own
  have na : ∀ i, a ∉ O i := fun i m => by
    obtain ⟨o, q, _⟩ := w.there m
    rw [n] at q; cases q
  have w' : Own K B (fun b => if b = a then none else fzn H0 H H' b) H' σ ρ O := ⟨fun i s q => (w.ok i s q).frame s1 fun b _ o q => e b o q, fun i b m => by
    show (if b = a then none else fzn H0 H H' b) = none
    obtain ⟨o, q, _⟩ := w.there m
    split
    · rfl
    · exact fzn_own (w.non i b m) q, w.inj, w.out, w.tmp⟩
  refine ⟨_, s1, ⟨S.len, S.bir.trans s1, fun b o q => ?_, fun b o q => ⟨(S'.tmp b o q).1, ?_⟩, fun b o q i => ?_, O, w'⟩, if_pos rfl, ⟨O, w', na⟩, nt⟩
  · have q' : (if b = a then none else fzn H0 H H' b) = some o := q
    split at q'
    · cases q'
    · exact S'.sub b o q'
  · show (if b = a then none else fzn H0 H H' b) = none
    split
    · rfl
    · exact (S'.tmp b o q).2
  · show (if b = a then none else fzn H0 H H' b) = some o
    rw [if_neg (fun z => by rw [z, ha] at q; cases q; cases i)]
    exact S'.imm b o q i
theorem SD.res (S : SD K B H0 H σ ρ) (e : Same H H') (h : Rp K (some H) H' d v) : ∃ H1, Same H0 H1 ∧ SD K B H1 H' σ ρ ∧ RS K B H1 H' σ ρ (resD d) v := by
  unfold resD
  split
  · rename_i ds
    split
    · rename_i z
      obtain ⟨a, vs, rfl, ⟨n, ha⟩, hr⟩ := h
      obtain ⟨H1, s1, S1, n1, ⟨O, w, na⟩, nt⟩ := S.growBut e n ha
      exact ⟨H1, s1, S1, O, a, vs, w, na, nt, rfl, n1, ha, hr.flat (fun _ _ t => S1.tupF t) z⟩
    · exact ⟨_, fzn_same, S.grow e, S.rpF e h⟩
  · exact ⟨_, fzn_same, S.grow e, S.rpF e h⟩
end
def retOf : Ret → Option Res
  | .ret d => some (resD d)
  | _ => none
/-- a call by values -/
def cfF (n : Nat) (F : RF) (fs : List ED) : ED := fun ρ => (argsF fs ρ).bind fun p => (views p.2 p.1).bind fun ps => if ps.length = n then (F (ps.map (·.2))).bind fun r => (retOf r).map fun x => (x, p.2) else none
theorem cf_red {K : PySem.W.Frag} {n : Nat} {F : RF} {fs : List ED} {E : XK} : ∀ σ H Q, tDE K (cfF n F fs) σ H Q → tCall (spF K n F) [] E (tDA K fs) σ H Q := by
  rintro σ H Q ⟨B, H0, ρ, r, ρ', S, e, k⟩
  obtain ⟨⟨rs, ρ1⟩, e1, e⟩ := ob e
  obtain ⟨ps, e2, e⟩ := ob e
  replace e : (if ps.length = n then (F (ps.map (·.2))).bind fun r => (retOf r).map fun x => (x, ρ1) else none) = some (r, ρ') := e
  split at e
  · rename_i hn
    obtain ⟨rr, e3, e4⟩ := ob e
    obtain ⟨x, e5, e6⟩ := Option.map_eq_some_iff.mp e4
    cases e6
    refine ⟨B, H0, ρ, rs, _, S, e1, fun vs H1 Ha s1 S1 R1 => ?_⟩
    show spF K n F (vs ++ []) Ha Q E
    rw [List.append_nil]
    refine ⟨_, rr, (RSs.views S1 R1 e2).rps S1.sub, by rw [List.length_map]; exact hn, e3, ?_⟩
    cases rr with
    | exc c => cases e5
    | ret d =>
      cases e5
      intro v H' s' h'
      obtain ⟨H2, s2, S2, R2⟩ := S1.res s' h'
      exact k v H2 H' (s1.trans s2) S2 R2
  · cases e
section
variable {X : Cx} {W : WX} {k : Nat} {x : Str} {ps : List Str} {n : Nat} {F : RF} {fs : List ED} {e : Expr} {es : List Expr} {p pos : Pos}
theorem de_call (C : Cal X.prog X.w X.K X.mg X.base k x ps (spF X.K n F)) (hr : Room k X.A) (ha : DA X (e :: es) fs) (hg : Gl X x := by rfl) (hdb : (x == ("__debug__" : Str)) = false := by decide)
    (he : starEach (e :: es) X.env = (false, eval e X.env) :: starEach es X.env := by rfl) (hpl : (backTo pos (starEach es X.env)).any (·.1) = false := by rfl) : DE X (.Call (.Name x p) (e :: es) [] pos) (cfF n F fs) := by
  obtain ⟨fd, Fn, b⟩ := C.ex
  exact pe_imp (pe_call Fn hr hg C.gl C.kp b .nil passL ha hdb he hpl) cf_red
/-! ### a call that may raise, as a statement's value -/
def outX (g : Res → Env → Option Out) : Ret → Env → Option Out
  | .ret d, ρ => g (resD d) ρ
  | .exc c, ρ => some (.ex c ρ)
def cxF (n : Nat) (F : RF) (fs : List ED) (g : Res → Env → Option Out) : FS := fun ρ => (argsF fs ρ).bind fun p => (views p.2 p.1).bind fun ps => if ps.length = n then (F (ps.map (·.2))).bind fun r => outX g r p.2 else none
theorem cx_red {K : PySem.W.Frag} {W : WX} {Dn : Ends} {g : Res → Env → Option Out} {qk : L2.St → VK}
    (hg : ∀ B H0 H σ ρ r v out, SD K B H0 H σ ρ → RS K B H0 H σ ρ r v → g r ρ = some out → After K W B H0 Dn out → qk σ v H) : ∀ σ H, tDS K W (cxF n F fs g) Dn σ H → tCallS (spF K n F) (WE W) (tDA K fs) σ H (qk σ) := by
  rintro σ H ⟨B, H0, ρ, out, S, e, k⟩
  obtain ⟨⟨rs, ρ1⟩, e1, e⟩ := ob e
  obtain ⟨ps, e2, e⟩ := ob e
  replace e : (if ps.length = n then (F (ps.map (·.2))).bind fun r => outX g r ρ1 else none) = some out := e
  split at e
  · rename_i hn
    obtain ⟨rr, e3, e4⟩ := ob e
    refine ⟨B, H0, ρ, rs, ρ1, S, e1, fun vs H1 Ha s1 S1 R1 => ?_⟩
    refine ⟨_, rr, (RSs.views S1 R1 e2).rps S1.sub, by rw [List.length_map]; exact hn, e3, ?_⟩
    cases rr with
    | exc c =>
      cases e4
      intro dd H' s'
      have S2 := S1.grow s'
      exact k dd σ _ H' (s1.trans fzn_same) S2
    | ret d =>
      intro v H' s' h'
      obtain ⟨H2, s2, S2, R2⟩ := S1.res s' h'
      exact hg B H2 H' σ ρ1 _ v out S2 R2 e4 (k.mono (s1.trans s2))
  · cases e
def gSet (i : Nat) : Res → Env → Option Out := fun r ρ => (putR ρ i r).map Out.nx
def gRet : Res → Env → Option Out := fun r ρ => match r with
  | .fz d => some (.rt d ρ)
  | .nw ds => some (.rt (.lst ds) ρ)
  | _ => none
def gDrop : Res → Env → Option Out := fun _ ρ => some (.nx ρ)
theorem ds_setX {i : Nat} {y : Str} {pos' pos2 : Pos} (tk : Takes X W) (C : Cal X.prog X.w X.K X.mg X.base k x ps (spF X.K n F)) (hr : Room k X.A) (ha : DA X (e :: es) fs) (hN : X.N.Nodup) (hi : X.N[i]? = some y) (hx : Loc X.env.scope y) (hg : Gl X x := by rfl) (hdb : (x == ("__debug__" : Str)) = false := by decide)
    (he : starEach (e :: es) X.env = (false, eval e X.env) :: starEach es X.env := by rfl) (hpl : (backTo pos (starEach es X.env)).any (·.1) = false := by rfl)
    (hs : swapsWith (.Call (.Name x p) (e :: es) [] pos) (some (.Name y pos')) pos2.line X.env = pure false := by rfl) (hf : X.fn y = true ∨ X.env.scope.names.lookup y = some .local := by first | exact .inl rfl | exact .inr rfl | assumption) :
    DS X W (.Assign [.Name y pos'] (.Call (.Name x p) (e :: es) [] pos) pos2) (cxF n F fs (gSet i)) := by
  obtain ⟨fd, Fn, b⟩ := C.ex
  refine ps_imp (ps_set hN hi hx (pe_callS Fn hr hg C.gl C.kp b (fun σ => passAt tk σ) ha hdb he hpl) hs hf) fun Dn σ H h => ?_
  refine cx_red (qk := fun σ v H => Dn.nx (σ.set i (some v)) H) (fun B H0 H σ ρ r v out S R e k => ?_) σ H h
  obtain ⟨ρ2, e3, e4⟩ := Option.map_eq_some_iff.mp e
  cases e4
  obtain ⟨H2, s2, S2⟩ := S.put R e3
  exact k _ H2 H s2 S2
theorem ds_retX {pos2 : Pos} (tk : Takes X W) (C : Cal X.prog X.w X.K X.mg X.base k x ps (spF X.K n F)) (hr : Room k X.A) (ha : DA X (e :: es) fs) (hg : Gl X x := by rfl) (hdb : (x == ("__debug__" : Str)) = false := by decide)
    (he : starEach (e :: es) X.env = (false, eval e X.env) :: starEach es X.env := by rfl) (hpl : (backTo pos (starEach es X.env)).any (·.1) = false := by rfl) :
    DS X W (.Return (some (.Call (.Name x p) (e :: es) [] pos)) pos2) (cxF n F fs gRet) := by
  obtain ⟨fd, Fn, b⟩ := C.ex
  refine ps_imp (ps_ret (pe_callS Fn hr hg C.gl C.kp b (fun σ => passAt tk σ) ha hdb he hpl)) fun Dn σ H h => ?_
  refine cx_red (qk := fun σ v H => Dn.rt v H) (fun B H0 H σ ρ r v out S R e k => ?_) σ H h
  cases r with
  | fz d => cases e; exact k v σ H0 H (Same.refl _) S R
  | nw ds =>
    cases e
    obtain ⟨H1, s1, S1, R1, _⟩ := S.hold R (r' := .fz (.lst ds)) rfl
    exact k v σ H1 H s1 S1 R1
  | _ => cases e
end
end Sc
set_option maxRecDepth 100000
set_option maxHeartbeats 2000000
namespace Sc
open PySem PySem.Spec PyProof.Rows L2
/-! ### defs that draw: the first parameter is the drawing state -/
abbrev P3 := Addr × Addr × Addr
def inR (p : P3) (a : Addr) : Prop := a = p.1 ∨ a = p.2.1 ∨ a = p.2.2
structure Reg (H : Hp) (p : P3) (M : DrawSt) : Prop where
  n1 : p.1 ≠ p.2.1
  n2 : p.1 ≠ p.2.2
  n3 : p.2.1 ≠ p.2.2
  m : H p.1 = some (.dK (drawKvs p.2.1 p.2.2 M.spot))
  c : H p.2.1 = some (.lst (M.cells.map V.int))
  g : H p.2.2 = some (.lst (M.great.map V.int))
open Classical in
noncomputable def outH (H : Hp) (p : P3) : Hp := fun a => if inR p a then none else H a
theorem outH_in {H : Hp} {p : P3} {a : Addr} (h : inR p a) : outH H p a = none := if_pos h
theorem outH_out {H : Hp} {p : P3} {a : Addr} (h : ¬ inR p a) : outH H p a = H a := if_neg h
theorem outH_sub {H : Hp} {p : P3} : Same (outH H p) H := fun a o e => by
  by_cases z : inR p a
  · rw [outH_in z] at e; cases e
  · rw [outH_out z] at e; exact e
abbrev MF := P3 → DrawSt → List D → Option (D × DrawSt)
def spM (K : PySem.W.Frag) (n : Nat) (F : MF) : Sp := fun vs H Q E => ∃ p M ds d M' rest, vs = .ref p.1 :: rest ∧ Reg H p M ∧ Rps K none (outH H p) ds rest ∧ ds.length = n ∧ F p M ds = some (d, M') ∧
  ∀ v H', (∀ a o, ¬ inR p a → H a = some o → H' a = some o) → Reg H' p M' → Rp K (some H) H' d v → Q v H'
def outM (p : P3) : Out → Option (D × DrawSt)
  | .nx ρ => match ρ[0]? with
    | some (Sc.Slot.mm q M) => if q = p then some (.non, M) else none
    | _ => none
  | .rt d ρ => match ρ[0]? with
    | some (Sc.Slot.mm q M) => if q = p then some (d, M) else none
    | _ => none
  | _ => none
def runM (n : Nat) (fb : FS) : MF := fun p M ds => (fb (.mm p M :: envOf n ds)).bind (outM p)
theorem inR_mem {p : P3} {a : Addr} : a ∈ [p.1, p.2.1, p.2.2] ↔ inR p a := by simp [inR]
theorem Reg.there {H : Hp} {p : P3} {M : DrawSt} (r : Reg H p M) {a : Addr} (h : inR p a) : ∃ o, H a = some o ∧ Imm o = false := by
  rcases h with rfl | rfl | rfl
  · exact ⟨_, r.m, rfl⟩
  · exact ⟨_, r.c, rfl⟩
  · exact ⟨_, r.g, rfl⟩
theorem sd_startM {K : PySem.W.Frag} {H : Hp} {n0 : Str} {N : List Str} {p : P3} {M : DrawSt} {vs : List V} {ds : List D} (R : Reg H p M) (h : Rps K none (outH H p) ds vs) (hl : ds.length ≤ N.length) :
    SD K ⟨outH H p, fun _ => none, fun _ => .non⟩ (outH H p) H (L2.start (n0 :: N) (.ref p.1 :: vs)) (.mm p M :: envOf N.length ds) := by
  have hv := h.length
  have e0 : L2.start (n0 :: N) (V.ref p.1 :: vs) = some (V.ref p.1) :: L2.start N vs := by
    unfold L2.start
    simp
  rw [e0]
  refine ⟨?_, Same.refl _, outH_sub, fun a o e => (nomatch e), fun a o e i => ?_, fun i => if i = 0 then [p.1, p.2.1, p.2.2] else [], fun i s e => ?_, fun i a m => ?_, fun i j a m1 m2 => ?_, fun i hi => ?_, fun i a m => rfl⟩
  · rw [List.length_cons, List.length_cons, start_len (by omega)]
    unfold envOf
    simp
    omega
  · by_cases z : inR p a
    · obtain ⟨u, q, i'⟩ := R.there z
      rw [e] at q; cases q
      rw [i] at i'; cases i'
    · rw [outH_out z]; exact e
  · cases i with
    | zero =>
      cases e
      exact ⟨rfl, R.n1, R.n2, R.n3, rfl, R.m, R.c, R.g⟩
    | succ i =>
      rw [List.getElem?_cons_succ] at e
      rw [if_neg (Nat.succ_ne_zero i), List.getElem?_cons_succ]
      unfold envOf at e
      by_cases z : i < ds.length
      · rw [List.getElem?_append_left (by simpa using z), List.getElem?_map] at e
        obtain ⟨d, e1, e2⟩ := Option.map_eq_some_iff.mp e
        subst e2
        obtain ⟨v, e3, e4⟩ := h.get e1
        refine ⟨rfl, v, ?_, e4⟩
        unfold L2.start
        rw [List.getElem?_append_left (by simp; omega), List.getElem?_map, e3]
        rfl
      · rw [List.getElem?_append_right (by simp; omega), List.getElem?_replicate] at e
        split at e
        · cases e; rfl
        · cases e
  · split at m
    · exact outH_in (inR_mem.mp m)
    · cases m
  · split at m1
    · split at m2
      · omega
      · cases m2
    · cases m1
  · rw [List.length_cons] at hi
    rw [if_neg (by omega)]
section
variable {P : Program} {w : World} {K : PySem.W.Frag} {mg : Str → Option Value} {base : Heap} {x qual : Str} {params : Arguments} {body : List Stmt} {scope : Scope} {f : Addr} {fd : FuncData} {N ps : List Str} {n0 p0 : Str} {k : Nat} {fb : FS}
theorem rt_reg {B : Bs} {H0 H : Hp} {σ : L2.St} {ρ : Env} {p : P3} {M : DrawSt} (S : SD K B H0 H σ ρ) (e : ρ[0]? = some (.mm p M)) : Reg H p M ∧ ∀ a, inR p a → H0 a = none := by
  obtain ⟨O, w⟩ := S.own
  obtain ⟨e0, n1, n2, n3, _, e2, e3, e4⟩ := w.ok 0 _ e
  exact ⟨⟨n1, n2, n3, e2, e3, e4⟩, fun a h => w.non 0 a (by rw [e0]; exact inR_mem.mpr h)⟩
theorem rp_reg {H H0 H' : Hp} {p : P3} {d : D} {v : V} (hn : ∀ a, inR p a → H0 a = none) (s : Same H0 H') (h : Rp K (some (outH H p)) H0 d v) : Rp K (some H) H' d v :=
  h.shift (fun a xs q => sqT_mono s q) fun a xs n q => ⟨by
    rw [outH_out (fun z => by rw [hn a z] at q; cases q)] at n
    exact n, s _ _ q⟩
/-- THE RULE for a def that draws -/
theorem fn_M (F : FunD K x qual params body scope [] [] f fd) (S : FnScope (n0 :: N) (p0 :: ps) scope)
    (hb : ∀ (cdv : Value) (A : Around) (outer : List PySem.Env) (s : Shared) (H : Hp) (E : XK), Room k (A.deeper (envOfC qual scope s.heap.objs.size f cdv)) →
      DSs (cxOf (L2.CX P w) P w K mg base (n0 :: N) qual scope f cdv A outer s H E) (fun cls d _ H => E cls d H) body fb) : FnOk P w K mg base (L2.CX P w) (k + 1) f fd (p0 :: ps) (spM K ps.length (runM N.length fb)) := by
  refine F.ok S (fun vs H Q E ⟨p, M, ds, d, M', rest, h0, _, h1, h2, _⟩ => by rw [h0, List.length_cons, h1.length, h2, List.length_cons]) fun cdv A outer s H vs Q E hr ⟨p, M, ds, d, M', rest, h0, R, h1, h2, h3, h4⟩ => ⟨_, hb cdv A outer s H E hr, ?_⟩
  subst h0
  obtain ⟨out, e1, e2⟩ := ob h3
  have hle : ps.length ≤ N.length := by
    have := fs_le S
    simpa using this
  refine ⟨⟨outH H p, fun _ => none, fun _ => .non⟩, outH H p, .mm p M :: envOf N.length ds, out, sd_startM R h1 (by rw [h2]; exact hle), e1, ?_⟩
  have fin : ∀ {ρ : Env} {σ : L2.St} {H0' H' : Hp} {q : P3} {M2 : DrawSt} {v : V}, ρ[0]? = some (.mm q M2) → q = p → M2 = M' → Same (outH H p) H0' → SD K ⟨outH H p, fun _ => none, fun _ => .non⟩ H0' H' σ ρ → Rp K (some (outH H p)) H0' d v → Q v H' := fun {ρ σ H0' H' q M2 v} e eq eM s S' R' => by
    subst eq eM
    obtain ⟨R2, hn⟩ := rt_reg S' e
    exact h4 v H' (fun a o na ho => S'.sub a o (s a o (by rw [outH_out na]; exact ho))) R2 (rp_reg hn S'.sub R')
  cases out with
  | nx ρ =>
    replace e2 : (match ρ[0]? with
      | some (Sc.Slot.mm q M) => if q = p then some (D.non, M) else none
      | _ => none) = some (d, M') := e2
    split at e2
    · rename_i q M2 e
      split at e2
      · rename_i z
        cases e2
        exact fun σ H0' H' s' S' => fin e z rfl s' S' rfl
      · cases e2
    · cases e2
  | rt d2 ρ =>
    replace e2 : (match ρ[0]? with
      | some (Sc.Slot.mm q M) => if q = p then some (d2, M) else none
      | _ => none) = some (d, M') := e2
    split at e2
    · rename_i q M2 e
      split at e2
      · rename_i z
        cases e2
        exact fun v σ H0' H' s' S' R => fin e z rfl s' S' R
      · cases e2
    · cases e2
  | _ => cases e2
end
/-- a call that draws: the state stands in slot j -/
def isMm : Option Slot → Bool
  | some (.mm _ _) => true
  | _ => false
theorem isMm_iff {s : Option Slot} (h : isMm s = true) : ∃ p M, s = some (.mm p M) := by
  cases s with
  | none => cases h
  | some s => cases s <;> cases h; exact ⟨_, _, rfl⟩
def cmF (j n : Nat) (F : MF) (fs : List ED) : ED := fun ρ => if isMm ρ[j]? then (argsF fs ρ).bind fun p => (views p.2 p.1).bind fun ps => match p.2[j]? with
  | some (.mm q M) => if ps.length = n then (F q M (ps.map (·.2))).map fun r => (.fz r.1, p.2.set j (.mm q r.2)) else none
  | _ => none else none
section
variable {K : PySem.W.Frag} {B : Bs} {H0 H H' : Hp} {σ : L2.St} {ρ : Env} {d : D} {v : V} {j : Nat} {p : P3} {M M' : DrawSt}
theorem SD.mmAt (S : SD K B H0 H σ ρ) (e : ρ[j]? = some (.mm p M)) : σ[j]? = some (some (.ref p.1)) ∧ Reg H p M ∧ (∀ a, inR p a → H0 a = none) := by
  obtain ⟨O, w⟩ := S.own
  obtain ⟨e0, n1, n2, n3, e1, e2, e3, e4⟩ := w.ok j _ e
  exact ⟨join_some e1, ⟨n1, n2, n3, e2, e3, e4⟩, fun a h => w.non j a (by rw [e0]; exact inR_mem.mpr h)⟩
theorem SD.stepM (S : SD K B H0 H σ ρ) (e : ρ[j]? = some (.mm p M)) (k : ∀ a o, ¬ inR p a → H a = some o → H' a = some o) (R : Reg H' p M') : SD K B (fzn H0 H H') H' σ (ρ.set j (.mm p M')) := by
  obtain ⟨O, w⟩ := S.own
  obtain ⟨e0, n1, n2, n3, e1, e2, e3, e4⟩ := w.ok j _ e
  have hj : j < ρ.length := (List.getElem?_eq_some_iff.mp e).1
  have own : ∀ a, inR p a → a ∈ O j := fun a h => by rw [e0]; exact inR_mem.mpr h
  refine S.step w (ρ' := ρ.set j (.mm p M')) (inR p) (by simp) k (fun a o c q => ?_) (fun a c => w.non j a (own a c)) (fun a c => w.tmp j a (own a c)) fun i s' q => ?_
  · obtain ⟨u, q', i⟩ := R.there c
    rw [q] at q'; cases q'; exact i
  · by_cases z : i = j
    · subst z
      rw [List.getElem?_set_self hj] at q
      cases q
      exact .inr ⟨e0, n1, n2, n3, e1, R.m, R.c, R.g⟩
    · rw [List.getElem?_set_ne (Ne.symm z)] at q
      exact .inl ⟨q, fun a m c => z (w.inj i j a m (own a c))⟩
theorem SD.resM (S : SD K B H0 H σ ρ) (e : ρ[j]? = some (.mm p M)) (k : ∀ a o, ¬ inR p a → H a = some o → H' a = some o) (R : Reg H' p M') (h : Rp K (some H) H' d v) : Rp K (some B.b) (fzn H0 H H') d v := by
  have S' := S.stepM e k R
  refine h.shift (fun a xs q => S'.tupF q) fun a xs n q => ?_
  have n0 := S.none_of n
  exact ⟨S.bir.free n0, by rw [fzn_new n0 n]; exact q⟩
end
theorem rs_out {K : PySem.W.Frag} {B : Bs} {H0 H : Hp} {σ : L2.St} {ρ : Env} {d : D} {v : V} {j : Nat} {q : P3} {M : DrawSt} {r : Res} {fr : Bool} (S : SD K B H0 H σ ρ) (z : ρ[j]? = some (.mm q M)) (R : RS K B H0 H σ ρ r v) (n : isHeld r = true) (e : view ρ r = some (fr, d)) : Rp K none (outH H q) d v := by
  have s2 : Same H0 (outH H q) := fun a o ho => by
    rw [outH_out (fun z2 => by rw [(S.mmAt z).2.2 a z2] at ho; cases ho)]
    exact S.sub a o ho
  cases r with
  | fz d' => cases e; exact (Rp.mono s2 (show Rp K (some B.b) H0 d v from R)).weak
  | ar d' => cases e; exact Rp.mono s2 (show Rp K none H0 d v from R)
  | nw ds => cases n
  | nd kvs => cases n
  | nt kvs => cases n
  | no c fs => cases n
  | ow i =>
    replace e : (match ρ[i]? with | some (.ow ds) => some (true, D.lst ds) | _ => none) = some (fr, d) := e
    split at e
    · rename_i ds qi
      cases e
      obtain ⟨O, w⟩ := S.own
      obtain ⟨a, vs, e0, e1, e2, e3⟩ := w.ok i _ qi
      obtain ⟨f0, _⟩ := w.ok j _ z
      have h' : σ[i]? = some (some v) := R
      rw [h'] at e1
      cases e1
      have na : ¬ inR q a := fun c => by
        have := w.inj i j a (by rw [e0]; simp) (by rw [f0]; exact inR_mem.mpr c)
        subst this
        rw [z] at qi
        cases qi
      exact ⟨a, vs, rfl, SqL.of (by rw [outH_out na]; exact e2), (e3.mono s2).weak⟩
    · cases e
theorem rs_outs {K : PySem.W.Frag} {B : Bs} {H0 H : Hp} {σ : L2.St} {ρ : Env} {j : Nat} {q : P3} {M : DrawSt} (S : SD K B H0 H σ ρ) (z : ρ[j]? = some (.mm q M)) : ∀ {rs : List Res} {vs : List V} {ps : List (Bool × D)}, RSs K B H0 H σ ρ rs vs → views ρ rs = some ps → Rps K none (outH H q) (ps.map (·.2)) vs
  | [], _, _, h, e => by cases e; exact h
  | r :: rs, _, _, h, e => by
    obtain ⟨v, ws, rfl, h1, n1, h3⟩ := h
    obtain ⟨p, e1, e2⟩ := ob e
    obtain ⟨ps, e3, e4⟩ := Option.map_eq_some_iff.mp e2
    cases e4
    exact ⟨v, ws, rfl, rs_out S z h1 n1 e1, rs_outs S z h3 e3⟩
section
variable {X : Cx} {k : Nat} {x y p0 : Str} {ps : List Str} {n : Nat} {F : MF} {fs : List ED} {es : List Expr} {p pm pos : Pos}
theorem de_callM (j : Nat) (C : Cal X.prog X.w X.K X.mg X.base k x (p0 :: ps) (spM X.K n F)) (hr : Room k X.A) (ha : DA X es fs) (hN : X.N[j]? = some y := by rfl) (hv : Vis X.env.scope y := by first | exact Or.inl rfl | exact Or.inr (Or.inl rfl) | exact Or.inr (Or.inr rfl)) (hd : (y == ("__debug__" : Str)) = false := by decide)
    (hcd : (y == ("__classdict__" : Str)) = false := by decide) (hg : Gl X x := by rfl) (hdb : (x == ("__debug__" : Str)) = false := by decide)
    (he : starEach (.Name y pm :: es) X.env = (false, eval (.Name y pm) X.env) :: starEach es X.env := by rfl) (hpl : (backTo pos (starEach es X.env)).any (·.1) = false := by rfl) : DE X (.Call (.Name x p) (.Name y pm :: es) [] pos) (cmF j n F fs) := by
  obtain ⟨fd, Fn, b⟩ := C.ex
  refine pe_imp (pe_call Fn hr hg C.gl C.kp b .nil passL (pa_cons (pe_var (i := j) hN hv hd hcd) ha he) hdb he hpl) ?_
  rintro σ H Q ⟨B, H0, ρ, r, ρ', S, e, kk⟩
  unfold cmF at e
  split at e
  · rename_i z0
    obtain ⟨q0, M0, z0⟩ := isMm_iff z0
    obtain ⟨ev, _, _⟩ := S.mmAt z0
    obtain ⟨⟨rs, ρ1⟩, e1, e⟩ := ob e
    obtain ⟨ps2, e2, e⟩ := ob e
    replace e : (match ρ1[j]? with
      | some (.mm q M) => if ps2.length = n then (F q M (ps2.map (·.2))).map fun r => (Res.fz r.1, ρ1.set j (.mm q r.2)) else none
      | _ => none) = some (r, ρ') := e
    split at e
    · rename_i q M z
      split at e
      · rename_i hn
        obtain ⟨⟨d, M'⟩, e3, e4⟩ := Option.map_eq_some_iff.mp e
        cases e4
        refine ⟨_, ev, B, H0, ρ, rs, ρ1, S, e1, fun vs H1 Ha s1 S1 R1 => ?_⟩
        obtain ⟨ev1, Rg, hn0⟩ := S1.mmAt z
        rw [ev] at ev1
        have eq1 : q0.1 = q.1 := by
          have := Option.some.inj (Option.some.inj ev1)
          exact V.ref.inj this
        show spM X.K n F ((V.ref q0.1 :: vs) ++ []) Ha Q E0
        rw [List.append_nil, eq1]
        have hr0 : Rps X.K none (outH Ha q) (ps2.map (·.2)) vs := rs_outs S1 z R1 e2
        refine ⟨q, M, _, d, M', vs, rfl, Rg, hr0, by rw [List.length_map]; exact hn, e3, fun v H' k1 R' h' => ?_⟩
        exact kk v _ H' (s1.trans fzn_same) (S1.stepM z k1 R') (S1.resM z k1 R' h')
      · cases e
    · cases e
  · cases e
end
end Sc
set_option maxRecDepth 100000
set_option maxHeartbeats 2000000
namespace Sc
open PySem PySem.Spec PyProof.Rows L2
/-! ### constants of the module, read off the fragment -/
mutual
def isD (K : PySem.W.Frag) : D → Value → Bool
  | .non, v => decide (v = .none)
  | .bl b, v => decide (v = .bool b)
  | .int i, v => match v with
    | .int j _ => decide (i = j)
    | _ => false
  | .str x, v => match v with
    | .str y _ => decide (x = y)
    | _ => false
  | .tup ds, v => match v with
    | .ref a => match K.lookup a with
      | some ⟨.type c, _, .seq its _, _⟩ => decide (c = "tuple") && (decide (its.size ≤ 1000) && isDs K ds its.toList)
      | _ => false
    | _ => false
  | .lst _, _ => false
def isDs (K : PySem.W.Frag) : List D → List Value → Bool
  | [], [] => true
  | d :: ds, v :: vs => isD K d v && isDs K ds vs
  | _, _ => false
end
mutual
theorem isD_ok {K : PySem.W.Frag} : ∀ {d : D} {v : Value}, isD K d v = true → ∃ x, RelV x v ∧ ∀ b H, Rp K b H d x
  | .non, v, h => by
    rw [isD, decide_eq_true_eq] at h
    exact ⟨.non, h, fun _ _ => rfl⟩
  | .bl b, v, h => by
    rw [isD, decide_eq_true_eq] at h
    exact ⟨.bl b, h, fun _ _ => rfl⟩
  | .int i, v, h => by
    cases v with
    | int j t =>
      have e : i = j := by simpa [isD] using h
      subst e
      exact ⟨.int i, ⟨_, rfl⟩, fun _ _ => rfl⟩
    | _ => simp [isD] at h
  | .str i, v, h => by
    cases v with
    | str j t =>
      have e : i = j := by simpa [isD] using h
      subst e
      exact ⟨.str i, ⟨_, rfl⟩, fun _ _ => rfl⟩
    | _ => simp [isD] at h
  | .tup ds, v, h => by
    cases v with
    | ref a =>
      rw [isD] at h
      replace h : (match K.lookup a with
        | some ⟨.type c, _, .seq its _, _⟩ => decide (c = "tuple") && (decide (its.size ≤ 1000) && isDs K ds its.toList)
        | _ => false) = true := h
      split at h
      · rename_i c od its n sl q
        rw [Bool.and_eq_true, Bool.and_eq_true, decide_eq_true_eq, decide_eq_true_eq] at h
        obtain ⟨rfl, hz, hd⟩ := h
        obtain ⟨xs, r, hx⟩ := isDs_ok hd
        exact ⟨.ref a, rfl, fun b H => ⟨a, xs, rfl, .inr ⟨_, its, n, q, rfl, rfl, Nat.le_of_lt (small1000 hz), r⟩, hx b H⟩⟩
      · cases h
    | _ => simp [isD] at h
  | .lst _, v, h => by simp [isD] at h
theorem isDs_ok {K : PySem.W.Frag} : ∀ {ds : List D} {vs : List Value}, isDs K ds vs = true → ∃ xs, Vals xs vs ∧ ∀ b H, Rps K b H ds xs
  | [], [], _ => ⟨[], .nil, fun _ _ => rfl⟩
  | [], _ :: _, h => by simp [isDs] at h
  | _ :: _, [], h => by simp [isDs] at h
  | d :: ds, v :: vs, h => by
    rw [isDs, Bool.and_eq_true] at h
    obtain ⟨x, r, hx⟩ := isD_ok h.1
    obtain ⟨xs, rs, hxs⟩ := isDs_ok h.2
    exact ⟨x :: xs, .cons r rs, fun b H => ⟨x, xs, rfl, hx b H, hxs b H⟩⟩
end
/-- the module's name x holds d -/
def cstB (K : PySem.W.Frag) (x : Str) (d : D) : Bool := match PySem.W.nsIn K mainGlobals x with
  | some (some v) => isD K d v
  | _ => false
/-- .. in the names that a body sees -/
structure Cst (K : PySem.W.Frag) (mg : Str → Option Value) (x : Str) (d : D) : Prop where
  ex : ∃ v u, mg x = some v ∧ RelV u v ∧ ∀ b H, Rp K b H d u
theorem cst_ok {K : PySem.W.Frag} {h : Heap} {mg : Str → Option Value} (X : K.In h) (G : h.Ns mainGlobals mg) {x : Str} {d : D} (c : cstB K x d = true) : Cst K mg x d := by
  unfold cstB at c
  split at c
  · rename_i v q
    obtain ⟨u, r, hr⟩ := isD_ok c
    exact ⟨v, u, PySem.W.mg_of X G q, r, hr⟩
  · cases c
theorem de_cst {X : Cx} {x : Str} {d : D} {pos : Pos} (c : Cst X.K X.mg x d) (hg : Gl X x := by rfl) (hd : (x == ("__debug__" : Str)) = false := by decide) : DE X (.Name x pos) (kF d) := by
  obtain ⟨v, u, hm, r, hr⟩ := c.ex
  exact de_glob hg hm r (fun B H0 => hr _ H0) hd
/-! ### the head's hook: facts, defs, one more Bool -/
abbrev AlE : Type := He.AlD × Bool
def obsE (n : Nat) (fa : List He.Fa) (fn : List He.DefD) (ex : PySem.W.Frag → Bool) (g : Addr → Option Obj) : AlE := (He.obsDG n fa fn g, ex (He.frG g (He.asD g n)))
structure SaysE (fa : List He.Fa) (fn : List He.DefD) (ex : PySem.W.Frag → Bool) (K : PySem.W.Frag) : Prop where
  d : He.SaysD fa fn K
  more : ex K = true
def hookE (n : Nat) (fa : List He.Fa) (fn : List He.DefD) (ex : PySem.W.Frag → Bool) : PySem.W.Hook where
  α := AlE
  obs := fun s => obsE n fa fn ex s.heap.get?
  val := fun _ => (He.valD fn, true)
  says := fun _ h => ∃ K : PySem.W.Frag, K.In h ∧ SaysE fa fn ex K
  of := fun _ _ e => ⟨_, He.frG_in, ⟨congrArg (fun z : AlE => z.1) e, congrArg (fun z : AlE => z.2) e⟩⟩
  keeps := fun _ _ _ ⟨K, hK, c⟩ k => ⟨K, PySem.W.Frag.In.keeps hK k, c⟩
theorem obsE_eq {n : Nat} {fa : List He.Fa} {fn : List He.DefD} {ex : PySem.W.Frag → Bool} {g : Addr → Option Obj} {s : Shared} (h : ∀ a, g a = s.heap.get? a) : obsE n fa fn ex g = (hookE n fa fn ex).obs s := by
  have e : g = s.heap.get? := funext h
  rw [e] <;> rfl
end Sc
set_option maxRecDepth 100000
set_option maxHeartbeats 2000000
namespace Sc
open PySem PySem.Spec PyProof.Rows L2
section
variable {X : Cx} {W : WX} {a b c e : Expr} {f g h : ED} {pos p p2 : Pos} {x y z : Str}
theorem da_1 (ha : DE X a f) (hs : starEach (a :: []) X.env = (false, eval a X.env) :: starEach [] X.env := by rfl) : DA X [a] [f] := da_cons ha da_nil hs
theorem da_2 (ha : DE X a f) (hb : DE X b g) (hs : starEach (a :: [b]) X.env = (false, eval a X.env) :: starEach [b] X.env := by rfl) (hs2 : starEach (b :: []) X.env = (false, eval b X.env) :: starEach [] X.env := by rfl) : DA X [a, b] [f, g] := da_cons ha (da_1 hb hs2) hs
theorem de_len (hm : X.mg "len" = none) (ha : DE X a f) (hg : Gl X "len" := by rfl) (hs : starEach (a :: []) X.env = (false, eval a X.env) :: starEach [] X.env := by rfl) (hpl : (backTo pos (starEach ([] : List Expr) X.env)).any (·.1) = false := by rfl) : DE X (.Call (.Name "len" p) [a] [] pos) (callF [f] oLen) :=
  de_callB call_len_seq cd_len hm (by decide +kernel) (da_1 ha hs) hg (by decide) (by decide) hs hpl
theorem de_tuple (hm : X.mg "tuple" = none) (ha : DE X a f) (hg : Gl X "tuple" := by rfl) (hs : starEach (a :: []) X.env = (false, eval a X.env) :: starEach [] X.env := by rfl) (hpl : (backTo pos (starEach ([] : List Expr) X.env)).any (·.1) = false := by rfl) : DE X (.Call (.Name "tuple" p) [a] [] pos) (callF [f] oTuple) :=
  de_callTy call_tuple_of cd_tuple hm (by decide +kernel) (da_1 ha hs) hg (by decide) (by decide) hs hpl
theorem de_list (hm : X.mg "list" = none) (ha : DE X a f) (hg : Gl X "list" := by rfl) (hs : starEach (a :: []) X.env = (false, eval a X.env) :: starEach [] X.env := by rfl) (hpl : (backTo pos (starEach ([] : List Expr) X.env)).any (·.1) = false := by rfl) : DE X (.Call (.Name "list" p) [a] [] pos) (callF [f] oList) :=
  de_callTy call_list_of cd_list hm (by decide +kernel) (da_1 ha hs) hg (by decide) (by decide) hs hpl
theorem de_int1 (hm : X.mg "int" = none) (ha : DE X a f) (hg : Gl X "int" := by rfl) (hs : starEach (a :: []) X.env = (false, eval a X.env) :: starEach [] X.env := by rfl) (hpl : (backTo pos (starEach ([] : List Expr) X.env)).any (·.1) = false := by rfl) : DE X (.Call (.Name "int" p) [a] [] pos) (callF [f] oInt) :=
  de_callTy call_int1 cd_int hm (by decide +kernel) (da_1 ha hs) hg (by decide) (by decide) hs hpl
theorem de_sum (hc : X.calm = true) (hm : X.mg "sum" = none) (ha : DE X a f) (hg : Gl X "sum" := by rfl) (hs : starEach (a :: []) X.env = (false, eval a X.env) :: starEach [] X.env := by rfl) (hpl : (backTo pos (starEach ([] : List Expr) X.env)).any (·.1) = false := by rfl) : DE X (.Call (.Name "sum" p) [a] [] pos) (callF [f] oSum) :=
  de_callB (cr_sum hc) cd_sum hm (by decide +kernel) (da_1 ha hs) hg (by decide) (by decide) hs hpl
theorem de_all (hc : X.calm = true) (hm : X.mg "all" = none) (ha : DE X a f) (hg : Gl X "all" := by rfl) (hs : starEach (a :: []) X.env = (false, eval a X.env) :: starEach [] X.env := by rfl) (hpl : (backTo pos (starEach ([] : List Expr) X.env)).any (·.1) = false := by rfl) : DE X (.Call (.Name "all" p) [a] [] pos) (callF [f] oAll) :=
  de_callB (cr_all hc) cd_all hm (by decide +kernel) (da_1 ha hs) hg (by decide) (by decide) hs hpl
theorem de_any (hc : X.calm = true) (hm : X.mg "any" = none) (ha : DE X a f) (hg : Gl X "any" := by rfl) (hs : starEach (a :: []) X.env = (false, eval a X.env) :: starEach [] X.env := by rfl) (hpl : (backTo pos (starEach ([] : List Expr) X.env)).any (·.1) = false := by rfl) : DE X (.Call (.Name "any" p) [a] [] pos) (callF [f] oAny) :=
  de_callB (cr_any hc) cd_any hm (by decide +kernel) (da_1 ha hs) hg (by decide) (by decide) hs hpl
theorem de_max1 (hc : X.calm = true) (hm : X.mg "max" = none) (ha : DE X a f) (hg : Gl X "max" := by rfl) (hs : starEach (a :: []) X.env = (false, eval a X.env) :: starEach [] X.env := by rfl) (hpl : (backTo pos (starEach ([] : List Expr) X.env)).any (·.1) = false := by rfl) : DE X (.Call (.Name "max" p) [a] [] pos) (callF [f] oMax) :=
  de_callB (.or (cr_max hc) (call_max2 hc)) cd_max hm (by decide +kernel) (da_1 ha hs) hg (by decide) (by decide) hs hpl
theorem de_max2 (hc : X.calm = true) (hm : X.mg "max" = none) (ha : DE X a f) (hb : DE X b g) (hg : Gl X "max" := by rfl) (hs : starEach (a :: [b]) X.env = (false, eval a X.env) :: starEach [b] X.env := by rfl) (hs2 : starEach (b :: []) X.env = (false, eval b X.env) :: starEach [] X.env := by rfl) (hpl : (backTo pos (starEach [b] X.env)).any (·.1) = false := by rfl) : DE X (.Call (.Name "max" p) [a, b] [] pos) (callF [f, g] oMax) :=
  de_callB (.or (cr_max hc) (call_max2 hc)) cd_max hm (by decide +kernel) (da_2 ha hb hs hs2) hg (by decide) (by decide) hs hpl
/-- a, b = x, y where a name is a cell: the pair is made, then taken apart -/
theorem SD.pass {K : PySem.W.Frag} {B : Bs} {H0 H : Hp} {σ : L2.St} {ρ : Env} {vs : List V} {q : Addr} (S : SD K B H0 H σ ρ) (hq : H q = none) : SD K B (fzn H0 H (upd H q (.tup vs))) (upd H q (.tup vs)) σ ρ := S.grow fun a o e => by rw [upd_ne (ne_of_none e hq)]; exact e
theorem ds_parT {i j : Nat} {px py pt : Pos} {kt k2 pt2} (hc : X.calm = true) (hN : X.N.Nodup) (hi : X.N[i]? = some x) (hj : X.N[j]? = some y) (hij : i ≠ j)
    (hx : PG X (.Name x px) (gName i)) (hy : PG X (.Name y py) (gName j)) (ha : DE X a f) (hb : DE X b g)
    (hw : swappedStores [.Tuple [.Name x px, .Name y py] kt pt] (.Tuple [a, b] k2 pt2) X.env = pure none := by rfl)
    (h1 : starEach (a :: [b]) X.env = (false, eval a X.env) :: starEach [b] X.env := by rfl) (h2 : starEach (b :: []) X.env = (false, eval b X.env) :: starEach [] X.env := by rfl)
    (hs : swapsWithSole [.Tuple [.Name x px, .Name y py] kt pt] (.Tuple [a, b] k2 pt2) pos.line X.env = pure false := by rfl)
    (h3 : (assignEach [.Tuple [.Name x px, .Name y py] kt pt] X.env).map (·.2) = [assign (.Tuple [.Name x px, .Name y py] kt pt) X.env] := by rfl)
    (h4 : (assignEach [.Name x px, .Name y py] X.env).map (·.2) = assign (.Name x px) X.env :: (assignEach [.Name y py] X.env).map (·.2) := by rfl)
    (h5 : (assignEach [.Name y py] X.env).map (·.2) = assign (.Name y py) X.env :: (assignEach [] X.env).map (·.2) := by rfl)
    (h6 : (assignEach [.Name x px, .Name y py] X.env).length = 2 := by rfl) (h7 : (assignEach [.Name x px, .Name y py] X.env).findIdx? (·.1) = none := by rfl) :
    DS X W (.Assign [.Tuple [.Name x px, .Name y py] kt pt] (.Tuple [a, b] k2 pt2) pos) (par2 i j f g) := by
  refine ps_imp (ps_asg (pe_tup (pa_cons ha (pa_cons hb pa_nil h2) h1)) (pg_tup (n := 2) hc (pgs_cons hx (pgs_cons hy pgs_nil h5) h4) h6 h7) hs hw h3) fun Dn σ H ⟨B, H0, ρ, out, S, e, k⟩ => ?_
  obtain ⟨⟨r1, ρ1⟩, e1, e⟩ := ob e
  obtain ⟨⟨r2, ρ2⟩, e2, e⟩ := ob e
  obtain ⟨ρ3, e3, e⟩ := ob e
  obtain ⟨ρ4, e4, e5⟩ := Option.map_eq_some_iff.mp e
  cases e5
  refine kp_red S e1 fun v H1 Ha s1 S1 R1 n1 => ?_
  obtain ⟨B1, b1, S1', back1⟩ := S1.keep R1 n1
  refine kp_red S1' e2 fun w H2 Hb s2 S2 R2 n2 => ?_
  obtain ⟨B2, b2, S2', back2⟩ := S2.keep R2 n2
  refine ⟨by show 2 ≤ sizeLine; decide, fun q hq => ⟨q, [v, w], rfl, SqT.of upd_same, rfl, v, [w], rfl, w, [], rfl, rfl, ?_⟩⟩
  have St := S2'.pass (vs := [v, w]) hq
  obtain ⟨S2t, R2t⟩ := back2 _ _ _ _ fzn_same St
  obtain ⟨H3, s3, S3⟩ := S2t.put R2t e3
  obtain ⟨S3', R3⟩ := back1 H3 _ _ _ ((s2.trans fzn_same).trans s3) S3
  obtain ⟨H4, s4, S4⟩ := S3'.put R3 e4
  rw [List.set_comm _ _ hij]
  exact k _ H4 _ ((((s1.trans s2).trans fzn_same).trans s3).trans s4) S4
theorem ds_parT3 {i j l : Nat} {px py pz pt : Pos} {kt k2 pt2} (hc : X.calm = true) (hN : X.N.Nodup) (hi : X.N[i]? = some x) (hj : X.N[j]? = some y) (hl : X.N[l]? = some z) (hij : i ≠ j) (hil : i ≠ l) (hjl : j ≠ l)
    (hx : PG X (.Name x px) (gName i)) (hy : PG X (.Name y py) (gName j)) (hz : PG X (.Name z pz) (gName l)) (ha : DE X a f) (hb : DE X b g) (hh : DE X c h)
    (hw : swappedStores [.Tuple [.Name x px, .Name y py, .Name z pz] kt pt] (.Tuple [a, b, c] k2 pt2) X.env = pure none := by rfl)
    (h1 : starEach (a :: [b, c]) X.env = (false, eval a X.env) :: starEach [b, c] X.env := by rfl) (h2 : starEach (b :: [c]) X.env = (false, eval b X.env) :: starEach [c] X.env := by rfl) (h2' : starEach (c :: []) X.env = (false, eval c X.env) :: starEach [] X.env := by rfl)
    (hs : swapsWithSole [.Tuple [.Name x px, .Name y py, .Name z pz] kt pt] (.Tuple [a, b, c] k2 pt2) pos.line X.env = pure false := by rfl)
    (h3 : (assignEach [.Tuple [.Name x px, .Name y py, .Name z pz] kt pt] X.env).map (·.2) = [assign (.Tuple [.Name x px, .Name y py, .Name z pz] kt pt) X.env] := by rfl)
    (h4 : (assignEach [.Name x px, .Name y py, .Name z pz] X.env).map (·.2) = assign (.Name x px) X.env :: (assignEach [.Name y py, .Name z pz] X.env).map (·.2) := by rfl)
    (h5 : (assignEach [.Name y py, .Name z pz] X.env).map (·.2) = assign (.Name y py) X.env :: (assignEach [.Name z pz] X.env).map (·.2) := by rfl)
    (h5' : (assignEach [.Name z pz] X.env).map (·.2) = assign (.Name z pz) X.env :: (assignEach [] X.env).map (·.2) := by rfl)
    (h6 : (assignEach [.Name x px, .Name y py, .Name z pz] X.env).length = 3 := by rfl) (h7 : (assignEach [.Name x px, .Name y py, .Name z pz] X.env).findIdx? (·.1) = none := by rfl) :
    DS X W (.Assign [.Tuple [.Name x px, .Name y py, .Name z pz] kt pt] (.Tuple [a, b, c] k2 pt2) pos) (par3 i j l f g h) := by
  refine ps_imp (ps_asg (pe_tup (pa_cons ha (pa_cons hb (pa_cons hh pa_nil h2') h2) h1)) (pg_tup (n := 3) hc (pgs_cons hx (pgs_cons hy (pgs_cons hz pgs_nil h5') h5) h4) h6 h7) hs hw h3) fun Dn σ H ⟨B, H0, ρ, out, S, e, k⟩ => ?_
  obtain ⟨⟨r1, ρ1⟩, e1, e⟩ := ob e
  obtain ⟨⟨r2, ρ2⟩, e2, e⟩ := ob e
  obtain ⟨⟨r3, ρ3⟩, e3, e⟩ := ob e
  obtain ⟨ρ4, e4, e⟩ := ob e
  obtain ⟨ρ5, e5, e⟩ := ob e
  obtain ⟨ρ6, e6, e7⟩ := Option.map_eq_some_iff.mp e
  cases e7
  refine kp_red S e1 fun v H1 Ha s1 S1 R1 n1 => ?_
  obtain ⟨B1, b1, S1', back1⟩ := S1.keep R1 n1
  refine kp_red S1' e2 fun w H2 Hb s2 S2 R2 n2 => ?_
  obtain ⟨B2, b2, S2', back2⟩ := S2.keep R2 n2
  refine kp_red S2' e3 fun u H3 Hc s3 S3 R3 n3 => ?_
  obtain ⟨B3, b3, S3', back3⟩ := S3.keep R3 n3
  refine ⟨by show 3 ≤ sizeLine; decide, fun q hq => ⟨q, [v, w, u], rfl, SqT.of upd_same, rfl, v, [w, u], rfl, w, [u], rfl, u, [], rfl, rfl, ?_⟩⟩
  have St := S3'.pass (vs := [v, w, u]) hq
  obtain ⟨S3t, R3t⟩ := back3 _ _ _ _ fzn_same St
  obtain ⟨H4, s4, S4⟩ := S3t.put R3t e4
  obtain ⟨S4', R4⟩ := back2 H4 _ _ _ ((s3.trans fzn_same).trans s4) S4
  obtain ⟨H5, s5, S5⟩ := S4'.put R4 e5
  obtain ⟨S5', R5⟩ := back1 H5 _ _ _ ((s2.trans ((s3.trans fzn_same).trans s4)).trans s5) S5
  obtain ⟨H6, s6, S6⟩ := S5'.put R5 e6
  rw [show ((σ.set i (some v)).set j (some w)).set l (some u) = ((σ.set l (some u)).set j (some w)).set i (some v) by
    rw [List.set_comm _ _ hij, List.set_comm (some v) (some u) hil, List.set_comm _ _ hjl]]
  exact k _ H6 _ ((((((s1.trans s2).trans s3).trans fzn_same).trans s4).trans s5).trans s6) S6
end
end Sc
set_option maxRecDepth 100000
set_option maxHeartbeats 2000000
namespace Sc
open PySem PySem.Spec PyProof.Rows L2
/-! ### dicts made -/
def dnewF : ED := fun ρ => some (.nd [], ρ)
theorem SD.newDct {K : PySem.W.Frag} {B : Bs} {H0 H : Hp} {σ : L2.St} {ρ : Env} {p : Addr} (S : SD K B H0 H σ ρ) (hp : H p = none) :
    SD K B H0 (upd H p (.dK [])) σ ρ ∧ RS K B H0 (upd H p (.dK [])) σ ρ (.nd []) (.ref p) := by
  obtain ⟨O, w⟩ := S.own
  have n0 := S.none_of hp
  have e1 : ∀ a o, H a = some o → (upd H p (.dK [])) a = some o := fun a o q => by rw [upd_ne (ne_of_none q hp)]; exact q
  have w' : Own K B H0 (upd H p (.dK [])) σ ρ O := ⟨fun j s q => (w.ok j s q).frame (Same.refl _) fun a _ o q' => e1 a o q', w.non, w.inj, w.out, w.tmp⟩
  refine ⟨⟨S.len, S.bir, fun a o q => e1 a o (S.sub a o q), fun a o q => ⟨e1 a o (S.tmp a o q).1, (S.tmp a o q).2⟩, fun a o q i => ?_, O, w'⟩, O, p, [], w', fun i m => ?_, ?_, rfl, n0, upd_same, rfl⟩
  · by_cases z : a = p
    · subst z; rw [upd_same] at q; cases q; cases i
    · rw [upd_ne z] at q; exact S.imm a o q i
  · obtain ⟨o, q, _⟩ := w.there m
    rw [hp] at q; cases q
  · cases q : B.t p with
    | none => rfl
    | some o => rw [(S.tmp p o q).1] at hp; cases hp
section
variable {X : Cx} {W : WX} {a b c e : Expr} {f g h : ED} {pos p p2 : Pos} {x y z : Str}
theorem de_dnew : DE X (.Dict [] [] pos) dnewF := by
  refine pe_imp pe_dnewK fun σ H Q ⟨B, H0, ρ, r, ρ', S, e, k⟩ => ?_
  cases e
  intro q hq
  obtain ⟨S1, R1⟩ := S.newDct hq
  exact k _ H0 _ (Same.refl _) S1 R1
/-- a display's pairs -/
def dpF : List (ED × ED) → Env → Option (List (D × D) × Env)
  | [], ρ => some ([], ρ)
  | p :: ps, ρ => (itF p.1 ρ).bind fun k => (itF p.2 k.2).bind fun v => if isKey k.1.2 ∧ v.1.1 = true then (dpF ps v.2).map fun r => ((k.1.2, v.1.2) :: r.1, r.2) else none
def mergeD (kvs more : List (D × D)) : List (D × D) := more.foldl (fun acc kv => putKD acc kv.1 kv.2) kvs
def dispF (ps : List (ED × ED)) : ED := fun ρ => (dpF ps ρ).map fun r => (.nd (mergeD [] r.1), r.2)
def trsOf (K : PySem.W.Frag) (ps : List (ED × ED)) : List (TE × TE) := ps.map fun p => (tDE K p.1, tDE K p.2)
abbrev DPs (X : Cx) (pos : Pos) (keys : List (Option Expr)) (values : List Expr) (ps : List (ED × ED)) : Prop := PPs X pos keys values (trsOf X.K ps)
theorem dps_nil : DPs X pos [] [] [] := pps_nil
theorem dps_cons {ks : List (Option Expr)} {vs : List Expr} {ps : List (ED × ED)} (hk : DE X a f) (hv : DE X b g) (hr : DPs X pos ks vs ps) : DPs X pos (some a :: ks) (b :: vs) ((f, g) :: ps) := pps_cons hk hv hr
theorem dp_len : ∀ {ps : List (ED × ED)} {ρ ρ' : Env} {kvs : List (D × D)}, dpF ps ρ = some (kvs, ρ') → kvs.length = ps.length
  | [], _, _, _, e => by cases e; rfl
  | p :: ps, ρ, ρ', kvs, e => by
    obtain ⟨k, e1, e⟩ := ob e
    obtain ⟨v, e2, e⟩ := ob e
    replace e : (if isKey k.1.2 ∧ v.1.1 = true then (dpF ps v.2).map fun r => ((k.1.2, v.1.2) :: r.1, r.2) else none) = some (kvs, ρ') := e
    split at e
    · obtain ⟨r, e3, e4⟩ := Option.map_eq_some_iff.mp e
      cases e4
      simp [dp_len (show dpF ps v.2 = some (r.1, r.2) from e3)]
    · cases e
theorem dp_red {K : PySem.W.Frag} : ∀ {ps : List (ED × ED)} {B : Bs} {H0 H : Hp} {σ : L2.St} {ρ ρ' : Env} {kvs : List (D × D)}, SD K B H0 H σ ρ → dpF ps ρ = some (kvs, ρ') → ∀ {Q : List (V × V) → Hp → Prop},
    (∀ l H0' H', Same H0 H0' → SD K B H0' H' σ ρ' → Kvs K (some B.b) H0' kvs l → Q (l.map fun kv => (kV kv.1, kv.2)) H') → tPairs (trsOf K ps) σ H Q
  | [], B, H0, H, σ, ρ, ρ', kvs, S, e, Q, k => by
    cases e
    exact k [] H0 H (Same.refl _) S rfl
  | p :: ps, B, H0, H, σ, ρ, ρ', kvs, S, e, Q, k => by
    obtain ⟨⟨⟨fr, d⟩, ρ1⟩, e1, e⟩ := ob e
    obtain ⟨⟨⟨fr2, d2⟩, ρ2⟩, e2, e⟩ := ob e
    replace e : (if isKey d ∧ fr2 = true then (dpF ps ρ2).map fun r => ((d, d2) :: r.1, r.2) else none) = some (kvs, ρ') := e
    split at e
    · rename_i z
      obtain ⟨z1, rfl⟩ := z
      obtain ⟨⟨r1, r2⟩, e3, e4⟩ := Option.map_eq_some_iff.mp e
      cases e4
      refine it_red S e1 fun v H1 Ha s1 S1 R1 => ?_
      refine it_red S1 e2 fun w H2 Hb s2 S2 R2 => ?_
      refine dp_red S2 e3 fun l H3 Hc s3 S3 R3 => ?_
      obtain ⟨kk, hk⟩ := isKey_iff z1
      have hv : v = kV kk := keyD_v (H0 := H1) (H := Ha) (Rp.rv S1.sub R1) hk
      subst hv
      exact k ((kk, w) :: l) H3 Hc ((s1.trans s2).trans s3) S3 ⟨kk, w, l, rfl, hk, Rp.mono s3 R2, R3⟩
    · cases e
theorem Kvs.merge {K : PySem.W.Frag} {bb : Option Hp} {H : Hp} : ∀ {more kvs : List (D × D)} {lm l : List (Key × V)}, Kvs K bb H more lm → Kvs K bb H kvs l → Kvs K bb H (mergeD kvs more) (mergeK l lm)
  | [], _, _, _, h, h' => by cases h; exact h'
  | p :: ps, _, _, _, h, h' => by
    obtain ⟨k', v, r, rfl, e2, e3, e4⟩ := h
    show Kvs K bb H (mergeD (putKD _ p.1 p.2) ps) (mergeK (putK _ k' v) r)
    exact Kvs.merge e4 (h'.put e2 e3)
theorem SD.setDct {K : PySem.W.Frag} {B : Bs} {H0 H : Hp} {σ : L2.St} {ρ : Env} {q : Addr} {l0 l : List (Key × V)} {kvs : List (D × D)} (S : SD K (B.put q (.dK l0)) H0 H σ ρ) (nt : B.t q = none) (hk : Kvs K (some B.b) H0 kvs l) :
    SD K B H0 (upd H q (.dK l)) σ ρ ∧ RS K B H0 (upd H q (.dK l)) σ ρ (.nd kvs) (.ref q) := by
  obtain ⟨S1, ⟨O, w, na⟩, n0, ha⟩ := (S.setA (o' := .dK l) rfl).showA nt
  exact ⟨S1, O, q, l, w, na, nt, rfl, n0, ha, hk⟩
theorem de_disp {keys : List (Option Expr)} {values : List Expr} {ps : List (ED × ED)} (h : DPs X pos keys values ps) (hz : ps.length ≤ 15 := by decide) (hall : keys.all (·.isSome) = true := by rfl) (hl : keys.length = values.length := by rfl) (h0 : keys ≠ [] := by exact fun z => (nomatch z))
    (h15 : keys.length ≤ 15 := by decide) : DE X (.Dict keys values pos) (dispF ps) := by
  refine pe_imp (pe_disp h hall hl h0 h15) fun σ H Q ⟨B, H0, ρ, r, ρ', S, e, k⟩ => ?_
  obtain ⟨⟨kvs, ρ1⟩, e1, e2⟩ := Option.map_eq_some_iff.mp e
  cases e2
  intro q hq
  obtain ⟨S1, O, q', l0, w, na, nt, eq, n0, ha, hk⟩ := S.newDct hq
  cases eq
  rw [upd_same] at ha
  cases ha
  refine dp_red (S1.hideA w na n0 (o := .dK []) upd_same) e1 fun l H1 Ha s1 S2 R2 => ?_
  refine ⟨(S2.showA nt).2.2.2, l, rfl, by rw [Kvs.length R2, dp_len e1]; exact hz, ?_⟩
  obtain ⟨S3, R3⟩ := S2.setDct nt (Kvs.merge R2 (show Kvs X.K (some B.b) H1 [] [] from by unfold Kvs; rfl))
  exact k _ H1 _ s1 S3 R3
/-- {..}[e] -/
def dixF (d g : ED) : ED := fun ρ => (d ρ).bind fun p => match p.1 with
  | .nd kvs => (argF g p.2).bind fun q => (view q.2 q.1).bind fun y => if isKey y.2 then (getK kvs y.2).map fun x => (.fz x, q.2) else none
  | _ => none
theorem de_dix (hu : X.A.units + 1 < cLine) (hd : DE X a f) (hg : DE X b g) (hs : NoSl b := by exact fun _ _ => rfl) : DE X (.Subscript a b pos) (dixF f g) := by
  refine pe_imp (pe_dget hu hd hg hs) fun σ H Q ⟨B, H0, ρ, r, ρ', S, e, k⟩ => ?_
  obtain ⟨⟨r1, ρ1⟩, e1, e⟩ := ob e
  cases r1 with
  | nd kvs =>
    obtain ⟨⟨r2, ρ2⟩, e2, e⟩ := ob e
    obtain ⟨⟨fr, d⟩, e3, e⟩ := ob e
    replace e : (if isKey d then (getK kvs d).map fun x => (Res.fz x, ρ2) else none) = some (r, ρ') := e
    split at e
    · rename_i z
      obtain ⟨y, e4, e5⟩ := Option.map_eq_some_iff.mp e
      cases e5
      refine ⟨B, H0, ρ, _, ρ1, S, e1, fun v H1 Ha s1 S1 R1 => ?_⟩
      obtain ⟨B1, b1, S1', back⟩ := S1.keep R1 rfl
      refine arg_red S1' e2 fun w H2 Hb s2 S2 R2 n2 => ?_
      have hw := S2.view R2 e3
      obtain ⟨S3, R3⟩ := back H2 Hb _ _ s2 S2
      obtain ⟨kk, hk⟩ := isKey_iff z
      have hv := keyD_v hw hk
      subst hv
      obtain ⟨O, q, l, w', na, nt, rfl, n0, ha, hl⟩ := R3
      have hg := hl.get hk
      rw [e4] at hg
      obtain ⟨u, e6, e7⟩ := hg
      exact ⟨q, u, rfl, by have := DGet.k (k := kk) ha; rw [e6] at this; exact this, k _ H2 Hb (s1.trans s2) S3 e7⟩
    · cases e
  | _ => cases e
/-- len(d), sorted(d), d in slot i -/
def dlF (i : Nat) : ED := fun ρ => match ρ[i]? with
  | some (.od kvs) => some (.fz (.int kvs.length), ρ)
  | _ => none
theorem call_lenD : CallR X (.builtin "len") (fun xs H Q => ∃ a kvs, xs = [V.ref a] ∧ H a = some (.dK kvs) ∧ Q (.int kvs.length) H) := by
  intro pins s σ H xs us Q I r h
  obtain ⟨a, kvs, rfl, e, q⟩ := h
  rw [Vals.ref1 r]
  exact d_len I (Rd.of e) fun t s' I' => ⟨.int kvs.length, H, I', ⟨t, rfl⟩, q⟩
theorem de_dlen (i : Nat) (hm : X.mg "len" = none) (hN : X.N[i]? = some x := by rfl) (hv : Vis X.env.scope x := by first | exact Or.inl rfl | exact Or.inr (Or.inl rfl) | exact Or.inr (Or.inr rfl)) (hd : (x == ("__debug__" : Str)) = false := by decide)
    (hcd : (x == ("__classdict__" : Str)) = false := by decide) (hg : Gl X "len" := by rfl) (hs : starEach (.Name x p2 :: []) X.env = (false, eval (.Name x p2) X.env) :: starEach [] X.env := by rfl) (hpl : (backTo pos (starEach ([] : List Expr) X.env)).any (·.1) = false := by rfl) : DE X (.Call (.Name "len" p) [.Name x p2] [] pos) (dlF i) := by
  refine pe_imp (pe_callB call_lenD hg hm (by decide +kernel) (pa_cons (pe_var (i := i) hN hv hd hcd) pa_nil hs) (by decide) (by decide) hs hpl) fun σ H Q ⟨B, H0, ρ, r, ρ', S, e, k⟩ => ?_
  unfold dlF at e
  split at e
  · rename_i kvs q
    cases e
    obtain ⟨da, l, ea, hH, hl⟩ := S.odAt q
    refine ⟨_, ea, da, l, rfl, hH, k _ H0 H (Same.refl _) S ?_⟩
    show V.int _ = V.int _
    rw [hl.length]
  · cases e
def keysI (kvs : List (D × D)) : Option (List Int) := intsOf (kvs.map (·.1))
def sortI (ns : List Int) : List Int := ns.mergeSort (fun a b => decide (a ≤ b))
def dsF (i : Nat) : ED := fun ρ => match ρ[i]? with
  | some (.od kvs) => (keysI kvs).bind fun ns => if ns.length < 64 then some (.nw ((sortI ns).map D.int), ρ) else none
  | _ => none
theorem sorted_uniq {a b : List Int} (h : a.Perm b) (ha : a.Pairwise (· ≤ ·)) (hb : b.Pairwise (· ≤ ·)) : a = b := h.eq_of_pairwise (fun x y _ _ h1 h2 => Int.le_antisymm h1 h2) ha hb
theorem sortI_perm (ns : List Int) : (sortI ns).Perm ns := List.mergeSort_perm _ _
theorem sortI_sorted (ns : List Int) : (sortI ns).Pairwise (· ≤ ·) := by
  have := List.pairwise_mergeSort (le := fun a b : Int => decide (a ≤ b)) (fun a b c h1 h2 => by simp at *; omega) (fun a b => by simp; omega) ns
  exact this.imp fun h => by simpa using h
theorem kvs_keys {K : PySem.W.Frag} {bb : Option Hp} {H : Hp} : ∀ {kvs : List (D × D)} {l : List (Key × V)} {ns : List Int}, Kvs K bb H kvs l → kvs.map (·.1) = ns.map D.int → l.map (·.1) = ns.map Sum.inl
  | [], _, ns, h, e => by
    cases h
    cases ns with
    | nil => rfl
    | cons n ns => cases e
  | p :: ps, _, ns, h, e => by
    obtain ⟨k', v, r, rfl, e2, e3, e4⟩ := h
    cases ns with
    | nil => cases e
    | cons n ns =>
      rw [List.map_cons, List.map_cons] at e
      injection e with e5 e6
      rw [e5] at e2
      cases e2
      rw [List.map_cons, List.map_cons, kvs_keys e4 e6]
theorem rps_mapI {K : PySem.W.Frag} {bb : Option Hp} {H : Hp} : ∀ (ns : List Int), Rps K bb H (ns.map D.int) (ns.map V.int)
  | [] => rfl
  | n :: ns => ⟨.int n, _, rfl, rfl, rps_mapI ns⟩
theorem de_dsort (i : Nat) (hc : X.calm = true) (hm : X.mg "sorted" = none) (hN : X.N[i]? = some x := by rfl) (hv : Vis X.env.scope x := by first | exact Or.inl rfl | exact Or.inr (Or.inl rfl) | exact Or.inr (Or.inr rfl)) (hd : (x == ("__debug__" : Str)) = false := by decide)
    (hcd : (x == ("__classdict__" : Str)) = false := by decide) (hg : Gl X "sorted" := by rfl) (hs : starEach (.Name x p2 :: []) X.env = (false, eval (.Name x p2) X.env) :: starEach [] X.env := by rfl) (hpl : (backTo pos (starEach ([] : List Expr) X.env)).any (·.1) = false := by rfl) : DE X (.Call (.Name "sorted" p) [.Name x p2] [] pos) (dsF i) := by
  refine pe_imp (pe_callB (call_sortedDI hc) hg hm (by decide +kernel) (pa_cons (pe_var (i := i) hN hv hd hcd) pa_nil hs) (by decide) (by decide) hs hpl) fun σ H Q ⟨B, H0, ρ, r, ρ', S, e, k⟩ => ?_
  unfold dsF at e
  split at e
  · rename_i kvs q
    obtain ⟨ns, e1, e⟩ := ob e
    replace e : (if ns.length < 64 then some (Res.nw ((sortI ns).map D.int), ρ) else none) = some (r, ρ') := e
    split at e
    · rename_i z
      cases e
      obtain ⟨da, l, ea, hH, hl⟩ := S.odAt q
      refine ⟨_, ea, da, l, ns, rfl, Rd.of hH, kvs_keys hl (intsOf_eq e1), z, fun ys p h1 h2 hp => ?_⟩
      have ey : ys = sortI ns := sorted_uniq (h1.trans (sortI_perm ns).symm) h2 (sortI_sorted ns)
      subst ey
      obtain ⟨H1, s1, S1, R1⟩ := S.newLst hp (rps_mapI (sortI ns))
      exact k _ H1 _ s1 S1 R1
    · cases e
  · cases e
end
end Sc
set_option maxRecDepth 100000
set_option maxHeartbeats 2000000
namespace Sc
open PySem PySem.Spec PyProof.Rows L2
/-! ### the denotations computed: rules for simp; what follows a value waits (bnd) -/
/-- a dummy that keeps simp out of what follows (with -dsimp) -/
abbrev Un {α β : Type} (_ : α → Option β) : Type := PUnit
def bnd {α β : Type} (x : Option α) (f : α → Option β) (_ : Un f := PUnit.unit) : Option β := x.bind f
@[simp] theorem bnd_some {α β : Type} {a : α} {f : α → Option β} {u : Un f} : bnd (some a) f u = f a := rfl
@[simp] theorem bnd_assoc {α β γ : Type} {x : Option α} {f : α → Option β} {g : β → Option γ} {u : Un f} {w : Un g} : bnd (bnd x f u) g w = bnd x (fun a => bnd (f a) g w) := by cases x <;> rfl
@[simp] theorem bnd_none {α β : Type} {f : α → Option β} {u : Un f} : bnd none f u = none := rfl
section
variable {ρ : Env} {f g h : ED} {t u : TD} {fs : List ED} {d e : D} {ds es : List D} {i j : Nat} {a b : Bool} {x y z : Int} {s : Sc.Slot}
theorem map_bnd {α β : Type} {o : Option α} {f : α → β} : o.map f = bnd o fun a => some (f a) := by cases o <;> rfl
@[simp] theorem z_hold_fz : hold (.fz d) = some (.fz d) := rfl
@[simp] theorem z_hold_ar : hold (.ar d) = some (.ar d) := rfl
@[simp] theorem z_hold_nw : hold (.nw ds) = some (.fz (.lst ds)) := rfl
@[simp] theorem z_hold_ow : hold (.ow i) = some (.ow i) := rfl
@[simp] theorem z_view_fz : view ρ (.fz d) = some (true, d) := rfl
@[simp] theorem z_view_ar : view ρ (.ar d) = some (false, d) := rfl
@[simp] theorem z_view_nw : view ρ (.nw ds) = some (true, .lst ds) := rfl
def viewO : Option Sc.Slot → Option (Bool × D)
  | some (.ow ds) => some (true, .lst ds)
  | _ => none
@[simp] theorem z_view_ow : view ρ (.ow i) = viewO ρ[i]? := by
  rfl
@[simp] theorem z_viewO : viewO (some (.ow ds)) = some (true, .lst ds) := rfl
def nmO (i : Nat) (ρ : Env) : Option Sc.Slot → Option (Res × Env)
  | some (.fz d) => some (.fz d, ρ)
  | some (.ar d) => some (.ar d, ρ)
  | some (.ow _) => some (.ow i, ρ)
  | _ => none
@[simp] theorem z_nm : nmF i ρ = nmO i ρ ρ[i]? := rfl
@[simp] theorem z_nm1 : nmO i ρ (some (.fz d)) = some (.fz d, ρ) := rfl
@[simp] theorem z_nm2 : nmO i ρ (some (.ar d)) = some (.ar d, ρ) := rfl
@[simp] theorem z_nm3 : nmO i ρ (some (.ow ds)) = some (.ow i, ρ) := rfl
@[simp] theorem z_k : kF d ρ = some (.fz d, ρ) := rfl
@[simp] theorem z_arg : argF f ρ = bnd (f ρ) fun p => bnd (hold p.1) fun r => some (r, p.2) := by unfold argF; simp only [map_bnd]; rfl
@[simp] theorem z_bin {o : O2} : binF f g o ρ = bnd (argF f ρ) fun p1 => bnd (argF g p1.2) fun p2 => bnd (view p2.2 p1.1) fun p => bnd (view p2.2 p2.1) fun q => bnd (o p q) fun r => some (r, p2.2) := by unfold binF; simp only [map_bnd]; rfl
def tstO : Option (Res × Env) → Option (Bool × Env)
  | some (.fz (.bl b), ρ') => some (b, ρ')
  | some (.ar (.bl b), ρ') => some (b, ρ')
  | _ => none
@[simp] theorem z_tst_fz : tstF f ρ = tstO (f ρ) := rfl
@[simp] theorem z_tstO1 : tstO (some (.fz (.bl b), ρ)) = some (b, ρ) := rfl
@[simp] theorem z_tstO2 : tstO (some (.ar (.bl b), ρ)) = some (b, ρ) := rfl
@[simp] theorem z_asB : asB f ρ = tstF f ρ := rfl
@[simp] theorem z_oI {o : Int → Int → D} : oI o (a, .int x) (b, .int y) = some (.fz (o x y)) := rfl
@[simp] theorem z_oIc {c : Int → Int → Bool} {o : Int → Int → D} : oIc c o (a, .int x) (b, .int y) = if c x y then some (.fz (o x y)) else none := rfl
@[simp] theorem z_argsn : argsF [] ρ = some ([], ρ) := rfl
@[simp] theorem z_argsc : argsF (f :: fs) ρ = bnd (argF f ρ) fun p => bnd (argsF fs p.2) fun q => some (p.1 :: q.1, q.2) := by rw [argsF]; simp only [map_bnd]; rfl
@[simp] theorem z_viewsn : views ρ [] = some [] := rfl
@[simp] theorem z_viewsc {r : Res} {rs : List Res} : views ρ (r :: rs) = bnd (view ρ r) fun p => bnd (views ρ rs) fun ps => some (p :: ps) := by rw [views]; simp only [map_bnd]; rfl
@[simp] theorem z_call {o : List (Bool × D) → Option Res} : callF fs o ρ = bnd (argsF fs ρ) fun p => bnd (views p.2 p.1) fun ps => bnd (o ps) fun r => some (r, p.2) := by unfold callF; simp only [map_bnd]; rfl
@[simp] theorem z_lenL : oLen [(a, .lst ds)] = some (.fz (.int ds.length)) := rfl
@[simp] theorem z_lenT : oLen [(a, .tup ds)] = some (.fz (.int ds.length)) := rfl
@[simp] theorem z_tupL : oTuple [(a, .lst ds)] = some (mkR a (.tup ds)) := rfl
@[simp] theorem z_tupT : oTuple [(a, .tup ds)] = some (mkR a (.tup ds)) := rfl
@[simp] theorem z_lstT : oList [(true, .tup ds)] = some (.nw ds) := rfl
@[simp] theorem z_lstL : oList [(true, .lst ds)] = some (.nw ds) := rfl
@[simp] theorem z_mkT : mkR true d = .fz d := rfl
@[simp] theorem z_mkF : mkR false d = .ar d := rfl
@[simp] theorem z_intI : oInt [(a, .int x)] = some (.fz (.int x)) := rfl
@[simp] theorem z_intB : oInt [(a, .bl b)] = some (.fz (.int (if b then 1 else 0))) := rfl
@[simp] theorem z_and : andT t u ρ = bnd (t ρ) fun p => if p.1 then u p.2 else some (false, p.2) := rfl
@[simp] theorem z_or : orT t u ρ = bnd (t ρ) fun p => if p.1 then some (true, p.2) else u p.2 := rfl
@[simp] theorem z_not : notT t ρ = bnd (t ρ) fun p => some (!p.1, p.2) := by unfold notT; simp only [map_bnd]
@[simp] theorem z_tv : tvF t ρ = bnd (t ρ) fun p => some (.fz (.bl p.1), p.2) := by unfold tvF; simp only [map_bnd]
@[simp] theorem z_if : ifF t f g ρ = bnd (t ρ) fun p => if p.1 then f p.2 else g p.2 := rfl
@[simp] theorem z_ch {o o' : Int → Int → Bool} : chF f g h o o' ρ = bnd (argF f ρ) fun p1 => bnd (argF g p1.2) fun p2 => bnd (bnd (view p2.2 p1.1) asI) fun i => bnd (bnd (view p2.2 p2.1) asI) fun j =>
  if o i j then bnd (argF h p2.2) fun p3 => bnd (bnd (view p3.2 p3.1) asI) fun l => some (.fz (.bl (o' j l)), p3.2) else some (.fz (.bl false), p2.2) := by unfold chF; simp only [map_bnd]; rfl
@[simp] theorem z_asI : asI (a, .int x) = some x := rfl
@[simp] theorem z_ix {q : Bool × D} : oIx (a, d) q = bnd (seqOf d) fun ds => bnd (asI q) fun i => bnd (atI ds i) fun x => some (mkR a x) := by unfold oIx; simp only [map_bnd]; rfl
@[simp] theorem z_seqL : seqOf (.lst ds) = some ds := rfl
@[simp] theorem z_seqT : seqOf (.tup ds) = some ds := rfl
@[simp] theorem z_isi {T : String} : isiF T f ρ = bnd (argF f ρ) fun p => bnd (view p.2 p.1) fun q => bnd (isTy T q.2) fun b => some (.fz (.bl b), p.2) := by unfold isiF; simp only [map_bnd]; rfl
/-- moved -/
def itR : Res → Env → Option ((Bool × D) × Env)
  | .fz d, ρ => some ((true, d), ρ)
  | .ar d, ρ => some ((noL d, d), ρ)
  | .nw ds, ρ => some ((true, .lst ds), ρ)
  | .ow j, ρ => match ρ[j]? with
    | some (.ow ds) => some ((true, .lst ds), ρ.set j (.fz (.lst ds)))
    | _ => none
  | _, _ => none
@[simp] theorem z_it : itF f ρ = bnd (f ρ) fun p => itR p.1 p.2 := by
  unfold itF bnd
  congr 1
  funext p
  obtain ⟨r, ρ⟩ := p
  cases r <;> rfl
@[simp] theorem z_it1 : itR (.fz d) ρ = some ((true, d), ρ) := rfl
@[simp] theorem z_it2 : itR (.ar d) ρ = some ((noL d, d), ρ) := rfl
@[simp] theorem z_it3 : itR (.nw ds) ρ = some ((true, .lst ds), ρ) := rfl
def itW (j : Nat) (ρ : Env) : Option Sc.Slot → Option ((Bool × D) × Env)
  | some (.ow ds) => some ((true, .lst ds), ρ.set j (.fz (.lst ds)))
  | _ => none
@[simp] theorem z_it4 : itR (.ow j) ρ = itW j ρ ρ[j]? := rfl
@[simp] theorem z_itW : itW j ρ (some (.ow ds)) = some ((true, .lst ds), ρ.set j (.fz (.lst ds))) := rfl
@[simp] theorem z_itsn : itsF [] ρ = some ([], ρ) := rfl
@[simp] theorem z_itsc : itsF (f :: fs) ρ = bnd (itF f ρ) fun p => bnd (itsF fs p.2) fun q => some (p.1 :: q.1, q.2) := by rw [itsF]; simp only [map_bnd]; rfl
@[simp] theorem z_tup : tupF fs ρ = bnd (itsF fs ρ) fun p => some (mkR (p.1.all (·.1)) (.tup (p.1.map (·.2))), p.2) := by unfold tupF; simp only [map_bnd]
@[simp] theorem z_lst : lstF fs ρ = bnd (itsF fs ρ) fun p => if p.1.all (·.1) then some (.nw (p.1.map (·.2)), p.2) else none := rfl
@[simp] theorem z_noLn : noL .non = true := rfl
@[simp] theorem z_noLb : noL (.bl b) = true := rfl
@[simp] theorem z_noLi : noL (.int x) = true := rfl
@[simp] theorem z_noLs {w : Str} : noL (.str w) = true := rfl
@[simp] theorem z_noLt : noL (.tup ds) = noLs ds := rfl
@[simp] theorem z_noLl : noL (.lst ds) = false := rfl
@[simp] theorem z_noLsn : noLs [] = true := rfl
@[simp] theorem z_noLsc : noLs (d :: ds) = (noL d && noLs ds) := rfl
/-! statements -/
@[simp] theorem z_sk : skF ρ = some (.nx ρ) := rfl
/-- what follows a statement -/
def thn' (q : FS) : Out → Option Out
  | .nx ρ' => q ρ'
  | o => some o
@[simp] theorem z_seq {p q : FS} : seqS p q ρ = bnd (p ρ) (thn' q) := rfl
@[simp] theorem z_thn1 {q : FS} : thn' q (.nx ρ) = q ρ := rfl
@[simp] theorem z_thn2 {q : FS} : thn' q (.rt d ρ) = some (.rt d ρ) := rfl
@[simp] theorem z_thn3 {q : FS} {c : Str} : thn' q (.ex c ρ) = some (.ex c ρ) := rfl
@[simp] theorem z_thn4 {q : FS} : thn' q (.bk ρ) = some (.bk ρ) := rfl
@[simp] theorem z_thn5 {q : FS} : thn' q (.ct ρ) = some (.ct ρ) := rfl
@[simp] theorem z_ne : neS ρ = none := rfl
@[simp] theorem z_bk : bkS ρ = some (.bk ρ) := rfl
@[simp] theorem z_ct : ctS ρ = some (.ct ρ) := rfl
@[simp] theorem z_ifS {p q : FS} : ifS t p q ρ = bnd (t ρ) fun r => if r.1 then p r.2 else q r.2 := rfl
@[simp] theorem z_rt : rtS f ρ = bnd (itF f ρ) fun p => if p.1.1 then some (.rt p.1.2 p.2) else none := rfl
@[simp] theorem z_rn : rnS ρ = some (.rt .non ρ) := rfl
@[simp] theorem z_set : setS i f ρ = bnd (f ρ) fun p => bnd (putR p.2 i p.1) fun ρ' => some (.nx ρ') := by unfold setS; simp only [map_bnd]; rfl
@[simp] theorem z_dr : drS f ρ = bnd (f ρ) fun p => some (.nx p.2) := by unfold drS; simp only [map_bnd]
@[simp] theorem z_put_fz : putR ρ i (.fz d) = if i < ρ.length then some (ρ.set i (.fz d)) else none := rfl
@[simp] theorem z_put_ar : putR ρ i (.ar d) = if i < ρ.length then some (ρ.set i (.ar d)) else none := rfl
@[simp] theorem z_put_nw : putR ρ i (.nw ds) = if i < ρ.length then some (ρ.set i (.ow ds)) else none := rfl
@[simp] theorem z_put_nd {kvs : List (D × D)} : putR ρ i (.nd kvs) = if i < ρ.length then some (ρ.set i (.od kvs)) else none := rfl
@[simp] theorem z_put_nt {kvs : List (D × D)} : putR ρ i (.nt kvs) = if i < ρ.length then some (ρ.set i (.td kvs)) else none := rfl
@[simp] theorem z_put_no {c : Str} {fs : List (Str × Bool × Fl)} : putR ρ i (.no c fs) = if i < ρ.length then some (ρ.set i (.ob false c fs)) else none := rfl
def putW (i j : Nat) (ρ : Env) : Option Sc.Slot → Option Env
  | some (.ow ds) => some ((ρ.set j (.fz (.lst ds))).set i (.fz (.lst ds)))
  | _ => none
@[simp] theorem z_put_ow : putR ρ i (.ow j) = if i < ρ.length then putW i j ρ ρ[j]? else none := rfl
@[simp] theorem z_putW : putW i j ρ (some (.ow ds)) = some ((ρ.set j (.fz (.lst ds))).set i (.fz (.lst ds))) := rfl
@[simp] theorem z_asg {G : GD} : asgS G f ρ = bnd (itF f ρ) fun p => bnd (G p.1) fun bs => bnd (setB p.2 bs) fun ρ' => some (.nx ρ') := by unfold asgS; simp only [map_bnd]; rfl
@[simp] theorem z_gnm {p : Bool × D} : gnm i p = some [(i, p)] := rfl
@[simp] theorem z_gtp {gs : List GD} : gtp gs (a, .tup ds) = gds a ds gs := rfl
@[simp] theorem z_gdsn : gds a [] [] = some [] := rfl
@[simp] theorem z_gdsc {G : GD} {gs : List GD} : gds a (d :: ds) (G :: gs) = bnd (G (a, d)) fun x => bnd (gds a ds gs) fun y => some (x ++ y) := by rw [gds]; simp only [map_bnd]; rfl
@[simp] theorem z_setBn : setB ρ [] = some ρ := rfl
@[simp] theorem z_setBc {p : Nat × (Bool × D)} {bs : Bnd} : setB ρ (p :: bs) = if p.1 < ρ.length then setB (ρ.set p.1 (mkS p.2)) bs else none := rfl
@[simp] theorem z_mkST : mkS (true, d) = .fz d := rfl
@[simp] theorem z_mkSF : mkS (false, d) = .ar d := rfl
def kpR : Res → Env → Option (Res × Env)
  | .ow j, ρ => match ρ[j]? with
    | some (.ow ds) => some (.fz (.lst ds), ρ.set j (.fz (.lst ds)))
    | _ => none
  | .no _ _, _ => none
  | r, ρ => some (r, ρ)
@[simp] theorem z_kp : kpF f ρ = bnd (f ρ) fun p => kpR p.1 p.2 := by
  unfold kpF bnd
  congr 1
  funext p
  obtain ⟨r, ρ⟩ := p
  cases r <;> rfl
@[simp] theorem z_kp1 : kpR (.fz d) ρ = some (.fz d, ρ) := rfl
@[simp] theorem z_kp2 : kpR (.ar d) ρ = some (.ar d, ρ) := rfl
@[simp] theorem z_kp3 : kpR (.nw ds) ρ = some (.nw ds, ρ) := rfl
@[simp] theorem z_kp4 {kvs : List (D × D)} : kpR (.nd kvs) ρ = some (.nd kvs, ρ) := rfl
@[simp] theorem z_kp5 {kvs : List (D × D)} : kpR (.nt kvs) ρ = some (.nt kvs, ρ) := rfl
def kpW (j : Nat) (ρ : Env) : Option Sc.Slot → Option (Res × Env)
  | some (.ow ds) => some (.fz (.lst ds), ρ.set j (.fz (.lst ds)))
  | _ => none
@[simp] theorem z_kp6 : kpR (.ow j) ρ = kpW j ρ ρ[j]? := rfl
@[simp] theorem z_kpW : kpW j ρ (some (.ow ds)) = some (.fz (.lst ds), ρ.set j (.fz (.lst ds))) := rfl
@[simp] theorem z_par2 : par2 i j f g ρ = bnd (kpF f ρ) fun p1 => bnd (kpF g p1.2) fun p2 => bnd (putR p2.2 j p2.1) fun ρ3 => bnd (putR ρ3 i p1.1) fun ρ4 => some (.nx ρ4) := by unfold par2; simp only [map_bnd]; rfl
@[simp] theorem z_par3 {l : Nat} : par3 i j l f g h ρ = bnd (kpF f ρ) fun p1 => bnd (kpF g p1.2) fun p2 => bnd (kpF h p2.2) fun p3 => bnd (putR p3.2 l p3.1) fun ρ4 => bnd (putR ρ4 j p2.1) fun ρ5 => bnd (putR ρ5 i p1.1) fun ρ6 => some (.nx ρ6) := by unfold par3; simp only [map_bnd]; rfl
def appR (i : Nat) (p : (Bool × D) × Env) : Option Sc.Slot → Option (Res × Env)
  | some (.ow ds) => if p.1.1 = true ∧ ds.length < LIM then some (.fz .non, p.2.set i (.ow (ds ++ [p.1.2]))) else none
  | _ => none
@[simp] theorem z_app : appF i f ρ = if isOw ρ[i]? then bnd (itF f ρ) fun p => appR i p p.2[i]? else none := rfl
@[simp] theorem z_appR {p : (Bool × D) × Env} : appR i p (some (.ow ds)) = if p.1.1 = true ∧ ds.length < LIM then some (.fz .non, p.2.set i (.ow (ds ++ [p.1.2]))) else none := rfl
@[simp] theorem z_isOw : isOw (some (.ow ds)) = true := rfl
@[simp] theorem z_for {F : IF} {G : GD} {q : FS} : forS F G q ρ = bnd (F ρ) fun p => forL G q p.1 p.2 := rfl
@[simp] theorem z_seqI : seqI f ρ = bnd (itF f ρ) fun p => bnd (seqOf p.1.2) fun ds => some (ds.map fun d => (p.1.1, d), p.2) := by unfold seqI; simp only [map_bnd]; rfl
@[simp] theorem z_zpI : zpI f g ρ = bnd (itF f ρ) fun p => bnd (itF g p.2) fun q => bnd (seqOf p.1.2) fun ds => bnd (seqOf q.1.2) fun es => some ((ds.zip es).map fun x => (p.1.1 && q.1.1, D.tup [x.1, x.2]), q.2) := by unfold zpI; simp only [map_bnd]; rfl
@[simp] theorem z_rng1 : rng1I f ρ = bnd (argF f ρ) fun p => bnd (vI p.2 p.1) fun j => if smallI j then some (rngL 0 j.toNat 1, p.2) else none := rfl
@[simp] theorem z_rng2 : rng2I f g ρ = bnd (argF f ρ) fun p => bnd (argF g p.2) fun q => bnd (vI q.2 p.1) fun i => bnd (vI q.2 q.1) fun j => if smallI i && smallI j then some (rngL i (j - i).toNat 1, q.2) else none := rfl
@[simp] theorem z_rngd : rngdI f g h ρ = bnd (argF f ρ) fun p => bnd (argF g p.2) fun q => bnd (argF h q.2) fun r => bnd (vI r.2 p.1) fun i => bnd (vI r.2 q.1) fun j => bnd (vI r.2 r.1) fun c => if smallI i && smallI j && c == -1 then some (rngL i (i - j).toNat (-1), r.2) else none := rfl
@[simp] theorem z_vI {r : Res} : vI ρ r = bnd (view ρ r) asI := rfl
@[simp] theorem z_neg : negF f ρ = bnd (argF f ρ) fun p => bnd (vI p.2 p.1) fun i => some (.fz (.int (-i)), p.2) := by unfold negF; simp only [map_bnd]; rfl
@[simp] theorem z_noP : noP ρ = some (none, ρ) := rfl
@[simp] theorem z_soP : soP f ρ = bnd (argF f ρ) fun p => bnd (vI p.2 p.1) fun i => some (some i, p.2) := by unfold soP; simp only [map_bnd]; rfl
def slR (ρ : Env) (l u : Option Int) : Bool × D → Option (Res × Env)
  | (b, .tup ds) => some (mkR b (.tup (cutD ds l u)), ρ)
  | (b, .lst ds) => if b || noLs ds then some (.nw (cutD ds l u), ρ) else none
  | _ => none
@[simp] theorem z_sl {lo hi : PF} : slF f lo hi ρ = bnd (argF f ρ) fun p => bnd (lo p.2) fun l => bnd (hi l.2) fun u => bnd (view u.2 p.1) fun q => slR u.2 l.1 u.1 q := by
  unfold slF bnd
  congr 1; funext p; congr 1; funext l; congr 1; funext u; congr 1; funext q
  obtain ⟨b, d⟩ := q
  cases d <;> rfl
@[simp] theorem z_slT {l u : Option Int} : slR ρ l u (b, .tup ds) = some (mkR b (.tup (cutD ds l u)), ρ) := rfl
@[simp] theorem z_slL {l u : Option Int} : slR ρ l u (b, .lst ds) = if b || noLs ds then some (.nw (cutD ds l u), ρ) else none := rfl
def rvR (ρ : Env) : Bool × D → Option (Res × Env)
  | (b, .tup ds) => some (mkR b (.tup ds.reverse), ρ)
  | _ => none
@[simp] theorem z_rv : rvF f ρ = bnd (argF f ρ) fun p => bnd (view p.2 p.1) fun q => rvR p.2 q := by
  unfold rvF bnd
  congr 1; funext p; congr 1; funext q
  obtain ⟨b, d⟩ := q
  cases d <;> rfl
@[simp] theorem z_rvT : rvR ρ (b, .tup ds) = some (mkR b (.tup ds.reverse), ρ) := rfl
/-! own dicts -/
def getKO (kvs : List (D × D)) (d : D) (ρ : Env) : Option (Res × Env) := bnd (getK kvs d) fun x => some (.fz x, ρ)
def dgR (q : Bool × D) (ρ : Env) : Option Sc.Slot → Option (Res × Env)
  | some (.od kvs) => if isKey q.2 then getKO kvs q.2 ρ else none
  | _ => none
@[simp] theorem z_getKO {kvs : List (D × D)} : getKO kvs d ρ = bnd (getK kvs d) fun x => some (.fz x, ρ) := rfl
@[simp] theorem z_dg : dgF i g ρ = if isOd ρ[i]? then bnd (argF g ρ) fun p => bnd (view p.2 p.1) fun q => dgR q p.2 p.2[i]? else none := by
  unfold dgF bnd dgR getKO
  simp only [map_bnd]
  try rfl
@[simp] theorem z_dgR {kvs : List (D × D)} {q : Bool × D} : dgR q ρ (some (.od kvs)) = if isKey q.2 then getKO kvs q.2 ρ else none := rfl
@[simp] theorem z_isOd {kvs : List (D × D)} : isOd (some (.od kvs)) = true := rfl
@[simp] theorem z_isKeyI : isKey (.int x) = true := rfl
@[simp] theorem z_isKeyS {w : Str} : isKey (.str w) = true := rfl
def dnR (neg : Bool) (q : Bool × D) (ρ : Env) : Option Sc.Slot → Option (Res × Env)
  | some (.od kvs) => if isKey q.2 then some (.fz (.bl (if neg then !(getK kvs q.2).isSome else (getK kvs q.2).isSome)), ρ) else none
  | _ => none
@[simp] theorem z_dn {neg : Bool} : dnF neg i g ρ = bnd (argF g ρ) fun p => bnd (view p.2 p.1) fun q => dnR neg q p.2 p.2[i]? := rfl
@[simp] theorem z_dnR {neg : Bool} {kvs : List (D × D)} {q : Bool × D} : dnR neg q ρ (some (.od kvs)) = if isKey q.2 then some (.fz (.bl (if neg then !(getK kvs q.2).isSome else (getK kvs q.2).isSome)), ρ) else none := rfl
def dlR (ρ : Env) : Option Sc.Slot → Option (Res × Env)
  | some (.od kvs) => some (.fz (.int kvs.length), ρ)
  | _ => none
@[simp] theorem z_dl : dlF i ρ = dlR ρ ρ[i]? := rfl
@[simp] theorem z_dlR {kvs : List (D × D)} : dlR ρ (some (.od kvs)) = some (.fz (.int kvs.length), ρ) := rfl
def dsR (ρ : Env) : Option Sc.Slot → Option (Res × Env)
  | some (.od kvs) => bnd (keysI kvs) fun ns => if ns.length < 64 then some (.nw ((sortI ns).map D.int), ρ) else none
  | _ => none
@[simp] theorem z_ds : dsF i ρ = dsR ρ ρ[i]? := rfl
@[simp] theorem z_dsR {kvs : List (D × D)} : dsR ρ (some (.od kvs)) = bnd (keysI kvs) fun ns => if ns.length < 64 then some (.nw ((sortI ns).map D.int), ρ) else none := rfl
@[simp] theorem z_dnew : dnewF ρ = some (.nd [], ρ) := rfl
@[simp] theorem z_dpn : dpF [] ρ = some ([], ρ) := rfl
@[simp] theorem z_dpc {p : ED × ED} {ps : List (ED × ED)} : dpF (p :: ps) ρ = bnd (itF p.1 ρ) fun k => bnd (itF p.2 k.2) fun v => if isKey k.1.2 ∧ v.1.1 = true then bnd (dpF ps v.2) fun r => some ((k.1.2, v.1.2) :: r.1, r.2) else none := by rw [dpF]; simp only [map_bnd]; rfl
@[simp] theorem z_disp {ps : List (ED × ED)} : dispF ps ρ = bnd (dpF ps ρ) fun r => some (.nd (mergeD [] r.1), r.2) := by unfold dispF; simp only [map_bnd]
def dixR (g : ED) : Res × Env → Option (Res × Env)
  | (.nd kvs, ρ) => bnd (argF g ρ) fun q => bnd (view q.2 q.1) fun y => if isKey y.2 then getKO kvs y.2 q.2 else none
  | _ => none
@[simp] theorem z_dix : dixF f g ρ = bnd (f ρ) (dixR g) := by
  unfold dixF bnd
  congr 1
  funext p
  obtain ⟨r, ρ⟩ := p
  cases r <;> first | rfl | (unfold dixR bnd getKO; simp only [map_bnd])
@[simp] theorem z_dixR {kvs : List (D × D)} : dixR g (.nd kvs, ρ) = bnd (argF g ρ) fun q => bnd (view q.2 q.1) fun y => if isKey y.2 then getKO kvs y.2 q.2 else none := rfl
/-! x[e] = e' -/
def stR (i : Nat) (g : ED) (p : (Bool × D) × Env) : Option Sc.Slot → Option Out
  | some (.ow _) => bnd (argF g p.2) fun q => bnd (vI q.2 q.1) fun j => match q.2[i]? with
      | some (.ow ds) => (ixN ds.length j).map fun n => .nx (q.2.set i (.ow (ds.set n p.1.2)))
      | _ => none
  | some (.od _) => bnd (argF g p.2) fun q => bnd (view q.2 q.1) fun y => match q.2[i]? with
      | some (.od kvs) => if isKey y.2 ∧ kvs.length < LIM then some (.nx (q.2.set i (.od (putKD kvs y.2 p.1.2)))) else none
      | _ => none
  | _ => none
def stL (i : Nat) (v : D) (ρ : Env) (j : Int) : Option Sc.Slot → Option Out
  | some (.ow ds) => bnd (ixN ds.length j) fun n => some (.nx (ρ.set i (.ow (ds.set n v))))
  | _ => none
def stD (i : Nat) (v : D) (ρ : Env) (y : D) : Option Sc.Slot → Option Out
  | some (.od kvs) => if isKey y ∧ kvs.length < LIM then some (.nx (ρ.set i (.od (putKD kvs y v)))) else none
  | _ => none
@[simp] theorem z_st : stS i g f ρ = bnd (itF f ρ) fun p => if p.1.1 then stR i g p p.2[i]? else none := by
  unfold stS bnd stR bnd
  rfl
@[simp] theorem z_stR1 {p : (Bool × D) × Env} : stR i g p (some (.ow ds)) = bnd (argF g p.2) fun q => bnd (vI q.2 q.1) fun j => stL i p.1.2 q.2 j q.2[i]? := by
  unfold stR stL
  simp only [bnd, map_bnd]
@[simp] theorem z_stR2 {p : (Bool × D) × Env} {kvs : List (D × D)} : stR i g p (some (.od kvs)) = bnd (argF g p.2) fun q => bnd (view q.2 q.1) fun y => stD i p.1.2 q.2 y.2 q.2[i]? := rfl
@[simp] theorem z_stL {v : D} {k : Int} : stL i v ρ k (some (.ow ds)) = bnd (ixN ds.length k) fun n => some (.nx (ρ.set i (.ow (ds.set n v)))) := rfl
@[simp] theorem z_stD {v w : D} {kvs : List (D × D)} : stD i v ρ w (some (.od kvs)) = if isKey w ∧ kvs.length < LIM then some (.nx (ρ.set i (.od (putKD kvs w v)))) else none := rfl
/-! calls -/
@[simp] theorem z_cf {n : Nat} {F : RF} : cfF n F fs ρ = bnd (argsF fs ρ) fun p => bnd (views p.2 p.1) fun ps => if ps.length = n then bnd (F (ps.map (·.2))) fun r => bnd (retOf r) fun x => some (x, p.2) else none := by unfold cfF; simp only [map_bnd]; rfl
@[simp] theorem z_retOf : retOf (.ret d) = some (resD d) := rfl
@[simp] theorem z_resN : resD .non = .fz .non := rfl
@[simp] theorem z_resB : resD (.bl b) = .fz (.bl b) := rfl
@[simp] theorem z_resI : resD (.int x) = .fz (.int x) := rfl
@[simp] theorem z_resS {w : Str} : resD (.str w) = .fz (.str w) := rfl
@[simp] theorem z_resT : resD (.tup ds) = .fz (.tup ds) := rfl
@[simp] theorem z_resL : resD (.lst ds) = if noLs ds then .nw ds else .fz (.lst ds) := rfl
def cmR (j n : Nat) (F : MF) (ps : List (Bool × D)) (ρ : Env) : Option Sc.Slot → Option (Res × Env)
  | some (.mm q M) => if ps.length = n then bnd (F q M (ps.map (·.2))) fun r => some (.fz r.1, ρ.set j (.mm q r.2)) else none
  | _ => none
@[simp] theorem z_cm {n : Nat} {F : MF} : cmF j n F fs ρ = if isMm ρ[j]? then bnd (argsF fs ρ) fun p => bnd (views p.2 p.1) fun ps => cmR j n F ps p.2 p.2[j]? else none := by
  unfold cmF bnd cmR
  simp only [map_bnd]
  try rfl
@[simp] theorem z_cmR {n : Nat} {F : MF} {ps : List (Bool × D)} {q : P3} {M : DrawSt} : cmR j n F ps ρ (some (.mm q M)) = if ps.length = n then bnd (F q M (ps.map (·.2))) fun r => some (.fz r.1, ρ.set j (.mm q r.2)) else none := rfl
@[simp] theorem z_isMm {q : P3} {M : DrawSt} : isMm (some (.mm q M)) = true := rfl
@[simp] theorem z_cx {n : Nat} {F : RF} {G : Res → Env → Option Out} : cxF n F fs G ρ = bnd (argsF fs ρ) fun p => bnd (views p.2 p.1) fun ps => if ps.length = n then bnd (F (ps.map (·.2))) fun r => outX G r p.2 else none := rfl
@[simp] theorem z_outX1 {G : Res → Env → Option Out} : outX G (.ret d) ρ = G (resD d) ρ := rfl
@[simp] theorem z_outX2 {G : Res → Env → Option Out} {c : Str} : outX G (.exc c) ρ = some (.ex c ρ) := rfl
@[simp] theorem z_gSet {r : Res} : gSet i r ρ = bnd (putR ρ i r) fun ρ' => some (.nx ρ') := by unfold gSet; simp only [map_bnd]
@[simp] theorem z_gRet1 : gRet (.fz d) ρ = some (.rt d ρ) := rfl
@[simp] theorem z_gRet2 : gRet (.nw ds) ρ = some (.rt (.lst ds) ρ) := rfl
@[simp] theorem z_outN {ρ : Env} : outR (.nx ρ) = some (.ret .non) := rfl
@[simp] theorem z_outR : outR (.rt d ρ) = some (.ret d) := rfl
@[simp] theorem z_outE {c : Str} : outR (.ex c ρ) = some (.exc c) := rfl
@[simp] theorem z_envOf0 {n : Nat} : envOf n [] = List.replicate n .emp := rfl
@[simp] theorem z_runF {n : Nat} {fb : FS} : runF n fb ds = bnd (fb (envOf n ds)) outR := rfl
@[simp] theorem z_outM1 {p : P3} {M : DrawSt} {r : Env} : outM p (.rt d (.mm p M :: r)) = some (d, M) := by
  show (if p = p then some (d, M) else none) = _
  rw [if_pos rfl]
@[simp] theorem z_outM2 {p : P3} {M : DrawSt} {r : Env} : outM p (.nx (.mm p M :: r)) = some (.non, M) := by
  show (if p = p then some (D.non, M) else none) = _
  rw [if_pos rfl]
@[simp] theorem z_runM {n : Nat} {fb : FS} {p : P3} {M : DrawSt} : runM n fb p M ds = bnd (fb (.mm p M :: envOf n ds)) (outM p) := rfl
@[simp] theorem z_oAltT {o o' : O2} {p q : Bool × D} : oAlt o o' p q = (o p q).orElse fun _ => o' p q := rfl
@[simp] theorem z_ttY : ttY ρ = some (true, ρ) := rfl
end
/-- n empty slots behind the arguments -/
theorem envOf_eq {n : Nat} {ds : List D} : envOf n ds = ds.map Sc.Slot.ar ++ List.replicate (n - ds.length) .emp := rfl
@[simp] theorem z_wipe0 {ρ : Env} : wipeE ρ [] = ρ := rfl
@[simp] theorem z_wipe1 {ρ : Env} {v : Nat} {vs : List Nat} : wipeE ρ (v :: vs) = (wipeE ρ vs).set v .emp := rfl
@[simp] theorem z_rest0 {ρ ρ0 : Env} : restE ρ0 ρ [] = ρ := rfl
@[simp] theorem z_rest1 {ρ ρ0 : Env} {v : Nat} {vs : List Nat} : restE ρ0 ρ (v :: vs) = (restE ρ0 ρ vs).set v (ρ0[v]?.getD .emp) := rfl
@[simp] theorem lcF_eq {F : IF} {g : GD} {t : TD} {f : ED} {vs : List Nat} {ρ : Env} : lcF F g t f vs ρ = bnd (F ρ) fun p => if vs.all (fun v => isLight p.2[v]?) then bnd (lcL g t f vs p.1 (wipeE p.2 vs)) fun r => if r.1.length ≤ LIM then some (.nw r.1, restE p.2 r.2 vs) else none else none := rfl
@[simp] theorem z_liE : isLight (some .emp) = true := rfl
@[simp] theorem z_liF {d : D} : isLight (some (.fz d)) = true := rfl
@[simp] theorem z_liA {d : D} : isLight (some (.ar d)) = true := rfl
/-- a comprehension whose turns leave all but its own slots as they are: e i the i-th item -/
theorem lcL_map {g : GD} {t : TD} {f : ED} {vs : List Nat} {ρ : Env} {r : Bool × D → D} : ∀ (ps : List (Bool × D)),
    (∀ p ∈ ps, ∃ bs ρ1 ρ2 ρ3, g p = some bs ∧ bs.all (fun b => vs.contains b.1) = true ∧ setB ρ bs = some ρ1 ∧ t ρ1 = some (true, ρ2) ∧ itF f ρ2 = some ((true, r p), ρ3) ∧ wipeE ρ3 vs = ρ) → lcL g t f vs ps ρ = some (ps.map r, ρ)
  | [], _ => rfl
  | p :: ps, h => by
    obtain ⟨bs, ρ1, ρ2, ρ3, h1, h2, h3, h4, h5, h6⟩ := h p List.mem_cons_self
    unfold lcL
    rw [h1, Option.bind_some, if_pos h2, h3, Option.bind_some, h4, Option.bind_some, if_pos rfl, h5, Option.bind_some, if_pos rfl, h6, lcL_map ps fun q hq => h q (List.mem_cons_of_mem _ hq)]
    rfl
end Sc
set_option maxRecDepth 100000
set_option maxHeartbeats 2000000
namespace Sc
open PySem PySem.Spec PyProof.Rows L2
/-! ### calls by keywords alone, in the parameters' order -/
structure CalK (P : Program) (w : World) (K : PySem.W.Frag) (mg : Str → Option Value) (base : Heap) (k : Nat) (x : Str) (ps : List Str) (sp : Sp) : Prop where
  ex : ∃ fd, FnOk P w K mg base (L2.CX P w) k (He.ga K x) fd ps sp ∧ ∀ (s : Shared) (ws : List Value), K.In s.heap → ws.length = ps.length → BindsTo s fd ⟨[], ps.zip ws⟩ (ps.zip ws)
  gl : mg x = some (.ref (He.ga K x))
  kp : PySem.W.keepIn K (.ref (He.ga K x)) = true
theorem kbindsN {K : PySem.W.Frag} {x qual : Str} {params : Arguments} {body : List Stmt} {scope : Scope} {kws : List (Str × V)} {f : Addr} {fd : FuncData} {ps : List Str} (F : FunD K x qual params body scope [] kws f fd)
    (h : ∀ (kV doc pm : Value) (an : Option Addr) (cdv ct : Value) (us : List Value), us.length = ps.length → bindArgs (PySem.W.fnOf x qual params body scope .none kV doc pm an cdv ct) ⟨[], ps.zip us⟩ = pure (ps.zip us)) (s : Shared) (us : List Value) (_ : K.In s.heap) (hl : us.length = ps.length) : BindsTo s fd ⟨[], ps.zip us⟩ (ps.zip us) := by
  obtain ⟨oc, od, dV, kV, doc, pm, an, cdv, ct, osl, rfl, lk, hcd, hD, hK⟩ := F.ex
  rcases hD with ⟨_, rfl⟩ | ⟨e, _⟩
  · exact .of_eq (h kV doc pm an cdv ct us hl)
  · exact absurd rfl e
abbrev DK (X : Cx) (kws : List Keyword) (fs : List ED) : Prop := PK X kws (tDA X.K fs)
theorem pk_imp {X : Cx} {e : List Keyword} {t t' : TA} (h : PK X e t) (i : ∀ σ H Q, t' σ H Q → t σ H Q) : PK X e t' := ⟨fun pos pins s σ H Q I q => h.run pos pins s σ H Q I (i σ H Q q)⟩
section
variable {X : Cx} {W : WX} {k : Nat} {x y : Str} {ps : List Str} {n : Nat} {F : RF} {f g : ED} {fs : List ED} {e : Expr} {kws : List Keyword} {nm : Option Str} {p pos kpos : Pos}
theorem dk_nil : DK X [] [] := pk_imp pk_nil fun σ H Q ⟨B, H0, ρ, rs, ρ', S, e, k⟩ => by
  cases e
  exact k [] H0 H (Same.refl _) S rfl
theorem dk_cons (ha : DE X e f) (hr : DK X kws fs) : DK X (⟨nm, e, kpos⟩ :: kws) (f :: fs) := by
  refine pk_imp (pk_cons ha hr) fun σ H Q ⟨B, H0, ρ, rs, ρ', S, e, k⟩ => ?_
  obtain ⟨⟨r1, ρ1⟩, e1, e2⟩ := ob e
  obtain ⟨⟨rs2, ρ2⟩, e3, e4⟩ := Option.map_eq_some_iff.mp e2
  cases e4
  refine arg_red S e1 fun v H1 Ha s1 S1 R1 n1 => ?_
  refine ⟨B, H1, ρ1, rs2, ρ2, S1, e3, fun vs H2 Hb s2 S2 R2 => ?_⟩
  exact k (v :: vs) H2 Hb (s1.trans s2) S2 ⟨v, vs, rfl, R1.keep n1 s2, n1, R2⟩
theorem de_callK (C : CalK X.prog X.w X.K X.mg X.base k x ps (spF X.K n F)) (hr : Room k X.A) (ha : DK X kws fs) (hg : Gl X x := by rfl) (hdb : (x == ("__debug__" : Str)) = false := by decide)
    (hall : (backToKw pos (keywordEach kws X.env)).all (·.1.isSome) = true := by rfl) (hks : (backToKw pos (keywordEach kws X.env)).filterMap (·.1) = ps := by rfl)
    (hpl : ((backTo pos (starEach [] X.env)).any (·.1) || (backToKw pos (keywordEach kws X.env)).any (·.1.isNone)) = false := by rfl) : DE X (.Call (.Name x p) [] kws pos) (cfF n F fs) := by
  obtain ⟨fd, Fn, b⟩ := C.ex
  refine ⟨fun pins s σ H Q I h => ?_⟩
  refine wpAny_Call_Name_kw (ld_glob I hg C.gl ?_ hdb)
  refine PySem.W.callWith_KW0 (h₀ := X.base) I.ok.mod.kin C.kp hall ?_ hpl
  have h' := cf_red (E := E0) σ H Q h
  refine thn (ha.run pos pins s σ H _ I h') fun ws s2 ⟨zs, H2, I2, rz, q2⟩ => ⟨I2.kIn, ?_⟩
  rw [hks]
  replace q2 : spF X.K n F (zs ++ []) H2 Q E0 := q2
  rw [List.append_nil] at q2
  have hl : ws.length = ps.length := by rw [← rz.length]; exact Fn.len _ _ _ _ q2
  refine wpAny_call (codeAny_mono (Fn.run X.A X.stack s2 H2 ⟨[], ps.zip ws⟩ ws zs Q E0 hr I2.env0 (b s2 ws I2.kIn hl) rz q2) fun r s' hq => ?_)
  cases r with
  | error e => exact passL pins σ H2 s2 e s' I2 hq
  | ok fl =>
    cases fl with
    | ret u => exact I2.after hq
    | next => exact False.elim hq
    | brk => exact False.elim hq
    | cont => exact False.elim hq
/-! ### try .. except X: -/
def tryS (mt : Str → Option Bool) (fb fh : FS) : FS := fun ρ => (fb ρ).bind fun o => match o with
  | .ex c ρ' => (mt c).bind fun b => if b then fh ρ' else some (.ex c ρ')
  | o => some o
theorem ds_try {c : Str} {np pos' : Pos} {body suite : List Stmt} {b₀ : Stmt} {mt : Str → Option Bool} {fb fh : FS} (hs : X.stack = X.env :: X.outer) (hf : X.env.frame = some X.env.locals) (hc : Names X c (.ref (He.ga X.K c))) (tk : Takes X W)
    (hm : ∀ x b, mt x = some b → PySem.W.exmOne X.K (.ref (He.ga X.K x)) (.ref (He.ga X.K c)) = some b)
    (hb : ∀ (W : WX) (pn : List (Addr × Obj)) (xe : Value → Shared → Prop), Takes (X.tr pn xe) W → PassesOwn (model X.prog X.w) X.A X.env xe → DSs (X.tr pn xe) W body fb)
    (hsu : ∀ (a : Addr) (oe : Obj) (cls : Value) (d : Option Addr) (pn : List (Addr × Obj)), Zc cls d oe → (∃ vs, oe.data = .fields vs) → DSs (X.suite a ((a, oe) :: pn)) W (b₀ :: suite) fh) :
    DS X W (.Try body [.ExceptHandler (some (.Name c np)) none (b₀ :: suite) pos'] [] [] pos) (tryS mt fb fh) := by
  refine ps_imp (ps_try_only (tb := fun W => tDS X.K W fb) (ts := fun _ _ _ => tDS X.K W fh) hs hf hc tk hb hsu) fun Dn σ H ⟨B, H0, ρ, out, S, e, k⟩ => ?_
  obtain ⟨o, e1, e2⟩ := ob e
  refine ⟨B, H0, ρ, o, S, e1, ?_⟩
  cases o with
  | nx ρ' => cases e2; exact k
  | rt d ρ' => cases e2; exact k
  | bk ρ' => cases e2; exact k
  | ct ρ' => cases e2; exact k
  | ex c' ρ' =>
    obtain ⟨b, e3, e4⟩ := ob e2
    intro dd σ' H0' H' s' S'
    refine ⟨b, hm c' b e3, fun hb a ha => ?_, fun hb => ?_⟩
    · subst hb
      exact ⟨B, H0', ρ', out, S', e4, k.mono s'⟩
    · subst hb
      cases e4
      exact k dd σ' H0' H' s' S'
/-! ### raise X(e, ..) -/
def rsS (c : Str) (fs : List ED) : FS := fun ρ => (argsF fs ρ).bind fun p => some (.ex c p.2)
/-- X(e, ..) makes an exception of the class X, its dict anywhere -/
structure XMk (X : Cx) (c : Str) (n : Nat) : Prop where
  run : ∀ {e : Expr} {es : List Expr} {fs : List ED} {p pos : Pos}, starEach (e :: es) X.env = (false, eval e X.env) :: starEach es X.env → (backTo pos (starEach es X.env)).any (·.1) = false → DA X (e :: es) fs →
    PMk X (.Call (.Name c p) (e :: es) [] pos) (fun σ H Q => tDA X.K fs σ H fun vs H1 => vs.length = n ∧ ∀ (dd : Option Addr) H2, Same H1 H2 → Q (.ref (He.ga X.K c)) dd H2)
theorem ds_raise {c : Str} {e : Expr} {es : List Expr} (hcalm : X.calm = true) (tk : Takes X W) (hx : XMk X c n) (ha : DA X (e :: es) fs) (hfs : fs.length = n := by rfl)
    (he : starEach (e :: es) X.env = (false, eval e X.env) :: starEach es X.env := by rfl) (hpl : (backTo kpos (starEach es X.env)).any (·.1) = false := by rfl) : DS X W (.Raise (some (.Call (.Name c p) (e :: es) [] kpos)) none pos) (rsS c fs) := by
  refine ps_imp (ps_raise hcalm tk (hx.run he hpl ha)) fun Dn σ H ⟨B, H0, ρ, out, S, e, k⟩ => ?_
  obtain ⟨⟨rs, ρ1⟩, e1, e2⟩ := ob e
  cases e2
  refine ⟨B, H0, ρ, rs, _, S, e1, fun vs H1 Ha s1 S1 R1 => ⟨?_, fun dd H2 s2 => ?_⟩⟩
  · have h1 : ∀ {rs : List Res} {vs : List V}, RSs X.K B H1 Ha σ ρ1 rs vs → vs.length = rs.length := fun {rs} => by
      induction rs with
      | nil => intro vs h; cases h; rfl
      | cons r rs ih => intro vs h; obtain ⟨v, ws, rfl, _, _, h3⟩ := h; simp [ih h3]
    have h2 : ∀ {fs : List ED} {ρ ρ' : Env} {rs : List Res}, argsF fs ρ = some (rs, ρ') → rs.length = fs.length := fun {fs} => by
      induction fs with
      | nil => intro ρ ρ' rs e; cases e; rfl
      | cons f fs ih =>
        intro ρ ρ' rs e
        obtain ⟨⟨r1, ρ1⟩, e1, e2⟩ := ob e
        obtain ⟨⟨rs2, ρ2⟩, e3, e4⟩ := Option.map_eq_some_iff.mp e2
        cases e4
        simp [ih e3]
    rw [h1 R1, h2 e1]
    exact hfs
  · exact k dd σ _ H2 (s1.trans fzn_same) (S1.grow s2)
end
theorem fn_none {P : Program} {w : World} {K : PySem.W.Frag} {mg : Str → Option Value} {base : Heap} {CX : CXT} {k n : Nat} {f : Addr} {fd : FuncData} {ps : List Str} : FnOk P w K mg base CX k f fd ps (spF K n (fun _ => none)) :=
  ⟨fun _ _ _ _ h => (by obtain ⟨_, _, _, _, h, _⟩ := h; cases h), fun _ _ _ _ _ _ _ _ _ _ _ _ _ h => (by obtain ⟨_, _, _, _, h, _⟩ := h; cases h)⟩
theorem names_own {X : Cx} {x : Str} {c : Value} (hg : Gl X x) (h : X.mg x = some c) (hdb : (x == ("__debug__" : Str)) = false := by decide) : Names X x c := ⟨hg, hdb, .inl h⟩
/-- catching the class c, which alone is asked of -/
def mtOne (c : Str) : Str → Option Bool := fun x => if x = c then some true else none
theorem mtOne_ok {K : PySem.W.Frag} {c : Str} (h : PySem.W.exmOne K (.ref (He.ga K c)) (.ref (He.ga K c)) = some true) : ∀ x b, mtOne c x = some b → PySem.W.exmOne K (.ref (He.ga K x)) (.ref (He.ga K c)) = some b := fun x b e => by
  unfold mtOne at e
  split at e
  · rename_i z
    cases e
    rw [z]
    exact h
  · cases e
end Sc
set_option maxRecDepth 100000
set_option maxHeartbeats 2000000
namespace Sc
open PySem PySem.Spec PyProof.Rows L2
/-! ### own dicts whose keys are tuples -/
def isTK : D → Bool
  | .tup _ => true
  | _ => false
mutual
theorem nkD_inj : ∀ {d e : D} {k : NestedKey}, nkD d = some k → nkD e = some k → d = e
  | .int i, e, k, h1, h2 => by
    cases e with
    | int j =>
      unfold nkD at h1 h2
      cases h1
      injection h2 with h2
      injection h2 with h2
      rw [h2]
    | tup es =>
      unfold nkD at h1 h2
      cases h1
      obtain ⟨y, _, h3⟩ := Option.map_eq_some_iff.mp h2
      cases h3
    | _ => cases h2
  | .tup ds, e, k, h1, h2 => by
    cases e with
    | int j =>
      unfold nkD at h1 h2
      cases h2
      obtain ⟨y, _, h3⟩ := Option.map_eq_some_iff.mp h1
      cases h3
    | tup es =>
      unfold nkD at h1 h2
      obtain ⟨y, h3, h4⟩ := Option.map_eq_some_iff.mp h1
      obtain ⟨z, h5, h6⟩ := Option.map_eq_some_iff.mp h2
      cases h4
      injection h6 with h6
      subst h6
      rw [nkDs_inj h3 h5]
    | _ => cases h2
  | .non, _, _, h1, _ => by cases h1
  | .bl _, _, _, h1, _ => by cases h1
  | .str _, _, _, h1, _ => by cases h1
  | .lst _, _, _, h1, _ => by cases h1
theorem nkDs_inj : ∀ {ds es : List D} {ks : List NestedKey}, nkD.nkDs ds = some ks → nkD.nkDs es = some ks → ds = es
  | [], es, ks, h1, h2 => by
    cases es with
    | nil => rfl
    | cons e es =>
      unfold nkD.nkDs at h1 h2
      cases h1
      split at h2
      · cases h2
      · cases h2
  | d :: ds, es, ks, h1, h2 => by
    cases es with
    | nil =>
      unfold nkD.nkDs at h1 h2
      cases h2
      split at h1
      · cases h1
      · cases h1
    | cons e es =>
      unfold nkD.nkDs at h1 h2
      split at h1
      · rename_i k1 ks1 q1 q2
        cases h1
        split at h2
        · rename_i k2 ks2 q3 q4
          injection h2 with h2
          injection h2 with h3 h4
          subst h3 h4
          rw [nkD_inj q1 q3, nkDs_inj q2 q4]
        · cases h2
      · cases h1
end
mutual
/-- the hash of such a key is no World's choice -/
theorem nk_hash (w w' : World) : ∀ {d : D} {k : NestedKey}, nkD d = some k → k.hash w = k.hash w'
  | .int i, k, h => by unfold nkD at h; cases h; unfold NestedKey.hash; rfl
  | .tup ds, k, h => by
    unfold nkD at h
    obtain ⟨y, h3, h4⟩ := Option.map_eq_some_iff.mp h
    cases h4
    unfold NestedKey.hash
    rw [nk_hashes w w' h3]
  | .non, _, h => by cases h
  | .bl _, _, h => by cases h
  | .str _, _, h => by cases h
  | .lst _, _, h => by cases h
theorem nk_hashes (w w' : World) : ∀ {ds : List D} {ks : List NestedKey}, nkD.nkDs ds = some ks → NestedKey.hashes w ks = NestedKey.hashes w' ks
  | [], ks, h => by unfold nkD.nkDs at h; cases h; rfl
  | d :: ds, ks, h => by
    unfold nkD.nkDs at h
    split at h
    · rename_i k1 ks1 q1 q2
      cases h
      unfold NestedKey.hashes
      rw [nk_hash w w' q1, nk_hashes w w' q2]
    · cases h
end
section
variable {X : Cx} {pins : List (Addr × Obj)} {σ : L2.St} {H H0 : Hp} {s : Shared}
mutual
theorem nk_is (I : Inv X pins σ H s) : ∀ {d : D} {k : NestedKey} {v : V} {u : Value}, nkD d = some k → Rp X.K none H d v → RelV v u → NestedIs s.heap k u
  | .int i, k, v, u, h, r, ru => by
    unfold nkD at h
    cases h
    cases (show v = .int i from r)
    obtain ⟨t, rfl⟩ := (show ∃ t, u = Value.int i t from ru)
    exact .int i t
  | .tup ds, k, v, u, h, r, ru => by
    unfold nkD at h
    obtain ⟨ks, h3, h4⟩ := Option.map_eq_some_iff.mp h
    cases h4
    obtain ⟨a, vs, rfl, sq, rs⟩ := r
    cases (show u = Value.ref a from ru)
    obtain ⟨its, rv, ⟨o, e1, e2, n, e3⟩, _⟩ := I.tuple sq
    exact .tup e1 e2 e3 (by simpa using nk_all I h3 rs rv)
  | .non, _, _, _, h, _, _ => by cases h
  | .bl _, _, _, _, h, _, _ => by cases h
  | .str _, _, _, _, h, _, _ => by cases h
  | .lst _, _, _, _, h, _, _ => by cases h
theorem nk_all (I : Inv X pins σ H s) : ∀ {ds : List D} {ks : List NestedKey} {vs : List V} {us : List Value}, nkD.nkDs ds = some ks → Rps X.K none H ds vs → Vals vs us → NestedAll s.heap ks us
  | [], ks, vs, us, h, r, ru => by
    unfold nkD.nkDs at h
    cases h
    cases (show vs = [] from r)
    cases ru
    exact .nil
  | d :: ds, ks, vs, us, h, r, ru => by
    unfold nkD.nkDs at h
    split at h
    · rename_i k1 ks1 q1 q2
      cases h
      obtain ⟨v, r', rfl, r1, r2⟩ := r
      cases ru with
      | cons p1 p2 => exact .cons (nk_is I q1 r1 p1) (nk_all I q2 r2 p2)
    · cases h
end
/-- entries of keys, where their tuples stand, values -/
theorem zip_map {w : World} : ∀ {l : List (NestedKey × Addr × V)} {us : List Value}, l.length = us.length →
    List.zipWith (fun (x : NestedKey × Addr × V) u => (⟨x.1.hash w, .ref x.2.1, u⟩ : DictEntry)) l us = (List.zipWith (fun (x : NestedKey × Addr × V) u => (x.1, x.2.1, u)) l us).map (fun x => (⟨x.1.hash w, .ref x.2.1, x.2.2⟩ : DictEntry))
  | [], [], _ => rfl
  | x :: l, u :: us, h => by
    rw [List.zipWith_cons_cons, List.zipWith_cons_cons, List.map_cons, zip_map (by simpa using h)]
  | [], _ :: _, h => by cases h
  | _ :: _, [], h => by cases h
theorem zip_hash {w w' : World} : ∀ {l : List (NestedKey × Addr × V)} {us : List Value}, (∀ x ∈ l, ∃ d, nkD d = some x.1) →
    List.zipWith (fun (x : NestedKey × Addr × V) u => (⟨x.1.hash w, .ref x.2.1, u⟩ : DictEntry)) l us = List.zipWith (fun (x : NestedKey × Addr × V) u => (⟨x.1.hash w', .ref x.2.1, u⟩ : DictEntry)) l us
  | [], us, _ => by simp
  | x :: l, [], _ => by simp
  | x :: l, u :: us, h => by
    rw [List.zipWith_cons_cons, List.zipWith_cons_cons, zip_hash fun y m => h y (List.mem_cons_of_mem _ m)]
    obtain ⟨d, e⟩ := h x (List.mem_cons_self ..)
    rw [nk_hash w w' e]
theorem zip_keys : ∀ {l : List (NestedKey × Addr × V)} {us : List Value}, l.length = us.length → (List.zipWith (fun (x : NestedKey × Addr × V) u => (x.1, x.2.1, u)) l us).map (·.1) = l.map (·.1)
  | [], [], _ => rfl
  | x :: l, u :: us, h => by
    rw [List.zipWith_cons_cons, List.map_cons, List.map_cons, zip_keys (by simpa using h)]
  | [], _ :: _, h => by cases h
  | _ :: _, [], h => by cases h
theorem zip_mem : ∀ {l : List (NestedKey × Addr × V)} {us : List Value} {y : NestedKey × Addr × Value}, y ∈ List.zipWith (fun (x : NestedKey × Addr × V) u => (x.1, x.2.1, u)) l us → ∃ x ∈ l, x.1 = y.1 ∧ x.2.1 = y.2.1
  | [], _, _, h => by simp at h
  | _ :: _, [], _, h => by simp at h
  | x :: l, u :: us, y, h => by
    rw [List.zipWith_cons_cons] at h
    rcases List.mem_cons.mp h with rfl | h
    · exact ⟨x, List.mem_cons_self .., rfl, rfl⟩
    · obtain ⟨z, m, e⟩ := zip_mem h
      exact ⟨z, List.mem_cons_of_mem _ m, e⟩
theorem Tvs.keys {b : Option Hp} : ∀ {kvs : List (D × D)} {l : List (NestedKey × Addr × V)}, Tvs X.K b H kvs l → ∀ x ∈ l, ∃ d, nkD d = some x.1 ∧ x.1.depth ≤ 8 ∧ Rp X.K none H d (.ref x.2.1)
  | [], _, h, x, m => by rw [show _ = [] from h] at m; cases m
  | p :: ps, _, h, x, m => by
    obtain ⟨k, c, v, r, rfl, e2, e3, e4, e5, e6⟩ := h
    rcases List.mem_cons.mp m with rfl | m
    · exact ⟨_, e2, e3, e4⟩
    · exact Tvs.keys e6 x m
theorem Tvs.length {K : PySem.W.Frag} {b : Option Hp} : ∀ {kvs : List (D × D)} {l : List (NestedKey × Addr × V)}, Tvs K b H kvs l → l.length = kvs.length
  | [], _, h => by cases h; rfl
  | p :: ps, _, h => by
    obtain ⟨k, c, v, r, rfl, e2, e3, e4, e5, e6⟩ := h
    simp [Tvs.length e6]
/-- the dict at a, as the library tells it -/
structure TdAt (X : Cx) (b : Option Hp) (H : Hp) (h : Heap) (a : Addr) (kvs : List (D × D)) (xs : List (NestedKey × Addr × Value)) : Prop where
  sys : (a == sysModules) = false
  dd : h.DictOfH (nestedKind X.prog X.w) a xs
  rel : ∃ l us, Tvs X.K b H kvs l ∧ Vals (l.map (·.2.2)) us ∧ xs = List.zipWith (fun (x : NestedKey × Addr × V) u => (x.1, x.2.1, u)) l us
theorem td_at (I : Inv X pins σ H s) (s0 : Same H0 H) {b : Option Hp} {a : Addr} {kvs : List (D × D)} {o : HO} (e : H a = some o) (t : TdOk X.K b H0 a kvs o) : ∃ xs, TdAt X b H0 s.heap a kvs xs := by
  rcases t with ⟨rfl, rfl⟩ | ⟨l, rfl, tv, nd⟩
  · obtain ⟨z, hd, vs, rel, ⟨ob, es, ep, h1, h2, h3, h4⟩⟩ := dk_of I.hok e
    cases rel
    refine ⟨[], hd, ⟨ob, es, ep, h1, h2, h3, ?_, (fun _ m => nomatch m), List.nodup_nil⟩, [], [], rfl, .nil, rfl⟩
    obtain ⟨_, e0, _⟩ := h4
    cases e1 : es.toList with
    | nil => rfl
    | cons y ys => rw [e1] at e0; cases e0
  · have x : ObjOk X.prog X.w H s.heap a (.ext (TdRaw a l)) := I.hok a _ e
    obtain ⟨⟨hd, ob, es, ep, us, h1, h2, h3, h4, h5⟩, _, _⟩ := x
    have hl : l.length = us.length := by have := h4.length; simpa using this
    refine ⟨_, hd, ⟨ob, es, ep, h1, h2, h3, ?_, fun y m => ?_, ?_⟩, l, us, tv, h4, rfl⟩
    · rw [h5 X.w, zip_map hl]
      rfl
    · obtain ⟨x, m1, e1, e2⟩ := zip_mem m
      obtain ⟨d, k1, k2, k3⟩ := tv.keys x m1
      rw [← e1, ← e2]
      exact ⟨nk_is I k1 (k3.mono s0) rfl, k2⟩
    · rw [zip_keys hl]
      exact nd
theorem Tvs.get {K : PySem.W.Frag} {b : Option Hp} {H : Hp} {d : D} {k : NestedKey} (hk : nkD d = some k) : ∀ {kvs : List (D × D)} {l : List (NestedKey × Addr × V)} {us : List Value}, Tvs K b H kvs l → Vals (l.map (·.2.2)) us →
    match getK kvs d with
    | none => atKey (List.zipWith (fun (x : NestedKey × Addr × V) u => (x.1, x.2.1, u)) l us) k = none
    | some y => ∃ c u v, atKey (List.zipWith (fun (x : NestedKey × Addr × V) u => (x.1, x.2.1, u)) l us) k = some (c, u) ∧ Rp K b H y v ∧ RelV v u
  | [], l, us, h, r => by cases (show l = [] from h); rfl
  | p :: ps, l, us, h, r => by
    obtain ⟨k1, c, v, r1, rfl, e2, e3, e4, e5, e6⟩ := h
    cases r with
    | @cons _ u _ us' q1 q2 =>
      have ih := Tvs.get hk e6 q2
      by_cases z : p.1 = d
      · have zk : k1 = k := by rw [z, hk] at e2; cases e2; rfl
        have g1 : getK (p :: ps) d = some p.2 := by simp [getK, z]
        rw [g1]
        exact ⟨c, u, v, by simp [atKey, zk], e5, q1⟩
      · have zk : k1 ≠ k := fun y => z (nkD_inj (by rw [e2, y]) hk)
        have g1 : getK (p :: ps) d = getK ps d := by simp [getK, z]
        have g2 : atKey (List.zipWith (fun (x : NestedKey × Addr × V) u => (x.1, x.2.1, u)) ((k1, c, v) :: r1) (u :: us')) k = atKey (List.zipWith (fun (x : NestedKey × Addr × V) u => (x.1, x.2.1, u)) r1 us') k := by simp [atKey, zk]
        rw [g1, g2]
        exact ih
theorem Tvs.isSome {K : PySem.W.Frag} {b : Option Hp} {H : Hp} {d : D} {k : NestedKey} (hk : nkD d = some k) {kvs : List (D × D)} {l : List (NestedKey × Addr × V)} {us : List Value} (h : Tvs K b H kvs l) (r : Vals (l.map (·.2.2)) us) :
    (atKey (List.zipWith (fun (x : NestedKey × Addr × V) u => (x.1, x.2.1, u)) l us) k).isSome = (getK kvs d).isSome := by
  have q := Tvs.get hk h r
  cases g : getK kvs d with
  | none => rw [g] at q; rw [show atKey _ k = none from q]; rfl
  | some z => rw [g] at q; obtain ⟨c', u', v', q1, _⟩ := q; rw [q1]; rfl
theorem Tvs.snoc {K : PySem.W.Frag} {b : Option Hp} {H : Hp} {d e : D} {k : NestedKey} {c : Addr} {v : V} (hk : nkD d = some k) (hd : k.depth ≤ 8) (hc : Rp K none H d (.ref c)) (hv : Rp K b H e v) : ∀ {kvs : List (D × D)} {l : List (NestedKey × Addr × V)}, Tvs K b H kvs l → Tvs K b H (kvs ++ [(d, e)]) (l ++ [(k, c, v)])
  | [], l, h => by cases (show l = [] from h); exact ⟨k, c, v, [], rfl, hk, hd, hc, hv, rfl⟩
  | p :: ps, _, h => by
    obtain ⟨k1, c1, v1, r, rfl, e2, e3, e4, e5, e6⟩ := h
    exact ⟨k1, c1, v1, _, rfl, e2, e3, e4, e5, Tvs.snoc hk hd hc hv e6⟩
theorem Tvs.upd {K : PySem.W.Frag} {b : Option Hp} {H : Hp} {d e : D} {k : NestedKey} {v : V} {u : Value} (hk : nkD d = some k) (hv : Rp K b H e v) (ru : RelV v u) : ∀ {kvs : List (D × D)} {l : List (NestedKey × Addr × V)} {us : List Value}, Tvs K b H kvs l → Vals (l.map (·.2.2)) us →
    ∃ l' us', Tvs K b H (kvs.map fun kv => if kv.1 = d then (kv.1, e) else kv) l' ∧ Vals (l'.map (·.2.2)) us' ∧
      (List.zipWith (fun (x : NestedKey × Addr × V) u => (x.1, x.2.1, u)) l us).map (putAt k u) = List.zipWith (fun (x : NestedKey × Addr × V) u => (x.1, x.2.1, u)) l' us'
  | [], l, us, h, r => by cases (show l = [] from h); exact ⟨[], us, rfl, r, by simp⟩
  | p :: ps, l, us, h, r => by
    obtain ⟨k1, c, v1, r1, rfl, e2, e3, e4, e5, e6⟩ := h
    cases r with
    | @cons _ u1 _ us1 q1 q2 =>
      obtain ⟨l', us', i1, i2, i3⟩ := Tvs.upd hk hv ru e6 q2
      by_cases z : p.1 = d
      · have zk : k1 = k := by rw [z, hk] at e2; cases e2; rfl
        refine ⟨(k1, c, v) :: l', u :: us', ⟨k1, c, v, l', rfl, ?_, e3, ?_, ?_, i1⟩, .cons ru i2, ?_⟩
        · dsimp only; rw [if_pos z]; exact e2
        · dsimp only; rw [if_pos z]; exact e4
        · dsimp only; rw [if_pos z]; exact hv
        · rw [List.zipWith_cons_cons, List.zipWith_cons_cons, List.map_cons, i3]
          simp [putAt, zk]
      · have zk : k1 ≠ k := fun y => z (nkD_inj (by rw [e2, y]) hk)
        refine ⟨(k1, c, v1) :: l', u1 :: us', ⟨k1, c, v1, l', rfl, ?_, e3, ?_, ?_, i1⟩, .cons q1 i2, ?_⟩
        · dsimp only; rw [if_neg z]; exact e2
        · dsimp only; rw [if_neg z]; exact e4
        · dsimp only; rw [if_neg z]; exact e5
        · rw [List.zipWith_cons_cons, List.zipWith_cons_cons, List.map_cons, i3]
          simp [putAt, zk]
theorem getK_any {kvs : List (D × D)} {d : D} : (kvs.any fun kv => decide (kv.1 = d)) = (getK kvs d).isSome := by
  unfold getK
  induction kvs with
  | nil => rfl
  | cons p ps ih =>
    by_cases z : p.1 = d
    · simp [z]
    · simpa [z] using ih
theorem Vals.snoc {xs : List V} {us : List Value} {v : V} {u : Value} (r : Vals xs us) (q : RelV v u) : Vals (xs ++ [v]) (us ++ [u]) := by
  induction r with
  | nil => exact .cons q .nil
  | cons a _ ih => exact .cons a ih
theorem zip_snoc {x : NestedKey × Addr × V} {u : Value} : ∀ {l : List (NestedKey × Addr × V)} {us : List Value}, l.length = us.length →
    List.zipWith (fun (x : NestedKey × Addr × V) u => (x.1, x.2.1, u)) (l ++ [x]) (us ++ [u]) = List.zipWith (fun (x : NestedKey × Addr × V) u => (x.1, x.2.1, u)) l us ++ [(x.1, x.2.1, u)]
  | [], [], _ => rfl
  | y :: l, v :: us, h => by
    rw [List.cons_append, List.cons_append, List.zipWith_cons_cons, List.zipWith_cons_cons, zip_snoc (by simpa using h), List.cons_append]
  | [], _ :: _, h => by cases h
  | _ :: _, [], h => by cases h
theorem Tvs.put {K : PySem.W.Frag} {b : Option Hp} {H : Hp} {d e : D} {k : NestedKey} {c : Addr} {v : V} {u : Value} (hk : nkD d = some k) (hd : k.depth ≤ 8) (hc : Rp K none H d (.ref c)) (hv : Rp K b H e v) (ru : RelV v u) {kvs : List (D × D)} {l : List (NestedKey × Addr × V)} {us : List Value} (h : Tvs K b H kvs l) (r : Vals (l.map (·.2.2)) us) :
    ∃ l' us', Tvs K b H (putKD kvs d e) l' ∧ Vals (l'.map (·.2.2)) us' ∧ storedH (List.zipWith (fun (x : NestedKey × Addr × V) u => (x.1, x.2.1, u)) l us) k c u = List.zipWith (fun (x : NestedKey × Addr × V) u => (x.1, x.2.1, u)) l' us' := by
  have hl : l.length = us.length := by have := r.length; simpa using this
  have g := Tvs.get hk h r
  unfold putKD
  rw [getK_any]
  cases q : getK kvs d with
  | none =>
    rw [q] at g
    rw [if_neg (by simp), storedH_new g]
    refine ⟨l ++ [(k, c, v)], us ++ [u], h.snoc hk hd hc hv, ?_, (zip_snoc (x := (k, c, v)) hl).symm⟩
    rw [List.map_append]
    exact Vals.snoc r ru
  | some y =>
    rw [q] at g
    obtain ⟨c', u', v', g1, _⟩ := g
    rw [if_pos (by simp), storedH_old g1]
    exact Tvs.upd hk hv ru h r
end
/-! what the library does there -/
section
variable {X : Cx} {pins : List (Addr × Obj)} {σ : L2.St} {H H0 : Hp} {s : Shared} {A : Around} {E : Value → Shared → Prop} {a : Addr} {o : HO} {b : Option Hp} {kvs : List (D × D)} {d e : D} {k : NestedKey} {y v : V} {u r : Value}
theorem key_ref (hk : nkD d = some k) (ht : isTK d = true) (ry : Rp X.K none H0 d y) (ru : RelV y u) : ∃ c, y = .ref c ∧ u = .ref c := by
  cases d with
  | tup ds => obtain ⟨c, vs, rfl, _⟩ := ry; exact ⟨c, rfl, ru⟩
  | _ => cases ht
theorem t_getItem {Q : Value → Shared → Prop} (hu : A.units + 16 < cLine) (I : Inv X pins σ H s) (s0 : Same H0 H) (e : H a = some o) (t : TdOk X.K b H0 a kvs o) (hk : nkD d = some k) (ht : isTK d = true) (hd : k.depth ≤ 8) (ry : Rp X.K none H0 d y) (ru : RelV y u) {z : D} (g : getK kvs d = some z)
    (h : ∀ v w' s', Inv X pins σ H s' → Rp X.K b H0 z v → RelV v w' → Q w' s') : wpAny (model X.prog X.w) A (getItem (.ref a) u) Q E s := by
  obtain ⟨xs, hs, dd, l, us, tv, vl, rfl⟩ := td_at I s0 e t
  obtain ⟨c, rfl, rfl⟩ := key_ref hk ht ry ru
  have q := tv.get hk vl
  rw [g] at q
  obtain ⟨c', u', v', q1, q2, q3⟩ := q
  exact wpAny_getItem_heap (knd := nestedKind X.prog X.w) (by show A.in1.units + 8 < cLine; show A.units + 1 + 8 < cLine; omega) ⟨nk_is I hk (ry.mono s0) rfl, hd⟩ dd q1 (h v' _ _ (I.tok _) q2 q3)
theorem t_in {Q : Value → Shared → Prop} (hu : A.units + 16 < cLine) (I : Inv X pins σ H s) (s0 : Same H0 H) (e : H a = some o) (t : TdOk X.K b H0 a kvs o) (hk : nkD d = some k) (ht : isTK d = true) (hd : k.depth ≤ 8) (ry : Rp X.K none H0 d y) (ru : RelV y u)
    (h : ∀ s', Inv X pins σ H s' → Q (.bool (getK kvs d).isSome) s') : wpAny (model X.prog X.w) A (compareOp .In u (.ref a)) Q E s := by
  obtain ⟨xs, hs, dd, l, us, tv, vl, rfl⟩ := td_at I s0 e t
  obtain ⟨c, rfl, rfl⟩ := key_ref hk ht ry ru
  have q := tv.get hk vl
  refine wpAny_in_heap (knd := nestedKind X.prog X.w) (by show A.units + 1 + 8 < cLine; omega) ⟨nk_is I hk (ry.mono s0) rfl, hd⟩ hs dd ?_
  have q2 := Tvs.isSome hk tv vl
  rw [q2]
  exact h _ (I.tok _)
theorem t_notIn {Q : Value → Shared → Prop} (hu : A.units + 16 < cLine) (I : Inv X pins σ H s) (s0 : Same H0 H) (e : H a = some o) (t : TdOk X.K b H0 a kvs o) (hk : nkD d = some k) (ht : isTK d = true) (hd : k.depth ≤ 8) (ry : Rp X.K none H0 d y) (ru : RelV y u)
    (h : ∀ s', Inv X pins σ H s' → Q (.bool (!(getK kvs d).isSome)) s') : wpAny (model X.prog X.w) A (compareOp .NotIn u (.ref a)) Q E s := by
  obtain ⟨xs, hs, dd, l, us, tv, vl, rfl⟩ := td_at I s0 e t
  obtain ⟨c, rfl, rfl⟩ := key_ref hk ht ry ru
  have q := tv.get hk vl
  refine wpAny_notIn_heap (knd := nestedKind X.prog X.w) (by show A.units + 1 + 8 < cLine; omega) ⟨nk_is I hk (ry.mono s0) rfl, hd⟩ hs dd ?_
  have q2 := Tvs.isSome hk tv vl
  rw [q2]
  exact h _ (I.tok _)
theorem putKD_le {kvs : List (D × D)} {d e : D} : (putKD kvs d e).length ≤ kvs.length + 1 := by
  unfold putKD
  split <;> simp
theorem DictOfH_keys {h : Heap} {xs : List (NestedKey × Addr × Value)} {P : Program} {w : World} (x : h.DictOfH (nestedKind P w) a xs) : (xs.map (·.1)).Nodup := let ⟨_, _, _, _, _, _, _, _, n⟩ := x; n
theorem t_setItem {Q : Unit → Shared → Prop} (hu : A.units + 16 < cLine) (I : Inv X pins σ H s) (s0 : Same H0 H) (ea : H a = some o) (t : TdOk X.K b H0 a kvs o) (hz : kvs.length ≤ 1000000) (hk : nkD d = some k) (ht : isTK d = true) (hd : k.depth ≤ 8) (ry : Rp X.K none H0 d y) (ru : RelV y u) (rv : Rp X.K b H0 e v) (rr : RelV v r)
    (h : ∀ l s', Inv X pins σ (upd H a (tdH a l)) s' → Tvs X.K b H0 (putKD kvs d e) l → (l.map (·.1)).Nodup → Q () s') : wpAny (model X.prog X.w) A (setItem (.ref a) u r) Q E s := by
  obtain ⟨xs, hs, dd, l, us, tv, vl, rfl⟩ := td_at I s0 ea t
  obtain ⟨c, rfl, rfl⟩ := key_ref hk ht ry ru
  have hl : l.length = us.length := by have := vl.length; simpa using this
  obtain ⟨l', us', i1, i2, i3⟩ := Tvs.put hk hd ry rv rr tv vl
  have hl' : l'.length = us'.length := by have := i2.length; simpa using this
  have hsz : (List.zipWith (fun (x : NestedKey × Addr × V) u => (x.1, x.2.1, u)) l us).length ≤ sizeLine := by
    rw [List.length_zipWith, ← hl, tv.length, sizeLine_eq]
    omega
  refine wpAny_setItem_heap (knd := nestedKind X.prog X.w) (hsz := hsz) (by show A.units + 1 + 8 < cLine; omega) ⟨nk_is I hk (ry.mono s0) rfl, hd⟩ dd fun h' dd' hs' => ?_
  rw [i3] at dd'
  have nd := DictOfH_keys dd'
  rw [zip_keys hl'] at nd
  obtain ⟨q, es, ep, hq, h2, h3, h4, h5, _⟩ := dd'
  refine h l' _ (d_write I ?_ hs' ⟨q, hq⟩ ?_) i1 nd
  · rcases t with ⟨_, rfl⟩ | ⟨l0, rfl, _⟩ <;> rw [ea] <;> exact True.intro
  · refine ⟨⟨hs, q, es, ep, us', hq, h2, h3, i2, fun w => ?_⟩, ⟨q, hq⟩, fun h1 h2 z k => ?_⟩
    · rw [h4]
      have e1 : es.toList = List.zipWith (fun (x : NestedKey × Addr × V) u => (⟨x.1.hash X.w, .ref x.2.1, u⟩ : DictEntry)) l' us' := by rw [h4, zip_map hl']; rfl
      rw [← h4, e1]
      exact zip_hash (fun x m => let ⟨d, q1, _⟩ := i1.keys x m; ⟨d, q1⟩)
    · obtain ⟨z1, o, es, ep, us, z2, z3⟩ := z
      exact ⟨z1, o, es, ep, us, k _ z2, z3⟩
end
/-! ### rules -/
def tTGet (K : PySem.W.Frag) (td ty : TE) : TE := fun σ H Q => td σ H fun x H1 => ty σ H1 fun y H2 => ∃ a o b H0 kvs d k z, x = .ref a ∧ Same H0 H2 ∧ H2 a = some o ∧ TdOk K b H0 a kvs o ∧ nkD d = some k ∧ isTK d = true ∧ k.depth ≤ 8 ∧ Rp K none H0 d y ∧ getK kvs d = some z ∧ ∀ v, Rp K b H0 z v → Q v H2
def tTIn (K : PySem.W.Frag) (neg : Bool) (ty td : TE) : TE := fun σ H Q => ty σ H fun y H1 => td σ H1 fun x H2 => ∃ a o b H0 kvs d k, x = .ref a ∧ Same H0 H2 ∧ H2 a = some o ∧ TdOk K b H0 a kvs o ∧ nkD d = some k ∧ isTK d = true ∧ k.depth ≤ 8 ∧ Rp K none H0 d y ∧ Q (.bl (if neg then !(getK kvs d).isSome else (getK kvs d).isSome)) H2
section
variable {X : Cx} {o i : Expr} {pos : Pos} {td ty : TE}
theorem pe_tget (hu : X.A.units + 16 < cLine) (ho : PE X o td) (hi : PE X i ty) (hs : NoSl i) : PE X (.Subscript o i pos) (tTGet X.K td ty) := by
  refine ⟨fun pins s σ H Q I h => ?_⟩
  refine subD_of PySem.F.slot_dict_getitem.lookup hs (thn (ho.run pins s σ H _ I h) fun u s1 ⟨x, H1, I1, rx, q1⟩ => thn (hi.run pins s1 σ H1 _ I1 q1) fun iv s2 ⟨y, H2, I2, ry, a, ob, b, H0, kvs, d, k, z, ex, s0, e, t, hk, ht, hd, rk, g, q2⟩ => ?_)
  subst ex
  obtain rfl : u = Value.ref a := rx
  exact ⟨let ⟨_, T⟩ := td_at I2 s0 e t; T.dd.typeIs, t_getItem hu I2 s0 e t hk ht hd rk ry g fun v w' s3 I3 r1 r2 => ⟨v, H2, I3, r2, q2 v r1⟩⟩
theorem pc_tin (hu : X.A.units + 16 < cLine) (hi : PE X i ty) (ho : PE X o td) : PC X .In i o (tTIn X.K false ty td) := by
  refine ⟨fun pins s σ H Q I h => ?_⟩
  refine thn (hi.run pins s σ H _ I h) fun iv s1 ⟨y, H1, I1, ry, q1⟩ => thn (ho.run pins s1 σ H1 _ I1 q1) fun u s2 ⟨x, H2, I2, rx, a, ob, b, H0, kvs, d, k, ex, s0, e, t, hk, ht, hd, rk, q2⟩ => ?_
  subst ex
  obtain rfl : u = Value.ref a := rx
  exact t_in hu I2 s0 e t hk ht hd rk ry fun s3 I3 => ⟨.bl (getK kvs d).isSome, H2, I3, rfl, q2⟩
theorem pc_tnin (hu : X.A.units + 16 < cLine) (hi : PE X i ty) (ho : PE X o td) : PC X .NotIn i o (tTIn X.K true ty td) := by
  refine ⟨fun pins s σ H Q I h => ?_⟩
  refine thn (hi.run pins s σ H _ I h) fun iv s1 ⟨y, H1, I1, ry, q1⟩ => thn (ho.run pins s1 σ H1 _ I1 q1) fun u s2 ⟨x, H2, I2, rx, a, ob, b, H0, kvs, d, k, ex, s0, e, t, hk, ht, hd, rk, q2⟩ => ?_
  subst ex
  obtain rfl : u = Value.ref a := rx
  exact t_notIn hu I2 s0 e t hk ht hd rk ry fun s3 I3 => ⟨.bl (!(getK kvs d).isSome), H2, I3, rfl, q2⟩
def rSetT (K : PySem.W.Frag) : TSet := fun o i v H Q => ∃ a ob b H0 kvs d k e, o = .ref a ∧ Same H0 H ∧ H a = some ob ∧ TdOk K b H0 a kvs ob ∧ kvs.length ≤ 1000000 ∧ nkD d = some k ∧ isTK d = true ∧ k.depth ≤ 8 ∧ Rp K none H0 d i ∧ Rp K b H0 e v ∧ ∀ l, Tvs K b H0 (putKD kvs d e) l → (l.map (·.1)).Nodup → Q (upd H a (tdH a l))
theorem set_tdict (hu : X.A.units + 16 < cLine) : PSet X (rSetT X.K) := by
  intro pins s σ H o i v ov iv u Q I ro ri rv h
  obtain ⟨a, ob, b, H0, kvs, d, k, e, eo, s0, ea, t, hz, hk, ht, hd, rk, re, q⟩ := h
  subst eo
  cases (show ov = Value.ref a from ro)
  exact t_setItem hu I s0 ea t hz hk ht hd rk ri re rv fun l s' I' h1 h2 => ⟨_, I', q l h1 h2⟩
end
end Sc
set_option maxRecDepth 100000
set_option maxHeartbeats 2000000
namespace Sc
open PySem PySem.Spec PyProof.Rows L2
/-! ### own dicts whose keys are tuples, by value -/
def tdOf : Option Slot → Option (List (D × D))
  | some (.td kvs) => some kvs
  | some (.od []) => some []
  | _ => none
def okTK (d : D) : Bool := isTK d && (match nkD d with | some k => decide (k.depth ≤ 8) | none => false)
theorem okTK_iff {d : D} (h : okTK d = true) : ∃ k, nkD d = some k ∧ isTK d = true ∧ k.depth ≤ 8 := by
  unfold okTK at h
  rw [Bool.and_eq_true] at h
  cases q : nkD d with
  | none => rw [q] at h; cases h.2
  | some k => rw [q] at h; exact ⟨k, rfl, h.1, of_decide_eq_true h.2⟩
section
variable {K : PySem.W.Frag} {B : Bs} {H0 H : Hp} {σ : L2.St} {ρ : Env} {i : Nat} {kvs : List (D × D)} {d : D} {v : V} {fr : Bool}
theorem SD.tdAt (S : SD K B H0 H σ ρ) (e : tdOf ρ[i]? = some kvs) : ∃ a o, σ[i]? = some (some (.ref a)) ∧ H a = some o ∧ TdOk K (some B.b) H0 a kvs o := by
  obtain ⟨O, w⟩ := S.own
  unfold tdOf at e
  split at e
  · rename_i kvs' q
    cases e
    obtain ⟨a, o, e0, e1, e2, e3⟩ := w.ok i _ q
    exact ⟨a, o, join_some e1, e2, e3⟩
  · rename_i q
    cases e
    obtain ⟨a, l, e0, e1, e2, e3⟩ := w.ok i _ q
    cases (show l = [] from e3)
    exact ⟨a, _, join_some e1, e2, .inl ⟨rfl, rfl⟩⟩
  · cases e
/-- the key, frozen -/
theorem rv_key (S : SD K B H0 H σ ρ) (h : Rv K (bo B fr) H0 H d v) (t : isTK d = true) : Rp K none H0 d v := by
  cases d with
  | tup ds =>
    have h' : Rp K (bo B fr) H0 (.tup ds) v := h
    exact h'.weak
  | _ => cases t
theorem SD.wrT {a : Addr} {o : HO} {kvs' : List (D × D)} {l' : List (NestedKey × Addr × V)} (S : SD K B H0 H σ ρ) (e : tdOf ρ[i]? = some kvs) (ea : σ[i]? = some (some (.ref a))) (hr : Tvs K (some B.b) H0 kvs' l') (nd : (l'.map (·.1)).Nodup) :
    ∃ H1, Same H0 H1 ∧ SD K B H1 (upd H a (tdH a l')) σ (ρ.set i (.td kvs')) := by
  obtain ⟨O, w⟩ := S.own
  have own : O i = [a] ∧ i < ρ.length := by
    unfold tdOf at e
    split at e
    · rename_i kvs' q
      obtain ⟨a', o, e0, e1, e2, e3⟩ := w.ok i _ q
      rw [ea] at e1
      cases e1
      exact ⟨e0, (List.getElem?_eq_some_iff.mp q).1⟩
    · rename_i q
      obtain ⟨a', l, e0, e1, e2, e3⟩ := w.ok i _ q
      rw [ea] at e1
      cases e1
      exact ⟨e0, (List.getElem?_eq_some_iff.mp q).1⟩
    · cases e
  obtain ⟨e0, hi⟩ := own
  refine ⟨_, fzn_same, S.step w (ρ' := ρ.set i (.td kvs')) (H' := upd H a (tdH a l')) (fun b => b = a) (by simp) (fun b o n q => by rw [upd_ne n]; exact q) (fun b o c q => by subst c; rw [upd_same] at q; cases q; rfl) (fun b c => by subst c; exact w.non i b (by rw [e0]; simp)) (fun b c => by subst c; exact w.tmp i b (by rw [e0]; simp)) fun j s' q => ?_⟩
  by_cases z : j = i
  · subst z
    rw [List.getElem?_set_self hi] at q
    cases q
    exact .inr ⟨a, _, e0, by rw [ea]; rfl, upd_same, .inr ⟨l', rfl, hr.mono fzn_same, nd⟩⟩
  · rw [List.getElem?_set_ne (Ne.symm z)] at q
    refine .inl ⟨q, fun b m c => z ?_⟩
    subst c
    exact w.inj j i b m (by rw [e0]; simp)
end
def tgF (i : Nat) (g : ED) : ED := fun ρ => if (tdOf ρ[i]?).isSome then (argF g ρ).bind fun p => (view p.2 p.1).bind fun q => (tdOf p.2[i]?).bind fun kvs => if okTK q.2 then (getK kvs q.2).map fun x => (.fz x, p.2) else none else none
def tnF (neg : Bool) (i : Nat) (g : ED) : ED := fun ρ => (argF g ρ).bind fun p => (view p.2 p.1).bind fun q => (tdOf p.2[i]?).bind fun kvs => if okTK q.2 then some (.fz (.bl (if neg then !(getK kvs q.2).isSome else (getK kvs q.2).isSome)), p.2) else none
def tsS (i : Nat) (g f : ED) : FS := fun ρ => (itF f ρ).bind fun p1 => if p1.1.1 ∧ (tdOf p1.2[i]?).isSome then (argF g p1.2).bind fun p2 => (view p2.2 p2.1).bind fun q => (tdOf p2.2[i]?).bind fun kvs => if okTK q.2 ∧ kvs.length ≤ LIM then some (.nx (p2.2.set i (.td (putKD kvs q.2 p1.1.2)))) else none else none
section
variable {X : Cx} {W : WX} {a b c e : Expr} {f g h : ED} {pos p2 p : Pos} {x : Str}
theorem de_tget (i : Nat) (hu : X.A.units + 16 < cLine) (hg : DE X a g) (hN : X.N[i]? = some x := by rfl) (hv : Vis X.env.scope x := by first | exact Or.inl rfl | exact Or.inr (Or.inl rfl) | exact Or.inr (Or.inr rfl)) (hd : (x == ("__debug__" : Str)) = false := by decide)
    (hcd : (x == ("__classdict__" : Str)) = false := by decide) (hs : NoSl a := by exact fun _ _ => rfl) : DE X (.Subscript (.Name x p) a pos) (tgF i g) := by
  refine pe_imp (pe_tget hu (pe_var (i := i) hN hv hd hcd) hg hs) fun σ H Q ⟨B, H0, ρ, r, ρ', S, e, k⟩ => ?_
  unfold tgF at e
  split at e
  · rename_i z0
    obtain ⟨kvs0, q0⟩ := Option.isSome_iff_exists.mp z0
    obtain ⟨da, o0, ea, _, _⟩ := S.tdAt q0
    obtain ⟨⟨r1, ρ1⟩, e1, e⟩ := ob e
    obtain ⟨⟨fr, d⟩, e2, e⟩ := ob e
    obtain ⟨kvs, q, e⟩ := ob e
    replace e : (if okTK d = true then (getK kvs d).map fun x => (Res.fz x, ρ1) else none) = some (r, ρ') := e
    split at e
    · rename_i z
      obtain ⟨y, e3, e4⟩ := Option.map_eq_some_iff.mp e
      cases e4
      refine ⟨_, ea, arg_red S e1 fun v H1 Ha s1 S1 R1 n1 => ?_⟩
      obtain ⟨kk, hk, ht, hd⟩ := okTK_iff z
      have hv := rv_key S1 (S1.view R1 e2) ht
      obtain ⟨da', o, ea', hH, hl⟩ := S1.tdAt q
      rw [ea] at ea'
      cases ea'
      exact ⟨da, o, some B.b, H1, kvs, d, kk, y, rfl, S1.sub, hH, hl, hk, ht, hd, hv, e3, fun v r => k v H1 Ha s1 S1 r⟩
    · cases e
  · cases e
theorem tn_red (i : Nat) (neg : Bool) : ∀ σ H Q, tDE X.K (tnF neg i g) σ H Q → tTIn X.K neg (tDE X.K g) (tVar i) σ H Q := by
  rintro σ H Q ⟨B, H0, ρ, r, ρ', S, e, k⟩
  obtain ⟨⟨r1, ρ1⟩, e1, e⟩ := ob e
  obtain ⟨⟨fr, d⟩, e2, e⟩ := ob e
  obtain ⟨kvs, q, e⟩ := ob e
  replace e : (if okTK d = true then some (Res.fz (.bl (if neg then !(getK kvs d).isSome else (getK kvs d).isSome)), ρ1) else none) = some (r, ρ') := e
  split at e
  · rename_i z
    cases e
    refine arg_red S e1 fun v H1 Ha s1 S1 R1 n1 => ?_
    obtain ⟨kk, hk, ht, hd⟩ := okTK_iff z
    have hv := rv_key S1 (S1.view R1 e2) ht
    obtain ⟨da, o, ea, hH, hl⟩ := S1.tdAt q
    exact ⟨_, ea, da, o, some B.b, H1, kvs, d, kk, rfl, S1.sub, hH, hl, hk, ht, hd, hv, k _ H1 Ha s1 S1 rfl⟩
  · cases e
theorem de_tin (i : Nat) (hu : X.A.units + 16 < cLine) (hg : DE X a g) (hN : X.N[i]? = some x := by rfl) (hv : Vis X.env.scope x := by first | exact Or.inl rfl | exact Or.inr (Or.inl rfl) | exact Or.inr (Or.inr rfl)) (hd : (x == ("__debug__" : Str)) = false := by decide)
    (hcd : (x == ("__classdict__" : Str)) = false := by decide) (hm : behindInMarks .In (.Name x p) = false := by rfl) : DE X (.Compare a [.In] [.Name x p] pos) (tnF false i g) :=
  pe_imp (pe_cmp (pc_tin hu hg (pe_var (i := i) hN hv hd hcd)) hm) (tn_red (X := X) (g := g) i false)
theorem de_tnin (i : Nat) (hu : X.A.units + 16 < cLine) (hg : DE X a g) (hN : X.N[i]? = some x := by rfl) (hv : Vis X.env.scope x := by first | exact Or.inl rfl | exact Or.inr (Or.inl rfl) | exact Or.inr (Or.inr rfl)) (hd : (x == ("__debug__" : Str)) = false := by decide)
    (hcd : (x == ("__classdict__" : Str)) = false := by decide) (hm : behindInMarks .NotIn (.Name x p) = false := by rfl) : DE X (.Compare a [.NotIn] [.Name x p] pos) (tnF true i g) :=
  pe_imp (pe_cmp (pc_tnin hu hg (pe_var (i := i) hN hv hd hcd)) hm) (tn_red (X := X) (g := g) i true)
theorem dt_tin (i : Nat) (hu : X.A.units + 16 < cLine) (hg : DE X a g) (hN : X.N[i]? = some x := by rfl) (hv : Vis X.env.scope x := by first | exact Or.inl rfl | exact Or.inr (Or.inl rfl) | exact Or.inr (Or.inr rfl)) (hd : (x == ("__debug__" : Str)) = false := by decide)
    (hcd : (x == ("__classdict__" : Str)) = false := by decide) (hm : behindInMarks .In (.Name x p) = false := by rfl) : DT X (.Compare a [.In] [.Name x p] pos) (tstF (tnF false i g)) :=
  pt_imp (pt_cmp (pc_tin hu hg (pe_var (i := i) hN hv hd hcd)) hm) (tst_B (tn_red (X := X) (g := g) i false))
theorem dt_tnin (i : Nat) (hu : X.A.units + 16 < cLine) (hg : DE X a g) (hN : X.N[i]? = some x := by rfl) (hv : Vis X.env.scope x := by first | exact Or.inl rfl | exact Or.inr (Or.inl rfl) | exact Or.inr (Or.inr rfl)) (hd : (x == ("__debug__" : Str)) = false := by decide)
    (hcd : (x == ("__classdict__" : Str)) = false := by decide) (hm : behindInMarks .NotIn (.Name x p) = false := by rfl) : DT X (.Compare a [.NotIn] [.Name x p] pos) (tstF (tnF true i g)) :=
  pt_imp (pt_cmp (pc_tnin hu hg (pe_var (i := i) hN hv hd hcd)) hm) (tst_B (tn_red (X := X) (g := g) i true))
theorem ds_tst (i : Nat) (hu : X.A.units + 16 < cLine) (hg : DE X a g) (he : DE X e f) (hN : X.N[i]? = some x := by rfl) (hv : Vis X.env.scope x := by first | exact Or.inl rfl | exact Or.inr (Or.inl rfl) | exact Or.inr (Or.inr rfl)) (hd : (x == ("__debug__" : Str)) = false := by decide)
    (hcd : (x == ("__classdict__" : Str)) = false := by decide)
    (ha : ∀ v, assign (.Subscript (.Name x p) a p2) X.env v = (do
      let ov ← holding [v] (eval (.Name x p) X.env)
      let iv ← holding [v, ov] (eval a X.env)
      standAt p2
      holding [v, ov, iv] (setItem ov iv v)
      release [v, ov, iv] []) := by intro _; rfl)
    (hs : swapsWithSole [.Subscript (.Name x p) a p2] e pos.line X.env = pure false := by rfl) (hw : swappedStores [.Subscript (.Name x p) a p2] e X.env = pure none := by rfl)
    (h1 : (assignEach [.Subscript (.Name x p) a p2] X.env).map (·.2) = [assign (.Subscript (.Name x p) a p2) X.env] := by rfl) : DS X W (.Assign [.Subscript (.Name x p) a p2] e pos) (tsS i g f) := by
  refine ps_imp (ps_asg he (pg_sub (pe_var (i := i) hN hv hd hcd) hg (set_tdict hu) ha) hs hw h1) fun Dn σ H ⟨B, H0, ρ, out, S, e, k⟩ => ?_
  obtain ⟨⟨⟨fr, d⟩, ρ1⟩, e1, e⟩ := ob e
  replace e : (if fr = true ∧ (tdOf ρ1[i]?).isSome = true then (argF g ρ1).bind fun p2 => (view p2.2 p2.1).bind fun q => (tdOf p2.2[i]?).bind fun kvs => if okTK q.2 = true ∧ kvs.length ≤ LIM then some (Out.nx (p2.2.set i (.td (putKD kvs q.2 d)))) else none else none) = some out := e
  split at e
  · rename_i z0
    obtain ⟨rfl, z0⟩ := z0
    obtain ⟨kvs0, q0⟩ := Option.isSome_iff_exists.mp z0
    refine it_red S e1 fun v H1 Ha s1 S1 R1 => ?_
    obtain ⟨da, o0, ea, _, _⟩ := S1.tdAt q0
    obtain ⟨⟨r2, ρ2⟩, e2, e⟩ := ob e
    obtain ⟨⟨fr2, y⟩, e3, e⟩ := ob e
    obtain ⟨kvs, q, e⟩ := ob e
    replace e : (if okTK y = true ∧ kvs.length ≤ LIM then some (Out.nx (ρ2.set i (.td (putKD kvs y d)))) else none) = some out := e
    split at e
    · rename_i z
      cases e
      refine ⟨_, ea, arg_red S1 e2 fun w H2 Hb s2 S2 R2 n2 => ?_⟩
      obtain ⟨kk, hk, ht, hdp⟩ := okTK_iff z.1
      have hv := rv_key S2 (S2.view R2 e3) ht
      obtain ⟨da', o, ea', hH, hl⟩ := S2.tdAt q
      rw [ea] at ea'
      cases ea'
      refine ⟨da, o, some B.b, H2, kvs, y, kk, d, rfl, S2.sub, hH, hl, z.2, hk, ht, hdp, hv, R1.mono s2, fun l t1 t2 => ?_⟩
      obtain ⟨H3, s3, S3⟩ := S2.wrT (o := o) q ea t1 t2
      exact k _ H3 _ ((s1.trans s2).trans s3) S3
    · cases e
  · cases e
theorem call_lenT : CallR X (.builtin "len") (fun xs H Q => ∃ a o b H0 kvs, xs = [V.ref a] ∧ Same H0 H ∧ H a = some o ∧ TdOk X.K b H0 a kvs o ∧ kvs.length ≤ LIM ∧ Q (.int kvs.length) H) := by
  intro pins s σ H xs us Q I r h
  obtain ⟨a, o, b, H0, kvs, rfl, s0, e, t, hz, q⟩ := h
  rw [Vals.ref1 r]
  obtain ⟨xs, hs, dd, l, us, tv, vl, rfl⟩ := td_at I s0 e t
  have hl : (List.zipWith (fun (x : NestedKey × Addr × V) u => (x.1, x.2.1, u)) l us).length = kvs.length := by
    have h1 : l.length = us.length := by have := vl.length; simpa using this
    rw [List.length_zipWith, ← h1, tv.length, Nat.min_self]
  refine PySem.call_len_dictH hs dd (by rw [hl]; have : kvs.length ≤ 1000000 := hz; omega) ?_
  rw [hl]
  exact ⟨.int ((kvs.length : Nat) : Int), H, I.tok _, ⟨_, rfl⟩, q⟩
def tlF (i : Nat) : ED := fun ρ => (tdOf ρ[i]?).bind fun kvs => if kvs.length ≤ LIM then some (.fz (.int kvs.length), ρ) else none
theorem de_tlen (i : Nat) (hm : X.mg "len" = none) (hN : X.N[i]? = some x := by rfl) (hv : Vis X.env.scope x := by first | exact Or.inl rfl | exact Or.inr (Or.inl rfl) | exact Or.inr (Or.inr rfl)) (hd : (x == ("__debug__" : Str)) = false := by decide)
    (hcd : (x == ("__classdict__" : Str)) = false := by decide) (hg : Gl X "len" := by rfl) (hs : starEach (.Name x p2 :: []) X.env = (false, eval (.Name x p2) X.env) :: starEach [] X.env := by rfl) (hpl : (backTo pos (starEach ([] : List Expr) X.env)).any (·.1) = false := by rfl) : DE X (.Call (.Name "len" p) [.Name x p2] [] pos) (tlF i) := by
  refine pe_imp (pe_callB call_lenT hg hm (by decide +kernel) (pa_cons (pe_var (i := i) hN hv hd hcd) pa_nil hs) (by decide) (by decide) hs hpl) fun σ H Q ⟨B, H0, ρ, r, ρ', S, e, k⟩ => ?_
  obtain ⟨kvs, q, e⟩ := ob e
  replace e : (if kvs.length ≤ LIM then some (Res.fz (.int kvs.length), ρ) else none) = some (r, ρ') := e
  split at e
  · rename_i z
    cases e
    obtain ⟨da, o, ea, hH, hl⟩ := S.tdAt q
    exact ⟨_, ea, da, o, some B.b, H0, kvs, rfl, S.sub, hH, hl, z, k _ H0 H (Same.refl _) S rfl⟩
  · cases e
end
end Sc
set_option maxRecDepth 100000
set_option maxHeartbeats 2000000
namespace Sc
open PySem PySem.Spec PyProof.Rows L2
/-! ### an own exception class whose __init__ says super().__init__(e); self.f = e -/
def oexB (K : PySem.W.Frag) (C : Addr) : Bool :=
  (match K.lookup C with
  | some ⟨cl, _, .cls cd, sl⟩ => decide (cl = .type "type") && (decide (cd.mro.head? = some (.ref C)) && (PySem.HandSPX.refsVE cd.mro.tail && (cd.hasDict && (!cd.hasDel && (match sl.toList with
    | [_, _, _, _, some n, _] => decide (n = .builtin "ValueError.__new__")
    | _ => false)))))
  | _ => false) &&
  (He.eqO (PySem.W.findIn K (.ref C) "__setattr__") (some (some (.builtin "object.__setattr__"))) && (decide (PySem.W.subIn K (.ref C) (.type "BaseException") = some true) && (decide (PySem.W.typeIn K (.ref C) = some (.type "type")) && PySem.W.keepIn K (.ref C))))
theorem oexB_ok {K : PySem.W.Frag} {C : Addr} (h : oexB K C = true) : OexC K C := by
  unfold oexB at h
  obtain ⟨h1, h2⟩ := He.ba h
  obtain ⟨h3, h4⟩ := He.ba h2
  obtain ⟨h5, h6⟩ := He.ba h4
  obtain ⟨h7, h8⟩ := He.ba h6
  refine ⟨?_, He.eqO_ok h3, of_decide_eq_true h5, of_decide_eq_true h7, h8⟩
  split at h1
  · rename_i cl dd cd sl e
    obtain ⟨a1, g1⟩ := He.ba h1
    obtain ⟨a2, g2⟩ := He.ba g1
    obtain ⟨a3, g3⟩ := He.ba g2
    obtain ⟨a4, g4⟩ := He.ba g3
    obtain ⟨a5, g5⟩ := He.ba g4
    clear h1 g1 g2 g3 g4
    split at g5
    · rename_i k0 k1 k2 k3 n k5 e2
      obtain ⟨nm, bs, mro, ns, qn, hd, sn, sb, ab, col, del⟩ := cd
      have b1 := of_decide_eq_true a1
      have b2 := of_decide_eq_true a2
      have b6 := of_decide_eq_true g5
      dsimp only at b2 a3 a4 a5
      cases mro with
      | nil => cases b2
      | cons m0 bm =>
        cases b2
        have b5 : del = false := by cases del with | true => cases a5 | false => rfl
        subst b1 b5 b6 a4
        refine ⟨nm, qn, ns, bs, bm, sn, sb, ab, col, dd, k0, k1, k2, k3, k5, ?_, a3⟩
        rw [e]
        have e3 : sl = #[k0, k1, k2, k3, some (.builtin "ValueError.__new__"), k5] := by
          apply Array.ext'
          rw [e2]
        rw [e3]
    · cases g5
  · cases h1
/-! the loads of super() -/
section
variable {X : Cx} {pins : List (Addr × Obj)} {σ : L2.St} {H : Hp} {s : Shared} {E : Value → Shared → Prop} {A : Around}
theorem lname_var {i : Nat} {x : Str} {v : V} {Q : Value → Shared → Prop} (I : Inv X pins σ H s) (hN : X.N[i]? = some x) (hv : Vis X.env.scope x) (e : σ[i]? = some (some v)) (h : ∀ u, RelV v u → Q u s) (hcd : (x == ("__classdict__" : Str)) = false := by decide) :
    wpAny (model X.prog X.w) A (loadName X.env x) Q E s := by
  obtain ⟨m, hn, hl⟩ := I.loc
  obtain ⟨u, r, l⟩ := hl i x v hN e hv
  rcases l with ⟨hk, hm⟩ | ⟨hk, c, hc, hcell⟩
  · exact wpAny_loadName_local I.ok.kind hk hn hm (h u r)
  · rcases hk with hk | hk
    · exact wpAny_loadName_cell I.ok.kind hk hc hcell (h u r)
    · exact wpAny_loadName_free I.ok.kind hk hc hcell (h u r) hcd
theorem lname_blt {x : Str} {u : Value} {Q : Value → Shared → Prop} (I : Inv X pins σ H s) (hg : Gl X x) (hm : X.mg x = none) (hv : bootBuiltins x = some u) (h : Q u s) (hn : x ≠ "__name__" := by decide) :
    wpAny (model X.prog X.w) A (loadName X.env x) Q E s := by
  obtain ⟨mb, h1, h2⟩ := I.mod.blt
  have hx : X.env.kindOf x = some .globalImplicit := hg
  have hk := I.ok.kind
  unfold loadName
  simp only [Env.blockKind, hk, hx, ScopeKind.isAnnotationScope, Bool.false_and, Bool.false_eq_true, if_false]
  exact Calls.loadGlobal_builtin (by rw [I.ok.glob]; exact I.mod.glob.keeps I.bk) hm (by rw [I.ok.blt]; exact h1.keeps I.bk) ((h2 x hn).trans hv) h
end
/-- what the written part says of a class c whose __init__ (at fI) says super().__init__ -/
structure SupK (P : Program) (K : PySem.W.Frag) (C fI : Addr) (F : NdefX.NF) : Prop where
  oex : OexC K C
  lkF : ∃ od sl doc pm ctv, K.lookup fI = some (⟨.type "function", od, .func (F.fd doc pm ctv), sl⟩ : Obj)
  code : PySem.W.codeIn K (.ref F.c) F.qual = true
  cobj : ∃ oc vs file tf, K.lookup F.c = some oc ∧ oc.data = .fields vs ∧ vs[2]? = some (.str file tf) ∧ ((P.main.file : Str) == file) = true
  cell : ∃ cc oc, F.cl = [(("__class__" : Str), cc)] ∧ K.lookup cc = some oc ∧ oc.data = .cell (some (.ref C))
  any : PySem.W.nsIn K PySem.cStatics "thirdparty.any" = some none
  sup : PySem.W.ks_superIn K C C "__init__" = some (some (.builtin "ValueError.__init__"))
  isVE : PySem.W.subIn K (.ref C) (.type "ValueError") = some true
  isC : PySem.W.subIn K (.ref C) (.ref C) = some true
section
variable {P : Program} {w : World} {K : PySem.W.Frag} {mg : Str → Option Value} {base : Heap} {C fI : Addr} {F : NdefX.NF} {A : Around} {outer : List PySem.Env} {s0 s : Shared} {H0 H : Hp} {E : XK} {sf y : Str} {a : Addr} {v : V}
theorem sup_init (D : SupK P K C fI F) (htop : (P.main.scope.names.lookup ("super" : Str)).isSome = false) (hpar : (F.params.posonlyargs ++ F.params.args).head?.map (·.arg) = some sf)
    (hs : Gl (NdefX.ncx (L2.CX P w) P w K mg base [sf, y, "__class__"] F fI A outer s0 H0 E) "super") (hmg : mg "super" = none)
    (hfr : F.scope.names.lookup ("__class__" : Str) = some .free) (hsl : F.scope.names.lookup sf = some .local) (hyl : F.scope.names.lookup y = some .local) (hyd : (y == ("__debug__" : Str)) = false) (hsd : (sf == ("__classdict__" : Str)) = false) (hyd2 : (y == ("__classdict__" : Str)) = false)
    {body : List Stmt} {p0 p1 p2 p3 p4 p5 : Pos} {pl : Sem Bool} {Q : Flow → Shared → Prop} {E' : Value → Shared → Prop}
    (hint : interactive (NdefX.envF F fI s0.heap.objs.size) = false) (hpl : starEach [.Name y p3] (NdefX.envF F fI s0.heap.objs.size) = [(false, eval (.Name y p3) (NdefX.envF F fI s0.heap.objs.size))])
    (hmc : eval (.Call (.Attribute (.Call (.Name "super" p0) [] [] p1) "__init__" p2) [.Name y p3] [] p4) (NdefX.envF F fI s0.heap.objs.size) = (do
      let ov ← attributeBase (.Call (.Name "super" p0) [] [] p1) "__init__" (NdefX.envF F fI s0.heap.objs.size) (eval (.Call (.Name "super" p0) [] [] p1) (NdefX.envF F fI s0.heap.objs.size))
      standAt p2.atName
      let (f, first) ← holding [ov] (getMethod ov "__init__" pl)
      callWith p4 f first (backTo p4 (starEach [.Name y p3] (NdefX.envF F fI s0.heap.objs.size))) []))
    (I : Inv (NdefX.ncx (L2.CX P w) P w K mg base [sf, y, "__class__"] F fI A outer s0 H0 E) [] [some (.ref a), some v, some (.ref C)] H s) (e : H a = some (exo a C none))
    (h : ∀ s', Inv (NdefX.ncx (L2.CX P w) P w K mg base [sf, y, "__class__"] F fI A outer s0 H0 E) [] [some (.ref a), some v, some (.ref C)] H s' → Q .next s') :
    PySem.wpAt (model P w) (A.deeper (NdefX.envF F fI s0.heap.objs.size)) (.func body (NdefX.envF F fI s0.heap.objs.size)) (exec (.Expr (.Call (.Attribute (.Call (.Name "super" p0) [] [] p1) "__init__" p2) [.Name y p3] [] p4) p5) (NdefX.envF F fI s0.heap.objs.size)) Q E' s := by
  obtain ⟨oex, ⟨od, sl, doc, pm, ctv, lkF⟩, code, ⟨oc, vs, file, tf, lc, oc1, oc2, oc3⟩, cell, any, sup, isVE, isC⟩ := D
  have KX : K.In s.heap := I.kIn
  cases hpa : (F.params.posonlyargs ++ F.params.args).head? with
  | none => rw [hpa] at hpar; cases hpar
  | some ar =>
    rw [hpa] at hpar
    have har : ar.arg = sf := Option.some.inj hpar
    refine PySem.ks_wpAt_Expr_any (hi := hint) (PySem.ks_wpAt_MethodCall (PySem.ks_wpAt_super_base hs hfr (by decide) rfl (KX _ _ lkF) rfl hpa rfl (KX _ _ lc) oc1 oc2 oc3 htop ?_) hmc)
    refine lname_blt I hs hmg PyProof.Rows.Boot.«super» ⟨rfl, ?_⟩
    refine lname_var (i := 2) I rfl (Or.inr (Or.inr hfr)) rfl fun u ru => ?_
    cases (show u = Value.ref C from ru)
    rw [har]
    refine lname_var (i := 0) I rfl (Or.inl hsl) rfl (fun u ru => ?_) hsd
    cases (show u = Value.ref a from ru)
    obtain ⟨nm, q, N, bs, bm, sn, sub, ab, col, dd, k0, k1, k2, k3, k5, hC, hbm⟩ := oex.cls
    have hcl : PySem.W.clsIn K C = some { name := nm, bases := bs, mro := .ref C :: bm, ns := N, qualname := q, hasDict := true, slotNames := sn, subclasses := sub, abstract := ab, collection := col, hasDel := false } := by unfold PySem.W.clsIn; rw [hC] <;> rfl
    obtain ⟨t1, ho⟩ := exo_at I.hok e
    refine PySem.ks_wpAny_isType_cls (KX _ _ hC) rfl ⟨rfl, ?_⟩
    obtain ⟨hp, g, d, t, os⟩ := s
    refine PySem.ks_wpAny_call_super (KX _ _ hC) rfl ho rfl (fun _ z => nomatch z) (PySem.W.looks_subIn KX isC) fun h1 hso kp1 => ?_
    have I1 := I.kept (t' := t) kp1
    have X1 : K.In h1 := I1.kIn
    have J1 : PySem.W.InstAt h1 a _ C none := ⟨kp1 _ _ ho, rfl, rfl, trivial⟩
    have hsu : PySem.W.alongIn K "__init__" (((Value.ref C :: bm).dropWhile (· != .ref C)).drop 1) = some (some (.builtin "ValueError.__init__")) := by
      unfold PySem.W.ks_superIn at sup
      rw [hcl] at sup
      exact sup
    refine PySem.W.kxs_getMethod PySem.W.kxs_ValueError hso (PySem.W.looks_opaque X1 any) ((PySem.W.looks_clsIn X1 hcl).andThen .now) rfl X1 hsu (J1.type.andThen (PySem.W.looks_subIn X1 isVE)) (PySem.W.ks_ne X1 J1 hcl) (by decide) ?_
    have kp2 : ∀ b o, h1.get? b = some o → (h1.push (PySem.W.kxs_mw "ValueError.__init__" a)).get? b = some o := fun b o e => Heap.get?_push_of_some _ e
    have I2 := I1.kept (t' := t + 1) kp2
    have hu : (h1.push (PySem.W.kxs_mw "ValueError.__init__" a)).get? h1.objs.size = some (PySem.W.kxs_mw "ValueError.__init__" a) := Heap.get?_push_size _ rfl
    rw [hpl]
    refine PySem.W.kxs_callWith (i := "ValueError.__init__") (x := a) rfl (Calls.evalArgs_plain ?_)
    refine Calls.spliced_cons (wpAny_Name (lname_var (i := 1) I2 rfl (Or.inl hyl) rfl (fun u ru => ?_) hyd2) hyd)
    refine Calls.spliced_nil ⟨hu, ?_⟩
    have X2 : K.In (h1.push (PySem.W.kxs_mw "ValueError.__init__" a)) := I2.kIn
    obtain ⟨t2, ho2⟩ := exo_at I2.hok e
    refine wpAny_call (codeAny_of_tree ?_)
    show wpAny _ _ (callAny (.ref h1.objs.size) ⟨[u], []⟩) _ _ _
    simp only [callAny]
    refine wpAny_bind (wpAny_load hu ?_)
    simp only [PySem.W.kxs_mw, show (Value.type "method-wrapper" == Value.type "method" || Value.type "method-wrapper" == Value.type "builtin_function_or_method" || Value.type "method-wrapper" == Value.type "method-wrapper") = true by decide, if_true]
    refine PySem.W.KFB.if_so (by decide) ?_
    refine wpAny_bind (PySem.W.check_bound_init PySem.F.excBase_ValueError.toExcCallFacts (X2 _ _ hC) ho2 rfl ?_)
    refine wpAny_bind (wpAny_pure (wpAny_pure ?_))
    refine ⟨plainId_quiet PySem.F.excBase_ValueError.init.plain _, codeAny_builtin PySem.F.excBase_ValueError.initEntry ?_⟩
    refine PySem.W.exc_init_tree (cls := .ref C) (t0 := t2) (dv := none) (c2 := .none) (c3 := .none) (b4 := .bool false) ho2 (by simp [sizeLine_eq]) fun h' k hx ht => ?_
    have J := I2.write (t' := t + 1) (x := a) (e := a) (o := exo a C none) (by rw [e]; exact True.intro) (.inl rfl) k ⟨_, hx⟩ (exo_ok hx)
    have eu : upd H a (exo a C none) = H := by
      funext b
      by_cases hb : b = a
      · rw [hb, upd_same, e]
      · rw [upd_ne hb]
    rw [eu] at J
    first
      | exact h _ J
      | exact ⟨_, rfl, h _ J⟩
theorem look1 {x z : Str} {c c' : Addr} (h : [(x, c)].lookup z = some c') : z = x ∧ c = c' := by
  rw [List.lookup_cons] at h
  cases q : (z == x) with
  | true => rw [q] at h; cases h; exact ⟨beq_iff_eq.mp q, rfl⟩
  | false => rw [q] at h; cases h
theorem look_self {x : Str} {c : Addr} : [(x, c)].lookup x = some c := by
  rw [List.lookup_cons, beq_iff_eq.mpr rfl]
/-- what such an __init__ does: the field is stored -/
def spI (C : Addr) (f : Str) : Sp := fun vs H Q _ => ∃ (a : Addr) (v : V), vs = [.ref a, v] ∧ H a = some (exo a C none) ∧ ∀ dx, H dx = none → dx ≠ a → Q .non (upd (upd H dx (exd dx [(f, v)])) a (exo a C (some dx)))
theorem fn_sup {f : Str} {k : Nat} {p0 p1 p2 p3 p4 p5 p6 p7 p8 p9 : Pos} {pl : Nat → Sem Bool} {fd : FuncData} (D : SupK P K C fI F) (hno : PySem.W.findIn K (.ref C) f = some none) (htop : (P.main.scope.names.lookup ("super" : Str)).isSome = false) (hpar : (F.params.posonlyargs ++ F.params.args).head?.map (·.arg) = some sf)
    (S : NdefX.NScope [sf, y, "__class__"] [sf, y] ["__class__"] F.scope) (hsu : F.scope.names.lookup ("super" : Str) = some .globalImplicit) (hmg : mg "super" = none) (hyd : (y == ("__debug__" : Str)) = false) (hsd0 : (sf == ("__debug__" : Str)) = false) (hsd : (sf == ("__classdict__" : Str)) = false) (hyd2 : (y == ("__classdict__" : Str)) = false)
    (hbody : F.body = [.Expr (.Call (.Attribute (.Call (.Name "super" p0) [] [] p1) "__init__" p2) [.Name y p3] [] p4) p5, .Assign [.Attribute (.Name sf p6) f p7] (.Name y p8) p9])
    (hint : ∀ L, interactive (NdefX.envF F fI L) = false) (hpl : ∀ L, starEach [.Name y p3] (NdefX.envF F fI L) = [(false, eval (.Name y p3) (NdefX.envF F fI L))])
    (hsw : ∀ L, swapsWith (.Name y p8) (some (.Attribute (.Name sf p6) f p7)) p9.line (NdefX.envF F fI L) = pure false)
    (hmc : ∀ L, eval (.Call (.Attribute (.Call (.Name "super" p0) [] [] p1) "__init__" p2) [.Name y p3] [] p4) (NdefX.envF F fI L) = (do
      let ov ← attributeBase (.Call (.Name "super" p0) [] [] p1) "__init__" (NdefX.envF F fI L) (eval (.Call (.Name "super" p0) [] [] p1) (NdefX.envF F fI L))
      standAt p2.atName
      let (f, first) ← holding [ov] (getMethod ov "__init__" (pl L))
      callWith p4 f first (backTo p4 (starEach [.Name y p3] (NdefX.envF F fI L))) []))
    (hfd : ∃ oc od sl, K.lookup fI = some (⟨oc, od, .func fd, sl⟩ : Obj)) : FnOk P w K mg base (L2.CX P w) (k + 1) fI fd [sf, y] (spI C f) := by
  have hfr : F.scope.names.lookup ("__class__" : Str) = some .free := S.frk _ (by simp)
  have hsl := S.par sf (by simp)
  have hyl := S.par y (by simp)
  obtain ⟨od, sl, doc, pm, ctv, lkF⟩ := D.lkF
  obtain ⟨oc', od', sl', lk'⟩ := hfd
  rw [lkF] at lk'
  cases lk'
  obtain ⟨cc, oc, hcl, lcc, hcd⟩ := D.cell
  refine ⟨fun vs H Q E ⟨a, v, h, _⟩ => by rw [h]; rfl, fun A outer s H args us vs Q E hr e0 hb r hsp => ?_⟩
  obtain ⟨a, v, rfl, ea, hq⟩ := hsp
  have KX : K.In s.heap := e0.mod.kin.keeps fun b o e => (e0.bs b o e).1
  have lim : s.heap.NoLimit := e0.mod.nolimit.keeps fun b o e => (e0.bs b o e).1
  refine PySem.ks_codeAny_call_defAt hr.depth (KX _ _ lkF) rfl lim (PySem.W.codeRec_of KX D.code) rfl hb S.nocell (fun x hx => S.par x.1 (List.of_mem_zip hx).1) (fun h₀ hns kp => ?_) S.co S.gen S.kind
  have CA : NdefX.CellsAt F.cl ["__class__"] [some (.ref C)] s.heap H := by
    have hn : H cc = none := (e0.bs cc oc (e0.mod.kin cc oc lcc)).2
    have hc : s.heap.IsCell cc (some (.ref C)) := ⟨oc, KX _ _ lcc, hcd⟩
    refine ⟨rfl, fun z c hz => ?_, fun x z c hx hz => ?_, fun i z hz => ?_⟩
    · rw [hcl] at hz
      obtain ⟨_, rfl⟩ := look1 hz
      exact ⟨hn, _, hc⟩
    · rw [hcl] at hx hz
      rw [(look1 hx).1, (look1 hz).1]
    · match i, hz with
      | 0, hz =>
        cases hz
        exact ⟨cc, by rw [hcl]; exact look_self, fun v hv => by cases hv; exact ⟨_, rfl, hc⟩⟩
  have I : Inv (NdefX.ncx (L2.CX P w) P w K mg base [sf, y, "__class__"] F fI A outer s H E) [] [some (.ref a), some v, some (.ref C)] H { s with heap := h₀, toks := s.toks + ([sf, y].zip us).length } := NdefX.inv_startN S hr.hd e0 rfl r CA hns kp
  show PySem.wpAt (model P w) (A.deeper (NdefX.envF F fI s.heap.objs.size)) (.func F.body (NdefX.envF F fI s.heap.objs.size)) (execs F.body (NdefX.envF F fI s.heap.objs.size)) _ _ _
  have eb : execs F.body (NdefX.envF F fI s.heap.objs.size) = execs [.Expr (.Call (.Attribute (.Call (.Name "super" p0) [] [] p1) "__init__" p2) [.Name y p3] [] p4) p5, .Assign [.Attribute (.Name sf p6) f p7] (.Name y p8) p9] (NdefX.envF F fI s.heap.objs.size) := by rw [hbody]
  rw [eb]
  refine PySem.ks_wpAt_execs_cons (sup_init D htop hpar hsu hmg hfr hsl hyl hyd hsd hyd2 (hint _) (hpl _) (hmc _) I ea fun s1 J => ?_)
  refine PySem.wpAt_of_wpAny ?_
  have st := pss_one (ps_ost (X := NdefX.ncx (L2.CX P w) P w K mg base [sf, y, "__class__"] F fI A outer s H E) (f := f) (pe_var (i := 0) (x := sf) (pos := p6) rfl (Or.inl hsl) hsd0 hsd) (pe_var (i := 1) (x := y) (pos := p8) rfl (Or.inl hyl) hyd hyd2) (p' := p7) (pos := p9) (hsw _))
  have run := st.run [] s1 _ H { nx := fun _ H' => Q .non H', rt := Q } J ⟨v, rfl, .ref a, rfl, a, C, rfl, D.oex, hno, .inl ⟨ea, hq⟩⟩
  refine wpAny_mono run (fun fl s' hs => ?_) fun e s' hs => hs
  have fin : ∀ {σ' : L2.St} {H' : Hp} {v : V} {u : Value}, Inv (NdefX.ncx (L2.CX P w) P w K mg base [sf, y, "__class__"] F fI A outer s H E) [] σ' H' s' → L2.RelV v u → Q v H' → CE outer P w H s Q u s' :=
    fun {σ' H' v u} J rv q => ⟨v, H', J.os, J.bare, J.base, J.hok, rv, q⟩
  cases fl with
  | ret u =>
    obtain ⟨v, σ', H', J, rv, q⟩ := hs
    exact fin J rv q
  | next =>
    obtain ⟨σ', H', J, q⟩ := hs
    exact fin (v := V.non) (u := Value.none) J rfl q
  | brk =>
    obtain ⟨_, _, _, q⟩ := hs
    exact False.elim q
  | cont =>
    obtain ⟨_, _, _, q⟩ := hs
    exact False.elim q
end
theorem pmk_imp {X : Cx} {e : Expr} {t t' : L2.St → Hp → XK → Prop} (h : PMk X e t) (i : ∀ σ H Q, t' σ H Q → t σ H Q) : PMk X e t' := fun pins s σ H Q I q => h pins s σ H Q I (i σ H Q q)
/-- C(e): an exception of an own class whose __init__ says super().__init__(y); self.f = y -/
theorem xmk_sup {X : Cx} {x f sf y : Str} {fI : Addr} {fd : FuncData} {k : Nat} (T : OexC X.K (He.ga X.K x)) (iC : PySem.W.findIn X.K (.ref (He.ga X.K x)) "__init__" = some (some (.ref fI))) (tI : PySem.W.typeIn X.K (.ref fI) = some (.type "function"))
    (F1 : FnOk X.prog X.w X.K X.mg X.base (L2.CX X.prog X.w) k fI fd [sf, y] (spI (He.ga X.K x) f)) (hr : Room (k + 1) X.A) (hb : Binds X.K fd [sf, y] []) (hg : Gl X x) (hm : X.mg x = some (.ref (He.ga X.K x))) (hdb : (x == ("__debug__" : Str)) = false) : XMk X x 1 := by
  refine ⟨fun {e es t p pos} he hpl ha => ?_⟩
  refine pmk_imp (pmk_oex T iC tI F1 hr hb .nil (fun _ _ _ _ _ _ _ h => by obtain ⟨_, _, _, _, _, _, _, _, _, _, _, _, h⟩ := h; exact h.elim) hg hm ha hdb he hpl) fun σ H Q h => ?_
  obtain ⟨B, H0, ρ, rs, ρ', S, e1, k⟩ := h
  refine ⟨B, H0, ρ, rs, ρ', S, e1, fun vs H1 Ha s1 S1 R1 => ?_⟩
  obtain ⟨hl, q⟩ := k vs H1 Ha s1 S1 R1
  match vs, hl with
  | [v], _ =>
    refine ⟨by simp, fun a ha => ⟨a, v, rfl, upd_same, fun dx hdx hne => ⟨rfl, dx, [(f, v)], upd_same, ?_, ?_, q (some dx) _ fun b o hb => ?_⟩⟩⟩
    · rw [upd_ne hne, upd_same]
    · rw [upd_ne hne] at hdx; exact hdx
    · have n1 : b ≠ a := fun z => by rw [z, ha] at hb; cases hb
      have n2 : b ≠ dx := fun z => by rw [upd_ne hne] at hdx; rw [z, hdx] at hb; cases hb
      rw [upd_ne n2, del_ne n1, upd_ne n1, upd_ne n2, upd_ne n1]
      exact hb
end Sc
set_option maxRecDepth 100000
set_option maxHeartbeats 2000000
namespace Sc
open PySem PySem.Spec PyProof.Rows L2
/-! ### the head's hook, told too: closures' cells, the __init__s of own exception classes -/
def clo (o : Obj) : List Addr := match o.data with
  | .func fd => fd.closure.map (·.2)
  | _ => []
def asX (g : Addr → Option Obj) (n : Nat) : List Addr := PySem.cStatics :: (He.asD g n ++ (He.asD g n).flatMap fun a => match g a with
  | some o => clo o
  | none => [])
abbrev IDat : Type := Option (Str × Str × Arguments × List Stmt × Scope)
def idatOf (K : PySem.W.Frag) (x : Str) : IDat := match K.lookup (He.ma K (He.ga K x) "__init__") with
  | some ⟨_, _, .func fd, _⟩ => (match fd.body with
    | .stmts b => some (fd.name, fd.qualname, fd.params, b, fd.scope)
    | _ => none)
  | _ => none
abbrev AlX : Type := He.AlD × Bool × List IDat
def obsX (n : Nat) (fa : List He.Fa) (fn : List He.DefD) (ex : PySem.W.Frag → Bool) (xs : List Str) (g : Addr → Option Obj) : AlX := (He.obsD fa fn (He.frG g (asX g n)), ex (He.frG g (asX g n)), xs.map (idatOf (He.frG g (asX g n))))
structure SaysX (fa : List He.Fa) (fn : List He.DefD) (ex : PySem.W.Frag → Bool) (xs : List Str) (ds : List IDat) (K : PySem.W.Frag) : Prop where
  d : He.SaysD fa fn K
  more : ex K = true
  ini : xs.map (idatOf K) = ds
def hookX (n : Nat) (fa : List He.Fa) (fn : List He.DefD) (ex : PySem.W.Frag → Bool) (xs : List Str) (ds : List IDat) : PySem.W.Hook where
  α := AlX
  obs := fun s => obsX n fa fn ex xs s.heap.get?
  val := fun _ => (He.valD fn, true, ds)
  says := fun _ h => ∃ K : PySem.W.Frag, K.In h ∧ SaysX fa fn ex xs ds K
  of := fun _ _ e => ⟨_, He.frG_in, ⟨congrArg (fun z : AlX => z.1) e, congrArg (fun z : AlX => z.2.1) e, congrArg (fun z : AlX => z.2.2) e⟩⟩
  keeps := fun _ _ _ ⟨K, hK, c⟩ k => ⟨K, PySem.W.Frag.In.keeps hK k, c⟩
theorem obsX_eq {n : Nat} {fa : List He.Fa} {fn : List He.DefD} {ex : PySem.W.Frag → Bool} {xs : List Str} {ds : List IDat} {g : Addr → Option Obj} {s : Shared} (h : ∀ a, g a = s.heap.get? a) : obsX n fa fn ex xs g = (hookX n fa fn ex xs ds).obs s := by
  have e : g = s.heap.get? := funext h
  rw [e] <;> rfl
/-- the class x, whose __init__ stores the field f, in a program whose main file is mf -/
def supB (K : PySem.W.Frag) (mf : Str) (x f : Str) : Bool :=
  oexB K (He.ga K x) && (He.eqO (PySem.W.findIn K (.ref (He.ga K x)) "__init__") (some (some (.ref (He.ma K (He.ga K x) "__init__")))) && ((match K.lookup (He.ma K (He.ga K x) "__init__") with
    | some ⟨cl, _, .func fd, _⟩ => decide (cl = .type "function") && (decide (fd.globals = mainGlobals) && (decide (fd.builtins = builtinsNs) && (decide (fd.defaults = .none) && (decide (fd.kwdefaults = .none) && (decide (fd.annotations = none) && (PySem.W.codeIn K fd.code fd.qualname && ((match fd.code with
      | .ref c => (match K.lookup c with
        | some ⟨_, _, .fields vs, _⟩ => (match vs.toList with
          | _ :: _ :: .str file _ :: _ => mf == file
          | _ => false)
        | _ => false)
      | _ => false) && (match fd.closure with
      | [(n, cc)] => decide (n = "__class__") && (match K.lookup cc with
        | some ⟨_, _, .cell (some (.ref C)), _⟩ => decide (C = He.ga K x)
        | _ => false)
      | _ => false))))))))
    | _ => false) && (He.eqO (PySem.W.nsIn K PySem.cStatics "thirdparty.any") (some none) && (He.eqO (PySem.W.ks_superIn K (He.ga K x) (He.ga K x) "__init__") (some (some (.builtin "ValueError.__init__"))) && (decide (PySem.W.subIn K (.ref (He.ga K x)) (.type "ValueError") = some true) && (decide (PySem.W.subIn K (.ref (He.ga K x)) (.ref (He.ga K x)) = some true) && (He.eqO (PySem.W.findIn K (.ref (He.ga K x)) f) (some none) &&
    decide (PySem.W.typeIn K (.ref (He.ma K (He.ga K x) "__init__")) = some (.type "function")))))))))
/-- what the observation tells of the class x -/
theorem supB_ok {P : Program} {K : PySem.W.Frag} {mf x f : Str} {nm ql : Str} {ps : Arguments} {b : List Stmt} {sc : Scope} (h : supB K mf x f = true) (hd : idatOf K x = some (nm, ql, ps, b, sc)) (hP : P.main.file = mf) :
    ∃ F : NdefX.NF, ∃ fd, F.name = nm ∧ F.qual = ql ∧ F.params = ps ∧ F.body = b ∧ F.scope = sc ∧ SupK P K (He.ga K x) (He.ma K (He.ga K x) "__init__") F ∧ PySem.W.findIn K (.ref (He.ga K x)) "__init__" = some (some (.ref (He.ma K (He.ga K x) "__init__"))) ∧
      PySem.W.findIn K (.ref (He.ga K x)) f = some none ∧ PySem.W.typeIn K (.ref (He.ma K (He.ga K x) "__init__")) = some (.type "function") ∧ (∃ oc od sl, K.lookup (He.ma K (He.ga K x) "__init__") = some (⟨oc, od, .func fd, sl⟩ : Obj)) ∧ ∃ doc pm ctv, fd = F.fd doc pm ctv := by
  unfold supB at h
  obtain ⟨a1, h1⟩ := He.ba h
  obtain ⟨a2, h2⟩ := He.ba h1
  obtain ⟨a3, h3⟩ := He.ba h2
  obtain ⟨a4, h4⟩ := He.ba h3
  obtain ⟨a5, h5⟩ := He.ba h4
  obtain ⟨a6, h6⟩ := He.ba h5
  obtain ⟨a7, h7⟩ := He.ba h6
  obtain ⟨a8, a9⟩ := He.ba h7
  clear h h1 h2 h3 h4 h5 h6 h7
  split at a3
  · rename_i cl od fd sl e
    obtain ⟨b1, g1⟩ := He.ba a3
    obtain ⟨b2, g2⟩ := He.ba g1
    obtain ⟨b3, g3⟩ := He.ba g2
    obtain ⟨b4, g4⟩ := He.ba g3
    obtain ⟨b5, g5⟩ := He.ba g4
    obtain ⟨b6, g6⟩ := He.ba g5
    obtain ⟨b7, g7⟩ := He.ba g6
    obtain ⟨b8, b9⟩ := He.ba g7
    clear a3 g1 g2 g3 g4 g5 g6 g7
    unfold idatOf at hd
    rw [e] at hd
    obtain ⟨fnm, fql, fps, fb, fsc, fgl, fclo, fdf, fkw, fdoc, fpm, fan, fcode, fct, fbi⟩ := fd
    dsimp only at hd b2 b3 b4 b5 b6 b7 b8 b9
    cases fb with
    | stmts bs =>
      dsimp only at hd
      cases hd
      have c1 := of_decide_eq_true b1
      have c2 := of_decide_eq_true b2
      have c3 := of_decide_eq_true b3
      have c4 := of_decide_eq_true b4
      have c5 := of_decide_eq_true b5
      have c6 := of_decide_eq_true b6
      subst c1 c2 c3 c4 c5 c6
      split at b8
      · rename_i c
        split at b8
        · rename_i oc1 od1 vs sl1 ec
          split at b8
          · rename_i v0 v1 file tf rest ev
            split at b9
            · rename_i n cc
              obtain ⟨d1, d2⟩ := He.ba b9
              have c7 := of_decide_eq_true d1
              subst c7
              split at d2
              · rename_i oc2 od2 C sl2 ecc
                have c8 := of_decide_eq_true d2
                subst c8
                refine ⟨⟨nm, ql, ps, b, sc, [(("__class__" : Str), cc)], c⟩, _, rfl, rfl, rfl, rfl, rfl, ⟨oexB_ok a1, ⟨od, sl, fdoc, fpm, fct, e⟩, b7, ⟨_, vs, file, tf, ec, rfl, ?_, ?_⟩, ⟨cc, _, rfl, ecc, rfl⟩, He.eqO_ok a4, He.eqO_ok a5, of_decide_eq_true a6, of_decide_eq_true a7⟩, He.eqO_ok a2, He.eqO_ok a8, of_decide_eq_true a9, ⟨_, _, _, e⟩, fdoc, fpm, fct, rfl⟩
                · rw [← Array.getElem?_toList, ev]
                  rfl
                · rw [hP]
                  exact b8
              · cases d2
            · cases b9
          · cases b8
        · cases b8
      · cases b8
    | _ => cases hd
  · cases a3
end Sc
set_option maxRecDepth 100000
set_option maxHeartbeats 2000000
namespace Sc
open PySem PySem.Spec PyProof.Rows L2
/-! ### the head's hook over the whole heap (no growing of address lists) -/
def dnL : Nat → List Addr
  | 0 => []
  | n + 1 => n :: dnL n
def asY (n : Nat) : List Addr := mainGlobals :: PySem.cStatics :: dnL n
def obsY (fa : List He.Fa) (fn : List He.DefD) (ex : PySem.W.Frag → Bool) (xs : List Str) (g : Addr → Option Obj) (n : Nat) : AlX := (He.obsD fa fn (He.frG g (asY n)), ex (He.frG g (asY n)), xs.map (idatOf (He.frG g (asY n))))
def hookY (fa : List He.Fa) (fn : List He.DefD) (ex : PySem.W.Frag → Bool) (xs : List Str) (ds : List IDat) : PySem.W.Hook where
  α := AlX
  obs := fun s => obsY fa fn ex xs s.heap.get? s.heap.objs.size
  val := fun _ => (He.valD fn, true, ds)
  says := fun _ h => ∃ K : PySem.W.Frag, K.In h ∧ SaysX fa fn ex xs ds K
  of := fun _ _ e => ⟨_, He.frG_in, ⟨congrArg (fun z : AlX => z.1) e, congrArg (fun z : AlX => z.2.1) e, congrArg (fun z : AlX => z.2.2) e⟩⟩
  keeps := fun _ _ _ ⟨K, hK, c⟩ k => ⟨K, PySem.W.Frag.In.keeps hK k, c⟩
theorem obsY_eq {fa : List He.Fa} {fn : List He.DefD} {ex : PySem.W.Frag → Bool} {xs : List Str} {ds : List IDat} (s : PySem.W.SharedT) : obsY fa fn ex xs (HandSHeadRun.getT s) s.n = (hookY fa fn ex xs ds).obs s.abs := by
  have e : HandSHeadRun.getT s = s.abs.heap.get? := funext (HandSHeadRun.getT_eq s)
  have e2 : s.abs.heap.objs.size = s.n := PySem.W.absHeap_size s.tree s.n s.life
  show _ = obsY fa fn ex xs s.abs.heap.get? s.abs.heap.objs.size
  rw [e, e2]
theorem map3 {α β γ δ : Type} {X : Option α} {f : α → β} {g : α → γ} {h : α → δ} {a : β} {b : γ} {c : δ} (e1 : X.map f = some a) (e2 : X.map g = some b) (e3 : X.map h = some c) : X.map (fun s => (f s, g s, h s)) = some (a, b, c) := by
  cases X with
  | none => cases e1
  | some x => cases e1; cases e2; cases e3; rfl
end Sc
set_option maxRecDepth 100000
set_option maxHeartbeats 2000000
namespace Sc
open PySem PySem.Spec PyProof.Rows L2
/-! ### own objects: their fields -/
abbrev Fs := List (Str × Bool × Fl)
def putFl (f : Str) (x : Bool × Fl) : Fs → Fs
  | [] => [(f, x)]
  | (g, y) :: r => if g = f then (g, x) :: r else (g, y) :: putFl f x r
def lookFl (f : Str) : Fs → Option (Bool × Fl)
  | [] => none
  | (g, y) :: r => if g = f then some y else lookFl f r
def lookF (f : Str) : List (Str × V) → Option V
  | [] => none
  | (g, y) :: r => if g = f then some y else lookF f r
theorem lookF_eq (f : Str) : ∀ r : List (Str × V), r.lookup f = lookF f r
  | [] => rfl
  | (g, y) :: r => by
    rw [List.lookup_cons, lookF, lookF_eq f r]
    by_cases z : g = f
    · have hb : (f == g) = true := beq_iff_eq.mpr z.symm
      rw [hb, if_pos z]
    · have hb : (f == g) = false := beq_eq_false_iff_ne.mpr (Ne.symm z)
      rw [hb, if_neg z]
def fsOf (c : Str) : Option Slot → Option (Bool × Fs)
  | some (.ob w c' fs) => if c' = c then some (w, fs) else none
  | _ => none
theorem fsOf_iff {c : Str} {s : Option Slot} {fs : Bool × Fs} (h : fsOf c s = some fs) : s = some (.ob fs.1 c fs.2) := by
  unfold fsOf at h
  split at h
  · split at h
    · rename_i z; cases h; rw [z]
    · cases h
  · cases h
def isCell : Fl → Bool
  | .v _ => false
  | _ => true
section
variable {K : PySem.W.Frag} {H0 H0' H H' : Hp} {m : Str → V} {f : Str} {x x' : Fl} {b : Bool} {p : Addr}
theorem FlOk.cell {O1 : List Addr} (hx : isCell x = true) (h : FlOk K H0 H O1 x (.ref p)) : O1 = [p] := by
  cases x with
  | v d => cases hx
  | l ds => obtain ⟨a, vs, e0, e1, _⟩ := h; cases e1; exact e0
  | t kvs => obtain ⟨a, o, e0, e1, _⟩ := h; cases e1; exact e0
theorem FlsOk.len : ∀ {fs : Fs} {O : List Addr} {r : List (Str × V)}, FlsOk K m H0 H O fs r → r.length = fs.length
  | [], _, _, h => by rw [h.2]; rfl
  | (f, b, x) :: fs, _, _, h => by
    obtain ⟨O1, O2, u, r', rfl, rfl, hm, h1, h2⟩ := h
    simp [FlsOk.len h2]
theorem FlsOk.get : ∀ {fs : Fs} {O : List Addr} {r : List (Str × V)}, FlsOk K m H0 H O fs r → lookFl f fs = some (b, x) → ∃ u O1, r.lookup f = some u ∧ (b = true → u = m f) ∧ FlOk K H0 H O1 x u ∧ ∀ a ∈ O1, a ∈ O
  | [], _, _, h, e => by cases e
  | (g, b0, y) :: fs, _, _, h, e => by
    obtain ⟨O1, O2, u, r', rfl, rfl, hm, h1, h2⟩ := h
    rw [lookFl] at e
    rw [lookF_eq, lookF]
    by_cases z : g = f
    · rw [if_pos z] at e ⊢
      cases e
      subst z
      exact ⟨u, O1, rfl, hm, h1, fun a q => List.mem_append_left _ q⟩
    · rw [if_neg z] at e ⊢
      obtain ⟨u', O', e1, e2, e3, e4⟩ := FlsOk.get h2 e
      rw [lookF_eq] at e1
      exact ⟨u', O', e1, e2, e3, fun a q => List.mem_append_right _ (e4 a q)⟩
theorem FlsOk.no : ∀ {fs : Fs} {O : List Addr} {r : List (Str × V)}, FlsOk K m H0 H O fs r → lookFl f fs = none → r.lookup f = none
  | [], _, _, h, e => by rw [h.2]; rfl
  | (g, b0, y) :: fs, _, _, h, e => by
    obtain ⟨O1, O2, u, r', rfl, rfl, hm, h1, h2⟩ := h
    rw [lookFl] at e
    rw [lookF_eq, lookF]
    by_cases z : g = f
    · rw [if_pos z] at e; cases e
    · rw [if_neg z] at e ⊢
      rw [← lookF_eq]
      exact FlsOk.no h2 e
/-- the content of an own cell changes -/
theorem FlsOk.chg (s0 : Same H0 H0') (hx : isCell x = true) (k : ∀ a, a ≠ p → ∀ o, H a = some o → H' a = some o) (hx' : FlOk K H0' H' [p] x' (.ref p)) : ∀ {fs : Fs} {O : List Addr} {r : List (Str × V)}, FlsOk K m H0 H O fs r → O.Nodup → lookFl f fs = some (b, x) → r.lookup f = some (.ref p) →
    FlsOk K m H0' H' O (putFl f (b, x') fs) r ∧ p ∈ O
  | [], _, _, h, _, e, _ => by cases e
  | (g, b0, y) :: fs, _, _, h, nd, e, eu => by
    obtain ⟨O1, O2, u, r', rfl, rfl, hm, h1, h2⟩ := h
    rw [List.nodup_append] at nd
    obtain ⟨n1, n2, n3⟩ := nd
    rw [lookFl] at e
    rw [lookF_eq, lookF] at eu
    rw [putFl]
    by_cases z : g = f
    · rw [if_pos z] at e eu ⊢
      cases e
      cases eu
      have e0 := FlOk.cell hx h1
      subst e0
      refine ⟨⟨[p], O2, .ref p, r', rfl, rfl, hm, hx', h2.frame s0 fun a q o w => k a (fun y => n3 p (by simp) a q y.symm) o w⟩, by simp⟩
    · rw [if_neg z] at e eu ⊢
      obtain ⟨i1, i2⟩ := FlsOk.chg s0 hx k hx' h2 n2 e (by rw [lookF_eq]; exact eu)
      exact ⟨⟨O1, O2, u, r', rfl, rfl, hm, h1.frame s0 fun a q o w => k a (fun y => n3 a q p i2 y) o w, i1⟩, List.mem_append_right _ i2⟩
/-- a field is stored -/
theorem FlsOk.put {O1 : List Addr} {u : V} (hx : FlOk K H0 H O1 x u) : ∀ {fs : Fs} {O : List Addr} {r : List (Str × V)}, FlsOk K m H0 H O fs r →
    ∃ O2, FlsOk K m H0 H O2 (putFl f (false, x) fs) (putF f u r) ∧ (∀ a ∈ O2, a ∈ O ∨ a ∈ O1) ∧ (O.Nodup → O1.Nodup → (∀ a ∈ O, a ∉ O1) → O2.Nodup)
  | [], _, _, h => by
    rw [h.1, h.2]
    exact ⟨O1, ⟨O1, [], u, [], by simp, rfl, fun z => (nomatch z), hx, rfl, rfl⟩, fun a q => .inr q, fun _ n _ => n⟩
  | (g, b0, y) :: fs, _, _, h => by
    obtain ⟨Og, Or, ug, r', rfl, rfl, hm, h1, h2⟩ := h
    rw [putFl]
    rw [show putF f u ((g, ug) :: r') = (if g = f then (g, u) :: r' else (g, ug) :: putF f u r') from rfl]
    by_cases z : g = f
    · rw [if_pos z, if_pos z]
      refine ⟨O1 ++ Or, ⟨O1, Or, u, r', rfl, rfl, fun z => (nomatch z), hx, h2⟩, fun a q => ?_, fun n1 n2 n3 => ?_⟩
      · rcases List.mem_append.mp q with q | q
        · exact .inr q
        · exact .inl (List.mem_append_right _ q)
      · rw [List.nodup_append] at n1 ⊢
        exact ⟨n2, n1.2.1, fun a q b q2 e => n3 b (List.mem_append_right _ q2) (by rw [← e]; exact q)⟩
    · rw [if_neg z, if_neg z]
      obtain ⟨O2, i1, i2, i3⟩ := FlsOk.put hx h2
      refine ⟨Og ++ O2, ⟨Og, O2, ug, _, rfl, rfl, hm, h1, i1⟩, fun a q => ?_, fun n1 n2 n3 => ?_⟩
      · rcases List.mem_append.mp q with q | q
        · exact .inl (List.mem_append_left _ q)
        · rcases i2 a q with q | q
          · exact .inl (List.mem_append_right _ q)
          · exact .inr q
      · rw [List.nodup_append] at n1 ⊢
        refine ⟨n1.1, i3 n1.2.1 n2 (fun a q => n3 a (List.mem_append_right _ q)), fun a q b q2 e => ?_⟩
        rcases i2 b q2 with q2 | q2
        · exact n1.2.2 a q b q2 e
        · exact n3 a (List.mem_append_left _ q) (by rw [e]; exact q2)
end
section
variable {K : PySem.W.Frag} {B : Bs} {H0 H0' H H' : Hp} {σ : L2.St} {ρ : Env} {i : Nat} {c f : Str} {fs : Fs} {x x' : Fl} {b : Bool} {O : Nat → List Addr}
theorem Own.obAt {q : Bool} (w : Own K B H0 H σ ρ O) (e : ρ[i]? = some (.ob q c fs)) : ∃ a dx r O', O i = a :: dx :: O' ∧ (a :: dx :: O').Nodup ∧ σ[i]? = some (some (.ref a)) ∧ H a = some (.ins (He.ga K c) dx r) ∧ H dx = some (.own a) ∧ FlsOk K B.m H0 H O' fs r ∧ (q = true → σ[i]?.join = some (B.m "")) := by
  obtain ⟨⟨a, dx, r, O', e0, nd, e1, e2, e3, e4⟩, e5⟩ := w.ok i _ e
  rw [e0] at nd
  exact ⟨a, dx, r, O', e0, nd, join_some e1, e2, e3, e4, e5⟩
/-- THE STEP for an object: the heap changes at C, which no other slot owns; the slot anew, with what it owns -/
theorem SD.stepO (S : SD K B H0 H σ ρ) (w : Own K B H0 H σ ρ O) {s' : Slot} {Oi : List Addr} (C : Addr → Prop) (hi : i < ρ.length)
    (keep : ∀ a o, ¬ C a → H a = some o → H' a = some o) (there : ∀ a o, C a → H' a = some o → Imm o = false) (nC : ∀ a, C a → H0 a = none) (nT : ∀ a, C a → B.t a = none)
    (hO : ∀ b ∈ Oi, b ∈ O i ∨ ((∀ j, b ∉ O j) ∧ B.t b = none ∧ H0 b = none ∧ ∃ o, H b = some o)) (hC : ∀ j a, j ≠ i → a ∈ O j → ¬ C a)
    (so : SlotOk K B.b B.m (fzn H0 H H') H' Oi s' σ[i]?.join) : SD K B (fzn H0 H H') H' σ (ρ.set i s') := by
  refine ⟨by simp [S.len], fun a o e => fzn_old (S.bir a o e), fun a o e => ?_, fun a o e => ?_, fun a o e im => ?_, fun j => if j = i then Oi else O j, fun j s e => ?_, fun j a m => ?_, fun j k a m1 m2 => ?_, fun j hj => ?_, fun j a m => ?_⟩
  · cases q : H0 a with
    | some u =>
      rw [fzn_old q] at e
      cases e
      exact keep a _ (fun c => by rw [nC a c] at q; cases q) (S.sub a _ q)
    | none =>
      cases q' : H a with
      | some u => rw [fzn_own q q'] at e; cases e
      | none => rw [fzn_new q q'] at e; exact e
  · obtain ⟨h1, h2⟩ := S.tmp a o e
    exact ⟨keep a o (fun c => by rw [nT a c] at e; cases e) h1, fzn_own h2 h1⟩
  · by_cases c : C a
    · rw [there a o c e] at im; cases im
    · cases q' : H a with
      | some u =>
        have e2 := keep a u c q'
        rw [e] at e2
        cases e2
        exact fzn_old (S.imm a o q' im)
      | none => rw [fzn_new (S.none_of q') q']; exact e
  · by_cases z : j = i
    · subst z
      rw [List.getElem?_set_self hi] at e
      cases e
      rw [if_pos rfl]
      exact so
    · rw [List.getElem?_set_ne (Ne.symm z)] at e
      rw [if_neg z]
      exact (w.ok j s e).frame fzn_same fun a m o q => keep a o (hC j a z m) q
  · by_cases z : j = i
    · rw [if_pos z] at m
      rcases hO a m with q | ⟨_, _, q, o, q2⟩
      · obtain ⟨o, q2, _⟩ := w.there q
        exact fzn_own (w.non i a q) q2
      · exact fzn_own q q2
    · rw [if_neg z] at m
      obtain ⟨o, q2, _⟩ := w.there m
      exact fzn_own (w.non j a m) q2
  · by_cases z1 : j = i
    · by_cases z2 : k = i
      · rw [z1, z2]
      · rw [if_pos z1] at m1; rw [if_neg z2] at m2
        rcases hO a m1 with q | ⟨q, _⟩
        · exact (z2 (w.inj k i a m2 q)).elim
        · exact (q k m2).elim
    · by_cases z2 : k = i
      · rw [if_neg z1] at m1; rw [if_pos z2] at m2
        rcases hO a m2 with q | ⟨q, _⟩
        · exact (z1 (w.inj j i a m1 q)).elim
        · exact (q j m1).elim
      · rw [if_neg z1] at m1; rw [if_neg z2] at m2; exact w.inj j k a m1 m2
  · rw [List.length_set] at hj
    rw [if_neg (by omega)]
    exact w.out j hj
  · by_cases z : j = i
    · rw [if_pos z] at m
      rcases hO a m with q | ⟨_, q, _⟩
      · exact w.tmp i a q
      · exact q
    · rw [if_neg z] at m; exact w.tmp j a m
/-- the content of a field's own cell -/
theorem SD.wrFl {q : Bool} {p : Addr} {a : Addr} {o' : HO} {dx : Addr} {r : List (Str × V)} (S : SD K B H0 H σ ρ) (e : ρ[i]? = some (.ob q c fs)) (ea : σ[i]? = some (some (.ref a))) (er : H a = some (.ins (He.ga K c) dx r)) (el : lookFl f fs = some (b, x)) (hx : isCell x = true) (eu : r.lookup f = some (.ref p)) (im : Imm o' = false)
    (hx' : FlOk K (fzn H0 H (upd H p o')) (upd H p o') [p] x' (.ref p)) : SD K B (fzn H0 H (upd H p o')) (upd H p o') σ (ρ.set i (.ob q c (putFl f (b, x') fs))) := by
  obtain ⟨O, w⟩ := S.own
  obtain ⟨a', dx', r', O', e0, nd, e1, e2, e3, e4, e5⟩ := w.obAt e
  rw [ea] at e1
  cases e1
  rw [er] at e2
  cases e2
  have hi : i < ρ.length := (List.getElem?_eq_some_iff.mp e).1
  have nd' := nd
  rw [List.nodup_cons, List.nodup_cons] at nd'
  obtain ⟨n1, n2, n3⟩ := nd'
  obtain ⟨i1, i2⟩ := e4.chg (H' := upd H p o') (fzn_same (H := H) (H' := upd H p o')) hx (fun b n o q => by rw [upd_ne n]; exact q) hx' n3 el eu
  have np : p ∈ O i := by rw [e0]; simp [i2]
  have na : a ≠ p := fun y => n1 (by rw [y]; simp [i2])
  have nx : dx ≠ p := fun y => n2 (by rw [y]; exact i2)
  refine S.stepO w (H' := upd H p o') (Oi := O i) (fun b => b = p) hi (fun b o n q => by rw [upd_ne n]; exact q) (fun b o c q => by subst c; rw [upd_same] at q; cases q; exact im) (fun b c => by subst c; exact w.non i b np) (fun b c => by subst c; exact w.tmp i b np) (fun b m => .inl m) (fun j b z m c => z ?_) ?_
  · subst c; exact w.inj j i b m np
  · rw [e0]
    exact ⟨⟨a, dx, r, O', rfl, nd, by rw [ea]; rfl, by rw [upd_ne na]; exact er, by rw [upd_ne nx]; exact e3, i1⟩, e5⟩
end
theorem TdOk.weak {K : PySem.W.Frag} {b : Option Hp} {H : Hp} {a : Addr} {kvs : List (D × D)} {o : HO} (h : TdOk K b H a kvs o) : TdOk K none H a kvs o := by
  have go : ∀ {kvs : List (D × D)} {l : List (NestedKey × Addr × V)}, Tvs K b H kvs l → Tvs K none H kvs l := by
    intro kvs
    induction kvs with
    | nil => intro l h; exact h
    | cons p ps ih =>
      rintro l ⟨k, c, v, r, e1, e2, e3, e4, e5, e6⟩
      exact ⟨k, c, v, r, e1, e2, e3, e4, e5.weak, ih e6⟩
  rcases h with h | ⟨l, h1, h2, h3⟩
  · exact .inl h
  · exact .inr ⟨l, h1, go h2, h3⟩
/-- what is stored in a field -/
def flV : Res → Option Fl
  | .fz d => some (.v d)
  | .ar d => some (.v d)
  | .nw ds => some (.l ds)
  | .nd [] => some (.t [])
  | .nt kvs => some (.t kvs)
  | _ => none
theorem SD.flV {K : PySem.W.Frag} {B : Bs} {H0 H : Hp} {σ : L2.St} {ρ : Env} {r : Res} {v : V} {x : Fl} (S : SD K B H0 H σ ρ) (R : RS K B H0 H σ ρ r v) (e : flV r = some x) : ∃ O O1, Own K B H0 H σ ρ O ∧ FlOk K H0 H O1 x v ∧ O1.Nodup ∧ ∀ b ∈ O1, (∀ j, b ∉ O j) ∧ B.t b = none ∧ H0 b = none ∧ ∃ o, H b = some o := by
  unfold Sc.flV at e
  split at e
  · cases e
    obtain ⟨O, w⟩ := S.own
    exact ⟨O, [], w, ⟨rfl, Rp.weak R⟩, List.nodup_nil, fun b m => (nomatch m)⟩
  · cases e
    obtain ⟨O, w⟩ := S.own
    exact ⟨O, [], w, ⟨rfl, R⟩, List.nodup_nil, fun b m => (nomatch m)⟩
  · cases e
    obtain ⟨O, a, vs, w, na, nt, rfl, n0, ha, hr⟩ := R
    exact ⟨O, [a], w, ⟨a, vs, rfl, rfl, ha, hr.weak⟩, by simp, fun b m => by rw [List.mem_singleton.mp m]; exact ⟨na, nt, n0, _, ha⟩⟩
  · cases e
    obtain ⟨O, a, l, w, na, nt, rfl, n0, ha, hk⟩ := R
    cases (show l = [] from hk)
    exact ⟨O, [a], w, ⟨a, _, rfl, rfl, ha, .inl ⟨rfl, rfl⟩⟩, by simp, fun b m => by rw [List.mem_singleton.mp m]; exact ⟨na, nt, n0, _, ha⟩⟩
  · cases e
    obtain ⟨O, a, o, w, na, nt, rfl, n0, ha, hk⟩ := R
    exact ⟨O, [a], w, ⟨a, o, rfl, rfl, ha, hk.weak⟩, by simp, fun b m => by rw [List.mem_singleton.mp m]; exact ⟨na, nt, n0, _, ha⟩⟩
  · cases e
end Sc
set_option maxRecDepth 100000
set_option maxHeartbeats 2000000
namespace Sc
open PySem PySem.Spec PyProof.Rows L2
/-! ### values of slots: the heap stays -/
abbrev VF := Env → Option D
def tVE (K : PySem.W.Frag) (g : VF) : TE := fun σ H Q => ∃ B H0 ρ d, SD K B H0 H σ ρ ∧ g ρ = some d ∧ ∀ v, Rp K none H0 d v → Q v H
abbrev VE (X : Cx) (e : Expr) (g : VF) : Prop := PE X e (tVE X.K g)
def vnm (i : Nat) : VF := fun ρ => match ρ[i]? with
  | some (.fz d) => some d
  | some (.ar d) => some d
  | _ => none
def vk (d : D) : VF := fun _ => some d
def vop (o : Int → Int → Int) (f g : VF) : VF := fun ρ => match f ρ, g ρ with
  | some (.int i), some (.int j) => some (.int (o i j))
  | _, _ => none
section
variable {X : Cx} {a b : Expr} {f g : VF} {pos : Pos}
theorem ve_name (i : Nat) {x : Str} (hN : X.N[i]? = some x := by rfl) (hv : Vis X.env.scope x := by first | exact Or.inl rfl | exact Or.inr (Or.inl rfl) | exact Or.inr (Or.inr rfl)) (hd : (x == ("__debug__" : Str)) = false := by decide)
    (hcd : (x == ("__classdict__" : Str)) = false := by decide) : VE X (.Name x pos) (vnm i) := by
  refine pe_imp (pe_var (i := i) hN hv hd hcd) fun σ H Q ⟨B, H0, ρ, d, S, e, k⟩ => ?_
  unfold vnm at e
  cases q : ρ[i]? with
  | none => rw [q] at e; cases e
  | some s =>
    rw [q] at e
    obtain ⟨O, w, so⟩ := S.at_ q
    cases s with
    | fz d =>
      cases e
      obtain ⟨_, u, e1, e2⟩ := so
      exact ⟨u, join_some e1, k u e2.weak⟩
    | ar d =>
      cases e
      obtain ⟨_, u, e1, e2⟩ := so
      exact ⟨u, join_some e1, k u e2⟩
    | _ => cases e
theorem ve_int {i : Int} {j} : VE X (.Constant (.int i) j pos) (vk (.int i)) := pe_imp pe_int fun σ H Q ⟨B, H0, ρ, d, S, e, k⟩ => by cases e; exact k _ rfl
theorem vop_inv {o : Int → Int → Int} {ρ : Env} {d : D} (e : vop o f g ρ = some d) : ∃ i j, f ρ = some (.int i) ∧ g ρ = some (.int j) ∧ d = .int (o i j) := by
  unfold vop at e
  split at e
  · rename_i i j e1 e2; cases e; exact ⟨i, j, e1, e2, rfl⟩
  · cases e
theorem ve_op {op : Operator} {o : Int → Int → Int} (h : OpR X (binaryOp op) (rI0 fun i j => .int (o i j))) (ha : VE X a f) (hb : VE X b g) : VE X (.BinOp a op b pos) (vop o f g) := by
  refine pe_imp (pe_op h ha hb) fun σ H Q ⟨B, H0, ρ, d, S, e, k⟩ => ?_
  obtain ⟨i, j, e1, e2, rfl⟩ := vop_inv e
  refine ⟨B, H0, ρ, _, S, e1, fun x hx => ⟨B, H0, ρ, _, S, e2, fun y hy => ?_⟩⟩
  exact ⟨i, j, hx, hy, k _ rfl⟩
theorem ve_add (ha : VE X a f) (hb : VE X b g) : VE X (.BinOp a .Add b pos) (vop (· + ·) f g) := ve_op op_add ha hb
theorem ve_sub (ha : VE X a f) (hb : VE X b g) : VE X (.BinOp a .Sub b pos) (vop (· - ·) f g) := ve_op op_sub ha hb
end
/-! ### self.f -/
section
variable {K : PySem.W.Frag} {B : Bs} {H0 H : Hp} {σ : L2.St} {ρ : Env} {i : Nat} {c f : Str} {fs : Bool × Fs} {x : Fl} {b : Bool}
theorem SD.obAt (S : SD K B H0 H σ ρ) (e : fsOf c ρ[i]? = some fs) (l : lookFl f fs.2 = some (b, x)) : ∃ a dx r u O1, σ[i]? = some (some (.ref a)) ∧ H a = some (.ins (He.ga K c) dx r) ∧ r.length = fs.2.length ∧ r.lookup f = some u ∧ (b = true → u = B.m f) ∧ FlOk K H0 H O1 x u := by
  obtain ⟨O, w⟩ := S.own
  obtain ⟨a, dx, r, O', e0, nd, e1, e2, e3, e4, _⟩ := w.obAt (fsOf_iff e)
  obtain ⟨u, O1, q1, q2, q3, _⟩ := e4.get l
  exact ⟨a, dx, r, u, O1, e1, e2, e4.len, q1, q2, q3⟩
end
def fvF (i : Nat) (c f : Str) : ED := fun ρ => (fsOf c ρ[i]?).bind fun fs => match lookFl f fs.2 with
  | some (_, .v d) => some (.ar d, ρ)
  | _ => none
def flnF (i : Nat) (c f : Str) : ED := fun ρ => (fsOf c ρ[i]?).bind fun fs => match lookFl f fs.2 with
  | some (_, .l ds) => some (.fz (.int ds.length), ρ)
  | _ => none
def fixF (i : Nat) (c f : Str) (g : VF) : ED := fun ρ => (fsOf c ρ[i]?).bind fun fs => match lookFl f fs.2, g ρ with
  | some (_, .l ds), some (.int j) => (atI ds j).map fun d => (.ar d, ρ)
  | _, _ => none
def ftgF (i : Nat) (c f : Str) (g : VF) : ED := fun ρ => (fsOf c ρ[i]?).bind fun fs => match lookFl f fs.2, g ρ with
  | some (_, .t kvs), some d => if okTK d then (getK kvs d).map fun x => (.ar x, ρ) else none
  | _, _ => none
def ftnF (neg : Bool) (i : Nat) (c f : Str) (g : VF) : ED := fun ρ => (fsOf c ρ[i]?).bind fun fs => match lookFl f fs.2, g ρ with
  | some (_, .t kvs), some d => if okTK d then some (.fz (.bl (if neg then !(getK kvs d).isSome else (getK kvs d).isSome)), ρ) else none
  | _, _ => none
section
variable {X : Cx} {W : WX} {a e : Expr} {fe : ED} {g : VF} {pos p p2 p3 apos cpos pos' : Pos} {x : Str}
theorem pe_self (i : Nat) {c f : Str} (Cl : Cls X.K (He.ga X.K c)) (n : NoAttr X.K (He.ga X.K c) f) (hN : X.N[i]? = some x) (hv : Vis X.env.scope x) (hd : (x == ("__debug__" : Str)) = false) (hcd : (x == ("__classdict__" : Str)) = false)
    (hb : attributeBase (.Name x p) f X.env (eval (.Name x p) X.env) = eval (.Name x p) X.env) : PE X (.Attribute (.Name x p) f pos) (fun σ H Q => ∃ B H0 ρ fs b y, SD X.K B H0 H σ ρ ∧ fsOf c ρ[i]? = some fs ∧ lookFl f fs.2 = some (b, y) ∧
      ∀ a dx r u O1, σ[i]? = some (some (.ref a)) → H a = some (.ins (He.ga X.K c) dx r) → r.length = fs.2.length → r.lookup f = some u → (b = true → u = B.m f) → FlOk X.K H0 H O1 y u → Q u H) := by
  refine pe_imp (pe_fld (pe_var (i := i) hN hv hd hcd) hb) fun σ H Q ⟨B, H0, ρ, fs, b, y, S, e1, e2, k⟩ => ?_
  obtain ⟨a, dx, r, u, O1, q1, q2, q3, q4, q5, q6⟩ := S.obAt e1 e2
  exact ⟨_, q1, a, _, dx, r, u, rfl, q2, Cl, n, q4, k a dx r u O1 q1 q2 q3 q4 q5 q6⟩
theorem de_fv (i : Nat) {c f : Str} (Cl : Cls X.K (He.ga X.K c)) (n : NoAttr X.K (He.ga X.K c) f) (hN : X.N[i]? = some x := by rfl) (hv : Vis X.env.scope x := by first | exact Or.inl rfl | exact Or.inr (Or.inl rfl) | exact Or.inr (Or.inr rfl)) (hd : (x == ("__debug__" : Str)) = false := by decide) (hcd : (x == ("__classdict__" : Str)) = false := by decide)
    (hb : attributeBase (.Name x p) f X.env (eval (.Name x p) X.env) = eval (.Name x p) X.env := by rfl) : DE X (.Attribute (.Name x p) f pos) (fvF i c f) := by
  refine pe_imp (pe_self i Cl n hN hv hd hcd hb) fun σ H Q ⟨B, H0, ρ, r, ρ', S, e, k⟩ => ?_
  obtain ⟨fs, e1, e⟩ := ob e
  replace e : (match lookFl f fs.2 with
    | some (_, .v d) => some (Res.ar d, ρ)
    | _ => none) = some (r, ρ') := e
  split at e
  · rename_i b d q
    cases e
    exact ⟨B, H0, ρ, fs, b, _, S, e1, q, fun a dx r u O1 q1 q2 q3 q4 q5 q6 => k u H0 H (Same.refl _) S q6.2⟩
  · cases e
theorem de_fln (i : Nat) {c f : Str} (Cl : Cls X.K (He.ga X.K c)) (n : NoAttr X.K (He.ga X.K c) f) (hm : X.mg "len" = none) (hN : X.N[i]? = some x := by rfl) (hv : Vis X.env.scope x := by first | exact Or.inl rfl | exact Or.inr (Or.inl rfl) | exact Or.inr (Or.inr rfl)) (hd : (x == ("__debug__" : Str)) = false := by decide) (hcd : (x == ("__classdict__" : Str)) = false := by decide)
    (hb : attributeBase (.Name x p) f X.env (eval (.Name x p) X.env) = eval (.Name x p) X.env := by rfl)
    (hg : Gl X "len" := by rfl) (hs : starEach (.Attribute (.Name x p) f p2 :: []) X.env = (false, eval (.Attribute (.Name x p) f p2) X.env) :: starEach [] X.env := by rfl) (hpl : (backTo pos (starEach ([] : List Expr) X.env)).any (·.1) = false := by rfl) : DE X (.Call (.Name "len" p3) [.Attribute (.Name x p) f p2] [] pos) (flnF i c f) := by
  refine pe_imp (pe_callB call_len_seq hg hm (by decide +kernel) (pa_cons (pe_self i Cl n hN hv hd hcd hb) pa_nil hs) (by decide) (by decide) hs hpl) fun σ H Q ⟨B, H0, ρ, r, ρ', S, e, k⟩ => ?_
  obtain ⟨fs, e1, e⟩ := ob e
  replace e : (match lookFl f fs.2 with
    | some (_, .l ds) => some (Res.fz (.int ds.length), ρ)
    | _ => none) = some (r, ρ') := e
  split at e
  · rename_i b ds q
    cases e
    refine ⟨B, H0, ρ, fs, b, _, S, e1, q, fun a dx r u O1 q1 q2 q3 q4 q5 q6 => ?_⟩
    obtain ⟨p, vs, _, rfl, hp, hr⟩ := q6
    exact ⟨p, vs, rfl, .inl (SqL.of hp), by rw [hr.length]; exact k _ H0 H (Same.refl _) S rfl⟩
  · cases e
theorem de_fix (i : Nat) {c f : Str} (Cl : Cls X.K (He.ga X.K c)) (n : NoAttr X.K (He.ga X.K c) f) (hi : VE X a g) (hN : X.N[i]? = some x := by rfl) (hv : Vis X.env.scope x := by first | exact Or.inl rfl | exact Or.inr (Or.inl rfl) | exact Or.inr (Or.inr rfl)) (hd : (x == ("__debug__" : Str)) = false := by decide) (hcd : (x == ("__classdict__" : Str)) = false := by decide)
    (hb : attributeBase (.Name x p) f X.env (eval (.Name x p) X.env) = eval (.Name x p) X.env := by rfl)
    (hs : PlainIx a := by exact fun _ _ => rfl) : DE X (.Subscript (.Attribute (.Name x p) f p2) a pos) (fixF i c f g) := by
  refine pe_imp (pe_ix (ix_list.or ix_tup) (pe_self i Cl n hN hv hd hcd hb) hi hs) fun σ H Q ⟨B, H0, ρ, r, ρ', S, e, k⟩ => ?_
  obtain ⟨fs, e1, e⟩ := ob e
  replace e : (match lookFl f fs.2, g ρ with
    | some (_, .l ds), some (.int j) => (atI ds j).map fun d => (Res.ar d, ρ)
    | _, _ => none) = some (r, ρ') := e
  split at e
  · rename_i b ds j q qg
    obtain ⟨d, e3, e4⟩ := Option.map_eq_some_iff.mp e
    cases e4
    refine ⟨B, H0, ρ, fs, b, _, S, e1, q, fun a dx r u O1 q1 q2 q3 q4 q5 q6 => ⟨B, H0, ρ, _, S, qg, fun y hy => ?_⟩⟩
    obtain ⟨p, vs, _, rfl, hp, hr⟩ := q6
    obtain ⟨v, e5, e6⟩ := atI_map hr e3
    exact .inl ⟨p, vs, j, v, rfl, hy, SqL.of hp, e5, k v H0 H (Same.refl _) S e6⟩
  · cases e
theorem de_ftg (i : Nat) {c f : Str} (Cl : Cls X.K (He.ga X.K c)) (n : NoAttr X.K (He.ga X.K c) f) (hu : X.A.units + 16 < cLine) (hi : VE X a g) (hN : X.N[i]? = some x := by rfl) (hv : Vis X.env.scope x := by first | exact Or.inl rfl | exact Or.inr (Or.inl rfl) | exact Or.inr (Or.inr rfl)) (hd : (x == ("__debug__" : Str)) = false := by decide) (hcd : (x == ("__classdict__" : Str)) = false := by decide)
    (hb : attributeBase (.Name x p) f X.env (eval (.Name x p) X.env) = eval (.Name x p) X.env := by rfl)
    (hs : NoSl a := by exact fun _ _ => rfl) : DE X (.Subscript (.Attribute (.Name x p) f p2) a pos) (ftgF i c f g) := by
  refine pe_imp (pe_tget hu (pe_self i Cl n hN hv hd hcd hb) hi hs) fun σ H Q ⟨B, H0, ρ, r, ρ', S, e, k⟩ => ?_
  obtain ⟨fs, e1, e⟩ := ob e
  replace e : (match lookFl f fs.2, g ρ with
    | some (_, .t kvs), some d => if okTK d then (getK kvs d).map fun x => (Res.ar x, ρ) else none
    | _, _ => none) = some (r, ρ') := e
  split at e
  · rename_i b kvs d q qg
    split at e
    · rename_i z
      obtain ⟨y, e3, e4⟩ := Option.map_eq_some_iff.mp e
      cases e4
      obtain ⟨kk, hk, ht, hdp⟩ := okTK_iff z
      refine ⟨B, H0, ρ, fs, b, _, S, e1, q, fun a dx r u O1 q1 q2 q3 q4 q5 q6 => ⟨B, H0, ρ, _, S, qg, fun w hw => ?_⟩⟩
      obtain ⟨da, o, _, rfl, hH, hl⟩ := q6
      exact ⟨da, o, none, H0, kvs, d, kk, y, rfl, S.sub, hH, hl, hk, ht, hdp, hw, e3, fun v r => k v H0 H (Same.refl _) S r⟩
    · cases e
  · cases e
theorem ftn_red {tt : TE} {i : Nat} {c f : Str} (neg : Bool) (h : ∀ (σ : L2.St) (H : Hp) (Q : VK), (tVE X.K g σ H fun y H1 => ∃ B H0 ρ fs b z, SD X.K B H0 H1 σ ρ ∧ fsOf c ρ[i]? = some fs ∧ lookFl f fs.2 = some (b, z) ∧ ∀ a dx r u O1, σ[i]? = some (some (.ref a)) → H1 a = some (.ins (He.ga X.K c) dx r) → r.length = fs.2.length → r.lookup f = some u → (b = true → u = B.m f) → FlOk X.K H0 H1 O1 z u →
      ∃ a o b H0 kvs d k, u = .ref a ∧ Same H0 H1 ∧ H1 a = some o ∧ TdOk X.K b H0 a kvs o ∧ nkD d = some k ∧ isTK d = true ∧ k.depth ≤ 8 ∧ Rp X.K none H0 d y ∧ Q (.bl (if neg then !(getK kvs d).isSome else (getK kvs d).isSome)) H1) → tt σ H Q) : ∀ σ H Q, tDE X.K (ftnF neg i c f g) σ H Q → tt σ H Q := by
  rintro σ H Q ⟨B, H0, ρ, r, ρ', S, e, k⟩
  obtain ⟨fs, e1, e⟩ := ob e
  replace e : (match lookFl f fs.2, g ρ with
    | some (_, .t kvs), some d => if okTK d then some (Res.fz (.bl (if neg then !(getK kvs d).isSome else (getK kvs d).isSome)), ρ) else none
    | _, _ => none) = some (r, ρ') := e
  split at e
  · rename_i b kvs d q qg
    split at e
    · rename_i z
      cases e
      obtain ⟨kk, hk, ht, hdp⟩ := okTK_iff z
      refine h σ H Q ⟨B, H0, ρ, _, S, qg, fun w hw => ⟨B, H0, ρ, fs, b, _, S, e1, q, fun a dx r u O1 q1 q2 q3 q4 q5 q6 => ?_⟩⟩
      obtain ⟨da, o, _, rfl, hH, hl⟩ := q6
      exact ⟨da, o, none, H0, kvs, d, kk, rfl, S.sub, hH, hl, hk, ht, hdp, hw, k _ H0 H (Same.refl _) S rfl⟩
    · cases e
  · cases e
theorem de_ftin (i : Nat) {c f : Str} (Cl : Cls X.K (He.ga X.K c)) (n : NoAttr X.K (He.ga X.K c) f) (hu : X.A.units + 16 < cLine) (hi : VE X a g) (hN : X.N[i]? = some x := by rfl) (hv : Vis X.env.scope x := by first | exact Or.inl rfl | exact Or.inr (Or.inl rfl) | exact Or.inr (Or.inr rfl)) (hd : (x == ("__debug__" : Str)) = false := by decide) (hcd : (x == ("__classdict__" : Str)) = false := by decide)
    (hb : attributeBase (.Name x p) f X.env (eval (.Name x p) X.env) = eval (.Name x p) X.env := by rfl)
    (hm : behindInMarks .In (.Attribute (.Name x p) f p2) = false := by rfl) : DE X (.Compare a [.In] [.Attribute (.Name x p) f p2] pos) (ftnF false i c f g) :=
  pe_imp (pe_cmp (pc_tin hu hi (pe_self i Cl n hN hv hd hcd hb)) hm) (ftn_red false fun _ _ _ q => q)
theorem de_ftnin (i : Nat) {c f : Str} (Cl : Cls X.K (He.ga X.K c)) (n : NoAttr X.K (He.ga X.K c) f) (hu : X.A.units + 16 < cLine) (hi : VE X a g) (hN : X.N[i]? = some x := by rfl) (hv : Vis X.env.scope x := by first | exact Or.inl rfl | exact Or.inr (Or.inl rfl) | exact Or.inr (Or.inr rfl)) (hd : (x == ("__debug__" : Str)) = false := by decide) (hcd : (x == ("__classdict__" : Str)) = false := by decide)
    (hb : attributeBase (.Name x p) f X.env (eval (.Name x p) X.env) = eval (.Name x p) X.env := by rfl)
    (hm : behindInMarks .NotIn (.Attribute (.Name x p) f p2) = false := by rfl) : DE X (.Compare a [.NotIn] [.Attribute (.Name x p) f p2] pos) (ftnF true i c f g) :=
  pe_imp (pe_cmp (pc_tnin hu hi (pe_self i Cl n hN hv hd hcd hb)) hm) (ftn_red true fun _ _ _ q => q)
theorem dt_ftin (i : Nat) {c f : Str} (Cl : Cls X.K (He.ga X.K c)) (n : NoAttr X.K (He.ga X.K c) f) (hu : X.A.units + 16 < cLine) (hi : VE X a g) (hN : X.N[i]? = some x := by rfl) (hv : Vis X.env.scope x := by first | exact Or.inl rfl | exact Or.inr (Or.inl rfl) | exact Or.inr (Or.inr rfl)) (hd : (x == ("__debug__" : Str)) = false := by decide) (hcd : (x == ("__classdict__" : Str)) = false := by decide)
    (hb : attributeBase (.Name x p) f X.env (eval (.Name x p) X.env) = eval (.Name x p) X.env := by rfl)
    (hm : behindInMarks .In (.Attribute (.Name x p) f p2) = false := by rfl) : DT X (.Compare a [.In] [.Attribute (.Name x p) f p2] pos) (tstF (ftnF false i c f g)) :=
  pt_imp (pt_cmp (pc_tin hu hi (pe_self i Cl n hN hv hd hcd hb)) hm) (tst_B (X := X) (ftn_red false fun _ _ _ q => q))
theorem dt_ftnin (i : Nat) {c f : Str} (Cl : Cls X.K (He.ga X.K c)) (n : NoAttr X.K (He.ga X.K c) f) (hu : X.A.units + 16 < cLine) (hi : VE X a g) (hN : X.N[i]? = some x := by rfl) (hv : Vis X.env.scope x := by first | exact Or.inl rfl | exact Or.inr (Or.inl rfl) | exact Or.inr (Or.inr rfl)) (hd : (x == ("__debug__" : Str)) = false := by decide) (hcd : (x == ("__classdict__" : Str)) = false := by decide)
    (hb : attributeBase (.Name x p) f X.env (eval (.Name x p) X.env) = eval (.Name x p) X.env := by rfl)
    (hm : behindInMarks .NotIn (.Attribute (.Name x p) f p2) = false := by rfl) : DT X (.Compare a [.NotIn] [.Attribute (.Name x p) f p2] pos) (tstF (ftnF true i c f g)) :=
  pt_imp (pt_cmp (pc_tnin hu hi (pe_self i Cl n hN hv hd hcd hb)) hm) (tst_B (X := X) (ftn_red true fun _ _ _ q => q))
end
/-! ### self.f = e, self.f[e] = e' -/
def sfS (i : Nat) (c f : Str) (fe : ED) : FS := fun ρ => (fe ρ).bind fun p => (fsOf c p.2[i]?).bind fun fs => if fs.2.length < 1000 then (flV p.1).map fun x => .nx (p.2.set i (.ob fs.1 c (putFl f (false, x) fs.2))) else none
def ftsS (i : Nat) (c f : Str) (g : VF) (fe : ED) : FS := fun ρ => (itF fe ρ).bind fun p => (fsOf c p.2[i]?).bind fun fs => match lookFl f fs.2, g p.2 with
  | some (b, .t kvs), some d => if okTK d ∧ kvs.length ≤ LIM then some (.nx (p.2.set i (.ob fs.1 c (putFl f (b, .t (putKD kvs d p.1.2)) fs.2)))) else none
  | _, _ => none
section
variable {X : Cx} {W : WX} {a e : Expr} {fe : ED} {g : VF} {pos p p2 p3 apos cpos pos' : Pos} {x : Str}
theorem ds_fld (i : Nat) {c f : Str} (Cl : Cls X.K (He.ga X.K c)) (n : NoAttr X.K (He.ga X.K c) f) (he : DE X e fe) (hN : X.N[i]? = some x := by rfl) (hv : Vis X.env.scope x := by first | exact Or.inl rfl | exact Or.inr (Or.inl rfl) | exact Or.inr (Or.inr rfl)) (hd : (x == ("__debug__" : Str)) = false := by decide) (hcd : (x == ("__classdict__" : Str)) = false := by decide)
    (hs : swapsWith e (some (.Attribute (.Name x p) f pos')) pos.line X.env = pure false := by rfl) : DS X W (.Assign [.Attribute (.Name x p) f pos'] e pos) (sfS i c f fe) := by
  refine ps_imp (ps_fld (pe_var (i := i) hN hv hd hcd) he hs) fun Dn σ H ⟨B, H0, ρ, out, S, e, k⟩ => ?_
  obtain ⟨⟨r, ρ1⟩, e1, e⟩ := ob e
  obtain ⟨fs, e2, e⟩ := ob e
  replace e : (if fs.2.length < 1000 then (flV r).map fun x => Out.nx (ρ1.set i (.ob fs.1 c (putFl f (false, x) fs.2))) else none) = some out := e
  split at e
  · rename_i hz
    obtain ⟨y, e3, e4⟩ := Option.map_eq_some_iff.mp e
    cases e4
    refine ⟨B, H0, ρ, r, ρ1, S, e1, fun v H1 Ha s1 S1 R1 => ?_⟩
    obtain ⟨O, O1, w, hx, nd1, fr⟩ := S1.flV R1 e3
    have e2' := fsOf_iff e2
    obtain ⟨oa, dx, r', O', e0, nd, q1, q2, q3, q4, q5⟩ := w.obAt e2'
    have hi : i < ρ1.length := (List.getElem?_eq_some_iff.mp e2').1
    refine ⟨_, q1, oa, _, dx, r', rfl, q2, Cl, n, by rw [q4.len]; exact hz, ?_⟩
    obtain ⟨O2, i1, i2, i3⟩ := q4.put (f := f) hx
    rw [List.nodup_cons, List.nodup_cons] at nd
    obtain ⟨n1, n2, n3⟩ := nd
    have no : ∀ b ∈ O1, b ∉ O i := fun b m => (fr b m).1 i
    have d1 : ∀ b ∈ O2, b ≠ oa := fun b m y => by
      rcases i2 b m with q | q
      · exact n1 (by rw [← y]; simp [q])
      · exact no b q (by rw [e0, y]; simp)
    have d2 : ∀ b ∈ O2, b ≠ dx := fun b m y => by
      rcases i2 b m with q | q
      · exact n2 (by rw [← y]; exact q)
      · exact no b q (by rw [e0, y]; simp)
    have dxa : dx ≠ oa := fun y => n1 (by rw [y]; simp)
    have own : oa ∈ O i := by rw [e0]; simp
    have S2 := S1.stepO w (s' := .ob fs.1 c (putFl f (false, y) fs.2)) (H' := upd Ha oa (.ins (He.ga X.K c) dx (putF f v r'))) (Oi := oa :: dx :: O2) (fun b => b = oa) hi (fun b o n q => by rw [upd_ne n]; exact q) (fun b o c q => by subst c; rw [upd_same] at q; cases q; rfl) (fun b c => by subst c; exact w.non i b own) (fun b c => by subst c; exact w.tmp i b own)
      (fun b m => by
        rcases List.mem_cons.mp m with rfl | m
        · exact .inl own
        · rcases List.mem_cons.mp m with rfl | m
          · exact .inl (by rw [e0]; simp)
          · rcases i2 b m with q | q
            · exact .inl (by rw [e0]; simp [q])
            · exact .inr (fr b q))
      (fun j b z m c => z (by subst c; exact w.inj j i b m own))
      ⟨⟨oa, dx, _, O2, rfl, by
        rw [List.nodup_cons, List.nodup_cons]
        refine ⟨fun m => ?_, fun m => d2 dx m rfl, i3 n3 nd1 fun b m q => no b q (by rw [e0]; simp [m])⟩
        rcases List.mem_cons.mp m with m | m
        · exact dxa m.symm
        · exact d1 oa m rfl, by rw [q1]; rfl, upd_same, by rw [upd_ne dxa]; exact q3, i1.frame fzn_same fun b m o q => by rw [upd_ne (d1 b m)]; exact q⟩, q5⟩
    exact k σ _ _ (s1.trans fzn_same) S2
  · cases e
theorem ds_fts (i : Nat) {c f : Str} (Cl : Cls X.K (He.ga X.K c)) (n : NoAttr X.K (He.ga X.K c) f) (hu : X.A.units + 16 < cLine) (hg : VE X a g) (he : DE X e fe) (hN : X.N[i]? = some x := by rfl) (hv : Vis X.env.scope x := by first | exact Or.inl rfl | exact Or.inr (Or.inl rfl) | exact Or.inr (Or.inr rfl)) (hd : (x == ("__debug__" : Str)) = false := by decide) (hcd : (x == ("__classdict__" : Str)) = false := by decide)
    (hb : attributeBase (.Name x p) f X.env (eval (.Name x p) X.env) = eval (.Name x p) X.env := by rfl)
    (ha : ∀ v, assign (.Subscript (.Attribute (.Name x p) f p3) a p2) X.env v = (do
      let ov ← holding [v] (eval (.Attribute (.Name x p) f p3) X.env)
      let iv ← holding [v, ov] (eval a X.env)
      standAt p2
      holding [v, ov, iv] (setItem ov iv v)
      release [v, ov, iv] []) := by intro _; rfl)
    (hs : swapsWithSole [.Subscript (.Attribute (.Name x p) f p3) a p2] e pos.line X.env = pure false := by rfl) (hw : swappedStores [.Subscript (.Attribute (.Name x p) f p3) a p2] e X.env = pure none := by rfl)
    (h1 : (assignEach [.Subscript (.Attribute (.Name x p) f p3) a p2] X.env).map (·.2) = [assign (.Subscript (.Attribute (.Name x p) f p3) a p2) X.env] := by rfl) : DS X W (.Assign [.Subscript (.Attribute (.Name x p) f p3) a p2] e pos) (ftsS i c f g fe) := by
  refine ps_imp (ps_asg he (pg_sub (pe_self i Cl n hN hv hd hcd hb) hg (set_tdict hu) ha) hs hw h1) fun Dn σ H ⟨B, H0, ρ, out, S, e, k⟩ => ?_
  obtain ⟨⟨⟨fr, d⟩, ρ1⟩, e1, e⟩ := ob e
  obtain ⟨fs, e2, e⟩ := ob e
  replace e : (match lookFl f fs.2, g ρ1 with
    | some (b, .t kvs), some y => if okTK y ∧ kvs.length ≤ LIM then some (Out.nx (ρ1.set i (.ob fs.1 c (putFl f (b, .t (putKD kvs y d)) fs.2)))) else none
    | _, _ => none) = some out := e
  split at e
  · rename_i b kvs y q qg
    split at e
    · rename_i z
      cases e
      obtain ⟨kk, hk, ht, hdp⟩ := okTK_iff z.1
      refine it_red S e1 fun v H1 Ha s1 S1 R1 => ?_
      refine ⟨B, H1, ρ1, fs, b, _, S1, e2, q, fun oa dx r u O1 q1 q2 q3 q4 q5 q6 => ⟨B, H1, ρ1, _, S1, qg, fun w hw => ?_⟩⟩
      obtain ⟨da, o, rfl, rfl, hH, hl⟩ := q6
      have R1' : Rp X.K none H1 d v := by
        have R1'' : Rp X.K (bo B fr) H1 d v := R1
        cases fr with
        | true => exact Rp.weak R1''
        | false => exact R1''
      refine ⟨da, o, none, H1, kvs, y, kk, d, rfl, S1.sub, hH, hl, z.2, hk, ht, hdp, hw, R1', fun l t1 t2 => ?_⟩
      have S2 := S1.wrFl (o' := tdH da l) (x' := .t (putKD kvs y d)) (fsOf_iff e2) q1 q2 q rfl q4 rfl ⟨da, _, rfl, rfl, upd_same, .inr ⟨l, rfl, t1.mono fzn_same, t2⟩⟩
      exact k _ _ _ (s1.trans fzn_same) S2
    · cases e
  · cases e
end
end Sc
set_option maxRecDepth 100000
set_option maxHeartbeats 2000000
namespace Sc
open PySem PySem.Spec PyProof.Rows L2
/-! ### pointers held: self.f.append(e) where e calls methods of self -/
def allFl (fs : Fs) : Fs := fs.map fun p => (p.1, true, p.2.2)
def clrFl (fs : Fs) : Fs := fs.map fun p => (p.1, false, p.2.2)
def flgOf (f : Str) (fs : Fs) : Bool := match lookFl f fs with
  | some (b, _) => b
  | none => false
def andFl (fs fs2 : Fs) : Fs := fs2.map fun p => (p.1, p.2.1 && flgOf p.1 fs, p.2.2)
def calmS : Option Slot → Bool
  | some (.ob w _ fs) => !w && fs.all fun p => !p.2.1
  | _ => true
def noFlg (i : Nat) (ρ : Env) : Bool := (List.range ρ.length).all fun j => j == i || calmS ρ[j]?
theorem noFlg_at {i j : Nat} {ρ : Env} (h : noFlg i ρ = true) (z : j ≠ i) : calmS ρ[j]? = true := by
  by_cases l : j < ρ.length
  · have := List.all_eq_true.mp h j (by simpa using l)
    rw [Bool.or_eq_true] at this
    rcases this with q | q
    · exact (z (beq_iff_eq.mp q)).elim
    · exact q
  · rw [List.getElem?_eq_none (by omega)]; rfl
theorem lookFl_mem {f : Str} {y : Bool × Fl} : ∀ {fs : Fs}, lookFl f fs = some y → f ∈ fs.map (·.1)
  | [], h => by cases h
  | (g, z) :: fs, h => by
    rw [lookFl] at h
    by_cases z : g = f
    · simp [z]
    · rw [if_neg z] at h
      have := lookFl_mem h
      rw [List.map_cons]
      exact List.mem_cons_of_mem _ this
section
variable {K : PySem.W.Frag} {B : Bs} {H0 H0' H H' : Hp} {σ : L2.St} {ρ : Env} {i : Nat} {c f : Str} {fs fs2 : Fs} {x : Fl} {b : Bool} {m m' : Str → V} {v : Option V}
theorem FlsOk.re (hm : ∀ f, flgOf f fs = true → m' f = m f) : ∀ {fs2 : Fs} {O : List Addr} {r : List (Str × V)}, FlsOk K m' H0 H O fs2 r → FlsOk K m H0 H O (andFl fs fs2) r
  | [], _, _, h => h
  | (f, b, x) :: fs2, _, _, h => by
    obtain ⟨O1, O2, u, r', rfl, rfl, h0, h1, h2⟩ := h
    refine ⟨O1, O2, u, r', rfl, rfl, fun z => ?_, h1, FlsOk.re hm h2⟩
    dsimp only at z
    rw [Bool.and_eq_true] at z
    rw [h0 z.1, hm f z.2]
theorem FlsOk.all (m' : Str → V) : ∀ {fs : Fs} {O : List Addr} {r : List (Str × V)}, FlsOk K m H0 H O fs r → (fs.map (·.1)).Nodup → (∀ f u, f ∈ fs.map (·.1) → lookF f r = some u → m' f = u) → FlsOk K m' H0 H O (allFl fs) r
  | [], _, _, h, _, _ => h
  | (f, b, x) :: fs, _, _, h, nd, hm => by
    obtain ⟨O1, O2, u, r', rfl, rfl, h0, h1, h2⟩ := h
    rw [List.map_cons, List.nodup_cons] at nd
    refine ⟨O1, O2, u, r', rfl, rfl, fun _ => (hm f u (by simp) (by simp [lookF])).symm, h1, FlsOk.all m' h2 nd.2 fun g w mg e => hm g w (by simp [mg]) ?_⟩
    rw [lookF, if_neg (fun z => nd.1 (by rw [z]; exact mg))]
    exact e
theorem FlsOk.calm : ∀ {fs : Fs} {O : List Addr} {r : List (Str × V)}, FlsOk K m H0 H O fs r → (fs.all fun p => !p.2.1) = true → FlsOk K m' H0 H O fs r
  | [], _, _, h, _ => h
  | (f, b, x) :: fs, _, _, h, n => by
    obtain ⟨O1, O2, u, r', rfl, rfl, h0, h1, h2⟩ := h
    rw [List.all_cons, Bool.and_eq_true] at n
    refine ⟨O1, O2, u, r', rfl, rfl, fun z => ?_, h1, FlsOk.calm h2 n.2⟩
    rw [z] at n
    cases n.1
theorem FlsOk.clr : ∀ {fs : Fs} {O : List Addr} {r : List (Str × V)}, FlsOk K m H0 H O fs r → FlsOk K m' H0 H O (clrFl fs) r
  | [], _, _, h => h
  | (f, b, x) :: fs, _, _, h => by
    obtain ⟨O1, O2, u, r', rfl, rfl, h0, h1, h2⟩ := h
    exact ⟨O1, O2, u, r', rfl, rfl, fun z => (nomatch z), h1, FlsOk.clr h2⟩
theorem SlotOk.calm {Bb : Hp} {O : List Addr} {s : Slot} (h : SlotOk K Bb m H0 H O s v) (n : calmS (some s) = true) : SlotOk K Bb m' H0 H O s v := by
  cases s with
  | ob q c fs =>
    obtain ⟨⟨a, dx, r, O', rfl, nd, e1, e2, e3, e4⟩, e5⟩ := h
    have n' : (!q && fs.all fun p => !p.2.1) = true := n
    rw [Bool.and_eq_true] at n'
    exact ⟨⟨a, dx, r, O', rfl, nd, e1, e2, e3, e4.calm n'.2⟩, fun z => by rw [z] at n'; cases n'.1⟩
  | _ => exact h
/-- the pointers of the object in slot i are taken; "" its own -/
def ptr (a : Addr) (r : List (Str × V)) (f : Str) : V := if f = "" then .ref a else (r.lookup f).getD .non
theorem SD.rebase {q : Bool} (S : SD K B H0 H σ ρ) (e : ρ[i]? = some (.ob q c fs)) (n : noFlg i ρ = true) (nd : (("" : Str) :: fs.map (·.1)).Nodup) : ∃ a dx r, σ[i]? = some (some (.ref a)) ∧ H a = some (.ins (He.ga K c) dx r) ∧ (∀ f, flgOf f fs = true → ptr a r f = B.m f) ∧ (q = true → ptr a r "" = B.m "") ∧ SD K ⟨B.b, B.t, ptr a r⟩ H0 H σ (ρ.set i (.ob true c (allFl fs))) := by
  obtain ⟨O, w⟩ := S.own
  obtain ⟨a, dx, r, O', e0, ndO, e1, e2, e3, e4, e5⟩ := w.obAt e
  have hi : i < ρ.length := (List.getElem?_eq_some_iff.mp e).1
  rw [List.nodup_cons] at nd
  refine ⟨a, dx, r, e1, e2, fun f h => ?_, fun z => ?_, by simp [S.len], S.bir, S.sub, S.tmp, S.imm, O, fun j s q => ?_, w.non, w.inj, fun j hj => w.out j (by simpa using hj), w.tmp⟩
  · unfold flgOf at h
    cases q : lookFl f fs with
    | none => rw [q] at h; cases h
    | some p =>
      obtain ⟨b, x⟩ := p
      rw [q] at h
      obtain ⟨u, O1, q1, q2, _⟩ := e4.get q
      unfold ptr
      rw [if_neg (fun z => nd.1 (by rw [← z]; exact lookFl_mem q)), q1]
      exact q2 h
  · have := e5 z
    rw [e1] at this
    exact Option.some.inj this
  · by_cases z : j = i
    · subst z
      rw [List.getElem?_set_self hi] at q
      cases q
      refine ⟨⟨a, dx, r, O', e0, by rw [e0]; exact ndO, by rw [e1]; rfl, e2, e3, e4.all _ nd.2 fun f u mf l => ?_⟩, fun _ => by rw [e1]; rfl⟩
      show ptr a r f = u
      unfold ptr
      rw [if_neg (fun z => nd.1 (by rw [← z]; exact mf)), lookF_eq, l]
      rfl
    · rw [List.getElem?_set_ne (Ne.symm z)] at q
      have := noFlg_at n z
      rw [q] at this
      exact (w.ok j s q).calm this
theorem SD.unbase {q q2 : Bool} (S : SD K ⟨B.b, B.t, m'⟩ H0 H σ ρ) (e : ρ[i]? = some (.ob q2 c fs2)) (n : noFlg i ρ = true) (hm : ∀ f, flgOf f fs = true → m' f = B.m f) (hq : q = true → m' "" = B.m "") : SD K B H0 H σ (ρ.set i (.ob (q2 && q) c (andFl fs fs2))) := by
  obtain ⟨O, w⟩ := S.own
  obtain ⟨a, dx, r, O', e0, ndO, e1, e2, e3, e4, e5⟩ := w.obAt e
  have hi : i < ρ.length := (List.getElem?_eq_some_iff.mp e).1
  refine ⟨by simp [S.len], S.bir, S.sub, S.tmp, S.imm, O, fun j s q => ?_, w.non, w.inj, fun j hj => w.out j (by simpa using hj), w.tmp⟩
  by_cases z : j = i
  · subst z
    rw [List.getElem?_set_self hi] at q
    cases q
    refine ⟨⟨a, dx, r, O', e0, by rw [e0]; exact ndO, by rw [e1]; rfl, e2, e3, e4.re hm⟩, fun y => ?_⟩
    rw [Bool.and_eq_true] at y
    rw [e5 y.1]
    exact congrArg some (hq y.2)
  · rw [List.getElem?_set_ne (Ne.symm z)] at q
    have := noFlg_at n z
    rw [q] at this
    exact (w.ok j s q).calm this
end
theorem noFlg_set {i : Nat} {ρ : Env} {s : Slot} (h : noFlg i ρ = true) : noFlg i (ρ.set i s) = true := by
  refine List.all_eq_true.mpr fun j hj => ?_
  by_cases z : j = i
  · simp [z]
  · rw [List.getElem?_set_ne (Ne.symm z), noFlg_at h z]
    simp
theorem andFl_put {f : Str} {x : Fl} {fs fs2 : Fs} {b : Bool} : andFl fs (putFl f (b, x) fs2) = putFl f (b && flgOf f fs, x) (andFl fs fs2) := by
  induction fs2 with
  | nil => rfl
  | cons p fs2 ih =>
    obtain ⟨g, y⟩ := p
    rw [putFl]
    by_cases z : g = f
    · rw [if_pos z]
      show _ = putFl f _ ((g, _) :: andFl fs fs2)
      rw [putFl, if_pos z]
      subst z
      rfl
    · rw [if_neg z]
      show (g, _) :: andFl fs (putFl f (b, x) fs2) = putFl f _ ((g, _) :: andFl fs fs2)
      rw [putFl, if_neg z, ih]
def isLF : Option (Bool × Fl) → Bool
  | some (_, .l _) => true
  | _ => false
def fapF (i : Nat) (c f : Str) (fe : ED) : ED := fun ρ => (fsOf c ρ[i]?).bind fun fs => if noFlg i ρ = true ∧ (("" : Str) :: fs.2.map (·.1)).Nodup ∧ isLF (lookFl f fs.2) = true then (itF fe (ρ.set i (.ob true c (allFl fs.2)))).bind fun p => (fsOf c p.2[i]?).bind fun fs2 => match lookFl f fs2.2 with
    | some (true, .l ds) => if noFlg i p.2 = true ∧ ds.length < LIM then some (.fz .non, p.2.set i (.ob (fs2.1 && fs.1) c (putFl f (flgOf f fs.2, .l (ds ++ [p.1.2])) (andFl fs.2 fs2.2)))) else none
    | _ => none
  else none
section
variable {X : Cx} {W : WX} {a e : Expr} {fe : ED} {g : VF} {pos p p2 p3 apos cpos pos' : Pos} {x : Str}
theorem de_fap (i : Nat) {c f : Str} (Cl : Cls X.K (He.ga X.K c)) (n : NoAttr X.K (He.ga X.K c) f) (he : DE X e fe) (hN : X.N[i]? = some x := by rfl) (hv : Vis X.env.scope x := by first | exact Or.inl rfl | exact Or.inr (Or.inl rfl) | exact Or.inr (Or.inr rfl)) (hd : (x == ("__debug__" : Str)) = false := by decide) (hcd : (x == ("__classdict__" : Str)) = false := by decide)
    (hb : attributeBase (.Name x p) f X.env (eval (.Name x p) X.env) = eval (.Name x p) X.env := by rfl)
    (hbase : attributeBase (.Attribute (.Name x p) f p2) "append" X.env (eval (.Attribute (.Name x p) f p2) X.env) = eval (.Attribute (.Name x p) f p2) X.env := by rfl)
    (hfew : ((backTo cpos (starEach [e] X.env)).all (fun x => !x.1) && (backToKw cpos (keywordEach [] X.env)).all (fun x => x.1.isSome)
      && decide ([e].length + ([] : List Keyword).length + (if ([] : List Keyword).isEmpty then 0 else 1) < 30)) = true := by rfl)
    (hline : (apos.endLine == cpos.line) = true := by rfl) (hs : starEach [e] X.env = (false, eval e X.env) :: starEach [] X.env := by rfl) (hplain : (backTo cpos (starEach [] X.env)).any (·.1) = false := by rfl) :
    DE X (.Call (.Attribute (.Attribute (.Name x p) f p2) "append" apos) [e] [] cpos) (fapF i c f fe) := by
  refine pe_imp (pe_bm PySem.F.plainAttrs_list PySem.F.slot_list_append PySem.F.type_list_append mt_append (pe_self i Cl n hN hv hd hcd hb) (pa_cons he pa_nil hs) hbase hfew hline hs hplain) fun σ H Q ⟨B, H0, ρ, r, ρ', S, e, k⟩ => ?_
  obtain ⟨fs, e1, e⟩ := ob e
  replace e : (if noFlg i ρ = true ∧ (("" : Str) :: fs.2.map (·.1)).Nodup ∧ isLF (lookFl f fs.2) = true then (itF fe (ρ.set i (.ob true c (allFl fs.2)))).bind fun p => (fsOf c p.2[i]?).bind fun fs2 => match lookFl f fs2.2 with
      | some (true, .l ds) => if noFlg i p.2 = true ∧ ds.length < LIM then some (Res.fz .non, p.2.set i (.ob (fs2.1 && fs.1) c (putFl f (flgOf f fs.2, .l (ds ++ [p.1.2])) (andFl fs.2 fs2.2)))) else none
      | _ => none
    else none) = some (r, ρ') := e
  split at e
  · rename_i z
    obtain ⟨z1, z2, z3⟩ := z
    obtain ⟨⟨⟨fr, d⟩, ρ1⟩, e2, e⟩ := ob e
    obtain ⟨fs2, e3, e⟩ := ob e
    replace e : (match lookFl f fs2.2 with
      | some (true, .l ds) => if noFlg i ρ1 = true ∧ ds.length < LIM then some (Res.fz .non, ρ1.set i (.ob (fs2.1 && fs.1) c (putFl f (flgOf f fs.2, .l (ds ++ [d])) (andFl fs.2 fs2.2)))) else none
      | _ => none) = some (r, ρ') := e
    split at e
    · rename_i ds q
      split at e
      · rename_i y
        obtain ⟨y1, y2⟩ := y
        cases e
        cases q0 : lookFl f fs.2 with
        | none => rw [q0] at z3; cases z3
        | some bx =>
          obtain ⟨b0, x0⟩ := bx
          rw [q0] at z3
          cases x0 with
          | l ds0 =>
            refine ⟨B, H0, ρ, fs, b0, _, S, e1, q0, fun oa dx r u O1 q1 q2 q3 q4 q5 q6 => ?_⟩
            obtain ⟨pp, vs0, _, rfl, hp, hr⟩ := q6
            refine ⟨.inl ⟨rfl, vs0, SqL.of hp⟩, ?_⟩
            obtain ⟨oa', dx', r', t1, t2, t3, t4, S1⟩ := S.rebase (fsOf_iff e1) z1 z2
            rw [q1] at t1
            cases t1
            rw [q2] at t2
            cases t2
            refine it_red S1 e2 fun v H1 Ha s1 S2 R1 => ?_
            obtain ⟨oa2, dx2, r2, u2, O2, p1, p2, p3, p4, p5, p6⟩ := S2.obAt e3 q
            obtain ⟨pp2, vs, rfl, rfl, hp2, hr2⟩ := p6
            have ep : V.ref pp2 = V.ref pp := by
              rw [p5 rfl]
              show ptr oa r f = _
              unfold ptr
              rw [if_neg, q4]
              · rfl
              · intro z0
                rw [List.nodup_cons] at z2
                refine z2.1 ?_
                rw [← z0]
                exact lookFl_mem q0
            cases ep
            have R1' : Rp X.K none H1 d v := by
              have R1'' : Rp X.K (bo B fr) H1 d v := R1
              cases fr with
              | true => exact Rp.weak R1''
              | false => exact R1''
            refine ⟨pp, vs, v, rfl, rfl, hp2, by rw [hr2.length]; exact Nat.lt_trans y2 lim_le, ?_⟩
            have S3 := S2.wrFl (o' := .lst (vs ++ [v])) (x' := .l (ds ++ [d])) (fsOf_iff e3) p1 p2 q rfl p4 rfl ⟨pp, _, rfl, rfl, upd_same, (hr2.append (.one R1')).mono fzn_same⟩
            have hi : i < ρ1.length := (List.getElem?_eq_some_iff.mp (fsOf_iff e3)).1
            have S4 := S3.unbase (q := fs.1) (fs := fs.2) (by rw [List.getElem?_set_self hi]) (noFlg_set y1) t3 t4
            rw [List.set_set, andFl_put, Bool.true_and] at S4
            exact k _ _ _ (s1.trans fzn_same) S4 rfl
          | _ => cases z3
      · cases e
    · cases e
  · cases e
end
end Sc
set_option maxRecDepth 100000
set_option maxHeartbeats 2000000
namespace Sc
open PySem PySem.Spec PyProof.Rows L2
/-! ### methods: what is lent, what comes back -/
/-- m: pointers that are told; G: what the lender holds frozen; R: the object's cells -/
structure ObIn (K : PySem.W.Frag) (m : Str → V) (G H : Hp) (R : List Addr) (c : Str) (fs : Fs) (v : V) : Prop where
  sub : Same G H
  imm : ∀ a o, H a = some o → Imm o = true → G a = some o
  non : ∀ b ∈ R, G b = none
  ob : ObOk K m G H R c fs (some v)
  me : v = m ""
structure ObTo (K : PySem.W.Frag) (m : Str → V) (G H : Hp) (R : List Addr) (c : Str) (G' H' : Hp) (R' : List Addr) (fs' : Fs) (v : V) : Prop where
  grow : Same G G'
  sub : Same G' H'
  imm : ∀ a o, H' a = some o → Imm o = true → G' a = some o
  hid : ∀ b o, H b = some o → G b = none → b ∉ R → H' b = some o ∧ G' b = none
  new : ∀ b ∈ R', (b ∈ R ∨ H b = none) ∧ G' b = none
  ob : ObOk K m G' H' R' c fs' (some v)
abbrev OF := Fs → List D → Option (Ret × Fs)
def GoO (K : PySem.W.Frag) (m : Str → V) (G H : Hp) (R : List Addr) (c : Str) (v : V) (Q : VK) (E : XK) (fs' : Fs) : Ret → Prop
  | .ret d => ∀ w G' H' R', ObTo K m G H R c G' H' R' fs' v → Rp K (some G) G' d w → Q w H'
  | .exc x => ∀ dd G' H' R', ObTo K m G H R c G' H' R' fs' v → E (.ref (He.ga K x)) dd H'
def spO (K : PySem.W.Frag) (c : Str) (n : Nat) (F : OF) : Sp := fun vs H Q E => ∃ m G R fs ds r fs' v rest, vs = v :: rest ∧ ObIn K m G H R c fs v ∧ Rps K none G ds rest ∧ ds.length = n ∧ F fs ds = some (r, fs') ∧ GoO K m G H R c v Q E fs' r
def myFs (c : Str) (ρ : Env) : Option Fs := (fsOf c ρ[0]?).bind fun p => if p.1 then some p.2 else none
def outO (c : Str) : Out → Option (Ret × Fs)
  | .nx ρ => (myFs c ρ).map fun fs => (.ret .non, fs)
  | .rt d ρ => (myFs c ρ).map fun fs => (.ret d, fs)
  | .ex x ρ => (myFs c ρ).map fun fs => (.exc x, fs)
  | _ => none
def runO (c : Str) (n : Nat) (fb : FS) : OF := fun fs ds => (fb (.ob true c fs :: envOf n ds)).bind (outO c)
/-- what is hidden -/
def hidT (G H : Hp) (R : List Addr) : Hp := fun b => if b ∈ R ∨ (G b).isSome = true then none else H b
theorem hidT_some {G H : Hp} {R : List Addr} {b : Addr} {o : HO} (e : hidT G H R b = some o) : H b = some o ∧ G b = none ∧ b ∉ R := by
  unfold hidT at e
  split at e
  · cases e
  · rename_i z
    refine ⟨e, ?_, fun m => z (.inl m)⟩
    cases q : G b with
    | none => rfl
    | some u => exact (z (.inr (by rw [q]; rfl))).elim
theorem hidT_of {G H : Hp} {R : List Addr} {b : Addr} {o : HO} (e : H b = some o) (g : G b = none) (n : b ∉ R) : hidT G H R b = some o := by
  unfold hidT
  rw [if_neg, e]
  rintro (m | m)
  · exact n m
  · rw [g] at m; cases m
section
variable {K : PySem.W.Frag} {m : Str → V} {G H : Hp} {R : List Addr} {c : Str} {fs : Fs} {v : V}
theorem sd_startO {n0 : Str} {N : List Str} {vs : List V} {ds : List D} (I : ObIn K m G H R c fs v) (h : Rps K none G ds vs) (hl : ds.length ≤ N.length) :
    SD K ⟨G, hidT G H R, m⟩ G H (L2.start (n0 :: N) (v :: vs)) (.ob true c fs :: envOf N.length ds) := by
  have hv := h.length
  have e0 : L2.start (n0 :: N) (v :: vs) = some v :: L2.start N vs := by
    unfold L2.start
    simp
  rw [e0]
  refine ⟨?_, Same.refl _, I.sub, fun a o e => ?_, I.imm, fun i => if i = 0 then R else [], fun i s e => ?_, fun i a q => ?_, fun i j a m1 m2 => ?_, fun i hi => ?_, fun i a q => ?_⟩
  · rw [List.length_cons, List.length_cons, start_len (by omega)]
    unfold envOf
    simp
    omega
  · obtain ⟨h1, h2, _⟩ := hidT_some e
    exact ⟨h1, h2⟩
  · cases i with
    | zero =>
      cases e
      exact ⟨I.ob, fun _ => congrArg some I.me⟩
    | succ i =>
      rw [List.getElem?_cons_succ] at e
      rw [if_neg (Nat.succ_ne_zero i), List.getElem?_cons_succ]
      unfold envOf at e
      by_cases z : i < ds.length
      · rw [List.getElem?_append_left (by simpa using z), List.getElem?_map] at e
        obtain ⟨d, e1, e2⟩ := Option.map_eq_some_iff.mp e
        subst e2
        obtain ⟨u, e3, e4⟩ := h.get e1
        refine ⟨rfl, u, ?_, e4⟩
        unfold L2.start
        rw [List.getElem?_append_left (by simp; omega), List.getElem?_map, e3]
        rfl
      · rw [List.getElem?_append_right (by simp; omega), List.getElem?_replicate] at e
        split at e
        · cases e; rfl
        · cases e
  · split at q
    · exact I.non a q
    · cases q
  · split at m1
    · split at m2
      · omega
      · cases m2
    · cases m1
  · rw [List.length_cons] at hi
    rw [if_neg (by omega)]
  · split at q
    · show hidT G H R a = none
      unfold hidT
      rw [if_pos (.inl q)]
    · cases q
/-- at the end -/
theorem obTo_of {G' H' : Hp} {σ : L2.St} {ρ : Env} {fs' : Fs} (hv : v = m "") (s : Same G G') (S : SD K ⟨G, hidT G H R, m⟩ G' H' σ ρ) (e : myFs c ρ = some fs') : ∃ R', ObTo K m G H R c G' H' R' fs' v := by
  obtain ⟨⟨q, fs2⟩, e1, e2⟩ := ob e
  replace e2 : (if q = true then some fs2 else none) = some fs' := e2
  split at e2
  · rename_i zq
    cases e2
    obtain ⟨O, w⟩ := S.own
    refine ⟨O 0, s, S.sub, S.imm, fun b o e1 e2 n => ?_, fun b q => ⟨?_, w.non 0 b q⟩, ?_⟩
    · exact S.tmp b o (hidT_of e1 e2 n)
    · by_cases z : b ∈ R
      · exact .inl z
      · refine .inr ?_
        cases q2 : H b with
        | none => rfl
        | some o =>
          have t : hidT G H R b = none := w.tmp 0 b q
          cases q3 : G b with
          | none => rw [hidT_of q2 q3 z] at t; cases t
          | some u => have := w.non 0 b q; rw [s b u q3] at this; cases this
    · obtain ⟨h1, h2⟩ := w.ok 0 _ (fsOf_iff e1)
      have h3 := h2 zq
      rw [h3] at h1
      rw [hv]
      exact h1
  · cases e2
end
section
variable {P : Program} {w : World} {K : PySem.W.Frag} {mg : Str → Option Value} {base : Heap} {x qual : Str} {params : Arguments} {body : List Stmt} {scope : Scope} {f : Addr} {fd : FuncData} {N ps : List Str} {n0 p0 : Str} {k : Nat} {fb : FS} {c : Str}
/-- THE RULE for a method -/
theorem fn_O (F : FunD K x qual params body scope [] [] f fd) (S : FnScope (n0 :: N) (p0 :: ps) scope)
    (hb : ∀ (cdv : Value) (A : Around) (outer : List PySem.Env) (s : Shared) (H : Hp) (E : XK), Room k (A.deeper (envOfC qual scope s.heap.objs.size f cdv)) →
      DSs (cxOf (L2.CX P w) P w K mg base (n0 :: N) qual scope f cdv A outer s H E) (fun cls d _ H => E cls d H) body fb) : FnOk P w K mg base (L2.CX P w) (k + 1) f fd (p0 :: ps) (spO K c ps.length (runO c N.length fb)) := by
  refine F.ok S (fun vs H Q E ⟨m, G, R, fs, ds, r, fs', v, rest, h0, _, h1, h2, _⟩ => by rw [h0, List.length_cons, h1.length, h2, List.length_cons]) fun cdv A outer s H vs Q E hr ⟨m, G, R, fs, ds, r, fs', v, rest, h0, I, h1, h2, h3, h4⟩ => ⟨_, hb cdv A outer s H E hr, ?_⟩
  subst h0
  obtain ⟨out, e1, e2⟩ := ob h3
  have hle : ps.length ≤ N.length := by
    have := fs_le S
    simpa using this
  refine ⟨⟨G, hidT G H R, m⟩, G, .ob true c fs :: envOf N.length ds, out, sd_startO I h1 (by rw [h2]; exact hle), e1, ?_⟩
  cases out with
  | nx ρ =>
    obtain ⟨fs2, e3, e4⟩ := Option.map_eq_some_iff.mp e2
    cases e4
    intro σ G' H' s' S'
    obtain ⟨R', T⟩ := obTo_of I.me s' S' e3
    exact h4 .non G' H' R' T rfl
  | rt d2 ρ =>
    obtain ⟨fs2, e3, e4⟩ := Option.map_eq_some_iff.mp e2
    cases e4
    intro u σ G' H' s' S' R2
    obtain ⟨R', T⟩ := obTo_of I.me s' S' e3
    exact h4 u G' H' R' T R2
  | ex y ρ =>
    obtain ⟨fs2, e3, e4⟩ := Option.map_eq_some_iff.mp e2
    cases e4
    intro dd σ G' H' s' S'
    obtain ⟨R', T⟩ := obTo_of I.me s' S' e3
    exact h4 dd G' H' R' T
  | _ => cases e2
end
/-! ### a method called -/
structure CalM (P : Program) (w : World) (K : PySem.W.Frag) (mg : Str → Option Value) (base : Heap) (k : Nat) (c m : Str) (ps : List Str) (sp : Sp) : Prop where
  ex : ∃ fd, FnOk P w K mg base (L2.CX P w) k (He.ma K (He.ga K c) m) fd ps sp ∧ Binds K fd ps []
  cls : Cls K (He.ga K c)
  mt : Meth K (He.ga K c) m (He.ma K (He.ga K c) m)
theorem CalM.mono {P : Program} {w : World} {K : PySem.W.Frag} {mg : Str → Option Value} {base : Heap} {j k : Nat} {c m : Str} {ps : List Str} {sp : Sp} (C : CalM P w K mg base j c m ps sp) (h : j ≤ k) : CalM P w K mg base k c m ps sp :=
  let ⟨fd, F, b⟩ := C.ex
  ⟨⟨fd, F.mono h, b⟩, C.cls, C.mt⟩
def isFr : Res → Bool
  | .fz _ => true
  | .ar _ => true
  | _ => false
section
variable {K : PySem.W.Frag} {B : Bs} {H0 H G' H' : Hp} {σ : L2.St} {ρ : Env} {i : Nat} {c : Str} {fs fs' : Fs} {q : Bool} {O : Nat → List Addr} {R' : List Addr}
theorem rs_fr : ∀ {rs : List Res} {vs : List V} {ps : List (Bool × D)}, RSs K B H0 H σ ρ rs vs → views ρ rs = some ps → rs.all isFr = true → Rps K none H0 (ps.map (·.2)) vs
  | [], _, _, h, e, _ => by cases e; exact h
  | r :: rs, _, _, h, e, n => by
    obtain ⟨v, ws, rfl, h1, n1, h3⟩ := h
    obtain ⟨p, e1, e2⟩ := ob e
    obtain ⟨ps, e3, e4⟩ := Option.map_eq_some_iff.mp e2
    cases e4
    rw [List.all_cons, Bool.and_eq_true] at n
    refine ⟨v, ws, rfl, ?_, rs_fr h3 e3 n.2⟩
    cases r with
    | fz d => cases e1; exact Rp.weak h1
    | ar d => cases e1; exact h1
    | _ => cases n.1
/-- the object in slot i is lent -/
theorem SD.lend (S : SD K B H0 H σ ρ) (w : Own K B H0 H σ ρ O) (e : ρ[i]? = some (.ob q c fs)) (nd : (("" : Str) :: fs.map (·.1)).Nodup) : ∃ a dx r, σ[i]? = some (some (.ref a)) ∧ H a = some (.ins (He.ga K c) dx r) ∧ (∀ f, flgOf f fs = true → ptr a r f = B.m f) ∧ (∀ f, lookFl f fs = none → r.lookup f = none) ∧ ObIn K (ptr a r) H0 H (O i) c (allFl fs) (.ref a) := by
  obtain ⟨a, dx, r, O', e0, ndO, e1, e2, e3, e4, e5⟩ := w.obAt e
  rw [List.nodup_cons] at nd
  refine ⟨a, dx, r, e1, e2, fun f h => ?_, fun f h => e4.no h, S.sub, S.imm, w.non i, ⟨a, dx, r, O', e0, by rw [e0]; exact ndO, rfl, e2, e3, e4.all _ nd.2 fun f u mf l => ?_⟩, rfl⟩
  · unfold flgOf at h
    cases z : lookFl f fs with
    | none => rw [z] at h; cases h
    | some p =>
      obtain ⟨b, x⟩ := p
      rw [z] at h
      obtain ⟨u, O1, q1, q2, _⟩ := e4.get z
      unfold ptr
      rw [if_neg (fun y => nd.1 (by rw [← y]; exact lookFl_mem z)), q1]
      exact q2 h
  · unfold ptr
    rw [if_neg (fun z => nd.1 (by rw [← z]; exact mf)), lookF_eq, l]
    rfl
/-- .. and comes back -/
theorem SD.back {a : Addr} {r : List (Str × V)} (S : SD K B H0 H σ ρ) (w : Own K B H0 H σ ρ O) (e : ρ[i]? = some (.ob q c fs)) (ea : σ[i]? = some (some (.ref a))) (hm : ∀ f, flgOf f fs = true → ptr a r f = B.m f) (T : ObTo K (ptr a r) H0 H (O i) c G' H' R' fs' (.ref a)) : SD K B G' H' σ (ρ.set i (.ob q c (andFl fs fs'))) := by
  have hi : i < ρ.length := (List.getElem?_eq_some_iff.mp e).1
  have keep : ∀ j, j ≠ i → ∀ b ∈ O j, ∀ o, H b = some o → H' b = some o ∧ G' b = none := fun j z b m o h => T.hid b o h (w.non j b m) fun m2 => z (w.inj j i b m m2)
  have fresh : ∀ b ∈ R', (∀ j, j ≠ i → b ∉ O j) ∧ B.t b = none := fun b m => by
    rcases (T.new b m).1 with z | z
    · exact ⟨fun j y m2 => y (w.inj j i b m2 z), w.tmp i b z⟩
    · refine ⟨fun j y m2 => ?_, ?_⟩
      · obtain ⟨o, h, _⟩ := w.there m2
        rw [z] at h; cases h
      · cases h : B.t b with
        | none => rfl
        | some o => rw [(S.tmp b o h).1] at z; cases z
  refine ⟨by simp [S.len], S.bir.trans T.grow, T.sub, fun b o h => ?_, T.imm, fun j => if j = i then R' else O j, fun j s h => ?_, fun j b m => ?_, fun j k b m1 m2 => ?_, fun j hj => ?_, fun j b m => ?_⟩
  · obtain ⟨h1, h2⟩ := S.tmp b o h
    exact T.hid b o h1 h2 fun m => by rw [w.tmp i b m] at h; cases h
  · by_cases z : j = i
    · subst z
      rw [List.getElem?_set_self hi] at h
      cases h
      rw [if_pos rfl]
      obtain ⟨_, e5⟩ := w.ok j _ e
      obtain ⟨a', dx', r', O', t0, t1, t2, t3, t4, t5⟩ := T.ob
      refine ⟨⟨a', dx', r', O', t0, t1, ?_, t3, t4, t5.re hm⟩, e5⟩
      rw [ea, ← t2]
      rfl
    · rw [List.getElem?_set_ne (Ne.symm z)] at h
      rw [if_neg z]
      exact (w.ok j s h).frame T.grow fun b m o h2 => (keep j z b m o h2).1
  · by_cases z : j = i
    · rw [if_pos z] at m; exact (T.new b m).2
    · rw [if_neg z] at m
      obtain ⟨o, h, _⟩ := w.there m
      exact (keep j z b m o h).2
  · by_cases z1 : j = i
    · by_cases z2 : k = i
      · rw [z1, z2]
      · rw [if_pos z1] at m1; rw [if_neg z2] at m2; exact ((fresh b m1).1 k z2 m2).elim
    · by_cases z2 : k = i
      · rw [if_neg z1] at m1; rw [if_pos z2] at m2; exact ((fresh b m2).1 j z1 m1).elim
      · rw [if_neg z1] at m1; rw [if_neg z2] at m2; exact w.inj j k b m1 m2
  · rw [List.length_set] at hj
    rw [if_neg (by omega)]
    exact w.out j hj
  · by_cases z : j = i
    · rw [if_pos z] at m; exact (fresh b m).2
    · rw [if_neg z] at m; exact w.tmp j b m
end
def mcF (i : Nat) (c m : Str) (n : Nat) (F : OF) (fs : List ED) : ED := fun ρ => (fsOf c ρ[i]?).bind fun f0 => if lookFl m f0.2 = none then (argsF fs ρ).bind fun p => (views p.2 p.1).bind fun ps => (fsOf c p.2[i]?).bind fun f1 => if (ps.length = n ∧ p.1.all isFr = true) ∧ (("" : Str) :: f1.2.map (·.1)).Nodup then (F (allFl f1.2) (ps.map (·.2))).bind fun r => match r.1 with
      | .ret d => some (.fz d, p.2.set i (.ob f1.1 c (andFl f1.2 r.2)))
      | _ => none
    else none
  else none
theorem mc_red {K : PySem.W.Frag} {i : Nat} {c m : Str} {n : Nat} {F : OF} {fs : List ED} : ∀ σ H Q, tDE K (mcF i c m n F fs) σ H Q → tMeth (He.ga K c) m (spO K c n F) [] E0 (tVar i) (tDA K fs) σ H Q := by
  rintro σ H Q ⟨B, H0, ρ, r, ρ', S, e, k⟩
  obtain ⟨f0, e0, e⟩ := ob e
  replace e : (if lookFl m f0.2 = none then (argsF fs ρ).bind fun p => (views p.2 p.1).bind fun ps => (fsOf c p.2[i]?).bind fun f1 => if (ps.length = n ∧ p.1.all isFr = true) ∧ (("" : Str) :: f1.2.map (·.1)).Nodup then (F (allFl f1.2) (ps.map (·.2))).bind fun r => match r.1 with
        | .ret d => some (Res.fz d, p.2.set i (.ob f1.1 c (andFl f1.2 r.2)))
        | _ => none
      else none
    else none) = some (r, ρ') := e
  split at e
  · rename_i hm
    obtain ⟨⟨rs, ρ1⟩, e1, e⟩ := ob e
    obtain ⟨ps, e2, e⟩ := ob e
    obtain ⟨f1, e3, e⟩ := ob e
    replace e : (if (ps.length = n ∧ rs.all isFr = true) ∧ (("" : Str) :: f1.2.map (·.1)).Nodup then (F (allFl f1.2) (ps.map (·.2))).bind fun r => match r.1 with
        | .ret d => some (Res.fz d, ρ1.set i (.ob f1.1 c (andFl f1.2 r.2)))
        | _ => none
      else none) = some (r, ρ') := e
    split at e
    · rename_i z
      obtain ⟨⟨z1, z2⟩, z3⟩ := z
      obtain ⟨⟨rr, fs'⟩, e4, e⟩ := ob e
      obtain ⟨O0, w0⟩ := S.own
      obtain ⟨a0, dx0, r0, O', _, _, q1, q2, _, q4, _⟩ := w0.obAt (fsOf_iff e0)
      refine ⟨_, q1, a0, dx0, r0, rfl, q2, q4.no hm, B, H0, ρ, rs, ρ1, S, e1, fun vs H1 Ha s1 S1 R1 => ?_⟩
      obtain ⟨O, w⟩ := S1.own
      obtain ⟨a, dx, r2, t1, t2, t3, _, I⟩ := S1.lend w (fsOf_iff e3) z3
      rw [q1] at t1
      cases t1
      cases rr with
      | exc y => cases e
      | ret d =>
        cases e
        refine ⟨_, H1, O i, _, _, .ret d, fs', _, vs, by rw [List.append_nil], I, rs_fr R1 e2 z2, by rw [List.length_map]; exact z1, e4, fun u G' H' R' T Ru => ?_⟩
        refine k u G' H' (s1.trans T.grow) (S1.back w (fsOf_iff e3) q1 t3 T) ?_
        exact Ru.shift (fun _ _ t => t) fun b xs n h => ⟨S1.bir.free n, h⟩
    · cases e
  · cases e
section
variable {X : Cx} {k n : Nat} {x m c p0 : Str} {ps : List Str} {F : OF} {fs : List ED} {e : Expr} {es : List Expr} {p apos pos : Pos}
theorem de_mc {pl : Sem Bool} (i : Nat) (C : CalM X.prog X.w X.K X.mg X.base k c m (p0 :: ps) (spO X.K c n F)) (hr : Room k X.A) (ha : DA X (e :: es) fs) (hN : X.N[i]? = some x := by rfl) (hv : Vis X.env.scope x := by first | exact Or.inl rfl | exact Or.inr (Or.inl rfl) | exact Or.inr (Or.inr rfl)) (hd : (x == ("__debug__" : Str)) = false := by decide) (hcd : (x == ("__classdict__" : Str)) = false := by decide)
    (hst : starEach (e :: es) X.env = (false, eval e X.env) :: starEach es X.env := by rfl) (hpl : (backTo pos (starEach es X.env)).any (·.1) = false := by rfl)
    (ht : eval (.Call (.Attribute (.Name x p) m apos) (e :: es) [] pos) X.env = (do
      let ov ← eval (.Name x p) X.env
      standAt apos.atName
      let (f, first) ← holding [ov] (getMethod ov m pl)
      callWith pos f first (backTo pos (starEach (e :: es) X.env)) (backToKw pos (keywordEach [] X.env))) := by rfl) : DE X (.Call (.Attribute (.Name x p) m apos) (e :: es) [] pos) (mcF i c m n F fs) := by
  obtain ⟨fd, Fn, b⟩ := C.ex
  exact pe_imp (pe_meth (pl := pl) (pe_var (i := i) hN hv hd hcd) C.cls C.mt Fn hr b .nil passL ha hst hpl ht) mc_red
end
end Sc
set_option maxRecDepth 100000
set_option maxHeartbeats 2000000
namespace Sc
open PySem PySem.Spec PyProof.Rows L2
/-! ### objects made -/
section
variable {K : PySem.W.Frag} {B : Bs} {H0 H G' H' : Hp} {σ : L2.St} {ρ : Env} {c : Str} {fs' : Fs} {O : Nat → List Addr} {R' : List Addr} {m : Str → V}
/-- a new instance, lent -/
theorem SD.newOb {x dx : Addr} (S : SD K B H0 H σ ρ) (hx : H x = none) (hdx : H dx = none) (ne : dx ≠ x) : ObIn K (fun f => if f = "" then .ref x else .non) H0 (upd (upd H dx (.own x)) x (.ins (He.ga K c) dx [])) [x, dx] c [] (.ref x) := by
  refine ⟨fun a o e => ?_, fun a o e im => ?_, fun b m => ?_, ⟨x, dx, [], [], rfl, by simp [Ne.symm ne], rfl, upd_same, by rw [upd_ne ne, upd_same], rfl, rfl⟩, rfl⟩
  · have h := S.sub a o e
    rw [upd_ne (ne_of_none h hx), upd_ne (ne_of_none h hdx)]
    exact h
  · by_cases z : a = x
    · rw [z, upd_same] at e; cases e; cases im
    · rw [upd_ne z] at e
      by_cases z2 : a = dx
      · rw [z2, upd_same] at e; cases e; cases im
      · rw [upd_ne z2] at e
        exact S.imm a o e im
  · rcases List.mem_cons.mp m with rfl | m
    · exact S.none_of hx
    · rw [List.mem_singleton.mp m]; exact S.none_of hdx
theorem SD.backOb {x dx : Addr} (S : SD K B H0 H σ ρ) (hx : H x = none) (hdx : H dx = none) (ne : dx ≠ x) (T : ObTo K m H0 (upd (upd H dx (.own x)) x (.ins (He.ga K c) dx [])) [x, dx] c G' H' R' fs' (.ref x)) : SD K B G' H' σ ρ ∧ RS K B G' H' σ ρ (.no c (clrFl fs')) (.ref x) := by
  obtain ⟨O, w⟩ := S.own
  have up : ∀ b o, H b = some o → (upd (upd H dx (.own x)) x (.ins (He.ga K c) dx [])) b = some o ∧ b ∉ [x, dx] := fun b o h => by
    refine ⟨by rw [upd_ne (ne_of_none h hx), upd_ne (ne_of_none h hdx)]; exact h, fun m => ?_⟩
    rcases List.mem_cons.mp m with rfl | m
    · rw [hx] at h; cases h
    · rw [List.mem_singleton.mp m, hdx] at h; cases h
  have keep : ∀ j, ∀ b ∈ O j, ∀ o, H b = some o → H' b = some o ∧ G' b = none := fun j b m o h => T.hid b o (up b o h).1 (w.non j b m) (up b o h).2
  have non : ∀ b ∈ R', H b = none := fun b m => by
    cases h : H b with
    | none => rfl
    | some o =>
      obtain ⟨h1, h2⟩ := up b o h
      rcases (T.new b m).1 with z | z
      · exact (h2 z).elim
      · rw [h1] at z; cases z
  have w' : Own K B G' H' σ ρ O := by
    refine ⟨fun j s h => (w.ok j s h).frame T.grow fun b m o h2 => (keep j b m o h2).1, fun j b m => ?_, w.inj, w.out, w.tmp⟩
    obtain ⟨o, h, _⟩ := w.there m
    exact (keep j b m o h).2
  refine ⟨⟨S.len, S.bir.trans T.grow, T.sub, fun b o h => ?_, T.imm, O, w'⟩, O, R', w', fun b m => ⟨fun j m2 => ?_, ?_, (T.new b m).2⟩, ?_⟩
  · obtain ⟨h1, h2⟩ := S.tmp b o h
    exact T.hid b o (up b o h1).1 h2 (up b o h1).2
  · obtain ⟨o, h, _⟩ := w.there m2
    rw [non b m] at h; cases h
  · cases h : B.t b with
    | none => rfl
    | some o => have := (S.tmp b o h).1; rw [non b m] at this; cases this
  · obtain ⟨a, d2, r, O', t0, t1, t2, t3, t4, t5⟩ := T.ob
    exact ⟨a, d2, r, O', t0, t1, t2, t3, t4, t5.clr⟩
end
structure CalI (P : Program) (w : World) (K : PySem.W.Frag) (mg : Str → Option Value) (base : Heap) (k : Nat) (c : Str) (ps : List Str) (sp : Sp) : Prop where
  ex : ∃ fd, FnOk P w K mg base (L2.CX P w) k (He.ma K (He.ga K c) "__init__") fd ps sp ∧ Binds K fd ps []
  mkr : Mk K (He.ga K c) (He.ma K (He.ga K c) "__init__")
  gl : mg c = some (.ref (He.ga K c))
theorem CalI.mono {P : Program} {w : World} {K : PySem.W.Frag} {mg : Str → Option Value} {base : Heap} {j k : Nat} {c : Str} {ps : List Str} {sp : Sp} (C : CalI P w K mg base j c ps sp) (h : j ≤ k) : CalI P w K mg base k c ps sp :=
  let ⟨fd, F, b⟩ := C.ex
  ⟨⟨fd, F.mono h, b⟩, C.mkr, C.gl⟩
def mkF (c : Str) (n : Nat) (F : OF) (fs : List ED) : ED := fun ρ => (argsF fs ρ).bind fun p => (views p.2 p.1).bind fun ps => if ps.length = n ∧ p.1.all isFr = true then (F [] (ps.map (·.2))).bind fun r => match r.1 with
      | .ret .non => some (.no c (clrFl r.2), p.2)
      | _ => none
    else none
section
variable {X : Cx} {k n : Nat} {x m c p0 : Str} {ps : List Str} {F : OF} {fs : List ED} {e : Expr} {es : List Expr} {p apos pos : Pos}
theorem de_mk (C : CalI X.prog X.w X.K X.mg X.base k c (p0 :: ps) (spO X.K c n F)) (hr : Room (k + 1) X.A) (ha : DA X (e :: es) fs) (hg : Gl X c := by rfl) (hdb : (c == ("__debug__" : Str)) = false := by decide)
    (he : starEach (e :: es) X.env = (false, eval e X.env) :: starEach es X.env := by rfl) (hpl : (backTo pos (starEach es X.env)).any (·.1) = false := by rfl) : DE X (.Call (.Name c p) (e :: es) [] pos) (mkF c n F fs) := by
  obtain ⟨fd, Fn, b⟩ := C.ex
  refine pe_imp (pe_make C.mkr Fn hr hg C.gl b .nil passL ha hdb he hpl) fun σ H Q ⟨B, H0, ρ, r, ρ', S, e, k⟩ => ?_
  obtain ⟨⟨rs, ρ1⟩, e1, e⟩ := ob e
  obtain ⟨ps2, e2, e⟩ := ob e
  replace e : (if ps2.length = n ∧ rs.all isFr = true then (F [] (ps2.map (·.2))).bind fun r => match r.1 with
      | .ret .non => some (Res.no c (clrFl r.2), ρ1)
      | _ => none
    else none) = some (r, ρ') := e
  split at e
  · rename_i z
    obtain ⟨⟨rr, fs'⟩, e4, e5⟩ := ob e
    cases rr with
    | exc y => cases e5
    | ret d0 =>
      cases d0 <;> cases e5
      refine ⟨B, H0, ρ, rs, _, S, e1, fun vs H1 Ha s1 S1 R1 => fun xa dx hx hdx ne => ?_⟩
      refine ⟨_, H1, [xa, dx], [], _, .ret .non, fs', _, vs, by rw [List.append_nil], S1.newOb hx hdx ne, rs_fr R1 e2 z.2, by rw [List.length_map]; exact z.1, e4, fun u G' H' R' T Ru => ?_⟩
      obtain ⟨S2, R2⟩ := S1.backOb hx hdx ne T
      exact ⟨Ru, k _ G' H' (s1.trans T.grow) S2 R2⟩
  · cases e
end
/-! ### a def that returns a new object -/
def flsN (fs : Fs) : Bool := fs.all fun p => match p.2.2 with
  | .v d => noL d
  | .l ds => noLs ds
  | .t kvs => kvs.all fun kv => noL kv.1 && noL kv.2
abbrev NRF := List D → Option Fs
def spN (K : PySem.W.Frag) (c : Str) (n : Nat) (F : NRF) : Sp := fun vs H Q _ => ∃ ds fs, Rps K none H ds vs ∧ ds.length = n ∧ F ds = some fs ∧ ∀ v R m G' H', Same H G' → Same G' H' → (∀ a o, H' a = some o → Imm o = true → G' a = some o) → (∀ b ∈ R, G' b = none) → ObOk K m G' H' R c fs (some v) → Q v H'
def runN (c : Str) (n : Nat) (fe : ED) : NRF := fun ds => match fe (envOf n ds) with
  | some (.no c' fs, _) => if c' = c then some fs else none
  | _ => none
section
variable {P : Program} {w : World} {K : PySem.W.Frag} {mg : Str → Option Value} {base : Heap} {x qual : Str} {params : Arguments} {body : List Stmt} {scope : Scope} {f : Addr} {fd : FuncData} {N ps : List Str} {k : Nat} {fe : ED} {c : Str}
/-- the body hands back what fe tells -/
theorem fn_N (F : FunD K x qual params body scope [] [] f fd) (S : FnScope N ps scope)
    (hb : ∀ (cdv : Value) (A : Around) (outer : List PySem.Env) (s : Shared) (H : Hp) (E : XK), Room k (A.deeper (envOfC qual scope s.heap.objs.size f cdv)) →
      PSs (cxOf (L2.CX P w) P w K mg base N qual scope f cdv A outer s H E) body (tRet (tDE K fe))) : FnOk P w K mg base (L2.CX P w) (k + 1) f fd ps (spN K c ps.length (runN c N.length fe)) := by
  refine F.ok S (fun vs H Q E ⟨ds, r, h1, h2, _⟩ => by rw [h1.length, h2]) fun cdv A outer s H vs Q E hr ⟨ds, fs, h1, h2, h3, h4⟩ => ⟨_, hb cdv A outer s H E hr, ?_⟩
  unfold runN at h3
  split at h3
  · rename_i c' fs' ρ' e1
    split at h3
    · rename_i zc
      cases h3
      subst zc
      refine ⟨⟨H, fun _ => none, fun _ => .non⟩, H, envOf N.length ds, _, _, sd_start h1 (by rw [h2]; exact fs_le S), e1, fun v H0' H' s' S' R => ?_⟩
      obtain ⟨O, Rr, w, hR, ho⟩ := R
      exact h4 v Rr _ H0' H' s' S'.sub S'.imm (fun b m => (hR b m).2.2) ho
    · cases h3
  · cases h3
theorem pss_ret1 {X : Cx} {e : Expr} {te : TE} {p3 : Pos} (h : PE X e te) : PSs X [.Return (some e) p3] (tRet te) := pss_one (ps_ret h)
theorem pss_docret {X : Cx} {e : Expr} {te : TE} {t : Str} {j : Nat} {p1 p2 p3 : Pos} (h : PE X e te) : PSs X [.Expr (.Constant (.str t) j p1) p2, .Return (some e) p3] (tRet te) := pss_imp (pss_cons ps_doc (pss_one (ps_ret h))) fun Dn σ H q => q
end
section
variable {K : PySem.W.Frag} {B : Bs} {H0 H H' : Hp} {σ : L2.St} {ρ : Env} {c : Str} {fs : Fs}
/-- the heap grew; new cells that are not frozen -/
theorem SD.growButs (S : SD K B H0 H σ ρ) (e : Same H H') (R : List Addr) (n : ∀ b ∈ R, H b = none) (ni : ∀ b ∈ R, ∀ o, H' b = some o → Imm o = false) :
    ∃ H1, Same H0 H1 ∧ SD K B H1 H' σ ρ ∧ (∀ b ∈ R, H1 b = none) ∧ (∃ O, Own K B H1 H' σ ρ O ∧ ∀ b ∈ R, ∀ i, b ∉ O i) ∧ ∀ b ∈ R, B.t b = none := by
  have n0 : ∀ b ∈ R, H0 b = none := fun b m => S.none_of (n b m)
  have S' := S.grow e
  have nt : ∀ b ∈ R, B.t b = none := fun b m => by
    cases q : B.t b with
    | none => rfl
    | some o => have := n b m; rw [(S.tmp b o q).1] at this; cases this
  have s1 : Same H0 (fun b => if b ∈ R then none else fzn H0 H H' b) := fun b o q => by
    show (if b ∈ R then none else fzn H0 H H' b) = some o
    rw [if_neg (fun z => by rw [n0 b z] at q; cases q)]
    exact fzn_old q
  obtain ⟨O, w⟩ := S.own
  have na : ∀ b ∈ R, ∀ i, b ∉ O i := fun b mb i m => by
    obtain ⟨o, q, _⟩ := w.there m
    rw [n b mb] at q; cases q
  have w' : Own K B (fun b => if b ∈ R then none else fzn H0 H H' b) H' σ ρ O := ⟨fun i s q => (w.ok i s q).frame s1 fun b _ o q => e b o q, fun i b m => by
    show (if b ∈ R then none else fzn H0 H H' b) = none
    obtain ⟨o, q, _⟩ := w.there m
    split
    · rfl
    · exact fzn_own (w.non i b m) q, w.inj, w.out, w.tmp⟩
  refine ⟨_, s1, ⟨S.len, S.bir.trans s1, fun b o q => ?_, fun b o q => ⟨(S'.tmp b o q).1, ?_⟩, fun b o q i => ?_, O, w'⟩, fun b m => if_pos m, ⟨O, w', na⟩, nt⟩
  · have q' : (if b ∈ R then none else fzn H0 H H' b) = some o := q
    split at q'
    · cases q'
    · exact S'.sub b o q'
  · show (if b ∈ R then none else fzn H0 H H' b) = none
    split
    · rfl
    · exact (S'.tmp b o q).2
  · show (if b ∈ R then none else fzn H0 H H' b) = some o
    rw [if_neg (fun z => by rw [ni b z o q] at i; cases i)]
    exact S'.imm b o q i
theorem Tvs.flat {b b' : Option Hp} (ht : ∀ a xs, SqT K H a xs → SqT K H' a xs) : ∀ {kvs : List (D × D)} {l : List (NestedKey × Addr × V)}, (kvs.all fun kv => noL kv.1 && noL kv.2) = true → Tvs K b H kvs l → Tvs K b' H' kvs l
  | [], _, _, h => h
  | p :: ps, _, n, h => by
    obtain ⟨k, c, v, r, e1, e2, e3, e4, e5, e6⟩ := h
    rw [List.all_cons, Bool.and_eq_true, Bool.and_eq_true] at n
    exact ⟨k, c, v, r, e1, e2, e3, Rp.flat ht n.1.1 e4, Rp.flat ht n.1.2 e5, Tvs.flat ht n.2 e6⟩
theorem FlsOk.flat {m : Str → V} {G : Hp} (ht : ∀ a xs, SqT K G a xs → SqT K H0 a xs) : ∀ {fs : Fs} {O : List Addr} {r : List (Str × V)}, flsN fs = true → FlsOk K m G H O fs r → FlsOk K m H0 H O fs r
  | [], _, _, _, h => h
  | (f, b, x) :: fs, _, _, n, h => by
    obtain ⟨O1, O2, u, r', rfl, rfl, hm, h1, h2⟩ := h
    rw [flsN, List.all_cons, Bool.and_eq_true] at n
    refine ⟨O1, O2, u, r', rfl, rfl, hm, ?_, FlsOk.flat ht n.2 h2⟩
    have n1 := n.1
    cases x with
    | v d => exact ⟨h1.1, Rp.flat ht n1 h1.2⟩
    | l ds => obtain ⟨a, vs, e0, e1, e2, e3⟩ := h1; exact ⟨a, vs, e0, e1, e2, Rps.flat ht n1 e3⟩
    | t kvs =>
      obtain ⟨a, o, e0, e1, e2, e3⟩ := h1
      refine ⟨a, o, e0, e1, e2, ?_⟩
      rcases e3 with e3 | ⟨l, t1, t2, t3⟩
      · exact .inl e3
      · exact .inr ⟨l, t1, Tvs.flat ht n1 t2, t3⟩
end
def cnF (c : Str) (n : Nat) (F : NRF) (fs : List ED) : ED := fun ρ => (argsF fs ρ).bind fun p => (views p.2 p.1).bind fun ps => if ps.length = n then (F (ps.map (·.2))).bind fun r => if flsN r then some (.no c (clrFl r), p.2) else none else none
theorem cn_red {K : PySem.W.Frag} {c : Str} {n : Nat} {F : NRF} {fs : List ED} {E : XK} : ∀ σ H Q, tDE K (cnF c n F fs) σ H Q → tCall (spN K c n F) [] E (tDA K fs) σ H Q := by
  rintro σ H Q ⟨B, H0, ρ, r, ρ', S, e, k⟩
  obtain ⟨⟨rs, ρ1⟩, e1, e⟩ := ob e
  obtain ⟨ps, e2, e⟩ := ob e
  replace e : (if ps.length = n then (F (ps.map (·.2))).bind fun r => if flsN r then some (Res.no c (clrFl r), ρ1) else none else none) = some (r, ρ') := e
  split at e
  · rename_i hn
    obtain ⟨fs', e3, e⟩ := ob e
    replace e : (if flsN fs' then some (Res.no c (clrFl fs'), ρ1) else none) = some (r, ρ') := e
    split at e
    · rename_i zn
      cases e
      refine ⟨B, H0, ρ, rs, _, S, e1, fun vs H1 Ha s1 S1 R1 => ?_⟩
      show spN K c n F (vs ++ []) Ha Q E
      rw [List.append_nil]
      refine ⟨_, fs', (RSs.views S1 R1 e2).rps S1.sub, by rw [List.length_map]; exact hn, e3, fun v R m G' H' g1 g2 im nR o => ?_⟩
      have sH := g1.trans g2
      have hn : ∀ b ∈ R, Ha b = none := fun b mb => by
        cases q : Ha b with
        | none => rfl
        | some u => have := nR b mb; rw [g1 b u q] at this; cases this
      obtain ⟨H2, s2, S2, n2, ⟨O, w, na⟩, nt⟩ := S1.growButs sH R hn fun b mb u q => by
        obtain ⟨u', q', i'⟩ := o.there b mb
        rw [q] at q'; cases q'; exact i'
      refine k v H2 H' (s1.trans s2) S2 ⟨O, R, w, fun b mb => ⟨na b mb, nt b mb, n2 b mb⟩, ?_⟩
      obtain ⟨a, d2, r, O', t0, t1, t2, t3, t4, t5⟩ := o
      exact ⟨a, d2, r, O', t0, t1, t2, t3, t4, (t5.flat (fun a xs h => S2.tupF (sqT_mono g2 h)) zn).clr⟩
    · cases e
  · cases e
/-- f(..).f -/
def nfF (c f : Str) (g : ED) : ED := fun ρ => (g ρ).bind fun p => match p.1 with
  | .no c' fs => if c' = c then match lookFl f fs with
    | some (_, .v d) => some (.ar d, p.2)
    | some (_, .l ds) => if noLs ds then some (.nw ds, p.2) else none
    | _ => none else none
  | _ => none
section
variable {X : Cx} {k n : Nat} {x c : Str} {ps : List Str} {F : NRF} {fs : List ED} {e : Expr} {es : List Expr} {p pos : Pos} {g : ED}
theorem de_calln (C : Cal X.prog X.w X.K X.mg X.base k x ps (spN X.K c n F)) (hr : Room k X.A) (ha : DA X (e :: es) fs) (hg : Gl X x := by rfl) (hdb : (x == ("__debug__" : Str)) = false := by decide)
    (he : starEach (e :: es) X.env = (false, eval e X.env) :: starEach es X.env := by rfl) (hpl : (backTo pos (starEach es X.env)).any (·.1) = false := by rfl) : DE X (.Call (.Name x p) (e :: es) [] pos) (cnF c n F fs) := by
  obtain ⟨fd, Fn, b⟩ := C.ex
  exact pe_imp (pe_call Fn hr hg C.gl C.kp b .nil passL ha hdb he hpl) cn_red
theorem de_nf {f : Str} (Cl : Cls X.K (He.ga X.K c)) (n : NoAttr X.K (He.ga X.K c) f) (he : DE X e g) (hb : attributeBase e f X.env (eval e X.env) = eval e X.env := by rfl) : DE X (.Attribute e f pos) (nfF c f g) := by
  refine pe_imp (pe_fld he hb) fun σ H Q ⟨B, H0, ρ, r, ρ', S, e, k⟩ => ?_
  obtain ⟨⟨r1, ρ1⟩, e1, e2⟩ := ob e
  refine ⟨B, H0, ρ, r1, ρ1, S, e1, fun v H1 Ha s1 S1 R1 => ?_⟩
  cases r1 with
  | no c' fs =>
    replace e2 : (if c' = c then match lookFl f fs with
      | some (_, .v d) => some (Res.ar d, ρ1)
      | some (_, .l ds) => if noLs ds then some (Res.nw ds, ρ1) else none
      | _ => none else none) = some (r, ρ') := e2
    split at e2
    · rename_i zc
      subst zc
      obtain ⟨O, R, w, hR, ho⟩ := R1
      obtain ⟨a, d2, r2, O', rfl, t1, t2, t3, t4, t5⟩ := ho
      have t2' : v = V.ref a := Option.some.inj t2
      split at e2
      · rename_i b d q
        cases e2
        obtain ⟨u, O1, q1, _, q3, _⟩ := t5.get q
        exact ⟨a, _, d2, r2, u, t2', t3, Cl, n, q1, k u H1 Ha s1 S1 q3.2⟩
      · rename_i b ds q
        split at e2
        · rename_i z
          cases e2
          obtain ⟨u, O1, q1, _, ⟨pa, vs, o1, o2, o3, o4⟩, q4⟩ := t5.get q
          have mp : pa ∈ a :: d2 :: O' := by have := q4 pa (by rw [o1]; simp); simp [this]
          refine ⟨a, _, d2, r2, u, t2', t3, Cl, n, q1, k u H1 Ha s1 S1 ⟨O, pa, vs, w, (hR pa mp).1, (hR pa mp).2.1, o2, (hR pa mp).2.2, o3, Rps.flat (fun _ _ t => t) z o4⟩⟩
        · cases e2
      · cases e2
    · cases e2
  | _ => cases e2
end
/-! ### {k: v}, k a tuple -/
section
variable {prog : Program} {w : World} {A : Around} {E : Value → Shared → Prop} {s : Shared} {env : PySem.Env}
theorem dict_pairsH {α : Type} [DecidableEq α] {knd : HeapKind prog w α} {keys : List (Option Expr)} {values : List Expr} {pos : Pos} {Q : Value → Shared → Prop} (hu : knd.room A)
    (hall : keys.all (·.isSome) = true) (hl : keys.length = values.length) (h0 : keys ≠ []) (hlen : keys.length ≤ 15)
    (h : wpAny (model prog w) A (evalPairs (pairTrees keys values env pos)) (fun vs s₁ => ∃ ps, CarriesH knd s₁.heap vs ps ∧ s₁.heap.DictOfH knd s.heap.objs.size [] ∧
      ∀ h' tk, h'.DictOfH knd s.heap.objs.size (storedAllH [] ps) → Heap.SameBut s.heap.objs.size s₁.heap h' → Q (.ref s.heap.objs.size) { s₁ with heap := h', toks := tk }) E
      { s with heap := s.heap.push { cls := .type "dict", data := .dict #[] } }) :
    wpAny (model prog w) A (eval (.Dict keys values pos) env) Q E s := by
  have hn := pairTrees_length keys values env pos hall hl
  rw [arm_eval_Dict, zip_pairTrees keys values env pos hall hl, dictDisplay_pairs (pairTrees keys values env pos) (fun he => by rw [he] at hn; exact h0 (List.length_eq_zero_iff.mp hn.symm)) (by omega)]
  exact wpAny_bind (wpAny_standAt (wpAny_bind (wpAny_subDictH (knd := knd) (Q := fun d s' => wpAny (model prog w) A (pure (Value.ref d)) Q E s') hu (by rw [hn]; exact hlen)
    (wpAny_mono h (fun vs s₁ h₁ => by obtain ⟨ps, hc, hm, hq⟩ := h₁; exact ⟨ps, hc, hm, fun h' tk a b => wpAny_pure (hq h' tk a b)⟩) fun _ _ e => e))))
end
def tTDisp (K : PySem.W.Frag) (tk tv : TE) : TE := fun σ H Q => ∀ p, H p = none → tk σ (upd H p (.dK [])) fun y H1 => tv σ H1 fun z H2 => H2 p = some (.dK []) ∧ ∃ d k b H0 e, Same H0 H2 ∧ nkD d = some k ∧ isTK d = true ∧ k.depth ≤ 8 ∧ Rp K none H0 d y ∧ Rp K b H0 e z ∧
  ∀ l, Tvs K b H0 [(d, e)] l → (l.map (·.1)).Nodup → Q (.ref p) (upd H2 p (tdH p l))
theorem pe_tdisp {X : Cx} {kx vx : Expr} {pos : Pos} {tk tv : TE} (hu : X.A.units + 16 < cLine) (hk : PE X kx tk) (hv : PE X vx tv) : PE X (.Dict [some kx] [vx] pos) (tTDisp X.K tk tv) := by
  refine ⟨fun pins s σ H Q I q => ?_⟩
  have hn := I.hok.fresh (Nat.le_refl s.heap.objs.size)
  have I1 := I.laid (a := s.heap.objs.size) (o := .dK []) (h' := s.heap.push { cls := .type "dict", data := .dict #[] }) (t' := s.toks) (fun _ _ q => Heap.get?_push_of_some _ q) (Nat.le_refl _) (dk_empty s.heap I.big)
  refine dict_pairsH (knd := nestedKind X.prog X.w) (by show X.A.units + 8 < cLine; omega) rfl rfl (by simp) (by simp) (pairTrees_cons_walk (thn (hk.run pins _ σ _ _ I1 (q _ hn)) fun u s1 ⟨y, H1, I1', ry, q1⟩ => thn (hv.run pins s1 σ H1 _ I1' q1) fun u2 s2 ⟨z, H2, I2, rz, e, d, k, b, H0, ee, s0, nk, tk', dp, rk, rv, q2⟩ => pairTrees_nil_walk ?_))
  obtain ⟨c, rfl, rfl⟩ := key_ref nk tk' rk ry
  obtain ⟨xs, hs, dd, l, us, tv', vl, rfl⟩ := td_at (b := b) (kvs := []) I2 s0 e (.inl ⟨rfl, rfl⟩)
  cases (show l = [] from tv')
  cases vl
  have kis : NestedIs s2.heap k (.ref c) := nk_is I2 nk (rk.mono s0) rfl
  refine ⟨[(k, c, u2)], ⟨rfl, rfl, ⟨kis, dp⟩, trivial⟩, dd, fun h' t' dd' hs' => ?_⟩
  obtain ⟨q', es, ep, hq, h2, h3, h4, h5, nd⟩ := dd'
  refine ⟨.ref s.heap.objs.size, _, d_write I2 (by rw [e]; exact True.intro) hs' ⟨q', hq⟩ ?_, rfl, q2 [(k, c, z)] ⟨k, c, z, [], rfl, nk, dp, rk, rv, rfl⟩ (by simp)⟩
  refine ⟨⟨hs, q', es, ep, [u2], hq, h2, h3, .cons rz .nil, fun w => ?_⟩, ⟨q', hq⟩, fun h1 h2 zz kk => ?_⟩
  · rw [h4]
    show [(⟨k.hash X.w, .ref c, u2⟩ : DictEntry)] = [⟨k.hash w, .ref c, u2⟩]
    rw [nk_hash X.w w nk]
  · obtain ⟨z1, o, es, ep, us, z2, z3⟩ := zz
    exact ⟨z1, o, es, ep, us, kk _ z2, z3⟩
def tdpF (f g : ED) : ED := fun ρ => (itF f ρ).bind fun k => (itF g k.2).bind fun v => if okTK k.1.2 ∧ v.1.1 = true then some (.nt [(k.1.2, v.1.2)], v.2) else none
section
variable {X : Cx} {kx vx : Expr} {pos : Pos} {f g : ED}
theorem de_tdisp (hu : X.A.units + 16 < cLine) (hk : DE X kx f) (hv : DE X vx g) : DE X (.Dict [some kx] [vx] pos) (tdpF f g) := by
  refine pe_imp (pe_tdisp hu hk hv) fun σ H Q ⟨B, H0, ρ, r, ρ', S, e, k⟩ => ?_
  obtain ⟨⟨⟨fr, d⟩, ρ1⟩, e1, e⟩ := ob e
  obtain ⟨⟨⟨fr2, d2⟩, ρ2⟩, e2, e⟩ := ob e
  replace e : (if okTK d ∧ fr2 = true then some (Res.nt [(d, d2)], ρ2) else none) = some (r, ρ') := e
  split at e
  · rename_i z
    obtain ⟨z1, rfl⟩ := z
    cases e
    obtain ⟨kk, hk, ht, hd⟩ := okTK_iff z1
    intro q hq
    obtain ⟨S1, O, q', l0, w, na, nt, eq, n0, ha, hkk⟩ := S.newDct hq
    cases eq
    rw [upd_same] at ha
    cases ha
    refine it_red (S1.hideA w na n0 (o := .dK []) upd_same) e1 fun v H1 Ha s1 S2 R2 => ?_
    refine it_red S2 e2 fun v2 H2 Hb s2 S3 R3 => ?_
    refine ⟨(S3.showA nt).2.2.2, d, kk, some B.b, H2, d2, S3.sub, hk, ht, hd, ?_, R3, fun l t1 t2 => ?_⟩
    · have R2' : Rp X.K (bo B fr) H1 d v := R2
      refine Rp.mono s2 ?_
      cases fr with
      | true => exact Rp.weak R2'
      | false => exact R2'
    · obtain ⟨S4, ⟨O2, w2, na2⟩, n02, ha2⟩ := (S3.setA (o' := tdH q l) rfl).showA nt
      exact k _ H2 _ (s1.trans s2) S4 ⟨O2, q, _, w2, na2, nt, rfl, n02, ha2, .inr ⟨l, rfl, t1, t2⟩⟩
  · cases e
end
end Sc
set_option maxRecDepth 100000
set_option maxHeartbeats 2000000
namespace Sc
open PySem PySem.Spec PyProof.Rows L2
/-! ### a comprehension over an own list, which stays own -/
section
variable {K : PySem.W.Frag} {B : Bs} {H0 H0' H H' : Hp} {σ σ' : L2.St} {ρ ρ' : Env} {ds : List D} {j : Nat} {a : Addr} {vs0 : List V}
theorem SD.takeOw (S : SD K B H0 H σ ρ) (e : ρ[j]? = some (.ow ds)) : ∃ a vs, σ[j]? = some (some (.ref a)) ∧ H a = some (.lst vs) ∧ Rps K (some B.b) H0 ds vs ∧ B.t a = none ∧ H0 a = none ∧ SD K (B.put a (.lst vs)) H0 H σ (ρ.set j .emp) := by
  obtain ⟨O, w⟩ := S.own
  obtain ⟨a, vs, e0, e1, e2, e3⟩ := w.ok j _ e
  have hi := (List.getElem?_eq_some_iff.mp e).1
  have ma : a ∈ O j := by rw [e0]; exact List.mem_singleton_self a
  have S' : SD K B H0 H σ (ρ.set j .emp) := S.slotV w hi (s := .emp) (Oi := []) rfl (fun _ m => (nomatch m)) (fun _ m => (nomatch m)) (fun _ m => (nomatch m))
  have w' : Own K B H0 H σ (ρ.set j .emp) (fun i => if i = j then [] else O i) := by
    refine ⟨fun i s q => ?_, fun i b m => ?_, fun i k b m1 m2 => ?_, fun i hi => ?_, fun i b m => ?_⟩
    · by_cases z : i = j
      · subst z
        rw [List.getElem?_set_self hi] at q
        cases q
        rw [if_pos rfl]
        rfl
      · rw [List.getElem?_set_ne (Ne.symm z)] at q
        rw [if_neg z]
        exact w.ok i s q
    · split at m
      · cases m
      · exact w.non i b m
    · split at m1
      · cases m1
      · split at m2
        · cases m2
        · exact w.inj i k b m1 m2
    · rw [List.length_set] at hi
      split
      · rfl
      · exact w.out i hi
    · split at m
      · cases m
      · exact w.tmp i b m
  refine ⟨a, vs, join_some e1, e2, e3, w.tmp j a ma, w.non j a ma, S'.hideA w' (fun i m => ?_) (w.non j a ma) e2⟩
  split at m
  · cases m
  · rename_i z
    exact z (w.inj i j a m ma)
theorem SD.giveOw (S : SD K (B.put a (.lst vs0)) H0 H σ ρ) (nt : B.t a = none) (e : ρ[j]? = some .emp) (ev : σ[j]? = some (some (.ref a))) (hr : Rps K (some B.b) H0 ds vs0) : SD K B H0 H σ (ρ.set j (.ow ds)) := by
  obtain ⟨S', ⟨O, w, na⟩, n0, ha⟩ := S.showA nt
  have hi := (List.getElem?_eq_some_iff.mp e).1
  refine S'.slotV w hi (s := .ow ds) (Oi := [a]) ⟨a, vs0, rfl, by rw [ev]; rfl, ha, hr⟩ (fun b m => ?_) (fun b m k _ => ?_) (fun b m => ?_)
  · rw [List.mem_singleton.mp m]; exact n0
  · rw [List.mem_singleton.mp m]; exact na k
  · rw [List.mem_singleton.mp m]; exact nt
theorem put_comm {b : Addr} {o u : HO} (ne : a ≠ b) : (B.put a o).put b u = (B.put b u).put a o := by
  unfold Bs.put
  congr 1
  funext x
  show upd (upd B.t a o) b u x = upd (upd B.t b u) a o x
  by_cases z1 : x = a
  · subst z1
    rw [upd_ne ne, upd_same, upd_same]
  · rw [upd_ne z1]
    by_cases z2 : x = b
    · subst z2; rw [upd_same, upd_same]
    · rw [upd_ne z2, upd_ne z2, upd_ne z1]
end
def isEmp : Option Sc.Slot → Bool
  | some .emp => true
  | _ => false
theorem isEmp_iff {s : Option Sc.Slot} (h : isEmp s = true) : s = some .emp := by
  cases s with
  | none => cases h
  | some s => cases s <;> first | rfl | cases h
def lcoF (j : Nat) (g : GD) (t : TD) (f : ED) (vs : List Nat) : ED := fun ρ => match ρ[j]? with
  | some (.ow ds) => if vs.contains j = false ∧ vs.all (fun v => isLight ρ[v]?) = true then (lcL g t f vs (ds.map fun d => (true, d)) (wipeE (ρ.set j .emp) vs)).bind fun r => if r.1.length ≤ LIM ∧ isEmp (restE (ρ.set j .emp) r.2 vs)[j]? = true then some (.nw r.1, (restE (ρ.set j .emp) r.2 vs).set j (.ow ds)) else none else none
  | _ => none
theorem lco_red {K : PySem.W.Frag} {j : Nat} {g : GD} {t : TD} {f : ED} {vs : List Nat} : ∀ σ H Q, tDE K (lcoF j g t f vs) σ H Q → tLc (iSeq K (tVar j)) (tDG K g) (tDT K t) (tDE K f) vs σ H Q := by
  rintro σ H Q ⟨B0, H0, ρ, res, ρ', S0, e, k⟩
  unfold lcoF at e
  split at e
  rotate_left
  · cases e
  rename_i its hj
  split at e
  rotate_left
  · cases e
  rename_i hc
  obtain ⟨hjv, hemp0⟩ := hc
  obtain ⟨⟨tot, ρf⟩, e2, e3⟩ := ob e
  replace e3 : (if tot.length ≤ LIM ∧ isEmp (restE (ρ.set j .emp) ρf vs)[j]? = true then some (Res.nw tot, (restE (ρ.set j .emp) ρf vs).set j (.ow its)) else none) = some (res, ρ') := e3
  split at e3
  rotate_left
  · cases e3
  rename_i hlim'
  obtain ⟨hlim, hje⟩ := hlim'
  replace hje := isEmp_iff hje
  cases e3
  have hjn : j ∉ vs := fun m => by rw [List.contains_iff_mem.mpr m] at hjv; cases hjv
  have hemp : vs.all (fun v => isLight (ρ.set j .emp)[v]?) = true := by
    rw [List.all_eq_true] at hemp0 ⊢
    intro v m
    rw [List.getElem?_set_ne (fun z => hjn (by rw [z]; exact m))]
    exact hemp0 v m
  have emps : ∀ {ρ5 : Env}, ∀ v ∈ vs, ∀ s : Sc.Slot, (wipeE ρ5 vs)[v]? = some s → s = .emp := fun {ρ5} v m s q => by
    rw [wipeE_in m (by rw [← wipeE_len (vs := vs)]; exact (List.getElem?_eq_some_iff.mp q).1)] at q
    cases q; rfl
  obtain ⟨la, lv, ev, ela, hits, nta, n0a, S1⟩ := S0.takeOw hj
  generalize hB : B0.put la (.lst lv) = B at S1
  have hBb : B.b = B0.b := by rw [← hB]; rfl
  have hBla : B.t la = some (.lst lv) := by rw [← hB]; exact upd_same
  have hits' := hits
  rw [← hBb] at hits
  generalize hρ1 : ρ.set j .emp = ρ1 at S1 e2 hje hemp
  generalize hps : (its.map fun d => (true, d)) = ps at e2
  have hlen0 : lv.length = ps.length := by rw [hits.length, ← hps, List.length_map]
  have sq : ∀ H, H la = some (.lst lv) → SqL K H la lv := fun H h => .inl (Rd.of h)
  refine ⟨.ref la, ev, la, rfl, .inl ⟨⟨lv, sq H ela⟩, fun Dd hD => ?_⟩⟩
  have neD : la ≠ Dd := fun z => by rw [z, hD] at ela; cases ela
  obtain ⟨H2, s2, S2, R2⟩ := S1.newLst hD (ds := []) (vs := []) rfl
  obtain ⟨O, a', vs', w, na, nt, ea, n0, ha, hr⟩ := R2
  cases ea
  rw [upd_same] at ha
  cases ha
  have S2' := S2.hideA w na n0 (o := .lst []) upd_same
  have there : ∀ {acc : List V} {H3 H' : Hp} {σ' : L2.St} {ρ2 : Env}, SD K (B.put Dd (.lst acc)) H3 H' σ' ρ2 → H' la = some (.lst lv) := fun {acc H3 H' σ' ρ2} S => by
    refine (S.tmp la (.lst lv) ?_).1
    show upd B.t Dd _ la = _
    rw [upd_ne neD]
    exact hBla
  refine ⟨fun i m H => m = ps.length - i ∧ i ≤ ps.length ∧ ∃ H3 ρ2 acc ds rest, Same H2 H3 ∧ SD K (B.put Dd (.lst acc)) H3 H (wipe σ vs) ρ2 ∧ Rps K (some B.b) H3 ds acc ∧ (∀ v ∈ vs, ∀ s : Sc.Slot, ρ2[v]? = some s → s = .emp) ∧ lcL g t f vs (ps.drop i) ρ2 = some (rest, ρf) ∧ ds ++ rest = tot,
    ⟨ps.length, by simp, Nat.zero_le _, H2, wipeE ρ1 vs, [], [], tot, Same.refl _, S2'.wipeE vs, rfl, emps, e2, rfl⟩, ?_⟩
  rintro i m H ⟨rfl, hi, H3, ρ2, acc, ds, rest, s3, S3, hacc, emp2, e4, etot⟩
  by_cases hlt : i < ps.length
  · have ep : ps[i]? = some ps[i] := by simp [hlt]
    have ed : ps.drop i = ps[i] :: ps.drop (i + 1) := List.drop_eq_getElem_cons hlt
    rw [ed] at e4
    obtain ⟨bs, e5, e6⟩ := ob e4
    replace e6 : (if bs.all (fun b => vs.contains b.1) then (setB ρ2 bs).bind fun ρ1 => (t ρ1).bind fun q => if q.1
        then (itF f q.2).bind fun y => if y.1.1 then (lcL g t f vs (ps.drop (i + 1)) (wipeE y.2 vs)).map fun r => (y.1.2 :: r.1, r.2) else none
        else lcL g t f vs (ps.drop (i + 1)) (wipeE q.2 vs) else none) = some (rest, ρf) := e6
    split at e6
    · rename_i hin
      obtain ⟨ρ3, e7, e8⟩ := ob e6
      obtain ⟨⟨c, ρ4⟩, e9, e10⟩ := ob e8
      have hi2 : i < lv.length := by rw [hlen0]; exact hlt
      refine .inr ⟨⟨lv, lv[i], sq H (there S3), List.getElem?_eq_getElem hi2⟩, fun H' => ∃ m', m' < ps.length - i ∧ m' = ps.length - (i + 1) ∧ i + 1 ≤ ps.length ∧ ∃ H3 ρ2 acc ds rest, Same H2 H3 ∧ SD K (B.put Dd (.lst acc)) H3 H' (wipe σ vs) ρ2 ∧ Rps K (some B.b) H3 ds acc ∧ (∀ v ∈ vs, ∀ s : Sc.Slot, ρ2[v]? = some s → s = .emp) ∧ lcL g t f vs (ps.drop (i + 1)) ρ2 = some (rest, ρf) ∧ ds ++ rest = tot,
        fun _ z => z, fun x H' y => ?_⟩
      obtain ⟨rfl, yx⟩ := y
      have ex := yx lv (sq _ (there S3))
      rw [List.getElem?_eq_getElem hi2] at ex
      cases ex
      obtain ⟨H4, s4, S4, R4⟩ : ∃ H4, Same H3 H4 ∧ SD K (B.put Dd (.lst acc)) H4 H' (wipe σ vs) ρ2 ∧ Rp K (bo (B.put Dd (.lst acc)) ps[i].1) H4 ps[i].2 lv[i] := by
        refine ⟨H3, Same.refl _, S3, ?_⟩
        have hi3 : i < its.length := by rw [← hits.length]; exact hi2
        obtain ⟨v, ev2, rv⟩ := hits.get (List.getElem?_eq_getElem hi3)
        rw [List.getElem?_eq_getElem hi2] at ev2
        cases ev2
        have eps : ps[i] = (true, its[i]) := by
          have : ps[i]? = some (true, its[i]) := by rw [← hps, List.getElem?_map, List.getElem?_eq_getElem hi3]; rfl
          rw [ep] at this
          exact Option.some.inj this
        rw [eps]
        exact rv.mono (s2.trans s3)
      refine ⟨B.put Dd (.lst acc), H4, ps[i], bs, S4.sub, R4, e5, fun σ' hbs => ?_⟩
      have hw : wipe σ' vs = wipe (wipe σ vs) vs := hbs.wiped hin
      have hww : wipe (wipe σ vs) vs = wipe σ vs := by
        apply List.ext_getElem?
        intro j
        by_cases z : j ∈ vs
        · by_cases hl : j < σ.length
          · have q1 : j < (wipe (wipe σ vs) vs).length := by rw [wipe_length, wipe_length]; exact hl
            have q2 : j < (wipe σ vs).length := by rw [wipe_length]; exact hl
            have z1 := wipe_in (σ := wipe σ vs) z
            have z2 := wipe_in (σ := σ) z
            rw [List.getElem?_eq_getElem q1] at z1 ⊢
            rw [List.getElem?_eq_getElem q2] at z2 ⊢
            rw [show (wipe (wipe σ vs) vs)[j] = none from z1, show (wipe σ vs)[j] = none from z2]
          · rw [List.getElem?_eq_none (by rw [wipe_length, wipe_length]; omega), List.getElem?_eq_none (by rw [wipe_length]; omega)]
        · rw [wipe_out z]
      rw [hww] at hw
      refine ⟨hw, B.put Dd (.lst acc), H4, ρ3, c, ρ4, S4.setB hbs e7, e9, fun H5 Hb s5 S5 => ?_⟩
      have hlen : acc.length = ds.length := hacc.length
      cases c with
      | true =>
        replace e10 : ((itF f ρ4).bind fun y => if y.1.1 then (lcL g t f vs (ps.drop (i + 1)) (wipeE y.2 vs)).map fun r => (y.1.2 :: r.1, r.2) else none) = some (rest, ρf) := e10
        obtain ⟨⟨⟨fr, d⟩, ρ5⟩, e11, e12⟩ := ob e10
        cases fr with
        | false => cases e12
        | true =>
          obtain ⟨⟨r1, r2⟩, e13, e14⟩ := Option.map_eq_some_iff.mp e12
          cases e14
          refine iteT (it_red S5 e11 fun v H6 Hc s6 S6 R6 => ?_)
          have hS := S6.setA (o' := .lst (acc ++ [v])) rfl
          refine ⟨acc, (S6.showA nt).2.2.2, ?_, _, by omega, rfl, by omega, H6, wipeE ρ5 vs, acc ++ [v], ds ++ [d], r1, ((s3.trans s4).trans s5).trans s6, ?_, ?_, emps, e13, by rw [← etot]; simp⟩
          · refine Nat.lt_of_le_of_lt ?_ lim_le
            rw [hlen]
            have e15 : ds.length + (r1.length + 1) = tot.length := by rw [← etot]; simp
            omega
          · have S7 := hS.wipeE vs
            rw [hw] at S7
            exact S7
          · exact rps_snoc (hacc.mono ((s4.trans s5).trans s6)) R6
      | false =>
        replace e10 : lcL g t f vs (ps.drop (i + 1)) (wipeE ρ4 vs) = some (rest, ρf) := e10
        refine iteF ⟨_, by omega, rfl, by omega, H5, wipeE ρ4 vs, acc, ds, rest, (s3.trans s4).trans s5, ?_, hacc.mono (s4.trans s5), emps, e10, etot⟩
        have S7 := S5.wipeE vs
        rw [hw] at S7
        exact S7
    · cases e6
  · have ei : i = ps.length := by omega
    subst ei
    rw [List.drop_length] at e4
    cases e4
    rw [List.append_nil] at etot
    subst etot
    have S4 := SD.restore (B1 := B.put Dd (.lst acc)) S1 hemp rfl (s2.trans s3) S3
    rw [← hB, put_comm neD] at S4
    have nt0 : B0.t Dd = none := by
      rw [← hB] at nt
      have q : upd B0.t la _ Dd = none := nt
      rw [upd_ne (Ne.symm neD)] at q
      exact q
    have S5 := SD.giveOw (ds := its) S4 (by show upd B0.t Dd _ la = none; rw [upd_ne neD]; exact nta) hje ev (hits'.mono (s2.trans s3))
    obtain ⟨S6, ⟨O6, w6, na6⟩, n6, ha6⟩ := S5.showA nt0
    rw [hBb] at hacc
    subst hρ1
    exact .inl ⟨⟨lv, sq _ (there S3), by omega⟩, k _ H3 H (s2.trans s3) S6 ⟨O6, Dd, acc, w6, na6, nt0, rfl, n6, ha6, hacc⟩⟩
section
variable {X : Cx} {elt tg : Expr} {ifs : List Expr} {scope : Scope} {own : List (Str × Nat)} {pos p : Pos} {x : Str} {g : GD} {t : TD} {f : ED}
theorem de_lco (j : Nat) (hc : X.calm = true) (hN : X.N.Nodup) (ok : BlkOk X.N X.env.scope scope own)
    (hg : ∀ (s : Shared) (H : Hp) (C : Addr) (cl : List (Str × Addr)) (fp : List Addr), DG (X.blk s H scope (compEnvC scope cl C X.env) fp) tg g) (ht : ∀ (s : Shared) (H : Hp) (C : Addr) (cl : List (Str × Addr)) (fp : List Addr), DTs (X.blk s H scope (compEnvC scope cl C X.env) fp) ifs t)
    (he : ∀ (s : Shared) (H : Hp) (C : Addr) (cl : List (Str × Addr)) (fp : List Addr), DE (X.blk s H scope (compEnvC scope cl C X.env) fp) elt f)
    (hj : X.N[j]? = some x := by rfl) (hv : Vis X.env.scope x := by first | exact Or.inl rfl | exact Or.inr (Or.inl rfl) | exact Or.inr (Or.inr rfl)) (hd : (x == ("__debug__" : Str)) = false := by decide)
    (hcd : (x == ("__classdict__" : Str)) = false := by decide) (hs : ∀ y, foldedSetIterable (.Name x p) X.env y = pure y := by intro _; rfl) :
    DE X (.ListComp elt [⟨tg, .Name x p, ifs, 0⟩] scope pos) (lcoF j g t f (own.map (·.2))) := pe_imp (pe_lc hc hN (pi_seq (pe_var (i := j) hj hv hd hcd)) ok hg ht he hs) lco_red
end
end Sc
set_option maxRecDepth 100000
set_option maxHeartbeats 0
namespace Sc
open PySem PySem.Spec PyProof.Rows L2
def c_LETTERS_BY : D := .tup [.int 1, .int 2, .int 4, .int 8]
def c_MOST_PLACES : D := .int 20000
def c_MOST_STATES : D := .int 6
def c_MOST_LINES : D := .int 50000
def c_PLUS : D := .str "plus"
def c_PAIRED : D := .tup [.str "and", .str "or", .str "xor", .str "plus"]
def c_MOST_STANDS : D := .int 2000
noncomputable def fb_is_integer : FS := rtS (tvF (andT (asB (isiF "int" (nmF 0))) (asB (tvF (notT (asB (isiF "bool" (nmF 0))))))))
noncomputable def R_is_integer : RF := runF 1 fb_is_integer
noncomputable def fb_is_within : FS := rtS (tvF (andT (asB (cfF 1 R_is_integer [nmF 0])) (asB (chF (nmF 1) (nmF 0) (nmF 2) (fun i j => decide (i ≤ j)) (fun i j => decide (i ≤ j))))))
noncomputable def R_is_within : RF := runF 3 fb_is_within
noncomputable def fb_need_text_of : FS := seqS (ifS (orT (notT (tstF (isiF "tuple" (nmF 1)))) (tstF (binF (callF [nmF 1] oLen) (kF c_MOST_PLACES) oGt))) (neS) (skF)) (forS (enI (nmF 1)) (gtp [gnm 2, gnm 3]) (ifS (notT (tstF (cfF 3 R_is_within [nmF 3, kF (.int 0), binF (binF (kF c_LETTERS_BY) (nmF 0) oIx) (kF (.int 1)) oSub]))) (neS) (skF)))
noncomputable def R_need_text_of : RF := runF 4 fb_need_text_of
noncomputable def fb_is_text_of : FS := seqS (ifS (orT (notT (tstF (isiF "tuple" (nmF 1)))) (tstF (binF (callF [nmF 1] oLen) (kF c_MOST_PLACES) oGt))) (rtS (kF (.bl false))) (skF)) (rtS (callF [lcF (seqI (nmF 1)) (gnm 2) (ttY) (cfF 3 R_is_within [nmF 2, kF (.int 0), binF (binF (kF c_LETTERS_BY) (nmF 0) oIx) (kF (.int 1)) oSub]) [2]] oAll))
noncomputable def R_is_text_of : RF := runF 3 fb_is_text_of
noncomputable def fb_bit_row : FS := rtS (callF [lcF (seqI (nmF 0)) (gnm 2) (ttY) (binF (binF (nmF 2) (binF (kF c_LETTERS_BY) (nmF 1) oIx) oDiv) (kF (.int 2)) oMod) [2]] oTuple)
noncomputable def R_bit_row : RF := runF 3 fb_bit_row
noncomputable def fb_is_step : FS := seqS (ifS (orT (notT (tstF (isiF "tuple" (nmF 0)))) (tstF (binF (callF [nmF 0] oLen) (kF (.int 2)) (oEq true)))) (rtS (kF (.bl false))) (skF)) (rtS (tvF (andT (asB (cfF 3 R_is_within [binF (nmF 0) (kF (.int 0)) oIx, kF (.int 0), kF (.int 1)])) (asB (cfF 3 R_is_within [binF (nmF 0) (kF (.int 1)) oIx, kF (.int 0), binF (nmF 1) (kF (.int 1)) oSub])))))
noncomputable def R_is_step : RF := runF 2 fb_is_step
noncomputable def fb_need_steps : FS := seqS (setS 3 (binF (nmF 1) (nmF 2) oIx)) (seqS (ifS (orT (notT (tstF (isiF "tuple" (nmF 3)))) (tstF (binF (callF [nmF 3] oLen) (binF (kF c_LETTERS_BY) (nmF 0) oIx) (oEq true)))) (neS) (skF)) (forS (enI (nmF 3)) (gtp [gnm 4, gnm 5]) (ifS (notT (tstF (cfF 2 R_is_step [nmF 5, callF [nmF 1] oLen]))) (neS) (skF))))
noncomputable def R_need_steps : RF := runF 6 fb_need_steps
noncomputable def fb_need_scanner : FS := seqS (ifS (orT (notT (tstF (isiF "tuple" (nmF 0)))) (tstF (binF (callF [nmF 0] oLen) (kF (.int 2)) (oEq true)))) (neS) (skF)) (seqS (asgS (gtp [gnm 1, gnm 2]) (nmF 0)) (seqS (ifS (notT (tstF (cfF 3 R_is_within [nmF 1, kF (.int 1), kF (.int 3)]))) (neS) (skF)) (seqS (ifS (orT (notT (tstF (isiF "tuple" (nmF 2)))) (notT (tstF (chF (kF (.int 1)) (callF [nmF 2] oLen) (kF c_MOST_STATES) (fun i j => decide (i ≤ j)) (fun i j => decide (i ≤ j)))))) (neS) (skF)) (seqS (forS (rng1I (callF [nmF 2] oLen)) (gnm 3) (drS (cfF 3 R_need_steps [nmF 1, nmF 2, nmF 3]))) (rtS (nmF 0))))))
noncomputable def R_need_scanner : RF := runF 4 fb_need_scanner
noncomputable def fb_need_state : FS := ifS (notT (tstF (cfF 3 R_is_within [nmF 1, kF (.int 0), binF (callF [binF (nmF 0) (kF (.int 1)) oIx] oLen) (kF (.int 1)) oSub]))) (neS) (skF)
noncomputable def R_need_state : RF := runF 2 fb_need_state
noncomputable def fb_way_of : FS := seqS (par2 3 4 (lstF []) (nmF 1)) (seqS (forS (seqI (nmF 2)) (gnm 5) (seqS (asgS (gtp [gnm 6, gnm 4]) (binF (binF (nmF 0) (nmF 4) oIx) (nmF 5) oIx)) (drS (appF 3 (nmF 6))))) (rtS (tupF [callF [nmF 3] oTuple, nmF 4])))
noncomputable def R_way_of : RF := runF 7 fb_way_of
noncomputable def fb_need_asked : FS := seqS (drS (cfF 1 R_need_scanner [nmF 0])) (seqS (drS (cfF 2 R_need_state [nmF 0, nmF 1])) (drS (cfF 2 R_need_text_of [binF (nmF 0) (kF (.int 0)) oIx, nmF 2])))
noncomputable def R_need_asked : RF := runF 3 fb_need_asked
noncomputable def fb_end_state : FS := seqS (drS (cfF 1 R_need_scanner [nmF 0])) (seqS (drS (cfF 2 R_need_text_of [binF (nmF 0) (kF (.int 0)) oIx, nmF 1])) (rtS (binF (cfF 3 R_way_of [binF (nmF 0) (kF (.int 1)) oIx, kF (.int 0), nmF 1]) (kF (.int 1)) oIx)))
noncomputable def R_end_state : RF := runF 2 fb_end_state
noncomputable def fb_marks_from : FS := seqS (drS (cfF 3 R_need_asked [nmF 0, nmF 1, nmF 2])) (rtS (binF (cfF 3 R_way_of [binF (nmF 0) (kF (.int 1)) oIx, nmF 1, nmF 2]) (kF (.int 0)) oIx))
noncomputable def R_marks_from : RF := runF 3 fb_marks_from
noncomputable def fb_end_from : FS := seqS (drS (cfF 3 R_need_asked [nmF 0, nmF 1, nmF 2])) (rtS (binF (cfF 3 R_way_of [binF (nmF 0) (kF (.int 1)) oIx, nmF 1, nmF 2]) (kF (.int 1)) oIx))
noncomputable def R_end_from : RF := runF 3 fb_end_from
noncomputable def fb_lot_levels : FS := seqS (setS 2 (lstF [binF (lstF [kF (.int 0)]) (callF [nmF 0] oLen) oTimes])) (whS (tstF (kF (.bl true))) (seqS (par3 3 4 5 (binF (nmF 2) (negF (kF (.int 1))) oIx) (dnewF) (lstF [])) (seqS (forS (seqI (nmF 0)) (gnm 6) (seqS (setS 7 (callF [lcF (seqI (nmF 6)) (gtp [gnm 8, gnm 9]) (ttY) (tupF [nmF 8, binF (nmF 3) (nmF 9) oIx]) [8, 9]] oTuple)) (seqS (ifS (tstF (tnF true 4 (nmF 7))) (tsS 4 (nmF 7) (tlF 4)) (skF)) (drS (appF 5 (tgF 4 (nmF 7))))))) (seqS (ifS (tstF (binF (tlF 4) (binF (kF (.int 1)) (callF [nmF 3] oMax) oPlus) (oEq false))) (rtS (nmF 2)) (skF)) (seqS (drS (appF 2 (nmF 5))) (ifS (tstF (binF (tlF 4) (nmF 1) oGt)) (rtS (nmF 2)) (skF)))))))
noncomputable def R_lot_levels : RF := runF 10 fb_lot_levels
noncomputable def fb_least_table : FS := seqS (par3 2 3 4 (dispF [(binF (nmF 1) (kF (.int 0)) oIx, kF (.int 0))]) (lstF [kF (.int 0)]) (kF (.int 0))) (seqS (whS (tstF (binF (nmF 4) (callF [nmF 3] oLen) oLt)) (seqS (forS (seqI (binF (nmF 0) (binF (nmF 3) (nmF 4) oIx) oIx)) (gtp [gnm 5, gnm 6]) (ifS (tstF (dnF true 2 (binF (nmF 1) (nmF 6) oIx))) (seqS (stS 2 (binF (nmF 1) (nmF 6) oIx) (dlF 2)) (drS (appF 3 (nmF 6)))) (skF))) (augI 4 (fun i j => i + j) (kF (.int 1))))) (rtS (callF [lcF (seqI (nmF 3)) (gnm 7) (ttY) (callF [lcF (seqI (binF (nmF 0) (nmF 7) oIx)) (gtp [gnm 5, gnm 6]) (ttY) (tupF [nmF 5, dgF 2 (binF (nmF 1) (nmF 6) oIx)]) [5, 6]] oTuple) [7]] oTuple)))
noncomputable def R_least_table : RF := runF 8 fb_least_table
noncomputable def fb_is_line : FS := seqS (ifS (orT (notT (tstF (isiF "tuple" (nmF 1)))) (orT (tstF (binF (callF [nmF 1] oLen) (kF (.int 0)) (oEq false))) (notT (tstF (isiF "str" (binF (nmF 1) (kF (.int 0)) oIx)))))) (rtS (kF (.bl false))) (skF)) (seqS (par2 3 4 (binF (nmF 1) (kF (.int 0)) oIx) (slF (nmF 1) (soP (kF (.int 1))) (noP))) (seqS (ifS (tstF (binF (nmF 3) (tupF [kF (.str "zero"), kF (.str "one")]) (oIn false))) (rtS (binF (callF [nmF 4] oLen) (kF (.int 0)) (oEq false))) (skF)) (seqS (ifS (tstF (binF (nmF 3) (kF (.str "row")) (oEq false))) (rtS (tvF (andT (asB (binF (callF [nmF 4] oLen) (kF (.int 1)) (oEq false))) (asB (cfF 3 R_is_within [binF (nmF 4) (kF (.int 0)) oIx, kF (.int 0), binF (nmF 0) (kF (.int 1)) oSub]))))) (skF)) (seqS (ifS (tstF (binF (nmF 3) (kF (.str "not")) (oEq false))) (rtS (tvF (andT (asB (binF (callF [nmF 4] oLen) (kF (.int 1)) (oEq false))) (asB (cfF 3 R_is_within [binF (nmF 4) (kF (.int 0)) oIx, kF (.int 0), binF (nmF 2) (kF (.int 1)) oSub]))))) (skF)) (rtS (tvF (andT (asB (binF (nmF 3) (kF c_PAIRED) (oIn false))) (asB (tvF (andT (asB (binF (callF [nmF 4] oLen) (kF (.int 2)) (oEq false))) (asB (callF [lcF (seqI (nmF 4)) (gnm 5) (ttY) (cfF 3 R_is_within [nmF 5, kF (.int 0), binF (nmF 2) (kF (.int 1)) oSub]) [5]] oAll))))))))))))
noncomputable def R_is_line : RF := runF 6 fb_is_line
noncomputable def fb_need_program : FS := seqS (ifS (orT (notT (tstF (isiF "tuple" (nmF 0)))) (tstF (binF (callF [nmF 0] oLen) (kF (.int 2)) (oEq true)))) (neS) (skF)) (seqS (asgS (gtp [gnm 1, gnm 2]) (nmF 0)) (seqS (ifS (notT (tstF (cfF 3 R_is_within [nmF 1, kF (.int 1), kF (.int 3)]))) (neS) (skF)) (seqS (ifS (orT (notT (tstF (isiF "tuple" (nmF 2)))) (notT (tstF (chF (kF (.int 1)) (callF [nmF 2] oLen) (kF c_MOST_LINES) (fun i j => decide (i ≤ j)) (fun i j => decide (i ≤ j)))))) (neS) (skF)) (seqS (forS (enI (nmF 2)) (gtp [gnm 3, gnm 4]) (ifS (notT (tstF (cfF 3 R_is_line [nmF 1, nmF 4, nmF 3]))) (neS) (skF))) (rtS (nmF 0))))))
noncomputable def R_need_program : RF := runF 5 fb_need_program
noncomputable def fb_row_number : FS := seqS (setS 1 (kF (.int 0))) (seqS (forS (seqI (rvF (nmF 0))) (gnm 2) (setS 1 (binF (binF (kF (.int 2)) (nmF 1) oTimes) (nmF 2) oPlus))) (rtS (nmF 1)))
noncomputable def R_row_number : RF := runF 3 fb_row_number
noncomputable def fb_number_row : FS := seqS (setS 2 (lstF [])) (seqS (forS (rng1I (nmF 1)) (gnm 3) (seqS (drS (appF 2 (binF (nmF 0) (kF (.int 1)) oAnd))) (setS 0 (binF (nmF 0) (kF (.int 1)) oShr)))) (rtS (callF [nmF 2] oTuple)))
noncomputable def R_number_row : RF := runF 4 fb_number_row
noncomputable def fb_line_number : FS := seqS (setS 4 (binF (nmF 0) (kF (.int 0)) oIx)) (seqS (ifS (tstF (binF (nmF 4) (kF (.str "row")) (oEq false))) (rtS (binF (nmF 2) (binF (nmF 0) (kF (.int 1)) oIx) oIx)) (skF)) (seqS (ifS (tstF (binF (nmF 4) (kF (.str "zero")) (oEq false))) (rtS (kF (.int 0))) (skF)) (seqS (ifS (tstF (binF (nmF 4) (kF (.str "one")) (oEq false))) (rtS (nmF 3)) (skF)) (seqS (setS 5 (binF (nmF 1) (binF (nmF 0) (kF (.int 1)) oIx) oIx)) (seqS (ifS (tstF (binF (nmF 4) (kF (.str "not")) (oEq false))) (rtS (binF (nmF 3) (nmF 5) oXor)) (skF)) (seqS (setS 6 (binF (nmF 1) (binF (nmF 0) (kF (.int 2)) oIx) oIx)) (seqS (ifS (tstF (binF (nmF 4) (kF (.str "and")) (oEq false))) (rtS (binF (nmF 5) (nmF 6) oAnd)) (skF)) (seqS (ifS (tstF (binF (nmF 4) (kF (.str "or")) (oEq false))) (rtS (binF (nmF 5) (nmF 6) oOr)) (skF)) (seqS (ifS (tstF (binF (nmF 4) (kF (.str "xor")) (oEq false))) (rtS (binF (nmF 5) (nmF 6) oXor)) (skF)) (rtS (binF (binF (nmF 5) (nmF 6) oPlus) (nmF 3) oAnd)))))))))))
noncomputable def R_line_number : RF := runF 7 fb_line_number
noncomputable def fb_line_numbers : FS := seqS (setS 2 (lcF (rng1I (binF (nmF 0) (kF (.int 0)) oIx)) (gnm 6) (ttY) (cfF 1 R_row_number [cfF 2 R_bit_row [nmF 1, nmF 6]]) [6])) (seqS (par2 3 4 (cfF 1 R_row_number [binF (tupF [kF (.int 1)]) (callF [nmF 1] oLen) oTimes]) (lstF [])) (seqS (forS (seqI (binF (nmF 0) (kF (.int 1)) oIx)) (gnm 5) (drS (appF 4 (cfF 4 R_line_number [nmF 5, nmF 4, nmF 2, nmF 3])))) (rtS (nmF 4))))
noncomputable def R_line_numbers : RF := runF 7 fb_line_numbers
noncomputable def fb_marks_by : FS := rtS (cfF 2 R_number_row [binF (cfF 2 R_line_numbers [nmF 0, nmF 1]) (negF (kF (.int 1))) oIx, callF [nmF 1] oLen])
noncomputable def R_marks_by : RF := runF 2 fb_marks_by
noncomputable def fb_program_marks : FS := seqS (drS (cfF 1 R_need_program [nmF 0])) (seqS (drS (cfF 2 R_need_text_of [binF (nmF 0) (kF (.int 0)) oIx, nmF 1])) (rtS (cfF 2 R_marks_by [nmF 0, nmF 1])))
noncomputable def R_program_marks : RF := runF 2 fb_program_marks
noncomputable def fb_plus_numbers : FS := rtS (lcF (enI (nmF 0)) (gtp [gnm 1, gnm 2]) (tstF (binF (binF (nmF 2) (kF (.int 0)) oIx) (kF c_PLUS) (oEq false))) (nmF 1) [1, 2])
noncomputable def R_plus_numbers : RF := runF 3 fb_plus_numbers
noncomputable def fb_plus_lines : FS := seqS (drS (cfF 1 R_need_program [nmF 0])) (rtS (callF [cfF 1 R_plus_numbers [binF (nmF 0) (kF (.int 1)) oIx]] oTuple))
noncomputable def R_plus_lines : RF := runF 1 fb_plus_lines
noncomputable def fb_named_lines : FS := rtS (ifF (tstF (binF (binF (nmF 0) (kF (.int 0)) oIx) (kF (.str "row")) (oEq false))) (tupF []) (slF (nmF 0) (soP (kF (.int 1))) (noP)))
noncomputable def R_named_lines : RF := runF 1 fb_named_lines
noncomputable def fb_needed_by : FS := seqS (setS 2 (dispF [(nmF 1, kF (.bl true))])) (seqS (forS (rngdI (nmF 1) (negF (kF (.int 1))) (negF (kF (.int 1)))) (gnm 3) (ifS (tstF (dnF false 2 (nmF 3))) (forS (seqI (cfF 1 R_named_lines [binF (nmF 0) (nmF 3) oIx])) (gnm 4) (stS 2 (nmF 4) (kF (.bl true)))) (skF))) (rtS (dsF 2)))
noncomputable def R_needed_by : RF := runF 5 fb_needed_by
noncomputable def fb_needed_lines : FS := seqS (drS (cfF 1 R_need_program [nmF 0])) (rtS (callF [cfF 2 R_needed_by [binF (nmF 0) (kF (.int 1)) oIx, binF (callF [binF (nmF 0) (kF (.int 1)) oIx] oLen) (kF (.int 1)) oSub]] oTuple))
noncomputable def R_needed_lines : RF := runF 1 fb_needed_lines
noncomputable def fb_plain_bit : FS := seqS (setS 3 (binF (nmF 0) (kF (.int 0)) oIx)) (seqS (ifS (tstF (binF (nmF 3) (kF (.str "row")) (oEq false))) (rtS (binF (binF (nmF 2) (binF (kF c_LETTERS_BY) (binF (nmF 0) (kF (.int 1)) oIx) oIx) oDiv) (kF (.int 2)) oMod)) (skF)) (seqS (ifS (tstF (binF (nmF 3) (tupF [kF (.str "zero"), kF (.str "one")]) (oIn false))) (rtS (ifF (tstF (binF (nmF 3) (kF (.str "zero")) (oEq false))) (kF (.int 0)) (kF (.int 1)))) (skF)) (seqS (ifS (tstF (binF (nmF 3) (kF (.str "not")) (oEq false))) (rtS (binF (kF (.int 1)) (binF (nmF 1) (binF (nmF 0) (kF (.int 1)) oIx) oIx) oSub)) (skF)) (seqS (par2 4 5 (binF (nmF 1) (binF (nmF 0) (kF (.int 1)) oIx) oIx) (binF (nmF 1) (binF (nmF 0) (kF (.int 2)) oIx) oIx)) (seqS (ifS (tstF (binF (nmF 3) (kF (.str "and")) (oEq false))) (rtS (binF (nmF 4) (nmF 5) oTimes)) (skF)) (rtS (ifF (tstF (binF (nmF 3) (kF (.str "or")) (oEq false))) (callF [nmF 4, nmF 5] oMax) (binF (binF (nmF 4) (nmF 5) oPlus) (kF (.int 2)) oMod))))))))
noncomputable def R_plain_bit : RF := runF 6 fb_plain_bit
noncomputable def fb_place_bits : FS := seqS (par2 3 4 (lstF []) (lstF [])) (seqS (forS (seqI (nmF 0)) (gnm 5) (ifS (tstF (binF (binF (nmF 5) (kF (.int 0)) oIx) (kF c_PLUS) (oEq false))) (seqS (setS 6 (binF (binF (binF (nmF 3) (binF (nmF 5) (kF (.int 1)) oIx) oIx) (binF (nmF 3) (binF (nmF 5) (kF (.int 2)) oIx) oIx) oPlus) (binF (nmF 1) (callF [nmF 4] oLen) oIx) oPlus)) (seqS (drS (appF 3 (binF (nmF 6) (kF (.int 2)) oMod))) (drS (appF 4 (binF (nmF 6) (kF (.int 2)) oDiv))))) (drS (appF 3 (cfF 3 R_plain_bit [nmF 5, nmF 3, nmF 2]))))) (rtS (tupF [nmF 3, callF [nmF 4] oTuple])))
noncomputable def R_place_bits : RF := runF 7 fb_place_bits
noncomputable def fb_noughts_of : FS := rtS (binF (tupF [kF (.int 0)]) (callF [cfF 1 R_plus_numbers [nmF 0]] oLen) oTimes)
noncomputable def R_noughts_of : RF := runF 1 fb_noughts_of
noncomputable def fb_walk_marks : FS := seqS (setS 3 (lstF [])) (seqS (forS (seqI (nmF 2)) (gnm 4) (seqS (asgS (gtp [gnm 5, gnm 1]) (cfF 3 R_place_bits [nmF 0, nmF 1, nmF 4])) (drS (appF 3 (binF (nmF 5) (negF (kF (.int 1))) oIx))))) (rtS (tupF [callF [nmF 3] oTuple, nmF 1])))
noncomputable def R_walk_marks : RF := runF 6 fb_walk_marks
noncomputable def fb_is_carries : FS := seqS (ifS (orT (notT (tstF (isiF "tuple" (nmF 1)))) (tstF (binF (callF [nmF 1] oLen) (callF [cfF 1 R_plus_numbers [binF (nmF 0) (kF (.int 1)) oIx]] oLen) (oEq true)))) (rtS (kF (.bl false))) (skF)) (rtS (callF [lcF (seqI (nmF 1)) (gnm 2) (ttY) (cfF 3 R_is_within [nmF 2, kF (.int 0), kF (.int 1)]) [2]] oAll))
noncomputable def R_is_carries : RF := runF 3 fb_is_carries
noncomputable def fb_need_carries : FS := ifS (notT (tstF (cfF 2 R_is_carries [nmF 0, nmF 1]))) (neS) (skF)
noncomputable def R_need_carries : RF := runF 2 fb_need_carries
noncomputable def fb_carried_marks : FS := seqS (drS (cfF 1 R_need_program [nmF 0])) (seqS (drS (cfF 2 R_need_carries [nmF 0, nmF 1])) (seqS (drS (cfF 2 R_need_text_of [binF (nmF 0) (kF (.int 0)) oIx, nmF 2])) (rtS (cfF 3 R_walk_marks [binF (nmF 0) (kF (.int 1)) oIx, nmF 1, nmF 2]))))
noncomputable def R_carried_marks : RF := runF 3 fb_carried_marks
noncomputable def fb_carries_behind : FS := seqS (drS (cfF 1 R_need_program [nmF 0])) (seqS (drS (cfF 2 R_need_text_of [binF (nmF 0) (kF (.int 0)) oIx, nmF 1])) (rtS (binF (cfF 3 R_walk_marks [binF (nmF 0) (kF (.int 1)) oIx, cfF 1 R_noughts_of [binF (nmF 0) (kF (.int 1)) oIx], nmF 1]) (kF (.int 1)) oIx)))
noncomputable def R_carries_behind : RF := runF 2 fb_carries_behind
noncomputable def fb_need_blocks : FS := seqS (ifS (notT (tstF (isiF "tuple" (nmF 1)))) (neS) (skF)) (seqS (forS (enI (nmF 1)) (gtp [gnm 2, gnm 3]) (ifS (notT (tstF (cfF 2 R_is_text_of [nmF 0, nmF 3]))) (neS) (skF))) (ifS (tstF (binF (callF [lcF (seqI (nmF 1)) (gnm 3) (ttY) (callF [nmF 3] oLen) [3]] oSum) (kF c_MOST_PLACES) oGt)) (neS) (skF)))
noncomputable def R_need_blocks : RF := runF 4 fb_need_blocks
noncomputable def fb_carries_ahead : FS := seqS (drS (cfF 1 R_need_program [nmF 0])) (seqS (drS (cfF 2 R_need_blocks [binF (nmF 0) (kF (.int 0)) oIx, nmF 1])) (seqS (setS 2 (lstF [cfF 1 R_noughts_of [binF (nmF 0) (kF (.int 1)) oIx]])) (seqS (forS (seqI (nmF 1)) (gnm 3) (drS (appF 2 (binF (cfF 3 R_walk_marks [binF (nmF 0) (kF (.int 1)) oIx, binF (nmF 2) (negF (kF (.int 1))) oIx, nmF 3]) (kF (.int 1)) oIx)))) (rtS (callF [nmF 2] oTuple)))))
noncomputable def R_carries_ahead : RF := runF 4 fb_carries_ahead
noncomputable def fb_needed_only : FS := seqS (par2 1 2 (dnewF) (lstF [])) (seqS (forS (seqI (cfF 2 R_needed_by [nmF 0, binF (callF [nmF 0] oLen) (kF (.int 1)) oSub])) (gnm 3) (seqS (setS 4 (binF (nmF 0) (nmF 3) oIx)) (seqS (stS 1 (nmF 3) (callF [nmF 2] oLen)) (ifS (tstF (binF (binF (nmF 4) (kF (.int 0)) oIx) (kF (.str "row")) (oEq false))) (drS (appF 2 (nmF 4))) (drS (appF 2 (binF (tupF [binF (nmF 4) (kF (.int 0)) oIx]) (callF [lcF (seqI (slF (nmF 4) (soP (kF (.int 1))) (noP))) (gnm 5) (ttY) (dgF 1 (nmF 5)) [5]] oTuple) oPlus))))))) (rtS (callF [nmF 2] oTuple)))
noncomputable def R_needed_only : RF := runF 6 fb_needed_only
noncomputable def fb_kept_carries : FS := seqS (drS (cfF 1 R_need_program [nmF 0])) (seqS (drS (cfF 2 R_need_text_of [binF (nmF 0) (kF (.int 0)) oIx, nmF 1])) (seqS (setS 2 (cfF 1 R_needed_only [binF (nmF 0) (kF (.int 1)) oIx])) (rtS (binF (cfF 3 R_walk_marks [nmF 2, cfF 1 R_noughts_of [nmF 2], nmF 1]) (kF (.int 1)) oIx))))
noncomputable def R_kept_carries : RF := runF 3 fb_kept_carries
noncomputable def fb_Stands_step_of : FS := seqS (setS 3 (flnF 0 "Stands" "table")) (seqS (asgS (gtp [gnm 4, gnm 5]) (cfF 3 R_place_bits [fvF 0 "Stands" "lines", fixF 0 "Stands" "order" (vnm 3), nmF 1])) (seqS (ifS (tstF (ftnF true 0 "Stands" "numbers" (vnm 5))) (seqS (ifS (tstF (binF (flnF 0 "Stands" "order") (nmF 2) (oEq false))) (neS) (skF)) (seqS (ftsS 0 "Stands" "numbers" (vnm 5) (flnF 0 "Stands" "order")) (seqS (drS (fapF 0 "Stands" "order" (nmF 5))) (drS (fapF 0 "Stands" "texts" (binF (fixF 0 "Stands" "texts" (vnm 3)) (tupF [nmF 1]) oPlus)))))) (skF)) (rtS (tupF [binF (nmF 4) (negF (kF (.int 1))) oIx, ftgF 0 "Stands" "numbers" (vnm 5)]))))
noncomputable def R_Stands_step_of : OF := runO "Stands" 5 fb_Stands_step_of
noncomputable def fb_Stands___init__ : FS := seqS (sfS 0 "Stands" "lines" (binF (nmF 1) (kF (.int 1)) oIx)) (seqS (sfS 0 "Stands" "letters" (binF (kF c_LETTERS_BY) (binF (nmF 1) (kF (.int 0)) oIx) oIx)) (seqS (sfS 0 "Stands" "order" (lstF [cfF 1 R_noughts_of [binF (nmF 1) (kF (.int 1)) oIx]])) (seqS (sfS 0 "Stands" "texts" (lstF [tupF []])) (seqS (sfS 0 "Stands" "numbers" (tdpF (fixF 0 "Stands" "order" (vk (.int 0))) (kF (.int 0)))) (seqS (sfS 0 "Stands" "table" (lstF [])) (whS (tstF (binF (flnF 0 "Stands" "table") (flnF 0 "Stands" "order") oLt)) (drS (fapF 0 "Stands" "table" (callF [lcF (rng1I (fvF 0 "Stands" "letters")) (gnm 3) (ttY) (mcF 0 "Stands" "step_of" 2 R_Stands_step_of [nmF 3, nmF 2]) [3]] oTuple)))))))))
noncomputable def R_Stands___init__ : OF := runO "Stands" 3 fb_Stands___init__
noncomputable def fe_stands_of : ED := mkF "Stands" 2 R_Stands___init__ [nmF 0, kF c_MOST_STANDS]
noncomputable def R_stands_of : NRF := runN "Stands" 1 fe_stands_of
noncomputable def fb_scanner_by_table : FS := seqS (setS 2 (binF (cfF 2 R_lot_levels [nmF 1, kF c_MOST_STATES]) (negF (kF (.int 1))) oIx)) (seqS (ifS (tstF (binF (callF [nmF 2] oMax) (kF c_MOST_STATES) oGe)) (rsS "TooGreat" [kF c_MOST_STATES]) (skF)) (rtS (tupF [nmF 0, cfF 2 R_least_table [nmF 1, nmF 2]])))
noncomputable def R_scanner_by_table : RF := runF 3 fb_scanner_by_table
noncomputable def fb_scanner_of : FS := cxF 2 R_scanner_by_table [binF (cfF 1 R_need_program [nmF 0]) (kF (.int 0)) oIx, nfF "Stands" "table" (cnF "Stands" 1 R_stands_of [nmF 0])] gRet
noncomputable def R_scanner_of : RF := runF 1 fb_scanner_of
noncomputable def fb__law_mixed : FS := seqS (setS 2 (binF (binF (binF (callF [binF (binF (nmF 0) (binF (kF (.int 1)) (binF (kF (.int 2)) (nmF 1) oTimes) oPlus) oTimes) (kF (.int 48271)) oTimes] oInt) (kF (.int 2147483647)) oMod) (binF (binF (kF (.int 7919)) (nmF 1) oTimes) (nmF 1) oTimes) oPlus) (binF (kF (.int 104729)) (nmF 1) oTimes) oPlus)) (rtS (binF (binF (callF [binF (nmF 2) (kF (.int 69621)) oTimes] oInt) (kF (.int 2147483629)) oMod) (kF (.int 7)) oDiv))
noncomputable def R__law_mixed : RF := runF 3 fb__law_mixed
noncomputable def fb__law_folded : FS := seqS (setS 1 (lcF (rng1I (kF (.int 64))) (gnm 2) (ttY) (binF (kF (.int 17)) (nmF 2) oPlus) [2])) (seqS (forS (enI (nmF 0)) (gtp [gnm 2, gnm 3]) (stS 1 (binF (callF [nmF 2] oInt) (kF (.int 64)) oMod) (binF (callF [binF (binF (binF (nmF 1) (binF (callF [nmF 2] oInt) (kF (.int 64)) oMod) oIx) (kF (.int 48271)) oTimes) (nmF 3) oPlus] oInt) (kF (.int 2147483647)) oMod))) (seqS (forS (rng2I (kF (.int 1)) (kF (.int 64))) (gnm 2) (stS 1 (nmF 2) (binF (callF [binF (binF (nmF 1) (nmF 2) oIx) (binF (binF (nmF 1) (binF (nmF 2) (kF (.int 1)) oSub) oIx) (kF (.int 16807)) oTimes) oPlus] oInt) (kF (.int 2147483647)) oMod))) (rtS (nmF 1))))
noncomputable def R__law_folded : RF := runF 4 fb__law_folded
noncomputable def mixR (c n : Int) : Option Int := match R__law_mixed [.int c, .int n] with
  | some (.ret (.int x)) => some x
  | _ => none
noncomputable def drawRest (M : DrawSt) (limit : Int) : Option (D × DrawSt) := (M.cells[(M.spot % 64).toNat]?).bind fun c => (mixR (c + 31 * (M.spot / 64)) M.spot).bind fun x => (mixR x (M.spot + 7)).map fun y => (.int (y % limit), { M with spot := M.spot + 1 })
noncomputable def drawF (M : DrawSt) (limit : Int) : Option (D × DrawSt) :=
  if 0 < limit ∧ limit < 1073741824 ∧ M.cells.length = 64 ∧ 0 ≤ M.spot then
    if M.great = [] then drawRest M limit else (M.great[(M.spot % M.great.length).toNat]?).bind fun c => if 0 < c then some (.int (c % limit), { M with spot := M.spot + 1, great := M.great.set (M.spot % M.great.length).toNat (c / limit) }) else drawRest M limit
  else none
noncomputable def R__law_draw : MF := fun _ M ds => match ds with
  | [.int limit] => drawF M limit
  | _ => none
noncomputable def fc__law_begun : ED := lcF (seqI (nmF 0)) (gnm 2) (ttY) (ifF (tstF (binF (nmF 2) (binF (kF (.int 10)) (kF (.int 18)) oPow) oGe)) (nmF 2) (kF (.int 0))) [2]
noncomputable def greatOf (script : List Int) : List Int := script.map fun c => if 10 ^ 18 ≤ c then c else 0
noncomputable def begunF (script : List Int) : Option DrawSt := match R__law_folded [.lst (script.map D.int)] with
  | some (.ret (.lst ds)) => if script.length ≤ LIM then (intsOf ds).map fun cells => ⟨cells, greatOf script, 0⟩ else none
  | _ => none
noncomputable def ge__law_begun : ED := ifF (tstF (binF (nmF 2) (binF (kF (.int 10)) (kF (.int 18)) oPow) oGe)) (nmF 2) (kF (.int 0))
noncomputable def fb__law_of : FS := rtS (binF (nmF 1) (cmF 0 1 R__law_draw [callF [nmF 1] oLen]) oIx)
noncomputable def R__law_of : MF := runM 1 fb__law_of
noncomputable def fb__law_same (R : RF) : FS := seqS (ifS (tstF (isiF "tuple" (nmF 1))) (seqS (ifS (orT (notT (tstF (isiF "tuple" (nmF 0)))) (tstF (binF (callF [nmF 0] oLen) (callF [nmF 1] oLen) (oEq true)))) (rtS (kF (.bl false))) (skF)) (seqS (forS (zpI (nmF 0) (nmF 1)) (gtp [gnm 2, gnm 3]) (ifS (notT (tstF (cfF 2 R [nmF 2, nmF 3]))) (rtS (kF (.bl false))) (skF))) (rtS (kF (.bl true))))) (skF)) (seqS (ifS (tstF (binF (nmF 1) (kF .non) (oIs false))) (rtS (binF (nmF 0) (kF .non) (oIs false))) (skF)) (seqS (ifS (tstF (isiF "bool" (nmF 1))) (rtS (tvF (andT (asB (isiF "bool" (nmF 0))) (asB (binF (nmF 0) (nmF 1) (oEq false)))))) (skF)) (seqS (ifS (tstF (isiF "str" (nmF 1))) (rtS (tvF (andT (asB (isiF "str" (nmF 0))) (asB (binF (nmF 0) (nmF 1) (oEq false)))))) (skF)) (rtS (tvF (andT (asB (isiF "int" (nmF 0))) (asB (tvF (andT (asB (tvF (notT (asB (isiF "bool" (nmF 0)))))) (asB (binF (nmF 0) (nmF 1) (oEq false))))))))))))
noncomputable def Rn__law_same : Nat → RF
  | 0 => fun _ => none
  | n + 1 => runF 4 (fb__law_same (Rn__law_same n))
noncomputable def R__law_same : RF := Rn__law_same 8
noncomputable def fb__law_text : FS := rtS (callF [lcF (rng1I (cmF 0 1 R__law_draw [binF (nmF 2) (kF (.int 1)) oPlus])) (gnm 3) (ttY) (cmF 0 1 R__law_draw [nmF 1]) [3]] oTuple)
noncomputable def R__law_text : MF := runM 3 fb__law_text
noncomputable def fb__law_line : FS := seqS (ifS (orT (tstF (binF (nmF 2) (kF (.int 0)) (oEq false))) (tstF (binF (cmF 0 1 R__law_draw [kF (.int 12)]) (kF (.int 0)) (oEq false)))) (rtS (cmF 0 1 R__law_of [lstF [tupF [kF (.str "row"), cmF 0 1 R__law_draw [nmF 1]], tupF [kF (.str "one")], tupF [kF (.str "zero")], tupF [kF (.str "row"), kF (.int 0)], tupF [kF (.str "row"), binF (nmF 1) (kF (.int 1)) oSub]]])) (skF)) (seqS (par2 4 5 (cmF 0 1 R__law_draw [nmF 2]) (cmF 0 1 R__law_draw [nmF 2])) (seqS (ifS (tstF (binF (cmF 0 1 R__law_draw [kF (.int 10)]) (nmF 3) oLt)) (rtS (tupF [kF (.str "plus"), nmF 4, nmF 5])) (skF)) (rtS (cmF 0 1 R__law_of [lstF [tupF [kF (.str "not"), nmF 4], tupF [kF (.str "and"), nmF 4, nmF 5], tupF [kF (.str "or"), nmF 4, nmF 5], tupF [kF (.str "xor"), nmF 4, nmF 5]]]))))
noncomputable def R__law_line : MF := runM 5 fb__law_line
noncomputable def fb__law_program : FS := seqS (setS 4 (binF (lcF (rng1I (nmF 1)) (gnm 7) (ttY) (tupF [kF (.str "row"), nmF 7]) [7]) (lstF [tupF [kF (.str "one")]]) oPlus)) (seqS (forS (rng1I (nmF 2)) (gnm 5) (seqS (setS 6 (callF [lcoF 4 (gnm 8) (tstF (binF (binF (nmF 8) (kF (.int 0)) oIx) (kF (.str "plus")) (oEq false))) (kF (.int 1)) [8]] oLen)) (drS (appF 4 (cmF 0 3 R__law_line [nmF 1, callF [nmF 4] oLen, ifF (tstF (binF (nmF 6) (nmF 3) oLt)) (kF (.int 4)) (kF (.int 0))]))))) (rtS (tupF [nmF 1, callF [nmF 4] oTuple])))
noncomputable def R__law_program : MF := runM 8 fb__law_program
noncomputable def fb__law_place : FS := seqS (par2 3 4 (lstF []) (lstF [])) (seqS (forS (seqI (nmF 0)) (gnm 5) (seqS (setS 6 (binF (nmF 5) (kF (.int 0)) oIx)) (ifS (tstF (binF (nmF 6) (kF (.str "row")) (oEq false))) (drS (appF 3 (binF (binF (nmF 2) (binF (tupF [kF (.int 1), kF (.int 2), kF (.int 4)]) (binF (nmF 5) (kF (.int 1)) oIx) oIx) oDiv) (kF (.int 2)) oMod))) (ifS (orT (tstF (binF (nmF 6) (kF (.str "zero")) (oEq false))) (tstF (binF (nmF 6) (kF (.str "one")) (oEq false)))) (drS (appF 3 (callF [binF (nmF 6) (kF (.str "one")) (oEq false)] oInt))) (ifS (tstF (binF (nmF 6) (kF (.str "not")) (oEq false))) (drS (appF 3 (binF (kF (.int 1)) (binF (nmF 3) (binF (nmF 5) (kF (.int 1)) oIx) oIx) oSub))) (seqS (par2 7 8 (binF (nmF 3) (binF (nmF 5) (kF (.int 1)) oIx) oIx) (binF (nmF 3) (binF (nmF 5) (kF (.int 2)) oIx) oIx)) (ifS (tstF (binF (nmF 6) (kF (.str "plus")) (oEq false))) (seqS (setS 9 (binF (nmF 1) (callF [nmF 4] oLen) oIx)) (seqS (drS (appF 3 (binF (tupF [kF (.int 0), kF (.int 1), kF (.int 0), kF (.int 1)]) (binF (binF (nmF 7) (nmF 8) oPlus) (nmF 9) oPlus) oIx))) (drS (appF 4 (binF (tupF [kF (.int 0), kF (.int 0), kF (.int 1), kF (.int 1)]) (binF (binF (nmF 7) (nmF 8) oPlus) (nmF 9) oPlus) oIx))))) (drS (appF 3 (binF (dixF (dispF [(kF (.str "and"), tupF [kF (.int 0), kF (.int 0), kF (.int 1)]), (kF (.str "or"), tupF [kF (.int 0), kF (.int 1), kF (.int 1)]), (kF (.str "xor"), tupF [kF (.int 0), kF (.int 1), kF (.int 0)])]) (nmF 6)) (binF (nmF 7) (nmF 8) oPlus) oIx)))))))))) (rtS (tupF [nmF 3, callF [nmF 4] oTuple])))
noncomputable def R__law_place : RF := runF 10 fb__law_place
noncomputable def fb__law_noughts : FS := rtS (callF [lcF (seqI (nmF 0)) (gnm 1) (tstF (binF (binF (nmF 1) (kF (.int 0)) oIx) (kF (.str "plus")) (oEq false))) (kF (.int 0)) [1]] oTuple)
noncomputable def R__law_noughts : RF := runF 2 fb__law_noughts
noncomputable def fb__law_walk : FS := seqS (setS 3 (lstF [])) (seqS (forS (seqI (nmF 2)) (gnm 4) (seqS (asgS (gtp [gnm 5, gnm 1]) (cfF 3 R__law_place [nmF 0, nmF 1, nmF 4])) (drS (appF 3 (binF (nmF 5) (negF (kF (.int 1))) oIx))))) (rtS (tupF [callF [nmF 3] oTuple, nmF 1])))
noncomputable def R__law_walk : RF := runF 6 fb__law_walk
noncomputable def fb__law_cut : FS := seqS (par2 2 3 (lstF []) (nmF 1)) (seqS (forS (rng1I (kF (.int 60))) (gnm 4) (seqS (ifS (tstF (binF (nmF 3) (tupF []) (oEq false))) (rtS (callF [nmF 2] oTuple)) (skF)) (seqS (setS 5 (binF (binF (cmF 0 1 R__law_draw [kF (.int 4)]) (cmF 0 1 R__law_draw [kF (.int 3)]) oTimes) (cmF 0 1 R__law_draw [kF (.int 2)]) oPlus)) (seqS (drS (appF 2 (slF (nmF 3) (noP) (soP (nmF 5))))) (setS 3 (slF (nmF 3) (soP (nmF 5)) (noP))))))) (rtS (callF [binF (nmF 2) (lstF [nmF 3]) oPlus] oTuple)))
noncomputable def R__law_cut : MF := runM 5 fb__law_cut
noncomputable def fb__law_joined : FS := seqS (setS 1 (tupF [])) (seqS (forS (seqI (nmF 0)) (gnm 2) (setS 1 (binF (nmF 1) (nmF 2) oPlus))) (rtS (nmF 1)))
noncomputable def R__law_joined : RF := runF 3 fb__law_joined
noncomputable def fb__law_scanner : FS := seqS (setS 1 (kF .non)) (seqS (tryS (mtOne "TooGreat") (cxF 1 R_scanner_of [nmF 0] (gSet 1)) (setS 1 (kF .non))) (rtS (nmF 1)))
noncomputable def R__law_scanner : RF := runF 2 fb__law_scanner
noncomputable def fb__law_cut_right : FS := seqS (setS 4 (cfF 2 R_carries_ahead [nmF 0, nmF 1])) (seqS (par3 5 6 7 (lstF [cfF 1 R__law_noughts [binF (nmF 0) (kF (.int 1)) oIx]]) (tupF []) (cfF 1 R__law_noughts [binF (nmF 0) (kF (.int 1)) oIx])) (seqS (forS (seqI (nmF 1)) (gnm 8) (seqS (asgS (gtp [gnm 9, gnm 10]) (cfF 3 R_carried_marks [nmF 0, nmF 7, nmF 8])) (seqS (par2 6 7 (binF (nmF 6) (nmF 9) oPlus) (binF (cfF 3 R__law_walk [binF (nmF 0) (kF (.int 1)) oIx, nmF 7, nmF 8]) (kF (.int 1)) oIx)) (seqS (ifS (notT (tstF (cfF 2 R__law_same [nmF 10, nmF 7]))) (rtS (kF (.bl false))) (skF)) (drS (appF 5 (nmF 7))))))) (rtS (tvF (andT (asB (cfF 2 R__law_same [nmF 4, callF [nmF 5] oTuple])) (asB (tvF (andT (asB (cfF 2 R__law_same [nmF 6, nmF 2])) (asB (cfF 2 R__law_same [binF (nmF 4) (negF (kF (.int 1))) oIx, nmF 3]))))))))))
noncomputable def R__law_cut_right : RF := runF 11 fb__law_cut_right
noncomputable def fb__law_scanner_right : FS := seqS (setS 4 (cfF 1 R__law_scanner [nmF 1])) (seqS (ifS (tstF (binF (nmF 4) (kF .non) (oIs false))) (rtS (kF (.bl true))) (skF)) (seqS (par3 5 6 7 (kF (.int 0)) (tupF []) (lstF [kF (.int 0)])) (seqS (forS (seqI (nmF 2)) (gnm 8) (seqS (par2 6 5 (binF (nmF 6) (cfF 3 R_marks_from [nmF 4, nmF 5, nmF 8]) oPlus) (cfF 3 R_end_from [nmF 4, nmF 5, nmF 8])) (drS (appF 7 (nmF 5))))) (seqS (setS 9 (cfF 2 R_carries_ahead [nmF 1, nmF 2])) (seqS (forS (zpI (nmF 7) (nmF 9)) (gtp [gnm 10, gnm 11]) (ifS (tstF (binF (lcF (zpI (nmF 7) (nmF 9)) (gtp [gnm 12, gnm 13]) (andT (tstF (binF (nmF 13) (nmF 11) (oEq false))) (tstF (binF (nmF 12) (nmF 10) (oEq true)))) (kF (.int 1)) [12, 13]) (lstF []) (oEq true))) (rtS (kF (.bl false))) (skF))) (rtS (cfF 2 R__law_same [tupF [nmF 6, nmF 5], tupF [nmF 3, cfF 2 R_end_state [nmF 4, cfF 1 R__law_joined [nmF 2]]]])))))))
noncomputable def R__law_scanner_right : MF := runM 13 fb__law_scanner_right
noncomputable def fb_law : FS := seqS (forS (rng1I (kF (.int 3))) (gnm 2) (seqS (setS 3 (cmF 1 3 R__law_program [binF (kF (.int 1)) (cmF 1 1 R__law_draw [kF (.int 3)]) oPlus, binF (kF (.int 1)) (cmF 1 1 R__law_draw [kF (.int 10)]) oPlus, binF (kF (.int 1)) (cmF 1 1 R__law_draw [kF (.int 4)]) oPlus])) (seqS (setS 4 (cmF 1 2 R__law_text [binF (tupF [kF (.int 1), kF (.int 2), kF (.int 4), kF (.int 8)]) (binF (nmF 3) (kF (.int 0)) oIx) oIx, kF (.int 60)])) (seqS (par2 5 6 (cfF 2 R_program_marks [nmF 3, nmF 4]) (cfF 2 R_carries_behind [nmF 3, nmF 4])) (seqS (ifS (notT (tstF (cfF 2 R__law_same [tupF [nmF 5, nmF 6], cfF 3 R__law_walk [binF (nmF 3) (kF (.int 1)) oIx, cfF 1 R__law_noughts [binF (nmF 3) (kF (.int 1)) oIx], nmF 4]]))) (rtS (kF (.bl false))) (skF)) (seqS (setS 7 (cfF 1 R_needed_lines [nmF 3])) (seqS (setS 8 (callF [lcF (zpI (nmF 6) (cfF 1 R_plus_lines [nmF 3])) (gtp [gnm 12, gnm 13]) (tstF (binF (nmF 13) (nmF 7) (oIn false))) (nmF 12) [12, 13]] oTuple)) (seqS (ifS (notT (tstF (cfF 2 R__law_same [cfF 2 R_kept_carries [nmF 3, nmF 4], nmF 8]))) (rtS (kF (.bl false))) (skF)) (forS (rng1I (kF (.int 3))) (gnm 9) (seqS (setS 10 (cmF 1 1 R__law_cut [nmF 4])) (seqS (ifS (tstF (binF (nmF 9) (kF (.int 2)) (oEq false))) (setS 10 (callF [lcF (seqI (nmF 4)) (gnm 14) (ttY) (tupF [nmF 14]) [14]] oTuple)) (skF)) (ifS (orT (notT (tstF (cfF 4 R__law_cut_right [nmF 3, nmF 10, nmF 5, nmF 6]))) (notT (tstF (cmF 1 3 R__law_scanner_right [nmF 3, nmF 10, nmF 5])))) (rtS (kF (.bl false))) (skF))))))))))))) (seqS (setS 3 (tupF [kF (.int 1), tupF [tupF [kF (.str "row"), kF (.int 0)], tupF [kF (.str "plus"), kF (.int 0), kF (.int 0)]]])) (seqS (setS 11 (tupF [cfF 2 R_carries_ahead [nmF 3, tupF []], cfF 2 R_carries_ahead [nmF 3, tupF [tupF [], tupF []]], cfF 2 R_carries_ahead [nmF 3, tupF [tupF [kF (.int 0), kF (.int 1)], tupF [], tupF [kF (.int 1)]]]])) (rtS (cfF 2 R__law_same [nmF 11, tupF [tupF [tupF [kF (.int 0)]], binF (tupF [tupF [kF (.int 0)]]) (kF (.int 3)) oTimes, tupF [tupF [kF (.int 0)], tupF [kF (.int 1)], tupF [kF (.int 1)], tupF [kF (.int 1)]]]]))))
end Sc
set_option maxRecDepth 100000
set_option maxHeartbeats 0
namespace Sc
open PySem PySem.Spec PyProof.Rows L2
def top (i : Nat) : Stmt := PySem.Challenge.pw_scanadds_k79_whole_texts_in_blocks.main.body.getD i (.Pass ⟨0, 0, 0, 0⟩)
def d_is_integer : He.DefD := ⟨("is_integer", none), "is_integer", "is_integer", defArgs (top 11), defBody (top 11), defScope (top 11), [], []⟩
def d_is_within : He.DefD := ⟨("is_within", none), "is_within", "is_within", defArgs (top 12), defBody (top 12), defScope (top 12), [], []⟩
def d_need_text_of : He.DefD := ⟨("need_text_of", none), "need_text_of", "need_text_of", defArgs (top 13), defBody (top 13), defScope (top 13), [], []⟩
def d_is_text_of : He.DefD := ⟨("is_text_of", none), "is_text_of", "is_text_of", defArgs (top 14), defBody (top 14), defScope (top 14), [], []⟩
def d_bit_row : He.DefD := ⟨("bit_row", none), "bit_row", "bit_row", defArgs (top 15), defBody (top 15), defScope (top 15), [], []⟩
def d_is_step : He.DefD := ⟨("is_step", none), "is_step", "is_step", defArgs (top 18), defBody (top 18), defScope (top 18), [], []⟩
def d_need_steps : He.DefD := ⟨("need_steps", none), "need_steps", "need_steps", defArgs (top 19), defBody (top 19), defScope (top 19), [], []⟩
def d_need_scanner : He.DefD := ⟨("need_scanner", none), "need_scanner", "need_scanner", defArgs (top 20), defBody (top 20), defScope (top 20), [], []⟩
def d_need_state : He.DefD := ⟨("need_state", none), "need_state", "need_state", defArgs (top 21), defBody (top 21), defScope (top 21), [], []⟩
def d_way_of : He.DefD := ⟨("way_of", none), "way_of", "way_of", defArgs (top 22), defBody (top 22), defScope (top 22), [], []⟩
def d_need_asked : He.DefD := ⟨("need_asked", none), "need_asked", "need_asked", defArgs (top 23), defBody (top 23), defScope (top 23), [], []⟩
def d_end_state : He.DefD := ⟨("end_state", none), "end_state", "end_state", defArgs (top 24), defBody (top 24), defScope (top 24), [], []⟩
def d_marks_from : He.DefD := ⟨("marks_from", none), "marks_from", "marks_from", defArgs (top 25), defBody (top 25), defScope (top 25), [], []⟩
def d_end_from : He.DefD := ⟨("end_from", none), "end_from", "end_from", defArgs (top 26), defBody (top 26), defScope (top 26), [], []⟩
def d_lot_levels : He.DefD := ⟨("lot_levels", none), "lot_levels", "lot_levels", defArgs (top 28), defBody (top 28), defScope (top 28), [], []⟩
def d_least_table : He.DefD := ⟨("least_table", none), "least_table", "least_table", defArgs (top 30), defBody (top 30), defScope (top 30), [], []⟩
def d_is_line : He.DefD := ⟨("is_line", none), "is_line", "is_line", defArgs (top 35), defBody (top 35), defScope (top 35), [], []⟩
def d_need_program : He.DefD := ⟨("need_program", none), "need_program", "need_program", defArgs (top 36), defBody (top 36), defScope (top 36), [], []⟩
def d_row_number : He.DefD := ⟨("row_number", none), "row_number", "row_number", defArgs (top 37), defBody (top 37), defScope (top 37), [], []⟩
def d_number_row : He.DefD := ⟨("number_row", none), "number_row", "number_row", defArgs (top 38), defBody (top 38), defScope (top 38), [], []⟩
def d_line_number : He.DefD := ⟨("line_number", none), "line_number", "line_number", defArgs (top 39), defBody (top 39), defScope (top 39), [], []⟩
def d_line_numbers : He.DefD := ⟨("line_numbers", none), "line_numbers", "line_numbers", defArgs (top 40), defBody (top 40), defScope (top 40), [], []⟩
def d_marks_by : He.DefD := ⟨("marks_by", none), "marks_by", "marks_by", defArgs (top 41), defBody (top 41), defScope (top 41), [], []⟩
def d_program_marks : He.DefD := ⟨("program_marks", none), "program_marks", "program_marks", defArgs (top 42), defBody (top 42), defScope (top 42), [], []⟩
def d_plus_numbers : He.DefD := ⟨("plus_numbers", none), "plus_numbers", "plus_numbers", defArgs (top 43), defBody (top 43), defScope (top 43), [], []⟩
def d_plus_lines : He.DefD := ⟨("plus_lines", none), "plus_lines", "plus_lines", defArgs (top 44), defBody (top 44), defScope (top 44), [], []⟩
def d_named_lines : He.DefD := ⟨("named_lines", none), "named_lines", "named_lines", defArgs (top 45), defBody (top 45), defScope (top 45), [], []⟩
def d_needed_by : He.DefD := ⟨("needed_by", none), "needed_by", "needed_by", defArgs (top 46), defBody (top 46), defScope (top 46), [], []⟩
def d_needed_lines : He.DefD := ⟨("needed_lines", none), "needed_lines", "needed_lines", defArgs (top 47), defBody (top 47), defScope (top 47), [], []⟩
def d_plain_bit : He.DefD := ⟨("plain_bit", none), "plain_bit", "plain_bit", defArgs (top 50), defBody (top 50), defScope (top 50), [], []⟩
def d_place_bits : He.DefD := ⟨("place_bits", none), "place_bits", "place_bits", defArgs (top 51), defBody (top 51), defScope (top 51), [], []⟩
def d_noughts_of : He.DefD := ⟨("noughts_of", none), "noughts_of", "noughts_of", defArgs (top 52), defBody (top 52), defScope (top 52), [], []⟩
def d_walk_marks : He.DefD := ⟨("walk_marks", none), "walk_marks", "walk_marks", defArgs (top 53), defBody (top 53), defScope (top 53), [], []⟩
def d_Stands_init : He.DefD := ⟨("Stands", some "__init__"), "__init__", "Stands.__init__", defArgs (inClass (top 54) 0), defBody (inClass (top 54) 0), defScope (inClass (top 54) 0), [], []⟩
def d_Stands_step_of : He.DefD := ⟨("Stands", some "step_of"), "step_of", "Stands.step_of", defArgs (inClass (top 54) 1), defBody (inClass (top 54) 1), defScope (inClass (top 54) 1), [], []⟩
def d_stands_of : He.DefD := ⟨("stands_of", none), "stands_of", "stands_of", defArgs (top 55), defBody (top 55), defScope (top 55), [], []⟩
def d_is_carries : He.DefD := ⟨("is_carries", none), "is_carries", "is_carries", defArgs (top 56), defBody (top 56), defScope (top 56), [], []⟩
def d_need_carries : He.DefD := ⟨("need_carries", none), "need_carries", "need_carries", defArgs (top 57), defBody (top 57), defScope (top 57), [], []⟩
def d_carried_marks : He.DefD := ⟨("carried_marks", none), "carried_marks", "carried_marks", defArgs (top 58), defBody (top 58), defScope (top 58), [], []⟩
def d_carries_behind : He.DefD := ⟨("carries_behind", none), "carries_behind", "carries_behind", defArgs (top 59), defBody (top 59), defScope (top 59), [], []⟩
def d_scanner_by_table : He.DefD := ⟨("scanner_by_table", none), "scanner_by_table", "scanner_by_table", defArgs (top 60), defBody (top 60), defScope (top 60), [], []⟩
def d_scanner_of : He.DefD := ⟨("scanner_of", none), "scanner_of", "scanner_of", defArgs (top 61), defBody (top 61), defScope (top 61), [], []⟩
def d_need_blocks : He.DefD := ⟨("need_blocks", none), "need_blocks", "need_blocks", defArgs (top 65), defBody (top 65), defScope (top 65), [], []⟩
def d_carries_ahead : He.DefD := ⟨("carries_ahead", none), "carries_ahead", "carries_ahead", defArgs (top 66), defBody (top 66), defScope (top 66), [], []⟩
def d_needed_only : He.DefD := ⟨("needed_only", none), "needed_only", "needed_only", defArgs (top 68), defBody (top 68), defScope (top 68), [], []⟩
def d_kept_carries : He.DefD := ⟨("kept_carries", none), "kept_carries", "kept_carries", defArgs (top 69), defBody (top 69), defScope (top 69), [], []⟩
def d__law_mixed : He.DefD := ⟨("_law_mixed", none), "_law_mixed", "_law_mixed", defArgs (top 71), defBody (top 71), defScope (top 71), [], []⟩
def d__law_folded : He.DefD := ⟨("_law_folded", none), "_law_folded", "_law_folded", defArgs (top 72), defBody (top 72), defScope (top 72), [], []⟩
def d__law_draw : He.DefD := ⟨("_law_draw", none), "_law_draw", "_law_draw", defArgs (top 73), defBody (top 73), defScope (top 73), [], []⟩
def d__law_begun : He.DefD := ⟨("_law_begun", none), "_law_begun", "_law_begun", defArgs (top 74), defBody (top 74), defScope (top 74), [], []⟩
def d__law_of : He.DefD := ⟨("_law_of", none), "_law_of", "_law_of", defArgs (top 75), defBody (top 75), defScope (top 75), [], []⟩
def d__law_same : He.DefD := ⟨("_law_same", none), "_law_same", "_law_same", defArgs (top 76), defBody (top 76), defScope (top 76), [], []⟩
def d__law_text : He.DefD := ⟨("_law_text", none), "_law_text", "_law_text", defArgs (top 77), defBody (top 77), defScope (top 77), [], []⟩
def d__law_line : He.DefD := ⟨("_law_line", none), "_law_line", "_law_line", defArgs (top 78), defBody (top 78), defScope (top 78), [], []⟩
def d__law_program : He.DefD := ⟨("_law_program", none), "_law_program", "_law_program", defArgs (top 79), defBody (top 79), defScope (top 79), [], []⟩
def d__law_place : He.DefD := ⟨("_law_place", none), "_law_place", "_law_place", defArgs (top 80), defBody (top 80), defScope (top 80), [], []⟩
def d__law_noughts : He.DefD := ⟨("_law_noughts", none), "_law_noughts", "_law_noughts", defArgs (top 81), defBody (top 81), defScope (top 81), [], []⟩
def d__law_walk : He.DefD := ⟨("_law_walk", none), "_law_walk", "_law_walk", defArgs (top 82), defBody (top 82), defScope (top 82), [], []⟩
def d__law_cut : He.DefD := ⟨("_law_cut", none), "_law_cut", "_law_cut", defArgs (top 83), defBody (top 83), defScope (top 83), [], []⟩
def d__law_joined : He.DefD := ⟨("_law_joined", none), "_law_joined", "_law_joined", defArgs (top 84), defBody (top 84), defScope (top 84), [], []⟩
def d__law_scanner : He.DefD := ⟨("_law_scanner", none), "_law_scanner", "_law_scanner", defArgs (top 85), defBody (top 85), defScope (top 85), [], []⟩
def d__law_cut_right : He.DefD := ⟨("_law_cut_right", none), "_law_cut_right", "_law_cut_right", defArgs (top 86), defBody (top 86), defScope (top 86), [], []⟩
def d__law_scanner_right : He.DefD := ⟨("_law_scanner_right", none), "_law_scanner_right", "_law_scanner_right", defArgs (top 87), defBody (top 87), defScope (top 87), [], []⟩
def d_law : He.DefD := ⟨("law", none), "law", "law", defArgs (top 88), defBody (top 88), defScope (top 88), [], []⟩
def fn : List He.DefD := ([d_is_integer, d_is_within, d_need_text_of, d_is_text_of, d_bit_row, d_is_step, d_need_steps, d_need_scanner, d_need_state, d_way_of, d_need_asked, d_end_state, d_marks_from, d_end_from] : List He.DefD) ++ ([d_lot_levels, d_least_table, d_is_line, d_need_program, d_row_number, d_number_row, d_line_number, d_line_numbers, d_marks_by, d_program_marks, d_plus_numbers, d_plus_lines, d_named_lines, d_needed_by] : List He.DefD) ++ ([d_needed_lines, d_plain_bit, d_place_bits, d_noughts_of, d_walk_marks, d_Stands_init, d_Stands_step_of, d_stands_of, d_is_carries, d_need_carries, d_carried_marks, d_carries_behind, d_scanner_by_table, d_scanner_of] : List He.DefD) ++ ([d_need_blocks, d_carries_ahead, d_needed_only, d_kept_carries, d__law_mixed, d__law_folded, d__law_draw, d__law_begun, d__law_of, d__law_same, d__law_text, d__law_line, d__law_program, d__law_place] : List He.DefD) ++ ([d__law_noughts, d__law_walk, d__law_cut, d__law_joined, d__law_scanner, d__law_cut_right, d__law_scanner_right, d_law] : List He.DefD)
def fa : List He.Fa := ([.glo "WordError", .glo "TooGreat", .glo "BadText", .glo "BadScanner", .glo "BadState", .glo "BadProgram", .glo "BadCarries", .glo "is_integer", .glo "is_within", .glo "need_text_of", .glo "is_text_of", .glo "bit_row", .glo "is_step", .glo "need_steps"] : List He.Fa) ++ ([.glo "need_scanner", .glo "need_state", .glo "way_of", .glo "need_asked", .glo "end_state", .glo "marks_from", .glo "end_from", .glo "lot_levels", .glo "least_table", .glo "is_line", .glo "need_program", .glo "row_number", .glo "number_row", .glo "line_number"] : List He.Fa) ++ ([.glo "line_numbers", .glo "marks_by", .glo "program_marks", .glo "plus_numbers", .glo "plus_lines", .glo "named_lines", .glo "needed_by", .glo "needed_lines", .glo "plain_bit", .glo "place_bits", .glo "noughts_of", .glo "walk_marks", .glo "Stands", .glo "stands_of"] : List He.Fa) ++ ([.glo "is_carries", .glo "need_carries", .glo "carried_marks", .glo "carries_behind", .glo "scanner_by_table", .glo "scanner_of", .glo "BadBlocks", .glo "need_blocks", .glo "carries_ahead", .glo "needed_only", .glo "kept_carries", .glo "_law_mixed", .glo "_law_folded", .glo "_law_draw"] : List He.Fa) ++ ([.glo "_law_begun", .glo "_law_of", .glo "_law_same", .glo "_law_text", .glo "_law_line", .glo "_law_program", .glo "_law_place", .glo "_law_noughts", .glo "_law_walk", .glo "_law_cut", .glo "_law_joined", .glo "_law_scanner", .glo "_law_cut_right", .glo "_law_scanner_right"] : List He.Fa) ++ ([.glo "law", .free "super", .free "len", .free "tuple", .free "isinstance", .free "int", .free "range", .free "enumerate", .free "all", .free "any", .free "max", .free "min", .free "sorted", .free "sum"] : List He.Fa) ++ ([.free "zip", .free "bool", .free "str", .free "list", .exm "TooGreat" "TooGreat" true, .cls "Stands", .mkr "Stands", .noat "Stands" "lines", .noat "Stands" "letters", .noat "Stands" "order", .noat "Stands" "texts", .noat "Stands" "numbers", .noat "Stands" "table", .meth "Stands" "step_of"] : List He.Fa)
def loose : List PySem.Str := (["__name__", "WordError", "TooGreat", "BadText", "BadScanner", "BadState", "BadProgram", "BadCarries", "LETTERS_BY", "MOST_PLACES", "is_integer", "is_within", "need_text_of", "is_text_of"] : List PySem.Str) ++ (["bit_row", "MOST_STATES", "is_step", "need_steps", "need_scanner", "need_state", "way_of", "need_asked", "end_state", "marks_from", "end_from", "lot_levels", "least_table", "MOST_LINES"] : List PySem.Str) ++ (["PLUS", "PAIRED", "is_line", "need_program", "row_number", "number_row", "line_number", "line_numbers", "marks_by", "program_marks", "plus_numbers", "plus_lines", "named_lines", "needed_by"] : List PySem.Str) ++ (["needed_lines", "MOST_STANDS", "plain_bit", "place_bits", "noughts_of", "walk_marks", "Stands", "stands_of", "is_carries", "need_carries", "carried_marks", "carries_behind", "scanner_by_table", "scanner_of"] : List PySem.Str) ++ (["BadBlocks", "need_blocks", "carries_ahead", "needed_only", "kept_carries", "_law_mixed", "_law_folded", "_law_draw", "_law_begun", "_law_of", "_law_same", "_law_text", "_law_line", "_law_program"] : List PySem.Str) ++ (["_law_place", "_law_noughts", "_law_walk", "_law_cut", "_law_joined", "_law_scanner", "_law_cut_right", "_law_scanner_right"] : List PySem.Str)
def pfile : Str := PySem.Challenge.pw_scanadds_k79_whole_texts_in_blocks.main.file
def ex (K : PySem.W.Frag) : Bool := cstB K "LETTERS_BY" c_LETTERS_BY && cstB K "MOST_PLACES" c_MOST_PLACES && cstB K "MOST_STATES" c_MOST_STATES && cstB K "MOST_LINES" c_MOST_LINES && cstB K "PLUS" c_PLUS && cstB K "PAIRED" c_PAIRED && cstB K "MOST_STANDS" c_MOST_STANDS && supB K pfile "TooGreat" "most"
def xs : List Str := ["TooGreat"]
def ds : List IDat := [some (("__init__" : Str), ("TooGreat.__init__" : Str), defArgs (inClass (top 2) 0), defBody (inClass (top 2) 0), defScope (inClass (top 2) 0))]
structure Wd (P : Program) (K : PySem.W.Frag) (mg : Str → Option Value) : Prop where
  heap : ∃ h : Heap, K.In h ∧ h.Ns mainGlobals mg
  says : SaysX fa fn ex xs ds K
  file : P.main.file = pfile
  nosup : (P.main.scope.names.lookup ("super" : Str)).isSome = false
section
variable {P : Program} {K : PySem.W.Frag} {mg : Str → Option Value}
theorem g_WordError (W : Wd P K mg) : mg "WordError" = some (.ref (He.ga K "WordError")) := let ⟨_, X, G⟩ := W.heap; He.glo_ok X G (W.says.d.fact 0 (f := .glo "WordError") rfl)
theorem g_TooGreat (W : Wd P K mg) : mg "TooGreat" = some (.ref (He.ga K "TooGreat")) := let ⟨_, X, G⟩ := W.heap; He.glo_ok X G (W.says.d.fact 1 (f := .glo "TooGreat") rfl)
theorem g_BadText (W : Wd P K mg) : mg "BadText" = some (.ref (He.ga K "BadText")) := let ⟨_, X, G⟩ := W.heap; He.glo_ok X G (W.says.d.fact 2 (f := .glo "BadText") rfl)
theorem g_BadScanner (W : Wd P K mg) : mg "BadScanner" = some (.ref (He.ga K "BadScanner")) := let ⟨_, X, G⟩ := W.heap; He.glo_ok X G (W.says.d.fact 3 (f := .glo "BadScanner") rfl)
theorem g_BadState (W : Wd P K mg) : mg "BadState" = some (.ref (He.ga K "BadState")) := let ⟨_, X, G⟩ := W.heap; He.glo_ok X G (W.says.d.fact 4 (f := .glo "BadState") rfl)
theorem g_BadProgram (W : Wd P K mg) : mg "BadProgram" = some (.ref (He.ga K "BadProgram")) := let ⟨_, X, G⟩ := W.heap; He.glo_ok X G (W.says.d.fact 5 (f := .glo "BadProgram") rfl)
theorem g_BadCarries (W : Wd P K mg) : mg "BadCarries" = some (.ref (He.ga K "BadCarries")) := let ⟨_, X, G⟩ := W.heap; He.glo_ok X G (W.says.d.fact 6 (f := .glo "BadCarries") rfl)
theorem g_is_integer (W : Wd P K mg) : mg "is_integer" = some (.ref (He.ga K "is_integer")) := let ⟨_, X, G⟩ := W.heap; He.glo_ok X G (W.says.d.fact 7 (f := .glo "is_integer") rfl)
theorem g_is_within (W : Wd P K mg) : mg "is_within" = some (.ref (He.ga K "is_within")) := let ⟨_, X, G⟩ := W.heap; He.glo_ok X G (W.says.d.fact 8 (f := .glo "is_within") rfl)
theorem g_need_text_of (W : Wd P K mg) : mg "need_text_of" = some (.ref (He.ga K "need_text_of")) := let ⟨_, X, G⟩ := W.heap; He.glo_ok X G (W.says.d.fact 9 (f := .glo "need_text_of") rfl)
theorem g_is_text_of (W : Wd P K mg) : mg "is_text_of" = some (.ref (He.ga K "is_text_of")) := let ⟨_, X, G⟩ := W.heap; He.glo_ok X G (W.says.d.fact 10 (f := .glo "is_text_of") rfl)
theorem g_bit_row (W : Wd P K mg) : mg "bit_row" = some (.ref (He.ga K "bit_row")) := let ⟨_, X, G⟩ := W.heap; He.glo_ok X G (W.says.d.fact 11 (f := .glo "bit_row") rfl)
theorem g_is_step (W : Wd P K mg) : mg "is_step" = some (.ref (He.ga K "is_step")) := let ⟨_, X, G⟩ := W.heap; He.glo_ok X G (W.says.d.fact 12 (f := .glo "is_step") rfl)
theorem g_need_steps (W : Wd P K mg) : mg "need_steps" = some (.ref (He.ga K "need_steps")) := let ⟨_, X, G⟩ := W.heap; He.glo_ok X G (W.says.d.fact 13 (f := .glo "need_steps") rfl)
theorem g_need_scanner (W : Wd P K mg) : mg "need_scanner" = some (.ref (He.ga K "need_scanner")) := let ⟨_, X, G⟩ := W.heap; He.glo_ok X G (W.says.d.fact 14 (f := .glo "need_scanner") rfl)
theorem g_need_state (W : Wd P K mg) : mg "need_state" = some (.ref (He.ga K "need_state")) := let ⟨_, X, G⟩ := W.heap; He.glo_ok X G (W.says.d.fact 15 (f := .glo "need_state") rfl)
theorem g_way_of (W : Wd P K mg) : mg "way_of" = some (.ref (He.ga K "way_of")) := let ⟨_, X, G⟩ := W.heap; He.glo_ok X G (W.says.d.fact 16 (f := .glo "way_of") rfl)
theorem g_need_asked (W : Wd P K mg) : mg "need_asked" = some (.ref (He.ga K "need_asked")) := let ⟨_, X, G⟩ := W.heap; He.glo_ok X G (W.says.d.fact 17 (f := .glo "need_asked") rfl)
theorem g_end_state (W : Wd P K mg) : mg "end_state" = some (.ref (He.ga K "end_state")) := let ⟨_, X, G⟩ := W.heap; He.glo_ok X G (W.says.d.fact 18 (f := .glo "end_state") rfl)
theorem g_marks_from (W : Wd P K mg) : mg "marks_from" = some (.ref (He.ga K "marks_from")) := let ⟨_, X, G⟩ := W.heap; He.glo_ok X G (W.says.d.fact 19 (f := .glo "marks_from") rfl)
theorem g_end_from (W : Wd P K mg) : mg "end_from" = some (.ref (He.ga K "end_from")) := let ⟨_, X, G⟩ := W.heap; He.glo_ok X G (W.says.d.fact 20 (f := .glo "end_from") rfl)
theorem g_lot_levels (W : Wd P K mg) : mg "lot_levels" = some (.ref (He.ga K "lot_levels")) := let ⟨_, X, G⟩ := W.heap; He.glo_ok X G (W.says.d.fact 21 (f := .glo "lot_levels") rfl)
theorem g_least_table (W : Wd P K mg) : mg "least_table" = some (.ref (He.ga K "least_table")) := let ⟨_, X, G⟩ := W.heap; He.glo_ok X G (W.says.d.fact 22 (f := .glo "least_table") rfl)
theorem g_is_line (W : Wd P K mg) : mg "is_line" = some (.ref (He.ga K "is_line")) := let ⟨_, X, G⟩ := W.heap; He.glo_ok X G (W.says.d.fact 23 (f := .glo "is_line") rfl)
theorem g_need_program (W : Wd P K mg) : mg "need_program" = some (.ref (He.ga K "need_program")) := let ⟨_, X, G⟩ := W.heap; He.glo_ok X G (W.says.d.fact 24 (f := .glo "need_program") rfl)
theorem g_row_number (W : Wd P K mg) : mg "row_number" = some (.ref (He.ga K "row_number")) := let ⟨_, X, G⟩ := W.heap; He.glo_ok X G (W.says.d.fact 25 (f := .glo "row_number") rfl)
theorem g_number_row (W : Wd P K mg) : mg "number_row" = some (.ref (He.ga K "number_row")) := let ⟨_, X, G⟩ := W.heap; He.glo_ok X G (W.says.d.fact 26 (f := .glo "number_row") rfl)
theorem g_line_number (W : Wd P K mg) : mg "line_number" = some (.ref (He.ga K "line_number")) := let ⟨_, X, G⟩ := W.heap; He.glo_ok X G (W.says.d.fact 27 (f := .glo "line_number") rfl)
theorem g_line_numbers (W : Wd P K mg) : mg "line_numbers" = some (.ref (He.ga K "line_numbers")) := let ⟨_, X, G⟩ := W.heap; He.glo_ok X G (W.says.d.fact 28 (f := .glo "line_numbers") rfl)
theorem g_marks_by (W : Wd P K mg) : mg "marks_by" = some (.ref (He.ga K "marks_by")) := let ⟨_, X, G⟩ := W.heap; He.glo_ok X G (W.says.d.fact 29 (f := .glo "marks_by") rfl)
theorem g_program_marks (W : Wd P K mg) : mg "program_marks" = some (.ref (He.ga K "program_marks")) := let ⟨_, X, G⟩ := W.heap; He.glo_ok X G (W.says.d.fact 30 (f := .glo "program_marks") rfl)
theorem g_plus_numbers (W : Wd P K mg) : mg "plus_numbers" = some (.ref (He.ga K "plus_numbers")) := let ⟨_, X, G⟩ := W.heap; He.glo_ok X G (W.says.d.fact 31 (f := .glo "plus_numbers") rfl)
theorem g_plus_lines (W : Wd P K mg) : mg "plus_lines" = some (.ref (He.ga K "plus_lines")) := let ⟨_, X, G⟩ := W.heap; He.glo_ok X G (W.says.d.fact 32 (f := .glo "plus_lines") rfl)
theorem g_named_lines (W : Wd P K mg) : mg "named_lines" = some (.ref (He.ga K "named_lines")) := let ⟨_, X, G⟩ := W.heap; He.glo_ok X G (W.says.d.fact 33 (f := .glo "named_lines") rfl)
theorem g_needed_by (W : Wd P K mg) : mg "needed_by" = some (.ref (He.ga K "needed_by")) := let ⟨_, X, G⟩ := W.heap; He.glo_ok X G (W.says.d.fact 34 (f := .glo "needed_by") rfl)
theorem g_needed_lines (W : Wd P K mg) : mg "needed_lines" = some (.ref (He.ga K "needed_lines")) := let ⟨_, X, G⟩ := W.heap; He.glo_ok X G (W.says.d.fact 35 (f := .glo "needed_lines") rfl)
theorem g_plain_bit (W : Wd P K mg) : mg "plain_bit" = some (.ref (He.ga K "plain_bit")) := let ⟨_, X, G⟩ := W.heap; He.glo_ok X G (W.says.d.fact 36 (f := .glo "plain_bit") rfl)
theorem g_place_bits (W : Wd P K mg) : mg "place_bits" = some (.ref (He.ga K "place_bits")) := let ⟨_, X, G⟩ := W.heap; He.glo_ok X G (W.says.d.fact 37 (f := .glo "place_bits") rfl)
theorem g_noughts_of (W : Wd P K mg) : mg "noughts_of" = some (.ref (He.ga K "noughts_of")) := let ⟨_, X, G⟩ := W.heap; He.glo_ok X G (W.says.d.fact 38 (f := .glo "noughts_of") rfl)
theorem g_walk_marks (W : Wd P K mg) : mg "walk_marks" = some (.ref (He.ga K "walk_marks")) := let ⟨_, X, G⟩ := W.heap; He.glo_ok X G (W.says.d.fact 39 (f := .glo "walk_marks") rfl)
theorem g_Stands (W : Wd P K mg) : mg "Stands" = some (.ref (He.ga K "Stands")) := let ⟨_, X, G⟩ := W.heap; He.glo_ok X G (W.says.d.fact 40 (f := .glo "Stands") rfl)
theorem g_stands_of (W : Wd P K mg) : mg "stands_of" = some (.ref (He.ga K "stands_of")) := let ⟨_, X, G⟩ := W.heap; He.glo_ok X G (W.says.d.fact 41 (f := .glo "stands_of") rfl)
theorem g_is_carries (W : Wd P K mg) : mg "is_carries" = some (.ref (He.ga K "is_carries")) := let ⟨_, X, G⟩ := W.heap; He.glo_ok X G (W.says.d.fact 42 (f := .glo "is_carries") rfl)
theorem g_need_carries (W : Wd P K mg) : mg "need_carries" = some (.ref (He.ga K "need_carries")) := let ⟨_, X, G⟩ := W.heap; He.glo_ok X G (W.says.d.fact 43 (f := .glo "need_carries") rfl)
theorem g_carried_marks (W : Wd P K mg) : mg "carried_marks" = some (.ref (He.ga K "carried_marks")) := let ⟨_, X, G⟩ := W.heap; He.glo_ok X G (W.says.d.fact 44 (f := .glo "carried_marks") rfl)
theorem g_carries_behind (W : Wd P K mg) : mg "carries_behind" = some (.ref (He.ga K "carries_behind")) := let ⟨_, X, G⟩ := W.heap; He.glo_ok X G (W.says.d.fact 45 (f := .glo "carries_behind") rfl)
theorem g_scanner_by_table (W : Wd P K mg) : mg "scanner_by_table" = some (.ref (He.ga K "scanner_by_table")) := let ⟨_, X, G⟩ := W.heap; He.glo_ok X G (W.says.d.fact 46 (f := .glo "scanner_by_table") rfl)
theorem g_scanner_of (W : Wd P K mg) : mg "scanner_of" = some (.ref (He.ga K "scanner_of")) := let ⟨_, X, G⟩ := W.heap; He.glo_ok X G (W.says.d.fact 47 (f := .glo "scanner_of") rfl)
theorem g_BadBlocks (W : Wd P K mg) : mg "BadBlocks" = some (.ref (He.ga K "BadBlocks")) := let ⟨_, X, G⟩ := W.heap; He.glo_ok X G (W.says.d.fact 48 (f := .glo "BadBlocks") rfl)
theorem g_need_blocks (W : Wd P K mg) : mg "need_blocks" = some (.ref (He.ga K "need_blocks")) := let ⟨_, X, G⟩ := W.heap; He.glo_ok X G (W.says.d.fact 49 (f := .glo "need_blocks") rfl)
theorem g_carries_ahead (W : Wd P K mg) : mg "carries_ahead" = some (.ref (He.ga K "carries_ahead")) := let ⟨_, X, G⟩ := W.heap; He.glo_ok X G (W.says.d.fact 50 (f := .glo "carries_ahead") rfl)
theorem g_needed_only (W : Wd P K mg) : mg "needed_only" = some (.ref (He.ga K "needed_only")) := let ⟨_, X, G⟩ := W.heap; He.glo_ok X G (W.says.d.fact 51 (f := .glo "needed_only") rfl)
theorem g_kept_carries (W : Wd P K mg) : mg "kept_carries" = some (.ref (He.ga K "kept_carries")) := let ⟨_, X, G⟩ := W.heap; He.glo_ok X G (W.says.d.fact 52 (f := .glo "kept_carries") rfl)
theorem g__law_mixed (W : Wd P K mg) : mg "_law_mixed" = some (.ref (He.ga K "_law_mixed")) := let ⟨_, X, G⟩ := W.heap; He.glo_ok X G (W.says.d.fact 53 (f := .glo "_law_mixed") rfl)
theorem g__law_folded (W : Wd P K mg) : mg "_law_folded" = some (.ref (He.ga K "_law_folded")) := let ⟨_, X, G⟩ := W.heap; He.glo_ok X G (W.says.d.fact 54 (f := .glo "_law_folded") rfl)
theorem g__law_draw (W : Wd P K mg) : mg "_law_draw" = some (.ref (He.ga K "_law_draw")) := let ⟨_, X, G⟩ := W.heap; He.glo_ok X G (W.says.d.fact 55 (f := .glo "_law_draw") rfl)
theorem g__law_begun (W : Wd P K mg) : mg "_law_begun" = some (.ref (He.ga K "_law_begun")) := let ⟨_, X, G⟩ := W.heap; He.glo_ok X G (W.says.d.fact 56 (f := .glo "_law_begun") rfl)
theorem g__law_of (W : Wd P K mg) : mg "_law_of" = some (.ref (He.ga K "_law_of")) := let ⟨_, X, G⟩ := W.heap; He.glo_ok X G (W.says.d.fact 57 (f := .glo "_law_of") rfl)
theorem g__law_same (W : Wd P K mg) : mg "_law_same" = some (.ref (He.ga K "_law_same")) := let ⟨_, X, G⟩ := W.heap; He.glo_ok X G (W.says.d.fact 58 (f := .glo "_law_same") rfl)
theorem g__law_text (W : Wd P K mg) : mg "_law_text" = some (.ref (He.ga K "_law_text")) := let ⟨_, X, G⟩ := W.heap; He.glo_ok X G (W.says.d.fact 59 (f := .glo "_law_text") rfl)
theorem g__law_line (W : Wd P K mg) : mg "_law_line" = some (.ref (He.ga K "_law_line")) := let ⟨_, X, G⟩ := W.heap; He.glo_ok X G (W.says.d.fact 60 (f := .glo "_law_line") rfl)
theorem g__law_program (W : Wd P K mg) : mg "_law_program" = some (.ref (He.ga K "_law_program")) := let ⟨_, X, G⟩ := W.heap; He.glo_ok X G (W.says.d.fact 61 (f := .glo "_law_program") rfl)
theorem g__law_place (W : Wd P K mg) : mg "_law_place" = some (.ref (He.ga K "_law_place")) := let ⟨_, X, G⟩ := W.heap; He.glo_ok X G (W.says.d.fact 62 (f := .glo "_law_place") rfl)
theorem g__law_noughts (W : Wd P K mg) : mg "_law_noughts" = some (.ref (He.ga K "_law_noughts")) := let ⟨_, X, G⟩ := W.heap; He.glo_ok X G (W.says.d.fact 63 (f := .glo "_law_noughts") rfl)
theorem g__law_walk (W : Wd P K mg) : mg "_law_walk" = some (.ref (He.ga K "_law_walk")) := let ⟨_, X, G⟩ := W.heap; He.glo_ok X G (W.says.d.fact 64 (f := .glo "_law_walk") rfl)
theorem g__law_cut (W : Wd P K mg) : mg "_law_cut" = some (.ref (He.ga K "_law_cut")) := let ⟨_, X, G⟩ := W.heap; He.glo_ok X G (W.says.d.fact 65 (f := .glo "_law_cut") rfl)
theorem g__law_joined (W : Wd P K mg) : mg "_law_joined" = some (.ref (He.ga K "_law_joined")) := let ⟨_, X, G⟩ := W.heap; He.glo_ok X G (W.says.d.fact 66 (f := .glo "_law_joined") rfl)
theorem g__law_scanner (W : Wd P K mg) : mg "_law_scanner" = some (.ref (He.ga K "_law_scanner")) := let ⟨_, X, G⟩ := W.heap; He.glo_ok X G (W.says.d.fact 67 (f := .glo "_law_scanner") rfl)
theorem g__law_cut_right (W : Wd P K mg) : mg "_law_cut_right" = some (.ref (He.ga K "_law_cut_right")) := let ⟨_, X, G⟩ := W.heap; He.glo_ok X G (W.says.d.fact 68 (f := .glo "_law_cut_right") rfl)
theorem g__law_scanner_right (W : Wd P K mg) : mg "_law_scanner_right" = some (.ref (He.ga K "_law_scanner_right")) := let ⟨_, X, G⟩ := W.heap; He.glo_ok X G (W.says.d.fact 69 (f := .glo "_law_scanner_right") rfl)
theorem g_law (W : Wd P K mg) : mg "law" = some (.ref (He.ga K "law")) := let ⟨_, X, G⟩ := W.heap; He.glo_ok X G (W.says.d.fact 70 (f := .glo "law") rfl)
theorem b_super (W : Wd P K mg) : mg "super" = none := let ⟨_, X, G⟩ := W.heap; He.free_ok X G (W.says.d.fact 71 (f := .free "super") rfl)
theorem b_len (W : Wd P K mg) : mg "len" = none := let ⟨_, X, G⟩ := W.heap; He.free_ok X G (W.says.d.fact 72 (f := .free "len") rfl)
theorem b_tuple (W : Wd P K mg) : mg "tuple" = none := let ⟨_, X, G⟩ := W.heap; He.free_ok X G (W.says.d.fact 73 (f := .free "tuple") rfl)
theorem b_isinstance (W : Wd P K mg) : mg "isinstance" = none := let ⟨_, X, G⟩ := W.heap; He.free_ok X G (W.says.d.fact 74 (f := .free "isinstance") rfl)
theorem b_int (W : Wd P K mg) : mg "int" = none := let ⟨_, X, G⟩ := W.heap; He.free_ok X G (W.says.d.fact 75 (f := .free "int") rfl)
theorem b_range (W : Wd P K mg) : mg "range" = none := let ⟨_, X, G⟩ := W.heap; He.free_ok X G (W.says.d.fact 76 (f := .free "range") rfl)
theorem b_enumerate (W : Wd P K mg) : mg "enumerate" = none := let ⟨_, X, G⟩ := W.heap; He.free_ok X G (W.says.d.fact 77 (f := .free "enumerate") rfl)
theorem b_all (W : Wd P K mg) : mg "all" = none := let ⟨_, X, G⟩ := W.heap; He.free_ok X G (W.says.d.fact 78 (f := .free "all") rfl)
theorem b_any (W : Wd P K mg) : mg "any" = none := let ⟨_, X, G⟩ := W.heap; He.free_ok X G (W.says.d.fact 79 (f := .free "any") rfl)
theorem b_max (W : Wd P K mg) : mg "max" = none := let ⟨_, X, G⟩ := W.heap; He.free_ok X G (W.says.d.fact 80 (f := .free "max") rfl)
theorem b_min (W : Wd P K mg) : mg "min" = none := let ⟨_, X, G⟩ := W.heap; He.free_ok X G (W.says.d.fact 81 (f := .free "min") rfl)
theorem b_sorted (W : Wd P K mg) : mg "sorted" = none := let ⟨_, X, G⟩ := W.heap; He.free_ok X G (W.says.d.fact 82 (f := .free "sorted") rfl)
theorem b_sum (W : Wd P K mg) : mg "sum" = none := let ⟨_, X, G⟩ := W.heap; He.free_ok X G (W.says.d.fact 83 (f := .free "sum") rfl)
theorem b_zip (W : Wd P K mg) : mg "zip" = none := let ⟨_, X, G⟩ := W.heap; He.free_ok X G (W.says.d.fact 84 (f := .free "zip") rfl)
theorem b_bool (W : Wd P K mg) : mg "bool" = none := let ⟨_, X, G⟩ := W.heap; He.free_ok X G (W.says.d.fact 85 (f := .free "bool") rfl)
theorem b_str (W : Wd P K mg) : mg "str" = none := let ⟨_, X, G⟩ := W.heap; He.free_ok X G (W.says.d.fact 86 (f := .free "str") rfl)
theorem b_list (W : Wd P K mg) : mg "list" = none := let ⟨_, X, G⟩ := W.heap; He.free_ok X G (W.says.d.fact 87 (f := .free "list") rfl)
theorem m_TooGreat (W : Wd P K mg) : PySem.W.exmOne K (.ref (He.ga K "TooGreat")) (.ref (He.ga K "TooGreat")) = some true := He.exm_ok (W.says.d.fact 88 (f := .exm "TooGreat" "TooGreat" true) rfl)
theorem cls_Stands (W : Wd P K mg) : Cls K (He.ga K "Stands") := He.cls_ok (W.says.d.fact 89 (f := .cls "Stands") rfl)
theorem mk_Stands (W : Wd P K mg) : Mk K (He.ga K "Stands") (He.ma K (He.ga K "Stands") "__init__") := He.mkr_ok (W.says.d.fact 90 (f := .mkr "Stands") rfl)
theorem na_Stands_lines (W : Wd P K mg) : NoAttr K (He.ga K "Stands") "lines" := He.noat_ok (W.says.d.fact 91 (f := .noat "Stands" "lines") rfl)
theorem na_Stands_letters (W : Wd P K mg) : NoAttr K (He.ga K "Stands") "letters" := He.noat_ok (W.says.d.fact 92 (f := .noat "Stands" "letters") rfl)
theorem na_Stands_order (W : Wd P K mg) : NoAttr K (He.ga K "Stands") "order" := He.noat_ok (W.says.d.fact 93 (f := .noat "Stands" "order") rfl)
theorem na_Stands_texts (W : Wd P K mg) : NoAttr K (He.ga K "Stands") "texts" := He.noat_ok (W.says.d.fact 94 (f := .noat "Stands" "texts") rfl)
theorem na_Stands_numbers (W : Wd P K mg) : NoAttr K (He.ga K "Stands") "numbers" := He.noat_ok (W.says.d.fact 95 (f := .noat "Stands" "numbers") rfl)
theorem na_Stands_table (W : Wd P K mg) : NoAttr K (He.ga K "Stands") "table" := He.noat_ok (W.says.d.fact 96 (f := .noat "Stands" "table") rfl)
theorem mt_Stands_step_of (W : Wd P K mg) : Meth K (He.ga K "Stands") "step_of" (He.ma K (He.ga K "Stands") "step_of") := He.meth_ok (W.says.d.fact 97 (f := .meth "Stands" "step_of") rfl)
theorem k_LETTERS_BY (W : Wd P K mg) : Cst K mg "LETTERS_BY" c_LETTERS_BY := by
  have h := W.says.more
  unfold Sc.ex at h
  simp only [Bool.and_eq_true] at h
  obtain ⟨_, X, G⟩ := W.heap
  exact cst_ok X G h.1.1.1.1.1.1.1
theorem k_MOST_PLACES (W : Wd P K mg) : Cst K mg "MOST_PLACES" c_MOST_PLACES := by
  have h := W.says.more
  unfold Sc.ex at h
  simp only [Bool.and_eq_true] at h
  obtain ⟨_, X, G⟩ := W.heap
  exact cst_ok X G h.1.1.1.1.1.1.2
theorem k_MOST_STATES (W : Wd P K mg) : Cst K mg "MOST_STATES" c_MOST_STATES := by
  have h := W.says.more
  unfold Sc.ex at h
  simp only [Bool.and_eq_true] at h
  obtain ⟨_, X, G⟩ := W.heap
  exact cst_ok X G h.1.1.1.1.1.2
theorem k_MOST_LINES (W : Wd P K mg) : Cst K mg "MOST_LINES" c_MOST_LINES := by
  have h := W.says.more
  unfold Sc.ex at h
  simp only [Bool.and_eq_true] at h
  obtain ⟨_, X, G⟩ := W.heap
  exact cst_ok X G h.1.1.1.1.2
theorem k_PLUS (W : Wd P K mg) : Cst K mg "PLUS" c_PLUS := by
  have h := W.says.more
  unfold Sc.ex at h
  simp only [Bool.and_eq_true] at h
  obtain ⟨_, X, G⟩ := W.heap
  exact cst_ok X G h.1.1.1.2
theorem k_PAIRED (W : Wd P K mg) : Cst K mg "PAIRED" c_PAIRED := by
  have h := W.says.more
  unfold Sc.ex at h
  simp only [Bool.and_eq_true] at h
  obtain ⟨_, X, G⟩ := W.heap
  exact cst_ok X G h.1.1.2
theorem k_MOST_STANDS (W : Wd P K mg) : Cst K mg "MOST_STANDS" c_MOST_STANDS := by
  have h := W.says.more
  unfold Sc.ex at h
  simp only [Bool.and_eq_true] at h
  obtain ⟨_, X, G⟩ := W.heap
  exact cst_ok X G h.1.2
theorem sup_TooGreat (W : Wd P K mg) : supB K pfile "TooGreat" "most" = true := by
  have h := W.says.more
  unfold Sc.ex at h
  simp only [Bool.and_eq_true] at h
  exact h.2
theorem ini_TooGreat (W : Wd P K mg) : idatOf K "TooGreat" = some (("__init__" : Str), ("TooGreat.__init__" : Str), defArgs (inClass (top 2) 0), defBody (inClass (top 2) 0), defScope (inClass (top 2) 0)) := by
  have h := congrArg (fun l : List IDat => l[0]?) W.says.ini
  exact Option.some.inj h
theorem sc_TooGreat : NdefX.NScope ["self", "most", "__class__"] ["self", "most"] ["__class__"] (defScope (inClass (top 2) 0)) := NdefX.nscope_by (by decide +kernel)
theorem x_TooGreat {X : Cx} (W : Wd X.prog X.K X.mg) (hr : Room 2 X.A) (hg : Gl X "TooGreat" := by rfl) : XMk X "TooGreat" 1 := by
  obtain ⟨F, fd, e1, e2, e3, e4, e5, D, iC, hno, tI, hfd, doc, pm, ctv, efd⟩ := supB_ok (sup_TooGreat W) (ini_TooGreat W) W.file
  obtain ⟨fnm, fql, fps, fb, fsc, fcl, fc⟩ := F
  dsimp only at e1 e2 e3 e4 e5
  subst e1 e2 e3 e4 e5
  refine xmk_sup (k := 1) (sf := "self") (y := "most") (f := "most") D.oex iC tI (fn_sup D hno W.nosup rfl sc_TooGreat rfl (b_super W) (by decide) (by decide) (by decide) (by decide) rfl (fun _ => rfl) (fun _ => rfl) (fun _ => rfl) (fun _ => rfl) hfd) hr ?_ hg (g_TooGreat W) (by decide)
  subst efd
  intro s us hk hl
  match us, hl with
  | [_, _], _ => exact .of_eq rfl
end
theorem hu64 {k : Nat} {A : Around} (hr : Room k A) : A.units + 64 < cLine := Nat.lt_of_le_of_lt (by omega) hr.un
theorem hu16 {k : Nat} {A : Around} (hr : Room k A) : A.units + 16 < cLine := Nat.lt_of_le_of_lt (by omega) hr.un
theorem hu1 {k : Nat} {A : Around} (hr : Room k A) : A.units + 1 < cLine := Nat.lt_of_le_of_lt (by omega) hr.un
end Sc
set_option maxRecDepth 100000
set_option maxHeartbeats 0
namespace Sc
open PySem PySem.Spec PyProof.Rows L2
abbrev R : PySem.W.OpenRow := PySem.W.OpenLaw.row PySem.Challenge.rw_scanadds_k79_whole_texts_in_blocks
abbrev hk : PySem.W.Hook := hookY fa fn ex xs ds
def obK (s : PySem.W.SharedT) : AlX := obsY fa fn ex xs (HandSHeadRun.getT s) s.n
theorem obK_eq (s : PySem.W.SharedT) : obK s = hk.obs s.abs := obsY_eq s
theorem run1 (w : World) (os : OsState) : (HandSHeadRun.endF (HandSHeadRun.stepQ (HandSHeadRun.denQ HandSHeadRun.tabQ) R.prog w) 8000 R.prog w os).map (fun s => HandSHeadRun.looksF R.prog (PySem.W.boot_heap w.params) s.abs) = some true := by kernel_rfl
theorem run2 (w : World) (os : OsState) : (HandSHeadRun.endF (HandSHeadRun.stepQ (HandSHeadRun.denQ HandSHeadRun.tabQ) R.prog w) 8000 R.prog w os).map (fun s => HandSHeadRun.seenQ (PySem.W.view R.prog [88]) loose (importedModules R.prog.main.body) (fun s => PySem.W.xlAt (PySem.W.view R.prog [88]) [] s && PySem.W.recOk R.toRowW.records s) s.abs) = some (PySem.W.openGood (PySem.W.view R.prog [88]) loose) := by kernel_rfl
theorem run3 (w : World) (os : OsState) : (HandSHeadRun.endF (HandSHeadRun.stepQ (HandSHeadRun.denQ HandSHeadRun.tabQ) R.prog w) 8000 R.prog w os).map obK = some (hk.val w) := by kernel_rfl
theorem run (w : World) : HandSHeadRun.RunEq R (PySem.W.view R.prog [88]) hk obK 8000 loose w := fun os => map3 (run1 w os) (run2 w os) (run3 w os)
end Sc
set_option maxRecDepth 100000
set_option maxHeartbeats 0
namespace Sc
open PySem PySem.Spec PyProof.Rows L2
abbrev N_is_integer : List Str := ["value"]
theorem sc_is_integer : FnScope N_is_integer ["value"] (defScope (top 11)) := ⟨rfl, rfl, rfl, by decide +kernel, rfl, by decide +kernel, by decide +kernel⟩
theorem ok_is_integer {P : Program} {w : World} {K : PySem.W.Frag} {mg : Str → Option Value} {base : Heap} (W : Wd P K mg) : Cal P w K mg base 1 "is_integer" ["value"] (spF K 1 R_is_integer) := by
  obtain ⟨fd, F⟩ := W.says.d.def_ 0 (d := d_is_integer) rfl
  refine ⟨⟨fd, fn_D F sc_is_integer (fun cdv A outer s H E hr => ?_), F.bindsN (fun _ _ _ _ _ _ us hl => match us, hl with | [_], _ => rfl)⟩, g_is_integer W, F.kp⟩
  · exact ds_one (ds_ret (de_and (de_isi (de_name 0) (b_isinstance W) (b_int W) (by decide +kernel)) (de_one (de_not (de_isi (de_name 0) (b_isinstance W) (b_bool W) (by decide +kernel))))))
abbrev N_is_within : List Str := ["value", "least", "most"]
theorem sc_is_within : FnScope N_is_within ["value", "least", "most"] (defScope (top 12)) := ⟨rfl, rfl, rfl, by decide +kernel, rfl, by decide +kernel, by decide +kernel⟩
theorem ok_is_within {P : Program} {w : World} {K : PySem.W.Frag} {mg : Str → Option Value} {base : Heap} (W : Wd P K mg) : Cal P w K mg base 2 "is_within" ["value", "least", "most"] (spF K 3 R_is_within) := by
  obtain ⟨fd, F⟩ := W.says.d.def_ 1 (d := d_is_within) rfl
  refine ⟨⟨fd, fn_D F sc_is_within (fun cdv A outer s H E hr => ?_), F.bindsN (fun _ _ _ _ _ _ us hl => match us, hl with | [_, _, _], _ => rfl)⟩, g_is_within W, F.kp⟩
  · exact ds_one (ds_ret (de_and (de_call (ok_is_integer W) (hr.mono (by decide)) (da_cons (de_name 0) (da_nil))) (de_one (de_chain op_le op_le (de_name 1) (de_name 0) (de_name 2)))))
abbrev N_need_text_of : List Str := ["bits", "text", "place", "letter"]
theorem sc_need_text_of : FnScope N_need_text_of ["bits", "text"] (defScope (top 13)) := ⟨rfl, rfl, rfl, by decide +kernel, rfl, by decide +kernel, by decide +kernel⟩
theorem ok_need_text_of {P : Program} {w : World} {K : PySem.W.Frag} {mg : Str → Option Value} {base : Heap} (W : Wd P K mg) : Cal P w K mg base 3 "need_text_of" ["bits", "text"] (spF K 2 R_need_text_of) := by
  obtain ⟨fd, F⟩ := W.says.d.def_ 2 (d := d_need_text_of) rfl
  refine ⟨⟨fd, fn_D F sc_need_text_of (fun cdv A outer s H E hr => ?_), F.bindsN (fun _ _ _ _ _ _ us hl => match us, hl with | [_, _], _ => rfl)⟩, g_need_text_of W, F.kp⟩
  · exact ds_cons (ds_if (dt_w (dw_or (dt_not (dt_val (de_isi (de_name 1) (b_isinstance W) (b_tuple W) (by decide +kernel)))) (dw_or1 (dt_gt (de_len (b_len W) (de_name 1)) (de_cst (k_MOST_PLACES W)))))) (ds_one (ds_never)) (ds_nil)) (ds_one (ds_for (passes_of rfl) rfl (di_enum (de_name 1) (b_enumerate W)) (dg_tup rfl (dgs_cons (dg_name 2 sc_need_text_of.nd rfl (by first | exact Or.inl rfl | exact Or.inr rfl)) (dgs_cons (dg_name 3 sc_need_text_of.nd rfl (by first | exact Or.inl rfl | exact Or.inr rfl)) (dgs_nil)))) (ds_one (ds_if (dt_not (dt_val (de_call (ok_is_within W) (hr.mono (by decide)) (da_cons (de_name 3) (da_cons (de_int) (da_cons (de_sub (de_ix (de_cst (k_LETTERS_BY W)) (de_name 0)) (de_int)) (da_nil))))))) (ds_one (ds_never)) (ds_nil)))))
abbrev N_is_text_of : List Str := ["bits", "value", "letter"]
theorem sc_is_text_of : FnScope N_is_text_of ["bits", "value"] (defScope (top 14)) := ⟨rfl, rfl, rfl, by decide +kernel, rfl, by decide +kernel, by decide +kernel⟩
theorem ok_is_text_of {P : Program} {w : World} {K : PySem.W.Frag} {mg : Str → Option Value} {base : Heap} (W : Wd P K mg) : Cal P w K mg base 3 "is_text_of" ["bits", "value"] (spF K 2 R_is_text_of) := by
  obtain ⟨fd, F⟩ := W.says.d.def_ 3 (d := d_is_text_of) rfl
  refine ⟨⟨fd, fn_D F sc_is_text_of (fun cdv A outer s H E hr => ?_), F.bindsN (fun _ _ _ _ _ _ us hl => match us, hl with | [_, _], _ => rfl)⟩, g_is_text_of W, F.kp⟩
  · exact ds_cons (ds_if (dt_w (dw_or (dt_not (dt_val (de_isi (de_name 1) (b_isinstance W) (b_tuple W) (by decide +kernel)))) (dw_or1 (dt_gt (de_len (b_len W) (de_name 1)) (de_cst (k_MOST_PLACES W)))))) (ds_one (ds_ret (de_bl))) (ds_nil)) (ds_one (ds_ret (de_all rfl (b_all W) (de_lc (own := [("letter", 2)]) rfl sc_is_text_of.nd (di_seq (de_name 1)) (blkOk_by (N := N_is_text_of) (by kernel_rfl)) (fun _ _ _ _ _ => dg_name 2 sc_is_text_of.nd rfl (by first | exact Or.inl rfl | exact Or.inr rfl)) (fun _ _ _ _ _ => dts_nil) (fun _ _ _ _ _ => de_call (ok_is_within W) (hr.mono (by decide)) (da_cons (de_name 2) (da_cons (de_int) (da_cons (de_sub (de_ix (de_cst (k_LETTERS_BY W)) (de_name 0)) (de_int)) (da_nil)))))))))
abbrev N_bit_row : List Str := ["text", "number", "letter"]
theorem sc_bit_row : FnScope N_bit_row ["text", "number"] (defScope (top 15)) := ⟨rfl, rfl, rfl, by decide +kernel, rfl, by decide +kernel, by decide +kernel⟩
theorem ok_bit_row {P : Program} {w : World} {K : PySem.W.Frag} {mg : Str → Option Value} {base : Heap} (W : Wd P K mg) : Cal P w K mg base 1 "bit_row" ["text", "number"] (spF K 2 R_bit_row) := by
  obtain ⟨fd, F⟩ := W.says.d.def_ 4 (d := d_bit_row) rfl
  refine ⟨⟨fd, fn_D F sc_bit_row (fun cdv A outer s H E hr => ?_), F.bindsN (fun _ _ _ _ _ _ us hl => match us, hl with | [_, _], _ => rfl)⟩, g_bit_row W, F.kp⟩
  · exact ds_one (ds_ret (de_tuple (b_tuple W) (de_lc (own := [("letter", 2)]) rfl sc_bit_row.nd (di_seq (de_name 0)) (blkOk_by (N := N_bit_row) (by kernel_rfl)) (fun _ _ _ _ _ => dg_name 2 sc_bit_row.nd rfl (by first | exact Or.inl rfl | exact Or.inr rfl)) (fun _ _ _ _ _ => dts_nil) (fun _ _ _ _ _ => de_mod (de_div (de_name 2) (de_ix (de_cst (k_LETTERS_BY W)) (de_name 1))) (de_int)))))
abbrev N_is_step : List Str := ["value", "states"]
theorem sc_is_step : FnScope N_is_step ["value", "states"] (defScope (top 18)) := ⟨rfl, rfl, rfl, by decide +kernel, rfl, by decide +kernel, by decide +kernel⟩
theorem ok_is_step {P : Program} {w : World} {K : PySem.W.Frag} {mg : Str → Option Value} {base : Heap} (W : Wd P K mg) : Cal P w K mg base 3 "is_step" ["value", "states"] (spF K 2 R_is_step) := by
  obtain ⟨fd, F⟩ := W.says.d.def_ 5 (d := d_is_step) rfl
  refine ⟨⟨fd, fn_D F sc_is_step (fun cdv A outer s H E hr => ?_), F.bindsN (fun _ _ _ _ _ _ us hl => match us, hl with | [_, _], _ => rfl)⟩, g_is_step W, F.kp⟩
  · exact ds_cons (ds_if (dt_w (dw_or (dt_not (dt_val (de_isi (de_name 0) (b_isinstance W) (b_tuple W) (by decide +kernel)))) (dw_or1 (dt_ne (hu64 hr) (de_len (b_len W) (de_name 0)) (de_int))))) (ds_one (ds_ret (de_bl))) (ds_nil)) (ds_one (ds_ret (de_and (de_call (ok_is_within W) (hr.mono (by decide)) (da_cons (de_ix (de_name 0) (de_int)) (da_cons (de_int) (da_cons (de_int) (da_nil))))) (de_one (de_call (ok_is_within W) (hr.mono (by decide)) (da_cons (de_ix (de_name 0) (de_int)) (da_cons (de_int) (da_cons (de_sub (de_name 1) (de_int)) (da_nil)))))))))
abbrev N_need_steps : List Str := ["bits", "table", "state", "row", "letter", "step"]
theorem sc_need_steps : FnScope N_need_steps ["bits", "table", "state"] (defScope (top 19)) := ⟨rfl, rfl, rfl, by decide +kernel, rfl, by decide +kernel, by decide +kernel⟩
theorem ok_need_steps {P : Program} {w : World} {K : PySem.W.Frag} {mg : Str → Option Value} {base : Heap} (W : Wd P K mg) : Cal P w K mg base 4 "need_steps" ["bits", "table", "state"] (spF K 3 R_need_steps) := by
  obtain ⟨fd, F⟩ := W.says.d.def_ 6 (d := d_need_steps) rfl
  refine ⟨⟨fd, fn_D F sc_need_steps (fun cdv A outer s H E hr => ?_), F.bindsN (fun _ _ _ _ _ _ us hl => match us, hl with | [_, _, _], _ => rfl)⟩, g_need_steps W, F.kp⟩
  · exact ds_cons (ds_set (i := 3) (de_ix (de_name 1) (de_name 2)) sc_need_steps.nd rfl (by first | exact Or.inl rfl | exact Or.inr rfl)) (ds_cons (ds_if (dt_w (dw_or (dt_not (dt_val (de_isi (de_name 3) (b_isinstance W) (b_tuple W) (by decide +kernel)))) (dw_or1 (dt_ne (hu64 hr) (de_len (b_len W) (de_name 3)) (de_ix (de_cst (k_LETTERS_BY W)) (de_name 0)))))) (ds_one (ds_never)) (ds_nil)) (ds_one (ds_for (passes_of rfl) rfl (di_enum (de_name 3) (b_enumerate W)) (dg_tup rfl (dgs_cons (dg_name 4 sc_need_steps.nd rfl (by first | exact Or.inl rfl | exact Or.inr rfl)) (dgs_cons (dg_name 5 sc_need_steps.nd rfl (by first | exact Or.inl rfl | exact Or.inr rfl)) (dgs_nil)))) (ds_one (ds_if (dt_not (dt_val (de_call (ok_is_step W) (hr.mono (by decide)) (da_cons (de_name 5) (da_cons (de_len (b_len W) (de_name 1)) (da_nil)))))) (ds_one (ds_never)) (ds_nil))))))
abbrev N_need_scanner : List Str := ["scanner", "bits", "table", "state"]
theorem sc_need_scanner : FnScope N_need_scanner ["scanner"] (defScope (top 20)) := ⟨rfl, rfl, rfl, by decide +kernel, rfl, by decide +kernel, by decide +kernel⟩
theorem ok_need_scanner {P : Program} {w : World} {K : PySem.W.Frag} {mg : Str → Option Value} {base : Heap} (W : Wd P K mg) : Cal P w K mg base 5 "need_scanner" ["scanner"] (spF K 1 R_need_scanner) := by
  obtain ⟨fd, F⟩ := W.says.d.def_ 7 (d := d_need_scanner) rfl
  refine ⟨⟨fd, fn_D F sc_need_scanner (fun cdv A outer s H E hr => ?_), F.bindsN (fun _ _ _ _ _ _ us hl => match us, hl with | [_], _ => rfl)⟩, g_need_scanner W, F.kp⟩
  · exact ds_cons (ds_if (dt_w (dw_or (dt_not (dt_val (de_isi (de_name 0) (b_isinstance W) (b_tuple W) (by decide +kernel)))) (dw_or1 (dt_ne (hu64 hr) (de_len (b_len W) (de_name 0)) (de_int))))) (ds_one (ds_never)) (ds_nil)) (ds_cons (ds_asg (de_name 0) (dg_tup rfl (dgs_cons (dg_name 1 sc_need_scanner.nd rfl (by first | exact Or.inl rfl | exact Or.inr rfl)) (dgs_cons (dg_name 2 sc_need_scanner.nd rfl (by first | exact Or.inl rfl | exact Or.inr rfl)) (dgs_nil))))) (ds_cons (ds_if (dt_not (dt_val (de_call (ok_is_within W) (hr.mono (by decide)) (da_cons (de_name 1) (da_cons (de_int) (da_cons (de_int) (da_nil))))))) (ds_one (ds_never)) (ds_nil)) (ds_cons (ds_if (dt_w (dw_or (dt_not (dt_val (de_isi (de_name 2) (b_isinstance W) (b_tuple W) (by decide +kernel)))) (dw_or1 (dt_not (dt_chain op_le op_le (de_int) (de_len (b_len W) (de_name 2)) (de_cst (k_MOST_STATES W))))))) (ds_one (ds_never)) (ds_nil)) (ds_cons (ds_for (passes_of rfl) rfl (di_rng1 (de_len (b_len W) (de_name 2)) (b_range W)) (dg_name 3 sc_need_scanner.nd rfl (by first | exact Or.inl rfl | exact Or.inr rfl)) (ds_one (ds_drop (de_call (ok_need_steps W) (hr.mono (by decide)) (da_cons (de_name 1) (da_cons (de_name 2) (da_cons (de_name 3) (da_nil)))))))) (ds_one (ds_ret (de_name 0)))))))
abbrev N_need_state : List Str := ["scanner", "state"]
theorem sc_need_state : FnScope N_need_state ["scanner", "state"] (defScope (top 21)) := ⟨rfl, rfl, rfl, by decide +kernel, rfl, by decide +kernel, by decide +kernel⟩
theorem ok_need_state {P : Program} {w : World} {K : PySem.W.Frag} {mg : Str → Option Value} {base : Heap} (W : Wd P K mg) : Cal P w K mg base 3 "need_state" ["scanner", "state"] (spF K 2 R_need_state) := by
  obtain ⟨fd, F⟩ := W.says.d.def_ 8 (d := d_need_state) rfl
  refine ⟨⟨fd, fn_D F sc_need_state (fun cdv A outer s H E hr => ?_), F.bindsN (fun _ _ _ _ _ _ us hl => match us, hl with | [_, _], _ => rfl)⟩, g_need_state W, F.kp⟩
  · exact ds_one (ds_if (dt_not (dt_val (de_call (ok_is_within W) (hr.mono (by decide)) (da_cons (de_name 1) (da_cons (de_int) (da_cons (de_sub (de_len (b_len W) (de_ix (de_name 0) (de_int))) (de_int)) (da_nil))))))) (ds_one (ds_never)) (ds_nil))
abbrev N_way_of : List Str := ["table", "state", "text", "found", "here", "letter", "mark"]
theorem sc_way_of : FnScope N_way_of ["table", "state", "text"] (defScope (top 22)) := ⟨rfl, rfl, rfl, by decide +kernel, rfl, by decide +kernel, by decide +kernel⟩
theorem ok_way_of {P : Program} {w : World} {K : PySem.W.Frag} {mg : Str → Option Value} {base : Heap} (W : Wd P K mg) : Cal P w K mg base 1 "way_of" ["table", "state", "text"] (spF K 3 R_way_of) := by
  obtain ⟨fd, F⟩ := W.says.d.def_ 9 (d := d_way_of) rfl
  refine ⟨⟨fd, fn_D F sc_way_of (fun cdv A outer s H E hr => ?_), F.bindsN (fun _ _ _ _ _ _ us hl => match us, hl with | [_, _, _], _ => rfl)⟩, g_way_of W, F.kp⟩
  · exact ds_cons (ds_par (i := 3) (j := 4) rfl sc_way_of.nd rfl rfl (by decide) rfl rfl (de_lst (di_nil)) (de_name 1) rfl) (ds_cons (ds_for (passes_of rfl) rfl (di_seq (de_name 2)) (dg_name 5 sc_way_of.nd rfl (by first | exact Or.inl rfl | exact Or.inr rfl)) (ds_cons (ds_asg (de_ix (de_ix (de_name 0) (de_name 4)) (de_name 5)) (dg_tup rfl (dgs_cons (dg_name 6 sc_way_of.nd rfl (by first | exact Or.inl rfl | exact Or.inr rfl)) (dgs_cons (dg_name 4 sc_way_of.nd rfl (by first | exact Or.inl rfl | exact Or.inr rfl)) (dgs_nil))))) (ds_one (ds_drop (de_app 3 (de_name 6)))))) (ds_one (ds_ret (de_tup (di_cons (de_tuple (b_tuple W) (de_name 3)) (di_cons (de_name 4) (di_nil)))))))
abbrev N_need_asked : List Str := ["scanner", "state", "text"]
theorem sc_need_asked : FnScope N_need_asked ["scanner", "state", "text"] (defScope (top 23)) := ⟨rfl, rfl, rfl, by decide +kernel, rfl, by decide +kernel, by decide +kernel⟩
theorem ok_need_asked {P : Program} {w : World} {K : PySem.W.Frag} {mg : Str → Option Value} {base : Heap} (W : Wd P K mg) : Cal P w K mg base 6 "need_asked" ["scanner", "state", "text"] (spF K 3 R_need_asked) := by
  obtain ⟨fd, F⟩ := W.says.d.def_ 10 (d := d_need_asked) rfl
  refine ⟨⟨fd, fn_D F sc_need_asked (fun cdv A outer s H E hr => ?_), F.bindsN (fun _ _ _ _ _ _ us hl => match us, hl with | [_, _, _], _ => rfl)⟩, g_need_asked W, F.kp⟩
  · exact ds_cons (ds_drop (de_call (ok_need_scanner W) (hr.mono (by decide)) (da_cons (de_name 0) (da_nil)))) (ds_cons (ds_drop (de_call (ok_need_state W) (hr.mono (by decide)) (da_cons (de_name 0) (da_cons (de_name 1) (da_nil))))) (ds_one (ds_drop (de_call (ok_need_text_of W) (hr.mono (by decide)) (da_cons (de_ix (de_name 0) (de_int)) (da_cons (de_name 2) (da_nil)))))))
abbrev N_end_state : List Str := ["scanner", "text"]
theorem sc_end_state : FnScope N_end_state ["scanner", "text"] (defScope (top 24)) := ⟨rfl, rfl, rfl, by decide +kernel, rfl, by decide +kernel, by decide +kernel⟩
theorem ok_end_state {P : Program} {w : World} {K : PySem.W.Frag} {mg : Str → Option Value} {base : Heap} (W : Wd P K mg) : Cal P w K mg base 6 "end_state" ["scanner", "text"] (spF K 2 R_end_state) := by
  obtain ⟨fd, F⟩ := W.says.d.def_ 11 (d := d_end_state) rfl
  refine ⟨⟨fd, fn_D F sc_end_state (fun cdv A outer s H E hr => ?_), F.bindsN (fun _ _ _ _ _ _ us hl => match us, hl with | [_, _], _ => rfl)⟩, g_end_state W, F.kp⟩
  · exact ds_cons (ds_drop (de_call (ok_need_scanner W) (hr.mono (by decide)) (da_cons (de_name 0) (da_nil)))) (ds_cons (ds_drop (de_call (ok_need_text_of W) (hr.mono (by decide)) (da_cons (de_ix (de_name 0) (de_int)) (da_cons (de_name 1) (da_nil))))) (ds_one (ds_ret (de_ix (de_call (ok_way_of W) (hr.mono (by decide)) (da_cons (de_ix (de_name 0) (de_int)) (da_cons (de_int) (da_cons (de_name 1) (da_nil))))) (de_int)))))
abbrev N_marks_from : List Str := ["scanner", "state", "text"]
theorem sc_marks_from : FnScope N_marks_from ["scanner", "state", "text"] (defScope (top 25)) := ⟨rfl, rfl, rfl, by decide +kernel, rfl, by decide +kernel, by decide +kernel⟩
theorem ok_marks_from {P : Program} {w : World} {K : PySem.W.Frag} {mg : Str → Option Value} {base : Heap} (W : Wd P K mg) : Cal P w K mg base 7 "marks_from" ["scanner", "state", "text"] (spF K 3 R_marks_from) := by
  obtain ⟨fd, F⟩ := W.says.d.def_ 12 (d := d_marks_from) rfl
  refine ⟨⟨fd, fn_D F sc_marks_from (fun cdv A outer s H E hr => ?_), F.bindsN (fun _ _ _ _ _ _ us hl => match us, hl with | [_, _, _], _ => rfl)⟩, g_marks_from W, F.kp⟩
  · exact ds_cons (ds_drop (de_call (ok_need_asked W) (hr.mono (by decide)) (da_cons (de_name 0) (da_cons (de_name 1) (da_cons (de_name 2) (da_nil)))))) (ds_one (ds_ret (de_ix (de_call (ok_way_of W) (hr.mono (by decide)) (da_cons (de_ix (de_name 0) (de_int)) (da_cons (de_name 1) (da_cons (de_name 2) (da_nil))))) (de_int))))
abbrev N_end_from : List Str := ["scanner", "state", "text"]
theorem sc_end_from : FnScope N_end_from ["scanner", "state", "text"] (defScope (top 26)) := ⟨rfl, rfl, rfl, by decide +kernel, rfl, by decide +kernel, by decide +kernel⟩
theorem ok_end_from {P : Program} {w : World} {K : PySem.W.Frag} {mg : Str → Option Value} {base : Heap} (W : Wd P K mg) : Cal P w K mg base 7 "end_from" ["scanner", "state", "text"] (spF K 3 R_end_from) := by
  obtain ⟨fd, F⟩ := W.says.d.def_ 13 (d := d_end_from) rfl
  refine ⟨⟨fd, fn_D F sc_end_from (fun cdv A outer s H E hr => ?_), F.bindsN (fun _ _ _ _ _ _ us hl => match us, hl with | [_, _, _], _ => rfl)⟩, g_end_from W, F.kp⟩
  · exact ds_cons (ds_drop (de_call (ok_need_asked W) (hr.mono (by decide)) (da_cons (de_name 0) (da_cons (de_name 1) (da_cons (de_name 2) (da_nil)))))) (ds_one (ds_ret (de_ix (de_call (ok_way_of W) (hr.mono (by decide)) (da_cons (de_ix (de_name 0) (de_int)) (da_cons (de_name 1) (da_cons (de_name 2) (da_nil))))) (de_int))))
abbrev N_lot_levels : List Str := ["table", "most", "levels", "ahead", "numbers", "later", "row", "key", "mark", "there"]
theorem sc_lot_levels : FnScope N_lot_levels ["table", "most"] (defScope (top 28)) := ⟨rfl, rfl, rfl, by decide +kernel, rfl, by decide +kernel, by decide +kernel⟩
theorem ok_lot_levels {P : Program} {w : World} {K : PySem.W.Frag} {mg : Str → Option Value} {base : Heap} (W : Wd P K mg) : Cal P w K mg base 1 "lot_levels" ["table", "most"] (spF K 2 R_lot_levels) := by
  obtain ⟨fd, F⟩ := W.says.d.def_ 14 (d := d_lot_levels) rfl
  refine ⟨⟨fd, fn_D F sc_lot_levels (fun cdv A outer s H E hr => ?_), F.bindsN (fun _ _ _ _ _ _ us hl => match us, hl with | [_, _], _ => rfl)⟩, g_lot_levels W, F.kp⟩
  · exact ds_cons (ds_set (i := 2) (de_lst (di_cons (de_mul (de_lst (di_cons (de_int) (di_nil))) (de_len (b_len W) (de_name 0))) (di_nil))) sc_lot_levels.nd rfl (by first | exact Or.inl rfl | exact Or.inr rfl)) (ds_one (ds_while (passes_of rfl) (dt_val (de_bl)) (ds_cons (ds_parT3 (i := 3) (j := 4) (l := 5) rfl sc_lot_levels.nd rfl rfl rfl (by decide) (by decide) (by decide) (pg_name (i := 3) sc_lot_levels.nd rfl (by first | exact Or.inl rfl | exact Or.inr rfl)) (pg_name (i := 4) sc_lot_levels.nd rfl (by first | exact Or.inl rfl | exact Or.inr rfl)) (pg_name (i := 5) sc_lot_levels.nd rfl (by first | exact Or.inl rfl | exact Or.inr rfl)) (de_ix (de_name 2) (de_neg (de_int))) (de_dnew) (de_lst (di_nil))) (ds_cons (ds_for (passes_of rfl) rfl (di_seq (de_name 0)) (dg_name 6 sc_lot_levels.nd rfl (by first | exact Or.inl rfl | exact Or.inr rfl)) (ds_cons (ds_set (i := 7) (de_tuple (b_tuple W) (de_lc (own := [("mark", 8), ("there", 9)]) rfl sc_lot_levels.nd (di_seq (de_name 6)) (blkOk_by (N := N_lot_levels) (by kernel_rfl)) (fun _ _ _ _ _ => dg_tup rfl (dgs_cons (dg_name 8 sc_lot_levels.nd rfl (by first | exact Or.inl rfl | exact Or.inr rfl)) (dgs_cons (dg_name 9 sc_lot_levels.nd rfl (by first | exact Or.inl rfl | exact Or.inr rfl)) (dgs_nil)))) (fun _ _ _ _ _ => dts_nil) (fun _ _ _ _ _ => de_tup (di_cons (de_name 8) (di_cons (de_ix (de_name 3) (de_name 9)) (di_nil)))))) sc_lot_levels.nd rfl (by first | exact Or.inl rfl | exact Or.inr rfl)) (ds_cons (ds_if (dt_tnin 4 (hu16 hr) (de_name 7)) (ds_one (ds_tst 4 (hu16 hr) (de_name 7) (de_tlen 4 (b_len W)))) (ds_nil)) (ds_one (ds_drop (de_app 5 (de_tget 4 (hu16 hr) (de_name 7)))))))) (ds_cons (ds_if (dt_eq (hu64 hr) (de_tlen 4 (b_len W)) (de_add (de_int) (de_max1 rfl (b_max W) (de_name 3)))) (ds_one (ds_ret (de_name 2))) (ds_nil)) (ds_cons (ds_drop (de_app 2 (de_name 5))) (ds_one (ds_if (dt_gt (de_tlen 4 (b_len W)) (de_name 1)) (ds_one (ds_ret (de_name 2))) (ds_nil)))))))))
abbrev N_least_table : List Str := ["table", "numbers", "found", "waiting", "at", "mark", "there", "state"]
theorem sc_least_table : FnScope N_least_table ["table", "numbers"] (defScope (top 30)) := ⟨rfl, rfl, rfl, by decide +kernel, rfl, by decide +kernel, by decide +kernel⟩
theorem ok_least_table {P : Program} {w : World} {K : PySem.W.Frag} {mg : Str → Option Value} {base : Heap} (W : Wd P K mg) : Cal P w K mg base 1 "least_table" ["table", "numbers"] (spF K 2 R_least_table) := by
  obtain ⟨fd, F⟩ := W.says.d.def_ 15 (d := d_least_table) rfl
  refine ⟨⟨fd, fn_D F sc_least_table (fun cdv A outer s H E hr => ?_), F.bindsN (fun _ _ _ _ _ _ us hl => match us, hl with | [_, _], _ => rfl)⟩, g_least_table W, F.kp⟩
  · exact ds_cons (ds_parT3 (i := 2) (j := 3) (l := 4) rfl sc_least_table.nd rfl rfl rfl (by decide) (by decide) (by decide) (pg_name (i := 2) sc_least_table.nd rfl (by first | exact Or.inl rfl | exact Or.inr rfl)) (pg_name (i := 3) sc_least_table.nd rfl (by first | exact Or.inl rfl | exact Or.inr rfl)) (pg_name (i := 4) sc_least_table.nd rfl (by first | exact Or.inl rfl | exact Or.inr rfl)) (de_disp (dps_cons (de_ix (de_name 1) (de_int)) (de_int) (dps_nil))) (de_lst (di_cons (de_int) (di_nil))) (de_int)) (ds_cons (ds_while (passes_of rfl) (dt_lt (de_name 4) (de_len (b_len W) (de_name 3))) (ds_cons (ds_for (passes_of rfl) rfl (di_seq (de_ix (de_name 0) (de_ix (de_name 3) (de_name 4)))) (dg_tup rfl (dgs_cons (dg_name 5 sc_least_table.nd rfl (by first | exact Or.inl rfl | exact Or.inr rfl)) (dgs_cons (dg_name 6 sc_least_table.nd rfl (by first | exact Or.inl rfl | exact Or.inr rfl)) (dgs_nil)))) (ds_one (ds_if (dt_dnin 2 (hu1 hr) (de_ix (de_name 1) (de_name 6))) (ds_cons (ds_st 2 (hu1 hr) (de_ix (de_name 1) (de_name 6)) (de_dlen 2 (b_len W))) (ds_one (ds_drop (de_app 3 (de_name 6))))) (ds_nil)))) (ds_one (ds_aug 4 ip_add (de_int) sc_least_table.nd rfl (by first | exact Or.inl rfl | exact Or.inr rfl))))) (ds_one (ds_ret (de_tuple (b_tuple W) (de_lc (own := [("state", 7)]) rfl sc_least_table.nd (di_seq (de_name 3)) (blkOk_by (N := N_least_table) (by kernel_rfl)) (fun _ _ _ _ _ => dg_name 7 sc_least_table.nd rfl (by first | exact Or.inl rfl | exact Or.inr rfl)) (fun _ _ _ _ _ => dts_nil) (fun _ _ _ _ _ => de_tuple (b_tuple W) (de_lc (own := [("mark", 5), ("there", 6)]) rfl sc_least_table.nd (di_seq (de_ix (de_name 0) (de_name 7))) (blkOk_by (N := N_least_table) (by kernel_rfl)) (fun _ _ _ _ _ => dg_tup rfl (dgs_cons (dg_name 5 sc_least_table.nd rfl (by first | exact Or.inl rfl | exact Or.inr rfl)) (dgs_cons (dg_name 6 sc_least_table.nd rfl (by first | exact Or.inl rfl | exact Or.inr rfl)) (dgs_nil)))) (fun _ _ _ _ _ => dts_nil) (fun _ _ _ _ _ => de_tup (di_cons (de_name 5) (di_cons (de_dget 2 (hu1 hr) (de_ix (de_name 1) (de_name 6))) (di_nil)))))))))))
abbrev N_is_line : List Str := ["bits", "value", "number", "word", "named", "one"]
theorem sc_is_line : FnScope N_is_line ["bits", "value", "number"] (defScope (top 35)) := ⟨rfl, rfl, rfl, by decide +kernel, rfl, by decide +kernel, by decide +kernel⟩
theorem ok_is_line {P : Program} {w : World} {K : PySem.W.Frag} {mg : Str → Option Value} {base : Heap} (W : Wd P K mg) : Cal P w K mg base 3 "is_line" ["bits", "value", "number"] (spF K 3 R_is_line) := by
  obtain ⟨fd, F⟩ := W.says.d.def_ 16 (d := d_is_line) rfl
  refine ⟨⟨fd, fn_D F sc_is_line (fun cdv A outer s H E hr => ?_), F.bindsN (fun _ _ _ _ _ _ us hl => match us, hl with | [_, _, _], _ => rfl)⟩, g_is_line W, F.kp⟩
  · exact ds_cons (ds_if (dt_w (dw_or (dt_not (dt_val (de_isi (de_name 1) (b_isinstance W) (b_tuple W) (by decide +kernel)))) (dw_or (dt_eq (hu64 hr) (de_len (b_len W) (de_name 1)) (de_int)) (dw_or1 (dt_not (dt_val (de_isi (de_ix (de_name 1) (de_int)) (b_isinstance W) (b_str W) (by decide +kernel)))))))) (ds_one (ds_ret (de_bl))) (ds_nil)) (ds_cons (ds_par (i := 3) (j := 4) rfl sc_is_line.nd rfl rfl (by decide) rfl rfl (de_ix (de_name 1) (de_int)) (de_slice (de_name 1) (do_some (de_int)) (do_none)) rfl) (ds_cons (ds_if (dt_inx (de_name 3) (de_tup (di_cons (de_str) (di_cons (de_str) (di_nil))))) (ds_one (ds_ret (de_eq (hu64 hr) (de_len (b_len W) (de_name 4)) (de_int)))) (ds_nil)) (ds_cons (ds_if (dt_eq (hu64 hr) (de_name 3) (de_str)) (ds_one (ds_ret (de_and (de_eq (hu64 hr) (de_len (b_len W) (de_name 4)) (de_int)) (de_one (de_call (ok_is_within W) (hr.mono (by decide)) (da_cons (de_ix (de_name 4) (de_int)) (da_cons (de_int) (da_cons (de_sub (de_name 0) (de_int)) (da_nil))))))))) (ds_nil)) (ds_cons (ds_if (dt_eq (hu64 hr) (de_name 3) (de_str)) (ds_one (ds_ret (de_and (de_eq (hu64 hr) (de_len (b_len W) (de_name 4)) (de_int)) (de_one (de_call (ok_is_within W) (hr.mono (by decide)) (da_cons (de_ix (de_name 4) (de_int)) (da_cons (de_int) (da_cons (de_sub (de_name 2) (de_int)) (da_nil))))))))) (ds_nil)) (ds_one (ds_ret (de_and (de_inx (de_name 3) (de_cst (k_PAIRED W))) (de_and (de_eq (hu64 hr) (de_len (b_len W) (de_name 4)) (de_int)) (de_one (de_all rfl (b_all W) (de_lc (own := [("one", 5)]) rfl sc_is_line.nd (di_seq (de_name 4)) (blkOk_by (N := N_is_line) (by kernel_rfl)) (fun _ _ _ _ _ => dg_name 5 sc_is_line.nd rfl (by first | exact Or.inl rfl | exact Or.inr rfl)) (fun _ _ _ _ _ => dts_nil) (fun _ _ _ _ _ => de_call (ok_is_within W) (hr.mono (by decide)) (da_cons (de_name 5) (da_cons (de_int) (da_cons (de_sub (de_name 2) (de_int)) (da_nil))))))))))))))))
abbrev N_need_program : List Str := ["program", "bits", "lines", "number", "line"]
theorem sc_need_program : FnScope N_need_program ["program"] (defScope (top 36)) := ⟨rfl, rfl, rfl, by decide +kernel, rfl, by decide +kernel, by decide +kernel⟩
theorem ok_need_program {P : Program} {w : World} {K : PySem.W.Frag} {mg : Str → Option Value} {base : Heap} (W : Wd P K mg) : Cal P w K mg base 4 "need_program" ["program"] (spF K 1 R_need_program) := by
  obtain ⟨fd, F⟩ := W.says.d.def_ 17 (d := d_need_program) rfl
  refine ⟨⟨fd, fn_D F sc_need_program (fun cdv A outer s H E hr => ?_), F.bindsN (fun _ _ _ _ _ _ us hl => match us, hl with | [_], _ => rfl)⟩, g_need_program W, F.kp⟩
  · exact ds_cons (ds_if (dt_w (dw_or (dt_not (dt_val (de_isi (de_name 0) (b_isinstance W) (b_tuple W) (by decide +kernel)))) (dw_or1 (dt_ne (hu64 hr) (de_len (b_len W) (de_name 0)) (de_int))))) (ds_one (ds_never)) (ds_nil)) (ds_cons (ds_asg (de_name 0) (dg_tup rfl (dgs_cons (dg_name 1 sc_need_program.nd rfl (by first | exact Or.inl rfl | exact Or.inr rfl)) (dgs_cons (dg_name 2 sc_need_program.nd rfl (by first | exact Or.inl rfl | exact Or.inr rfl)) (dgs_nil))))) (ds_cons (ds_if (dt_not (dt_val (de_call (ok_is_within W) (hr.mono (by decide)) (da_cons (de_name 1) (da_cons (de_int) (da_cons (de_int) (da_nil))))))) (ds_one (ds_never)) (ds_nil)) (ds_cons (ds_if (dt_w (dw_or (dt_not (dt_val (de_isi (de_name 2) (b_isinstance W) (b_tuple W) (by decide +kernel)))) (dw_or1 (dt_not (dt_chain op_le op_le (de_int) (de_len (b_len W) (de_name 2)) (de_cst (k_MOST_LINES W))))))) (ds_one (ds_never)) (ds_nil)) (ds_cons (ds_for (passes_of rfl) rfl (di_enum (de_name 2) (b_enumerate W)) (dg_tup rfl (dgs_cons (dg_name 3 sc_need_program.nd rfl (by first | exact Or.inl rfl | exact Or.inr rfl)) (dgs_cons (dg_name 4 sc_need_program.nd rfl (by first | exact Or.inl rfl | exact Or.inr rfl)) (dgs_nil)))) (ds_one (ds_if (dt_not (dt_val (de_call (ok_is_line W) (hr.mono (by decide)) (da_cons (de_name 1) (da_cons (de_name 4) (da_cons (de_name 3) (da_nil))))))) (ds_one (ds_never)) (ds_nil)))) (ds_one (ds_ret (de_name 0)))))))
abbrev N_row_number : List Str := ["row", "found", "one"]
theorem sc_row_number : FnScope N_row_number ["row"] (defScope (top 37)) := ⟨rfl, rfl, rfl, by decide +kernel, rfl, by decide +kernel, by decide +kernel⟩
theorem ok_row_number {P : Program} {w : World} {K : PySem.W.Frag} {mg : Str → Option Value} {base : Heap} (W : Wd P K mg) : Cal P w K mg base 1 "row_number" ["row"] (spF K 1 R_row_number) := by
  obtain ⟨fd, F⟩ := W.says.d.def_ 18 (d := d_row_number) rfl
  refine ⟨⟨fd, fn_D F sc_row_number (fun cdv A outer s H E hr => ?_), F.bindsN (fun _ _ _ _ _ _ us hl => match us, hl with | [_], _ => rfl)⟩, g_row_number W, F.kp⟩
  · exact ds_cons (ds_set (i := 1) (de_int) sc_row_number.nd rfl (by first | exact Or.inl rfl | exact Or.inr rfl)) (ds_cons (ds_for (passes_of rfl) rfl (di_seq (de_revT (de_name 0))) (dg_name 2 sc_row_number.nd rfl (by first | exact Or.inl rfl | exact Or.inr rfl)) (ds_one (ds_set (i := 1) (de_add (de_mul (de_int) (de_name 1)) (de_name 2)) sc_row_number.nd rfl (by first | exact Or.inl rfl | exact Or.inr rfl)))) (ds_one (ds_ret (de_name 1))))
abbrev N_number_row : List Str := ["number", "places", "found", "place"]
theorem sc_number_row : FnScope N_number_row ["number", "places"] (defScope (top 38)) := ⟨rfl, rfl, rfl, by decide +kernel, rfl, by decide +kernel, by decide +kernel⟩
theorem ok_number_row {P : Program} {w : World} {K : PySem.W.Frag} {mg : Str → Option Value} {base : Heap} (W : Wd P K mg) : Cal P w K mg base 1 "number_row" ["number", "places"] (spF K 2 R_number_row) := by
  obtain ⟨fd, F⟩ := W.says.d.def_ 19 (d := d_number_row) rfl
  refine ⟨⟨fd, fn_D F sc_number_row (fun cdv A outer s H E hr => ?_), F.bindsN (fun _ _ _ _ _ _ us hl => match us, hl with | [_, _], _ => rfl)⟩, g_number_row W, F.kp⟩
  · exact ds_cons (ds_set (i := 2) (de_lst (di_nil)) sc_number_row.nd rfl (by first | exact Or.inl rfl | exact Or.inr rfl)) (ds_cons (ds_for (passes_of rfl) rfl (di_rng1 (de_name 1) (b_range W)) (dg_name 3 sc_number_row.nd rfl (by first | exact Or.inl rfl | exact Or.inr rfl)) (ds_cons (ds_drop (de_app 2 (de_bitand (de_name 0) (de_int)))) (ds_one (ds_set (i := 0) (de_shr (de_name 0) (de_int)) sc_number_row.nd rfl (by first | exact Or.inl rfl | exact Or.inr rfl))))) (ds_one (ds_ret (de_tuple (b_tuple W) (de_name 2)))))
abbrev N_line_number : List Str := ["line", "found", "rows", "ones", "word", "one", "other"]
theorem sc_line_number : FnScope N_line_number ["line", "found", "rows", "ones"] (defScope (top 39)) := ⟨rfl, rfl, rfl, by decide +kernel, rfl, by decide +kernel, by decide +kernel⟩
theorem ok_line_number {P : Program} {w : World} {K : PySem.W.Frag} {mg : Str → Option Value} {base : Heap} (W : Wd P K mg) : Cal P w K mg base 1 "line_number" ["line", "found", "rows", "ones"] (spF K 4 R_line_number) := by
  obtain ⟨fd, F⟩ := W.says.d.def_ 20 (d := d_line_number) rfl
  refine ⟨⟨fd, fn_D F sc_line_number (fun cdv A outer s H E hr => ?_), F.bindsN (fun _ _ _ _ _ _ us hl => match us, hl with | [_, _, _, _], _ => rfl)⟩, g_line_number W, F.kp⟩
  · exact ds_cons (ds_set (i := 4) (de_ix (de_name 0) (de_int)) sc_line_number.nd rfl (by first | exact Or.inl rfl | exact Or.inr rfl)) (ds_cons (ds_if (dt_eq (hu64 hr) (de_name 4) (de_str)) (ds_one (ds_ret (de_ix (de_name 2) (de_ix (de_name 0) (de_int))))) (ds_nil)) (ds_cons (ds_if (dt_eq (hu64 hr) (de_name 4) (de_str)) (ds_one (ds_ret (de_int))) (ds_nil)) (ds_cons (ds_if (dt_eq (hu64 hr) (de_name 4) (de_str)) (ds_one (ds_ret (de_name 3))) (ds_nil)) (ds_cons (ds_set (i := 5) (de_ix (de_name 1) (de_ix (de_name 0) (de_int))) sc_line_number.nd rfl (by first | exact Or.inl rfl | exact Or.inr rfl)) (ds_cons (ds_if (dt_eq (hu64 hr) (de_name 4) (de_str)) (ds_one (ds_ret (de_bitxor (de_name 3) (de_name 5)))) (ds_nil)) (ds_cons (ds_set (i := 6) (de_ix (de_name 1) (de_ix (de_name 0) (de_int))) sc_line_number.nd rfl (by first | exact Or.inl rfl | exact Or.inr rfl)) (ds_cons (ds_if (dt_eq (hu64 hr) (de_name 4) (de_str)) (ds_one (ds_ret (de_bitand (de_name 5) (de_name 6)))) (ds_nil)) (ds_cons (ds_if (dt_eq (hu64 hr) (de_name 4) (de_str)) (ds_one (ds_ret (de_bitor (de_name 5) (de_name 6)))) (ds_nil)) (ds_cons (ds_if (dt_eq (hu64 hr) (de_name 4) (de_str)) (ds_one (ds_ret (de_bitxor (de_name 5) (de_name 6)))) (ds_nil)) (ds_one (ds_ret (de_bitand (de_add (de_name 5) (de_name 6)) (de_name 3)))))))))))))
abbrev N_line_numbers : List Str := ["program", "text", "rows", "ones", "found", "line", "number"]
theorem sc_line_numbers : FnScope N_line_numbers ["program", "text"] (defScope (top 40)) := ⟨rfl, rfl, rfl, by decide +kernel, rfl, by decide +kernel, by decide +kernel⟩
theorem ok_line_numbers {P : Program} {w : World} {K : PySem.W.Frag} {mg : Str → Option Value} {base : Heap} (W : Wd P K mg) : Cal P w K mg base 2 "line_numbers" ["program", "text"] (spF K 2 R_line_numbers) := by
  obtain ⟨fd, F⟩ := W.says.d.def_ 21 (d := d_line_numbers) rfl
  refine ⟨⟨fd, fn_D F sc_line_numbers (fun cdv A outer s H E hr => ?_), F.bindsN (fun _ _ _ _ _ _ us hl => match us, hl with | [_, _], _ => rfl)⟩, g_line_numbers W, F.kp⟩
  · exact ds_cons (ds_setLc (i := 2) (own := [("number", 6)]) rfl sc_line_numbers.nd rfl rfl (sw_true rfl rfl rfl (by decide +kernel)) (di_rng1 (de_ix (de_name 0) (de_int)) (b_range W)) (blkOk_by (N := N_line_numbers) (by kernel_rfl)) (fun _ _ _ _ _ => dg_name 6 sc_line_numbers.nd rfl (by first | exact Or.inl rfl | exact Or.inr rfl)) (fun _ _ _ _ _ => dts_nil) (fun _ _ _ _ _ => de_call (ok_row_number W) (hr.mono (by decide)) (da_cons (de_call (ok_bit_row W) (hr.mono (by decide)) (da_cons (de_name 1) (da_cons (de_name 6) (da_nil)))) (da_nil)))) (ds_cons (ds_par (i := 3) (j := 4) rfl sc_line_numbers.nd rfl rfl (by decide) rfl rfl (de_call (ok_row_number W) (hr.mono (by decide)) (da_cons (de_mul (de_tup (di_cons (de_int) (di_nil))) (de_len (b_len W) (de_name 1))) (da_nil))) (de_lst (di_nil)) rfl) (ds_cons (ds_for (passes_of rfl) rfl (di_seq (de_ix (de_name 0) (de_int))) (dg_name 5 sc_line_numbers.nd rfl (by first | exact Or.inl rfl | exact Or.inr rfl)) (ds_one (ds_drop (de_app 4 (de_call (ok_line_number W) (hr.mono (by decide)) (da_cons (de_name 5) (da_cons (de_name 4) (da_cons (de_name 2) (da_cons (de_name 3) (da_nil)))))))))) (ds_one (ds_ret (de_name 4)))))
abbrev N_marks_by : List Str := ["program", "text"]
theorem sc_marks_by : FnScope N_marks_by ["program", "text"] (defScope (top 41)) := ⟨rfl, rfl, rfl, by decide +kernel, rfl, by decide +kernel, by decide +kernel⟩
theorem ok_marks_by {P : Program} {w : World} {K : PySem.W.Frag} {mg : Str → Option Value} {base : Heap} (W : Wd P K mg) : Cal P w K mg base 3 "marks_by" ["program", "text"] (spF K 2 R_marks_by) := by
  obtain ⟨fd, F⟩ := W.says.d.def_ 22 (d := d_marks_by) rfl
  refine ⟨⟨fd, fn_D F sc_marks_by (fun cdv A outer s H E hr => ?_), F.bindsN (fun _ _ _ _ _ _ us hl => match us, hl with | [_, _], _ => rfl)⟩, g_marks_by W, F.kp⟩
  · exact ds_one (ds_ret (de_call (ok_number_row W) (hr.mono (by decide)) (da_cons (de_ix (de_call (ok_line_numbers W) (hr.mono (by decide)) (da_cons (de_name 0) (da_cons (de_name 1) (da_nil)))) (de_neg (de_int))) (da_cons (de_len (b_len W) (de_name 1)) (da_nil)))))
abbrev N_program_marks : List Str := ["program", "text"]
theorem sc_program_marks : FnScope N_program_marks ["program", "text"] (defScope (top 42)) := ⟨rfl, rfl, rfl, by decide +kernel, rfl, by decide +kernel, by decide +kernel⟩
theorem ok_program_marks {P : Program} {w : World} {K : PySem.W.Frag} {mg : Str → Option Value} {base : Heap} (W : Wd P K mg) : Cal P w K mg base 5 "program_marks" ["program", "text"] (spF K 2 R_program_marks) := by
  obtain ⟨fd, F⟩ := W.says.d.def_ 23 (d := d_program_marks) rfl
  refine ⟨⟨fd, fn_D F sc_program_marks (fun cdv A outer s H E hr => ?_), F.bindsN (fun _ _ _ _ _ _ us hl => match us, hl with | [_, _], _ => rfl)⟩, g_program_marks W, F.kp⟩
  · exact ds_cons (ds_drop (de_call (ok_need_program W) (hr.mono (by decide)) (da_cons (de_name 0) (da_nil)))) (ds_cons (ds_drop (de_call (ok_need_text_of W) (hr.mono (by decide)) (da_cons (de_ix (de_name 0) (de_int)) (da_cons (de_name 1) (da_nil))))) (ds_one (ds_ret (de_call (ok_marks_by W) (hr.mono (by decide)) (da_cons (de_name 0) (da_cons (de_name 1) (da_nil)))))))
abbrev N_plus_numbers : List Str := ["lines", "number", "line"]
theorem sc_plus_numbers : FnScope N_plus_numbers ["lines"] (defScope (top 43)) := ⟨rfl, rfl, rfl, by decide +kernel, rfl, by decide +kernel, by decide +kernel⟩
theorem ok_plus_numbers {P : Program} {w : World} {K : PySem.W.Frag} {mg : Str → Option Value} {base : Heap} (W : Wd P K mg) : Cal P w K mg base 1 "plus_numbers" ["lines"] (spF K 1 R_plus_numbers) := by
  obtain ⟨fd, F⟩ := W.says.d.def_ 24 (d := d_plus_numbers) rfl
  refine ⟨⟨fd, fn_D F sc_plus_numbers (fun cdv A outer s H E hr => ?_), F.bindsN (fun _ _ _ _ _ _ us hl => match us, hl with | [_], _ => rfl)⟩, g_plus_numbers W, F.kp⟩
  · exact ds_one (ds_ret (de_lc (own := [("number", 1), ("line", 2)]) rfl sc_plus_numbers.nd (di_enum (de_name 0) (b_enumerate W)) (blkOk_by (N := N_plus_numbers) (by kernel_rfl)) (fun _ _ _ _ _ => dg_tup rfl (dgs_cons (dg_name 1 sc_plus_numbers.nd rfl (by first | exact Or.inl rfl | exact Or.inr rfl)) (dgs_cons (dg_name 2 sc_plus_numbers.nd rfl (by first | exact Or.inl rfl | exact Or.inr rfl)) (dgs_nil)))) (fun _ _ _ _ _ => dts_one (dt_eq (hu64 hr) (de_ix (de_name 2) (de_int)) (de_cst (k_PLUS W)))) (fun _ _ _ _ _ => de_name 1)))
abbrev N_plus_lines : List Str := ["program"]
theorem sc_plus_lines : FnScope N_plus_lines ["program"] (defScope (top 44)) := ⟨rfl, rfl, rfl, by decide +kernel, rfl, by decide +kernel, by decide +kernel⟩
theorem ok_plus_lines {P : Program} {w : World} {K : PySem.W.Frag} {mg : Str → Option Value} {base : Heap} (W : Wd P K mg) : Cal P w K mg base 5 "plus_lines" ["program"] (spF K 1 R_plus_lines) := by
  obtain ⟨fd, F⟩ := W.says.d.def_ 25 (d := d_plus_lines) rfl
  refine ⟨⟨fd, fn_D F sc_plus_lines (fun cdv A outer s H E hr => ?_), F.bindsN (fun _ _ _ _ _ _ us hl => match us, hl with | [_], _ => rfl)⟩, g_plus_lines W, F.kp⟩
  · exact ds_cons (ds_drop (de_call (ok_need_program W) (hr.mono (by decide)) (da_cons (de_name 0) (da_nil)))) (ds_one (ds_ret (de_tuple (b_tuple W) (de_call (ok_plus_numbers W) (hr.mono (by decide)) (da_cons (de_ix (de_name 0) (de_int)) (da_nil))))))
abbrev N_named_lines : List Str := ["line"]
theorem sc_named_lines : FnScope N_named_lines ["line"] (defScope (top 45)) := ⟨rfl, rfl, rfl, by decide +kernel, rfl, by decide +kernel, by decide +kernel⟩
theorem ok_named_lines {P : Program} {w : World} {K : PySem.W.Frag} {mg : Str → Option Value} {base : Heap} (W : Wd P K mg) : Cal P w K mg base 1 "named_lines" ["line"] (spF K 1 R_named_lines) := by
  obtain ⟨fd, F⟩ := W.says.d.def_ 26 (d := d_named_lines) rfl
  refine ⟨⟨fd, fn_D F sc_named_lines (fun cdv A outer s H E hr => ?_), F.bindsN (fun _ _ _ _ _ _ us hl => match us, hl with | [_], _ => rfl)⟩, g_named_lines W, F.kp⟩
  · exact ds_one (ds_ret (de_if (dt_eq (hu64 hr) (de_ix (de_name 0) (de_int)) (de_str)) (de_tup (di_nil)) (de_slice (de_name 0) (do_some (de_int)) (do_none))))
abbrev N_needed_by : List Str := ["lines", "number", "needed", "here", "one"]
theorem sc_needed_by : FnScope N_needed_by ["lines", "number"] (defScope (top 46)) := ⟨rfl, rfl, rfl, by decide +kernel, rfl, by decide +kernel, by decide +kernel⟩
theorem ok_needed_by {P : Program} {w : World} {K : PySem.W.Frag} {mg : Str → Option Value} {base : Heap} (W : Wd P K mg) : Cal P w K mg base 2 "needed_by" ["lines", "number"] (spF K 2 R_needed_by) := by
  obtain ⟨fd, F⟩ := W.says.d.def_ 27 (d := d_needed_by) rfl
  refine ⟨⟨fd, fn_D F sc_needed_by (fun cdv A outer s H E hr => ?_), F.bindsN (fun _ _ _ _ _ _ us hl => match us, hl with | [_, _], _ => rfl)⟩, g_needed_by W, F.kp⟩
  · exact ds_cons (ds_set (i := 2) (de_disp (dps_cons (de_name 1) (de_bl) (dps_nil))) sc_needed_by.nd rfl (by first | exact Or.inl rfl | exact Or.inr rfl)) (ds_cons (ds_for (passes_of rfl) rfl (di_rngd (de_name 1) (de_neg (de_int)) (de_neg (de_int)) (b_range W)) (dg_name 3 sc_needed_by.nd rfl (by first | exact Or.inl rfl | exact Or.inr rfl)) (ds_one (ds_if (dt_din 2 (hu1 hr) (de_name 3)) (ds_one (ds_for (passes_of rfl) rfl (di_seq (de_call (ok_named_lines W) (hr.mono (by decide)) (da_cons (de_ix (de_name 0) (de_name 3)) (da_nil)))) (dg_name 4 sc_needed_by.nd rfl (by first | exact Or.inl rfl | exact Or.inr rfl)) (ds_one (ds_st 2 (hu1 hr) (de_name 4) (de_bl))))) (ds_nil)))) (ds_one (ds_ret (de_dsort 2 rfl (b_sorted W)))))
abbrev N_needed_lines : List Str := ["program"]
theorem sc_needed_lines : FnScope N_needed_lines ["program"] (defScope (top 47)) := ⟨rfl, rfl, rfl, by decide +kernel, rfl, by decide +kernel, by decide +kernel⟩
theorem ok_needed_lines {P : Program} {w : World} {K : PySem.W.Frag} {mg : Str → Option Value} {base : Heap} (W : Wd P K mg) : Cal P w K mg base 5 "needed_lines" ["program"] (spF K 1 R_needed_lines) := by
  obtain ⟨fd, F⟩ := W.says.d.def_ 28 (d := d_needed_lines) rfl
  refine ⟨⟨fd, fn_D F sc_needed_lines (fun cdv A outer s H E hr => ?_), F.bindsN (fun _ _ _ _ _ _ us hl => match us, hl with | [_], _ => rfl)⟩, g_needed_lines W, F.kp⟩
  · exact ds_cons (ds_drop (de_call (ok_need_program W) (hr.mono (by decide)) (da_cons (de_name 0) (da_nil)))) (ds_one (ds_ret (de_tuple (b_tuple W) (de_call (ok_needed_by W) (hr.mono (by decide)) (da_cons (de_ix (de_name 0) (de_int)) (da_cons (de_sub (de_len (b_len W) (de_ix (de_name 0) (de_int))) (de_int)) (da_nil)))))))
abbrev N_plain_bit : List Str := ["line", "found", "letter", "word", "one", "other"]
theorem sc_plain_bit : FnScope N_plain_bit ["line", "found", "letter"] (defScope (top 50)) := ⟨rfl, rfl, rfl, by decide +kernel, rfl, by decide +kernel, by decide +kernel⟩
theorem ok_plain_bit {P : Program} {w : World} {K : PySem.W.Frag} {mg : Str → Option Value} {base : Heap} (W : Wd P K mg) : Cal P w K mg base 1 "plain_bit" ["line", "found", "letter"] (spF K 3 R_plain_bit) := by
  obtain ⟨fd, F⟩ := W.says.d.def_ 29 (d := d_plain_bit) rfl
  refine ⟨⟨fd, fn_D F sc_plain_bit (fun cdv A outer s H E hr => ?_), F.bindsN (fun _ _ _ _ _ _ us hl => match us, hl with | [_, _, _], _ => rfl)⟩, g_plain_bit W, F.kp⟩
  · exact ds_cons (ds_set (i := 3) (de_ix (de_name 0) (de_int)) sc_plain_bit.nd rfl (by first | exact Or.inl rfl | exact Or.inr rfl)) (ds_cons (ds_if (dt_eq (hu64 hr) (de_name 3) (de_str)) (ds_one (ds_ret (de_mod (de_div (de_name 2) (de_ix (de_cst (k_LETTERS_BY W)) (de_ix (de_name 0) (de_int)))) (de_int)))) (ds_nil)) (ds_cons (ds_if (dt_inx (de_name 3) (de_tup (di_cons (de_str) (di_cons (de_str) (di_nil))))) (ds_one (ds_ret (de_if (dt_eq (hu64 hr) (de_name 3) (de_str)) (de_int) (de_int)))) (ds_nil)) (ds_cons (ds_if (dt_eq (hu64 hr) (de_name 3) (de_str)) (ds_one (ds_ret (de_sub (de_int) (de_ix (de_name 1) (de_ix (de_name 0) (de_int)))))) (ds_nil)) (ds_cons (ds_par (i := 4) (j := 5) rfl sc_plain_bit.nd rfl rfl (by decide) rfl rfl (de_ix (de_name 1) (de_ix (de_name 0) (de_int))) (de_ix (de_name 1) (de_ix (de_name 0) (de_int))) rfl) (ds_cons (ds_if (dt_eq (hu64 hr) (de_name 3) (de_str)) (ds_one (ds_ret (de_mul (de_name 4) (de_name 5)))) (ds_nil)) (ds_one (ds_ret (de_if (dt_eq (hu64 hr) (de_name 3) (de_str)) (de_max2 rfl (b_max W) (de_name 4) (de_name 5)) (de_mod (de_add (de_name 4) (de_name 5)) (de_int))))))))))
abbrev N_place_bits : List Str := ["lines", "carries", "letter", "found", "later", "line", "total"]
theorem sc_place_bits : FnScope N_place_bits ["lines", "carries", "letter"] (defScope (top 51)) := ⟨rfl, rfl, rfl, by decide +kernel, rfl, by decide +kernel, by decide +kernel⟩
theorem ok_place_bits {P : Program} {w : World} {K : PySem.W.Frag} {mg : Str → Option Value} {base : Heap} (W : Wd P K mg) : Cal P w K mg base 2 "place_bits" ["lines", "carries", "letter"] (spF K 3 R_place_bits) := by
  obtain ⟨fd, F⟩ := W.says.d.def_ 30 (d := d_place_bits) rfl
  refine ⟨⟨fd, fn_D F sc_place_bits (fun cdv A outer s H E hr => ?_), F.bindsN (fun _ _ _ _ _ _ us hl => match us, hl with | [_, _, _], _ => rfl)⟩, g_place_bits W, F.kp⟩
  · exact ds_cons (ds_par (i := 3) (j := 4) rfl sc_place_bits.nd rfl rfl (by decide) rfl rfl (de_lst (di_nil)) (de_lst (di_nil)) rfl) (ds_cons (ds_for (passes_of rfl) rfl (di_seq (de_name 0)) (dg_name 5 sc_place_bits.nd rfl (by first | exact Or.inl rfl | exact Or.inr rfl)) (ds_one (ds_if (dt_eq (hu64 hr) (de_ix (de_name 5) (de_int)) (de_cst (k_PLUS W))) (ds_cons (ds_set (i := 6) (de_add (de_add (de_ix (de_name 3) (de_ix (de_name 5) (de_int))) (de_ix (de_name 3) (de_ix (de_name 5) (de_int)))) (de_ix (de_name 1) (de_len (b_len W) (de_name 4)))) sc_place_bits.nd rfl (by first | exact Or.inl rfl | exact Or.inr rfl)) (ds_cons (ds_drop (de_app 3 (de_mod (de_name 6) (de_int)))) (ds_one (ds_drop (de_app 4 (de_div (de_name 6) (de_int))))))) (ds_one (ds_drop (de_app 3 (de_call (ok_plain_bit W) (hr.mono (by decide)) (da_cons (de_name 5) (da_cons (de_name 3) (da_cons (de_name 2) (da_nil))))))))))) (ds_one (ds_ret (de_tup (di_cons (de_name 3) (di_cons (de_tuple (b_tuple W) (de_name 4)) (di_nil)))))))
abbrev N_noughts_of : List Str := ["lines"]
theorem sc_noughts_of : FnScope N_noughts_of ["lines"] (defScope (top 52)) := ⟨rfl, rfl, rfl, by decide +kernel, rfl, by decide +kernel, by decide +kernel⟩
theorem ok_noughts_of {P : Program} {w : World} {K : PySem.W.Frag} {mg : Str → Option Value} {base : Heap} (W : Wd P K mg) : Cal P w K mg base 2 "noughts_of" ["lines"] (spF K 1 R_noughts_of) := by
  obtain ⟨fd, F⟩ := W.says.d.def_ 31 (d := d_noughts_of) rfl
  refine ⟨⟨fd, fn_D F sc_noughts_of (fun cdv A outer s H E hr => ?_), F.bindsN (fun _ _ _ _ _ _ us hl => match us, hl with | [_], _ => rfl)⟩, g_noughts_of W, F.kp⟩
  · exact ds_one (ds_ret (de_mul (de_tup (di_cons (de_int) (di_nil))) (de_len (b_len W) (de_call (ok_plus_numbers W) (hr.mono (by decide)) (da_cons (de_name 0) (da_nil))))))
abbrev N_walk_marks : List Str := ["lines", "carries", "text", "marks", "letter", "found"]
theorem sc_walk_marks : FnScope N_walk_marks ["lines", "carries", "text"] (defScope (top 53)) := ⟨rfl, rfl, rfl, by decide +kernel, rfl, by decide +kernel, by decide +kernel⟩
theorem ok_walk_marks {P : Program} {w : World} {K : PySem.W.Frag} {mg : Str → Option Value} {base : Heap} (W : Wd P K mg) : Cal P w K mg base 3 "walk_marks" ["lines", "carries", "text"] (spF K 3 R_walk_marks) := by
  obtain ⟨fd, F⟩ := W.says.d.def_ 32 (d := d_walk_marks) rfl
  refine ⟨⟨fd, fn_D F sc_walk_marks (fun cdv A outer s H E hr => ?_), F.bindsN (fun _ _ _ _ _ _ us hl => match us, hl with | [_, _, _], _ => rfl)⟩, g_walk_marks W, F.kp⟩
  · exact ds_cons (ds_set (i := 3) (de_lst (di_nil)) sc_walk_marks.nd rfl (by first | exact Or.inl rfl | exact Or.inr rfl)) (ds_cons (ds_for (passes_of rfl) rfl (di_seq (de_name 2)) (dg_name 4 sc_walk_marks.nd rfl (by first | exact Or.inl rfl | exact Or.inr rfl)) (ds_cons (ds_asg (de_call (ok_place_bits W) (hr.mono (by decide)) (da_cons (de_name 0) (da_cons (de_name 1) (da_cons (de_name 4) (da_nil))))) (dg_tup rfl (dgs_cons (dg_name 5 sc_walk_marks.nd rfl (by first | exact Or.inl rfl | exact Or.inr rfl)) (dgs_cons (dg_name 1 sc_walk_marks.nd rfl (by first | exact Or.inl rfl | exact Or.inr rfl)) (dgs_nil))))) (ds_one (ds_drop (de_app 3 (de_ix (de_name 5) (de_neg (de_int)))))))) (ds_one (ds_ret (de_tup (di_cons (de_tuple (b_tuple W) (de_name 3)) (di_cons (de_name 1) (di_nil)))))))
abbrev N_is_carries : List Str := ["program", "value", "one"]
theorem sc_is_carries : FnScope N_is_carries ["program", "value"] (defScope (top 56)) := ⟨rfl, rfl, rfl, by decide +kernel, rfl, by decide +kernel, by decide +kernel⟩
theorem ok_is_carries {P : Program} {w : World} {K : PySem.W.Frag} {mg : Str → Option Value} {base : Heap} (W : Wd P K mg) : Cal P w K mg base 3 "is_carries" ["program", "value"] (spF K 2 R_is_carries) := by
  obtain ⟨fd, F⟩ := W.says.d.def_ 36 (d := d_is_carries) rfl
  refine ⟨⟨fd, fn_D F sc_is_carries (fun cdv A outer s H E hr => ?_), F.bindsN (fun _ _ _ _ _ _ us hl => match us, hl with | [_, _], _ => rfl)⟩, g_is_carries W, F.kp⟩
  · exact ds_cons (ds_if (dt_w (dw_or (dt_not (dt_val (de_isi (de_name 1) (b_isinstance W) (b_tuple W) (by decide +kernel)))) (dw_or1 (dt_ne (hu64 hr) (de_len (b_len W) (de_name 1)) (de_len (b_len W) (de_call (ok_plus_numbers W) (hr.mono (by decide)) (da_cons (de_ix (de_name 0) (de_int)) (da_nil)))))))) (ds_one (ds_ret (de_bl))) (ds_nil)) (ds_one (ds_ret (de_all rfl (b_all W) (de_lc (own := [("one", 2)]) rfl sc_is_carries.nd (di_seq (de_name 1)) (blkOk_by (N := N_is_carries) (by kernel_rfl)) (fun _ _ _ _ _ => dg_name 2 sc_is_carries.nd rfl (by first | exact Or.inl rfl | exact Or.inr rfl)) (fun _ _ _ _ _ => dts_nil) (fun _ _ _ _ _ => de_call (ok_is_within W) (hr.mono (by decide)) (da_cons (de_name 2) (da_cons (de_int) (da_cons (de_int) (da_nil)))))))))
abbrev N_need_carries : List Str := ["program", "carries"]
theorem sc_need_carries : FnScope N_need_carries ["program", "carries"] (defScope (top 57)) := ⟨rfl, rfl, rfl, by decide +kernel, rfl, by decide +kernel, by decide +kernel⟩
theorem ok_need_carries {P : Program} {w : World} {K : PySem.W.Frag} {mg : Str → Option Value} {base : Heap} (W : Wd P K mg) : Cal P w K mg base 4 "need_carries" ["program", "carries"] (spF K 2 R_need_carries) := by
  obtain ⟨fd, F⟩ := W.says.d.def_ 37 (d := d_need_carries) rfl
  refine ⟨⟨fd, fn_D F sc_need_carries (fun cdv A outer s H E hr => ?_), F.bindsN (fun _ _ _ _ _ _ us hl => match us, hl with | [_, _], _ => rfl)⟩, g_need_carries W, F.kp⟩
  · exact ds_one (ds_if (dt_not (dt_val (de_call (ok_is_carries W) (hr.mono (by decide)) (da_cons (de_name 0) (da_cons (de_name 1) (da_nil)))))) (ds_one (ds_never)) (ds_nil))
abbrev N_carried_marks : List Str := ["program", "carries", "text"]
theorem sc_carried_marks : FnScope N_carried_marks ["program", "carries", "text"] (defScope (top 58)) := ⟨rfl, rfl, rfl, by decide +kernel, rfl, by decide +kernel, by decide +kernel⟩
theorem ok_carried_marks {P : Program} {w : World} {K : PySem.W.Frag} {mg : Str → Option Value} {base : Heap} (W : Wd P K mg) : Cal P w K mg base 5 "carried_marks" ["program", "carries", "text"] (spF K 3 R_carried_marks) := by
  obtain ⟨fd, F⟩ := W.says.d.def_ 38 (d := d_carried_marks) rfl
  refine ⟨⟨fd, fn_D F sc_carried_marks (fun cdv A outer s H E hr => ?_), F.bindsN (fun _ _ _ _ _ _ us hl => match us, hl with | [_, _, _], _ => rfl)⟩, g_carried_marks W, F.kp⟩
  · exact ds_cons (ds_drop (de_call (ok_need_program W) (hr.mono (by decide)) (da_cons (de_name 0) (da_nil)))) (ds_cons (ds_drop (de_call (ok_need_carries W) (hr.mono (by decide)) (da_cons (de_name 0) (da_cons (de_name 1) (da_nil))))) (ds_cons (ds_drop (de_call (ok_need_text_of W) (hr.mono (by decide)) (da_cons (de_ix (de_name 0) (de_int)) (da_cons (de_name 2) (da_nil))))) (ds_one (ds_ret (de_call (ok_walk_marks W) (hr.mono (by decide)) (da_cons (de_ix (de_name 0) (de_int)) (da_cons (de_name 1) (da_cons (de_name 2) (da_nil)))))))))
abbrev N_carries_behind : List Str := ["program", "text"]
theorem sc_carries_behind : FnScope N_carries_behind ["program", "text"] (defScope (top 59)) := ⟨rfl, rfl, rfl, by decide +kernel, rfl, by decide +kernel, by decide +kernel⟩
theorem ok_carries_behind {P : Program} {w : World} {K : PySem.W.Frag} {mg : Str → Option Value} {base : Heap} (W : Wd P K mg) : Cal P w K mg base 5 "carries_behind" ["program", "text"] (spF K 2 R_carries_behind) := by
  obtain ⟨fd, F⟩ := W.says.d.def_ 39 (d := d_carries_behind) rfl
  refine ⟨⟨fd, fn_D F sc_carries_behind (fun cdv A outer s H E hr => ?_), F.bindsN (fun _ _ _ _ _ _ us hl => match us, hl with | [_, _], _ => rfl)⟩, g_carries_behind W, F.kp⟩
  · exact ds_cons (ds_drop (de_call (ok_need_program W) (hr.mono (by decide)) (da_cons (de_name 0) (da_nil)))) (ds_cons (ds_drop (de_call (ok_need_text_of W) (hr.mono (by decide)) (da_cons (de_ix (de_name 0) (de_int)) (da_cons (de_name 1) (da_nil))))) (ds_one (ds_ret (de_ix (de_call (ok_walk_marks W) (hr.mono (by decide)) (da_cons (de_ix (de_name 0) (de_int)) (da_cons (de_call (ok_noughts_of W) (hr.mono (by decide)) (da_cons (de_ix (de_name 0) (de_int)) (da_nil))) (da_cons (de_name 1) (da_nil))))) (de_int)))))
abbrev N_need_blocks : List Str := ["bits", "blocks", "number", "text"]
theorem sc_need_blocks : FnScope N_need_blocks ["bits", "blocks"] (defScope (top 65)) := ⟨rfl, rfl, rfl, by decide +kernel, rfl, by decide +kernel, by decide +kernel⟩
theorem ok_need_blocks {P : Program} {w : World} {K : PySem.W.Frag} {mg : Str → Option Value} {base : Heap} (W : Wd P K mg) : Cal P w K mg base 4 "need_blocks" ["bits", "blocks"] (spF K 2 R_need_blocks) := by
  obtain ⟨fd, F⟩ := W.says.d.def_ 42 (d := d_need_blocks) rfl
  refine ⟨⟨fd, fn_D F sc_need_blocks (fun cdv A outer s H E hr => ?_), F.bindsN (fun _ _ _ _ _ _ us hl => match us, hl with | [_, _], _ => rfl)⟩, g_need_blocks W, F.kp⟩
  · exact ds_cons (ds_if (dt_not (dt_val (de_isi (de_name 1) (b_isinstance W) (b_tuple W) (by decide +kernel)))) (ds_one (ds_never)) (ds_nil)) (ds_cons (ds_for (passes_of rfl) rfl (di_enum (de_name 1) (b_enumerate W)) (dg_tup rfl (dgs_cons (dg_name 2 sc_need_blocks.nd rfl (by first | exact Or.inl rfl | exact Or.inr rfl)) (dgs_cons (dg_name 3 sc_need_blocks.nd rfl (by first | exact Or.inl rfl | exact Or.inr rfl)) (dgs_nil)))) (ds_one (ds_if (dt_not (dt_val (de_call (ok_is_text_of W) (hr.mono (by decide)) (da_cons (de_name 0) (da_cons (de_name 3) (da_nil)))))) (ds_one (ds_never)) (ds_nil)))) (ds_one (ds_if (dt_gt (de_sum rfl (b_sum W) (de_lc (own := [("text", 3)]) rfl sc_need_blocks.nd (di_seq (de_name 1)) (blkOk_by (N := N_need_blocks) (by kernel_rfl)) (fun _ _ _ _ _ => dg_name 3 sc_need_blocks.nd rfl (by first | exact Or.inl rfl | exact Or.inr rfl)) (fun _ _ _ _ _ => dts_nil) (fun _ _ _ _ _ => de_len (b_len W) (de_name 3)))) (de_cst (k_MOST_PLACES W))) (ds_one (ds_never)) (ds_nil))))
abbrev N_carries_ahead : List Str := ["program", "blocks", "found", "text"]
theorem sc_carries_ahead : FnScope N_carries_ahead ["program", "blocks"] (defScope (top 66)) := ⟨rfl, rfl, rfl, by decide +kernel, rfl, by decide +kernel, by decide +kernel⟩
theorem ok_carries_ahead {P : Program} {w : World} {K : PySem.W.Frag} {mg : Str → Option Value} {base : Heap} (W : Wd P K mg) : Cal P w K mg base 5 "carries_ahead" ["program", "blocks"] (spF K 2 R_carries_ahead) := by
  obtain ⟨fd, F⟩ := W.says.d.def_ 43 (d := d_carries_ahead) rfl
  refine ⟨⟨fd, fn_D F sc_carries_ahead (fun cdv A outer s H E hr => ?_), F.bindsN (fun _ _ _ _ _ _ us hl => match us, hl with | [_, _], _ => rfl)⟩, g_carries_ahead W, F.kp⟩
  · exact ds_cons (ds_drop (de_call (ok_need_program W) (hr.mono (by decide)) (da_cons (de_name 0) (da_nil)))) (ds_cons (ds_drop (de_call (ok_need_blocks W) (hr.mono (by decide)) (da_cons (de_ix (de_name 0) (de_int)) (da_cons (de_name 1) (da_nil))))) (ds_cons (ds_set (i := 2) (de_lst (di_cons (de_call (ok_noughts_of W) (hr.mono (by decide)) (da_cons (de_ix (de_name 0) (de_int)) (da_nil))) (di_nil))) sc_carries_ahead.nd rfl (by first | exact Or.inl rfl | exact Or.inr rfl)) (ds_cons (ds_for (passes_of rfl) rfl (di_seq (de_name 1)) (dg_name 3 sc_carries_ahead.nd rfl (by first | exact Or.inl rfl | exact Or.inr rfl)) (ds_one (ds_drop (de_app 2 (de_ix (de_call (ok_walk_marks W) (hr.mono (by decide)) (da_cons (de_ix (de_name 0) (de_int)) (da_cons (de_ix (de_name 2) (de_neg (de_int))) (da_cons (de_name 3) (da_nil))))) (de_int)))))) (ds_one (ds_ret (de_tuple (b_tuple W) (de_name 2)))))))
theorem okK_carries_ahead {P : Program} {w : World} {K : PySem.W.Frag} {mg : Str → Option Value} {base : Heap} (W : Wd P K mg) : CalK P w K mg base 5 "carries_ahead" ["program", "blocks"] (spF K 2 R_carries_ahead) := by
  obtain ⟨fd, F⟩ := W.says.d.def_ 43 (d := d_carries_ahead) rfl
  refine ⟨⟨fd, fn_D F sc_carries_ahead (fun cdv A outer s H E hr => ?_), kbindsN F (fun _ _ _ _ _ _ us hl => match us, hl with | [_, _], _ => rfl)⟩, g_carries_ahead W, F.kp⟩
  · exact ds_cons (ds_drop (de_call (ok_need_program W) (hr.mono (by decide)) (da_cons (de_name 0) (da_nil)))) (ds_cons (ds_drop (de_call (ok_need_blocks W) (hr.mono (by decide)) (da_cons (de_ix (de_name 0) (de_int)) (da_cons (de_name 1) (da_nil))))) (ds_cons (ds_set (i := 2) (de_lst (di_cons (de_call (ok_noughts_of W) (hr.mono (by decide)) (da_cons (de_ix (de_name 0) (de_int)) (da_nil))) (di_nil))) sc_carries_ahead.nd rfl (by first | exact Or.inl rfl | exact Or.inr rfl)) (ds_cons (ds_for (passes_of rfl) rfl (di_seq (de_name 1)) (dg_name 3 sc_carries_ahead.nd rfl (by first | exact Or.inl rfl | exact Or.inr rfl)) (ds_one (ds_drop (de_app 2 (de_ix (de_call (ok_walk_marks W) (hr.mono (by decide)) (da_cons (de_ix (de_name 0) (de_int)) (da_cons (de_ix (de_name 2) (de_neg (de_int))) (da_cons (de_name 3) (da_nil))))) (de_int)))))) (ds_one (ds_ret (de_tuple (b_tuple W) (de_name 2)))))))
abbrev N_needed_only : List Str := ["lines", "numbers", "found", "number", "line", "one"]
theorem sc_needed_only : FnScope N_needed_only ["lines"] (defScope (top 68)) := ⟨rfl, rfl, rfl, by decide +kernel, rfl, by decide +kernel, by decide +kernel⟩
theorem ok_needed_only {P : Program} {w : World} {K : PySem.W.Frag} {mg : Str → Option Value} {base : Heap} (W : Wd P K mg) : Cal P w K mg base 3 "needed_only" ["lines"] (spF K 1 R_needed_only) := by
  obtain ⟨fd, F⟩ := W.says.d.def_ 44 (d := d_needed_only) rfl
  refine ⟨⟨fd, fn_D F sc_needed_only (fun cdv A outer s H E hr => ?_), F.bindsN (fun _ _ _ _ _ _ us hl => match us, hl with | [_], _ => rfl)⟩, g_needed_only W, F.kp⟩
  · exact ds_cons (ds_parT (i := 1) (j := 2) rfl sc_needed_only.nd rfl rfl (by decide) (pg_name (i := 1) sc_needed_only.nd rfl (by first | exact Or.inl rfl | exact Or.inr rfl)) (pg_name (i := 2) sc_needed_only.nd rfl (by first | exact Or.inl rfl | exact Or.inr rfl)) (de_dnew) (de_lst (di_nil))) (ds_cons (ds_for (passes_of rfl) rfl (di_seq (de_call (ok_needed_by W) (hr.mono (by decide)) (da_cons (de_name 0) (da_cons (de_sub (de_len (b_len W) (de_name 0)) (de_int)) (da_nil))))) (dg_name 3 sc_needed_only.nd rfl (by first | exact Or.inl rfl | exact Or.inr rfl)) (ds_cons (ds_set (i := 4) (de_ix (de_name 0) (de_name 3)) sc_needed_only.nd rfl (by first | exact Or.inl rfl | exact Or.inr rfl)) (ds_cons (ds_st 1 (hu1 hr) (de_name 3) (de_len (b_len W) (de_name 2))) (ds_one (ds_if (dt_eq (hu64 hr) (de_ix (de_name 4) (de_int)) (de_str)) (ds_one (ds_drop (de_app 2 (de_name 4)))) (ds_one (ds_drop (de_app 2 (de_add (de_tup (di_cons (de_ix (de_name 4) (de_int)) (di_nil))) (de_tuple (b_tuple W) (de_lc (own := [("one", 5)]) rfl sc_needed_only.nd (di_seq (de_slice (de_name 4) (do_some (de_int)) (do_none))) (blkOk_by (N := N_needed_only) (by kernel_rfl)) (fun _ _ _ _ _ => dg_name 5 sc_needed_only.nd rfl (by first | exact Or.inl rfl | exact Or.inr rfl)) (fun _ _ _ _ _ => dts_nil) (fun _ _ _ _ _ => de_dget 1 (hu1 hr) (de_name 5))))))))))))) (ds_one (ds_ret (de_tuple (b_tuple W) (de_name 2)))))
abbrev N_kept_carries : List Str := ["program", "text", "lines"]
theorem sc_kept_carries : FnScope N_kept_carries ["program", "text"] (defScope (top 69)) := ⟨rfl, rfl, rfl, by decide +kernel, rfl, by decide +kernel, by decide +kernel⟩
theorem ok_kept_carries {P : Program} {w : World} {K : PySem.W.Frag} {mg : Str → Option Value} {base : Heap} (W : Wd P K mg) : Cal P w K mg base 5 "kept_carries" ["program", "text"] (spF K 2 R_kept_carries) := by
  obtain ⟨fd, F⟩ := W.says.d.def_ 45 (d := d_kept_carries) rfl
  refine ⟨⟨fd, fn_D F sc_kept_carries (fun cdv A outer s H E hr => ?_), F.bindsN (fun _ _ _ _ _ _ us hl => match us, hl with | [_, _], _ => rfl)⟩, g_kept_carries W, F.kp⟩
  · exact ds_cons (ds_drop (de_call (ok_need_program W) (hr.mono (by decide)) (da_cons (de_name 0) (da_nil)))) (ds_cons (ds_drop (de_call (ok_need_text_of W) (hr.mono (by decide)) (da_cons (de_ix (de_name 0) (de_int)) (da_cons (de_name 1) (da_nil))))) (ds_cons (ds_set (i := 2) (de_call (ok_needed_only W) (hr.mono (by decide)) (da_cons (de_ix (de_name 0) (de_int)) (da_nil))) sc_kept_carries.nd rfl (by first | exact Or.inl rfl | exact Or.inr rfl)) (ds_one (ds_ret (de_ix (de_call (ok_walk_marks W) (hr.mono (by decide)) (da_cons (de_name 2) (da_cons (de_call (ok_noughts_of W) (hr.mono (by decide)) (da_cons (de_name 2) (da_nil))) (da_cons (de_name 1) (da_nil))))) (de_int))))))
end Sc
set_option maxRecDepth 100000
set_option maxHeartbeats 0
namespace Sc
open PySem PySem.Spec PyProof.Rows L2
abbrev N_Stands_step_of : List Str := ["self", "letter", "most", "here", "found", "later"]
theorem sc_Stands_step_of : FnScope N_Stands_step_of ["self", "letter", "most"] (defScope (inClass (top 54) 1)) := ⟨rfl, rfl, rfl, by decide +kernel, rfl, by decide +kernel, by decide +kernel⟩
theorem ok_Stands_step_of {P : Program} {w : World} {K : PySem.W.Frag} {mg : Str → Option Value} {base : Heap} (W : Wd P K mg) : CalM P w K mg base 3 "Stands" "step_of" ["self", "letter", "most"] (spO K "Stands" 2 R_Stands_step_of) := by
  obtain ⟨fd, F⟩ := W.says.d.def_ 34 (d := d_Stands_step_of) rfl
  refine ⟨⟨fd, fn_O F sc_Stands_step_of (fun cdv A outer s H E hr => ?_), F.bindsN (fun _ _ _ _ _ _ us hl => match us, hl with | [_, _, _], _ => rfl)⟩, cls_Stands W, mt_Stands_step_of W⟩
  · exact ds_cons (ds_set (i := 3) (de_fln 0 (cls_Stands W) (na_Stands_table W) (b_len W)) sc_Stands_step_of.nd rfl (by first | exact Or.inl rfl | exact Or.inr rfl)) (ds_cons (ds_asg (de_call (ok_place_bits W) (hr.mono (by decide)) (da_cons (de_fv 0 (cls_Stands W) (na_Stands_lines W)) (da_cons (de_fix 0 (cls_Stands W) (na_Stands_order W) (ve_name 3)) (da_cons (de_name 1) (da_nil))))) (dg_tup rfl (dgs_cons (dg_name 4 sc_Stands_step_of.nd rfl (by first | exact Or.inl rfl | exact Or.inr rfl)) (dgs_cons (dg_name 5 sc_Stands_step_of.nd rfl (by first | exact Or.inl rfl | exact Or.inr rfl)) (dgs_nil))))) (ds_cons (ds_if (dt_ftnin 0 (cls_Stands W) (na_Stands_numbers W) (hu16 hr) (ve_name 5)) (ds_cons (ds_if (dt_eq (hu64 hr) (de_fln 0 (cls_Stands W) (na_Stands_order W) (b_len W)) (de_name 2)) (ds_one (ds_never)) (ds_nil)) (ds_cons (ds_fts 0 (cls_Stands W) (na_Stands_numbers W) (hu16 hr) (ve_name 5) (de_fln 0 (cls_Stands W) (na_Stands_order W) (b_len W))) (ds_cons (ds_drop (de_fap 0 (cls_Stands W) (na_Stands_order W) (de_name 5))) (ds_one (ds_drop (de_fap 0 (cls_Stands W) (na_Stands_texts W) (de_add (de_fix 0 (cls_Stands W) (na_Stands_texts W) (ve_name 3)) (de_tup (di_cons (de_name 1) (di_nil)))))))))) (ds_nil)) (ds_one (ds_ret (de_tup (di_cons (de_ix (de_name 4) (de_neg (de_int))) (di_cons (de_ftg 0 (cls_Stands W) (na_Stands_numbers W) (hu16 hr) (ve_name 5)) (di_nil))))))))
abbrev N_Stands___init__ : List Str := ["self", "program", "most", "letter"]
theorem sc_Stands___init__ : FnScope N_Stands___init__ ["self", "program", "most"] (defScope (inClass (top 54) 0)) := ⟨rfl, rfl, rfl, by decide +kernel, rfl, by decide +kernel, by decide +kernel⟩
theorem ok_Stands___init__ {P : Program} {w : World} {K : PySem.W.Frag} {mg : Str → Option Value} {base : Heap} (W : Wd P K mg) : CalI P w K mg base 4 "Stands" ["self", "program", "most"] (spO K "Stands" 2 R_Stands___init__) := by
  obtain ⟨fd, F⟩ := W.says.d.def_ 33 (d := d_Stands_init) rfl
  refine ⟨⟨fd, fn_O F sc_Stands___init__ (fun cdv A outer s H E hr => ?_), F.bindsN (fun _ _ _ _ _ _ us hl => match us, hl with | [_, _, _], _ => rfl)⟩, mk_Stands W, g_Stands W⟩
  · exact ds_cons (ds_fld 0 (cls_Stands W) (na_Stands_lines W) (de_ix (de_name 1) (de_int))) (ds_cons (ds_fld 0 (cls_Stands W) (na_Stands_letters W) (de_ix (de_cst (k_LETTERS_BY W)) (de_ix (de_name 1) (de_int)))) (ds_cons (ds_fld 0 (cls_Stands W) (na_Stands_order W) (de_lst (di_cons (de_call (ok_noughts_of W) (hr.mono (by decide)) (da_cons (de_ix (de_name 1) (de_int)) (da_nil))) (di_nil)))) (ds_cons (ds_fld 0 (cls_Stands W) (na_Stands_texts W) (de_lst (di_cons (de_tup (di_nil)) (di_nil)))) (ds_cons (ds_fld 0 (cls_Stands W) (na_Stands_numbers W) (de_tdisp (hu16 hr) (de_fix 0 (cls_Stands W) (na_Stands_order W) (ve_int)) (de_int))) (ds_cons (ds_fld 0 (cls_Stands W) (na_Stands_table W) (de_lst (di_nil))) (ds_one (ds_while (passes_of rfl) (dt_lt (de_fln 0 (cls_Stands W) (na_Stands_table W) (b_len W)) (de_fln 0 (cls_Stands W) (na_Stands_order W) (b_len W))) (ds_one (ds_drop (de_fap 0 (cls_Stands W) (na_Stands_table W) (de_tuple (b_tuple W) (de_lc (own := [("letter", 3)]) rfl sc_Stands___init__.nd (di_rng1 (de_fv 0 (cls_Stands W) (na_Stands_letters W)) (b_range W)) (blkOk_by (N := N_Stands___init__) (by kernel_rfl)) (fun _ _ _ _ _ => dg_name 3 sc_Stands___init__.nd rfl (by first | exact Or.inl rfl | exact Or.inr rfl)) (fun _ _ _ _ _ => dts_nil) (fun _ _ _ _ _ => de_mc 0 (ok_Stands_step_of W) (hr.mono (by decide)) (da_cons (de_name 3) (da_cons (de_name 2) (da_nil))))))))))))))))
abbrev N_stands_of : List Str := ["program"]
theorem sc_stands_of : FnScope N_stands_of ["program"] (defScope (top 55)) := ⟨rfl, rfl, rfl, by decide +kernel, rfl, by decide +kernel, by decide +kernel⟩
theorem ok_stands_of {P : Program} {w : World} {K : PySem.W.Frag} {mg : Str → Option Value} {base : Heap} (W : Wd P K mg) : Cal P w K mg base 6 "stands_of" ["program"] (spN K "Stands" 1 R_stands_of) := by
  obtain ⟨fd, F⟩ := W.says.d.def_ 35 (d := d_stands_of) rfl
  refine ⟨⟨fd, fn_N F sc_stands_of (fun cdv A outer s H E hr => ?_), F.bindsN (fun _ _ _ _ _ _ us hl => match us, hl with | [_], _ => rfl)⟩, g_stands_of W, F.kp⟩
  · exact pss_ret1 (de_mk (ok_Stands___init__ W) (hr.mono (by decide)) (da_cons (de_name 0) (da_cons (de_cst (k_MOST_STANDS W)) (da_nil))))
abbrev N_scanner_by_table : List Str := ["bits", "table", "lots"]
theorem sc_scanner_by_table : FnScope N_scanner_by_table ["bits", "table"] (defScope (top 60)) := ⟨rfl, rfl, rfl, by decide +kernel, rfl, by decide +kernel, by decide +kernel⟩
theorem ok_scanner_by_table {P : Program} {w : World} {K : PySem.W.Frag} {mg : Str → Option Value} {base : Heap} (W : Wd P K mg) : Cal P w K mg base 3 "scanner_by_table" ["bits", "table"] (spF K 2 R_scanner_by_table) := by
  obtain ⟨fd, F⟩ := W.says.d.def_ 40 (d := d_scanner_by_table) rfl
  refine ⟨⟨fd, fn_D F sc_scanner_by_table (fun cdv A outer s H E hr => ?_), F.bindsN (fun _ _ _ _ _ _ us hl => match us, hl with | [_, _], _ => rfl)⟩, g_scanner_by_table W, F.kp⟩
  · have tk := takes_of (E := E) (X := cxOf (L2.CX P w) P w K mg base N_scanner_by_table "scanner_by_table" (defScope (top 60)) (He.ga K "scanner_by_table") cdv A outer s H E) rfl rfl rfl rfl
    exact ds_cons (ds_set (i := 2) (de_ix (de_call (ok_lot_levels W) (hr.mono (by decide)) (da_cons (de_name 1) (da_cons (de_cst (k_MOST_STATES W)) (da_nil)))) (de_neg (de_int))) sc_scanner_by_table.nd rfl (by first | exact Or.inl rfl | exact Or.inr rfl)) (ds_cons (ds_if (dt_ge (de_max1 rfl (b_max W) (de_name 2)) (de_cst (k_MOST_STATES W))) (ds_one (ds_raise rfl tk (x_TooGreat W (hr.mono (by decide))) (da_cons (de_cst (k_MOST_STATES W)) (da_nil)))) (ds_nil)) (ds_one (ds_ret (de_tup (di_cons (de_name 0) (di_cons (de_call (ok_least_table W) (hr.mono (by decide)) (da_cons (de_name 1) (da_cons (de_name 2) (da_nil)))) (di_nil)))))))
abbrev N_scanner_of : List Str := ["program"]
theorem sc_scanner_of : FnScope N_scanner_of ["program"] (defScope (top 61)) := ⟨rfl, rfl, rfl, by decide +kernel, rfl, by decide +kernel, by decide +kernel⟩
theorem ok_scanner_of {P : Program} {w : World} {K : PySem.W.Frag} {mg : Str → Option Value} {base : Heap} (W : Wd P K mg) : Cal P w K mg base 7 "scanner_of" ["program"] (spF K 1 R_scanner_of) := by
  obtain ⟨fd, F⟩ := W.says.d.def_ 41 (d := d_scanner_of) rfl
  refine ⟨⟨fd, fn_D F sc_scanner_of (fun cdv A outer s H E hr => ?_), F.bindsN (fun _ _ _ _ _ _ us hl => match us, hl with | [_], _ => rfl)⟩, g_scanner_of W, F.kp⟩
  · have tk := takes_of (E := E) (X := cxOf (L2.CX P w) P w K mg base N_scanner_of "scanner_of" (defScope (top 61)) (He.ga K "scanner_of") cdv A outer s H E) rfl rfl rfl rfl
    exact ds_one (ds_retX tk (ok_scanner_by_table W) (hr.mono (by decide)) (da_cons (de_ix (de_call (ok_need_program W) (hr.mono (by decide)) (da_cons (de_name 0) (da_nil))) (de_int)) (da_cons (de_nf (cls_Stands W) (na_Stands_table W) (de_calln (ok_stands_of W) (hr.mono (by decide)) (da_cons (de_name 0) (da_nil)))) (da_nil))))
end Sc
set_option maxRecDepth 100000
set_option maxHeartbeats 0
namespace Sc
open PySem PySem.Spec PyProof.Rows L2
abbrev N__law_mixed : List Str := ["cell", "n", "blend"]
theorem sc__law_mixed : FnScope N__law_mixed ["cell", "n"] (defScope (top 71)) := ⟨rfl, rfl, rfl, by decide +kernel, rfl, by decide +kernel, by decide +kernel⟩
theorem ok__law_mixed {P : Program} {w : World} {K : PySem.W.Frag} {mg : Str → Option Value} {base : Heap} (W : Wd P K mg) : Cal P w K mg base 1 "_law_mixed" ["cell", "n"] (spF K 2 R__law_mixed) := by
  obtain ⟨fd, F⟩ := W.says.d.def_ 46 (d := d__law_mixed) rfl
  refine ⟨⟨fd, fn_D F sc__law_mixed (fun cdv A outer s H E hr => ?_), F.bindsN (fun _ _ _ _ _ _ us hl => match us, hl with | [_, _], _ => rfl)⟩, g__law_mixed W, F.kp⟩
  · exact ds_cons (ds_set (i := 2) (de_add (de_add (de_mod (de_int1 (b_int W) (de_mul (de_mul (de_name 0) (de_add (de_int) (de_mul (de_int) (de_name 1)))) (de_int))) (de_int)) (de_mul (de_mul (de_int) (de_name 1)) (de_name 1))) (de_mul (de_int) (de_name 1))) sc__law_mixed.nd rfl (by first | exact Or.inl rfl | exact Or.inr rfl)) (ds_one (ds_ret (de_div (de_mod (de_int1 (b_int W) (de_mul (de_name 2) (de_int))) (de_int)) (de_int))))
abbrev N__law_folded : List Str := ["script", "found", "n", "cell"]
theorem sc__law_folded : FnScope N__law_folded ["script"] (defScope (top 72)) := ⟨rfl, rfl, rfl, by decide +kernel, rfl, by decide +kernel, by decide +kernel⟩
theorem ok__law_folded {P : Program} {w : World} {K : PySem.W.Frag} {mg : Str → Option Value} {base : Heap} (W : Wd P K mg) : Cal P w K mg base 1 "_law_folded" ["script"] (spF K 1 R__law_folded) := by
  obtain ⟨fd, F⟩ := W.says.d.def_ 47 (d := d__law_folded) rfl
  refine ⟨⟨fd, fn_D F sc__law_folded (fun cdv A outer s H E hr => ?_), F.bindsN (fun _ _ _ _ _ _ us hl => match us, hl with | [_], _ => rfl)⟩, g__law_folded W, F.kp⟩
  · exact ds_cons (ds_setLc (i := 1) (own := [("n", 2)]) rfl sc__law_folded.nd rfl rfl (sw_true rfl rfl rfl (by decide +kernel)) (di_rng1 (de_int) (b_range W)) (blkOk_by (N := N__law_folded) (by kernel_rfl)) (fun _ _ _ _ _ => dg_name 2 sc__law_folded.nd rfl (by first | exact Or.inl rfl | exact Or.inr rfl)) (fun _ _ _ _ _ => dts_nil) (fun _ _ _ _ _ => de_add (de_int) (de_name 2))) (ds_cons (ds_for (passes_of rfl) rfl (di_enum (de_name 0) (b_enumerate W)) (dg_tup rfl (dgs_cons (dg_name 2 sc__law_folded.nd rfl (by first | exact Or.inl rfl | exact Or.inr rfl)) (dgs_cons (dg_name 3 sc__law_folded.nd rfl (by first | exact Or.inl rfl | exact Or.inr rfl)) (dgs_nil)))) (ds_one (ds_st 1 (hu1 hr) (de_mod (de_int1 (b_int W) (de_name 2)) (de_int)) (de_mod (de_int1 (b_int W) (de_add (de_mul (de_ix (de_name 1) (de_mod (de_int1 (b_int W) (de_name 2)) (de_int))) (de_int)) (de_name 3))) (de_int))))) (ds_cons (ds_for (passes_of rfl) rfl (di_rng2 (de_int) (de_int) (b_range W)) (dg_name 2 sc__law_folded.nd rfl (by first | exact Or.inl rfl | exact Or.inr rfl)) (ds_one (ds_st 1 (hu1 hr) (de_name 2) (de_mod (de_int1 (b_int W) (de_add (de_ix (de_name 1) (de_name 2)) (de_mul (de_ix (de_name 1) (de_sub (de_name 2) (de_int))) (de_int)))) (de_int))))) (ds_one (ds_ret (de_name 1)))))
/-! ### the draw, by hand -/
abbrev N__law_draw : List Str := ["m", "limit", "n", "lot", "here", "cell"]
theorem dp_ints {K : PySem.W.Frag} {H : Hp} : ∀ ns : List Int, DpAll K H (ns.map V.int) (pyOfs (ns.map D.int))
  | [] => .nil
  | n :: ns => .cons (.int n) (dp_ints ns)
theorem shaped_ints (ns : List Int) : SeqAt.shaped (.list (pyOfs (ns.map D.int))) = true := by
  have h := okEq_iff (d := .lst (ns.map D.int)) (by
    have h1 : ∀ ns : List Int, nobs (ns.map D.int) = true := fun ns => by induction ns with
      | nil => rfl
      | cons n ns ih => rw [List.map_cons, nobs, ih]; rfl
    have h2 : ∀ ns : List Int, soks (ns.map D.int) = true := fun ns => by induction ns with
      | nil => rfl
      | cons n ns ih => rw [List.map_cons, soks, ih]; rfl
    have h3 : ∀ ns : List Int, deps (ns.map D.int) ≤ 1 := fun ns => by induction ns with
      | nil => exact Nat.zero_le _
      | cons n ns ih => rw [List.map_cons, deps]; exact Nat.max_le.mpr ⟨Nat.le_refl 1, ih⟩
    unfold okEq
    rw [nob, sok, dep, h1, h2, Bool.true_and, Bool.true_and, decide_eq_true_eq]
    have := h3 ns
    omega)
  exact h.2
theorem eqv_nil (ns : List Int) : PyData.eqv (.list (pyOfs (ns.map D.int))) (.list []) = decide (ns = []) := by
  cases ns with
  | nil => rfl
  | cons n ns => simp [pyOfs, PyData.eqv, PyData.eqvAll]
theorem atI_pos {ns : List Int} {i : Int} {c : Int} (h0 : 0 ≤ i) (h : ns[i.toNat]? = some c) : atI (ns.map V.int) i = some (.int c) := by
  have hj : i.toNat < ns.length := (List.getElem?_eq_some_iff.mp h).1
  have e : i = (i.toNat : Int) := by omega
  rw [e]
  exact atI_nat (by rw [List.getElem?_map, h]; rfl)
theorem ixN_pos {n : Nat} {i : Int} (h0 : 0 ≤ i) (h : i < n) : ixN n i = some i.toNat := by
  unfold ixN
  rw [if_pos h0, if_pos h]
/-- region kept -/
structure Kp (H H' : Hp) (p : P3) (M : DrawSt) : Prop where
  k : ∀ a o, ¬ inR p a → H a = some o → H' a = some o
  r : Reg H' p M
theorem Kp.spot {H H' : Hp} {p : P3} {M : DrawSt} (h : Kp H H' p M) (n : Int) : Kp H (upd H' p.1 (.dK (drawKvs p.2.1 p.2.2 n))) p { M with spot := n } := by
  refine ⟨fun a o na e => by rw [upd_ne (fun z => na (.inl z))]; exact h.k a o na e, h.r.n1, h.r.n2, h.r.n3, upd_same, ?_, ?_⟩
  · rw [upd_ne (Ne.symm h.r.n1)]; exact h.r.c
  · rw [upd_ne (Ne.symm h.r.n2)]; exact h.r.g
theorem Kp.new {H H' : Hp} {p : P3} {M : DrawSt} {q : Addr} {u : HO} (h : Kp H H' p M) (hq : H' q = none) : Kp H (upd H' q u) p M := by
  have ne : ∀ a o, H' a = some o → a ≠ q := fun a o e z => by rw [z, hq] at e; cases e
  exact ⟨fun a o na e => by rw [upd_ne (ne a o (h.k a o na e))]; exact h.k a o na e, h.r.n1, h.r.n2, h.r.n3, by rw [upd_ne (ne _ _ h.r.m)]; exact h.r.m, by rw [upd_ne (ne _ _ h.r.c)]; exact h.r.c, by rw [upd_ne (ne _ _ h.r.g)]; exact h.r.g⟩
theorem Kp.same {H H' H2 : Hp} {p : P3} {M : DrawSt} (h : Kp H H' p M) (s : Same H' H2) : Kp H H2 p M :=
  ⟨fun a o na e => s a o (h.k a o na e), h.r.n1, h.r.n2, h.r.n3, s _ _ h.r.m, s _ _ h.r.c, s _ _ h.r.g⟩
theorem Kp.great {H H' : Hp} {p : P3} {M : DrawSt} (h : Kp H H' p M) (gs : List Int) : Kp H (upd H' p.2.2 (.lst (gs.map V.int))) p { M with great := gs } := by
  refine ⟨fun a o na e => by rw [upd_ne (fun z => na (.inr (.inr z)))]; exact h.k a o na e, h.r.n1, h.r.n2, h.r.n3, ?_, ?_, upd_same⟩
  · rw [upd_ne h.r.n2]; exact h.r.m
  · rw [upd_ne h.r.n3]; exact h.r.c
theorem go_mix {K : PySem.W.Frag} {H : Hp} {c n x : Int} {Q : VK} {E : XK} (e : mixR c n = some x) (q : ∀ H', Same H H' → Q (.int x) H') : spF K 2 R__law_mixed ([.int c, .int n] ++ []) H Q E := by
  unfold mixR at e
  split at e
  · rename_i y z
    cases e
    exact ⟨[.int c, .int n], _, ⟨_, _, rfl, rfl, _, _, rfl, rfl, rfl⟩, rfl, z, fun v H' s r => by cases r; exact q H' s⟩
  · cases e
theorem dget_spot {K : PySem.W.Frag} {H : Hp} {p : P3} {M : DrawSt} (r : Reg H p M) : DGet H p.1 (.str "spot") (some (.int M.spot)) := by
  have := DGet.k (k := .inr "spot") r.m
  exact this
theorem dget_great {H : Hp} {p : P3} {M : DrawSt} (r : Reg H p M) : DGet H p.1 (.str "great") (some (.ref p.2.2)) := DGet.k (k := .inr "great") r.m
theorem dget_cells {H : Hp} {p : P3} {M : DrawSt} (r : Reg H p M) : DGet H p.1 (.str "cells") (some (.ref p.2.1)) := DGet.k (k := .inr "cells") r.m
theorem dput_spot {H : Hp} {p : P3} {M : DrawSt} {n : Int} (r : Reg H p M) : DPut H p.1 (.str "spot") (.int n) (upd H p.1 (.dK (drawKvs p.2.1 p.2.2 n))) := DPut.k (k := .inr "spot") r.m (by show 3 < sizeLine; decide)
theorem sc__law_draw : FnScope N__law_draw ["m", "limit"] (defScope (top 73)) := ⟨rfl, rfl, rfl, by decide +kernel, rfl, by decide +kernel, by decide +kernel⟩
theorem ok__law_draw {P : Program} {w : World} {K : PySem.W.Frag} {mg : Str → Option Value} {base : Heap} (W : Wd P K mg) : Cal P w K mg base 2 "_law_draw" ["m", "limit"] (spM K 1 R__law_draw) := by
  obtain ⟨fd, F⟩ := W.says.d.def_ 48 (d := d__law_draw) rfl
  refine ⟨⟨fd, ?_, F.bindsN (fun _ _ _ _ _ _ us hl => match us, hl with | [_, _], _ => rfl)⟩, g__law_draw W, F.kp⟩
  refine FunD.ok (k := 1) F sc__law_draw (fun vs H Q E ⟨p, M, ds, d, M', rest, h0, _, h1, h2, _⟩ => by rw [h0, List.length_cons, h1.length, h2]; rfl) fun cdv A outer s H vs Q E hr h => ?_
  obtain ⟨p, M, ds, d, M', rest, rfl, R, h1, h2, h3, h4⟩ := h
  have hu := hu1 hr
  have nd := sc__law_draw.nd
  obtain ⟨limit, rfl⟩ : ∃ limit, ds = [.int limit] := by
    unfold R__law_draw at h3
    split at h3
    · exact ⟨_, rfl⟩
    · cases h3
  obtain ⟨v, r, rfl, hv, hr0⟩ := h1
  cases hv
  cases hr0
  replace h3 : drawF M limit = some (d, M') := h3
  unfold drawF at h3
  split at h3
  case isFalse => cases h3
  rename_i hc
  obtain ⟨c1, c2, c3, c4⟩ := hc
  obtain ⟨fdm, Fm, bm⟩ := (ok__law_mixed (P := P) (w := w) (base := base) W).ex
  have gm := (ok__law_mixed (P := P) (w := w) (base := base) W).gl
  have km := (ok__law_mixed (P := P) (w := w) (base := base) W).kp
  -- the end by the cells
  obtain ⟨tr, hrest, rdrest⟩ : ∃ tr : TS, PSs (cxOf (L2.CX P w) P w K mg base N__law_draw "_law_draw" (defScope (top 73)) (He.ga K "_law_draw") cdv A outer s H E) ((defBody (top 73)).drop 3) tr ∧
      ∀ (o3 o4 o5 : Option V) H', Kp H H' p { M with spot := M.spot + 1 } → drawRest M limit = some (d, M') → tr { nx := fun _ H' => Q .non H', rt := Q } [some (.ref p.1), some (.int limit), some (.int M.spot), o3, o4, o5] H' := by
    refine ⟨_, pss_cons (ps_set (i := 3) nd rfl (Or.inl rfl) (pe_dget hu (pv 0) pe_str (fun _ _ => rfl))) (pss_one (ps_ret (pe_op op_mod (pe_callTy call_int1 rfl (b_int W) (by decide +kernel) (pa_cons (pe_call Fm (hr.mono (by omega)) rfl gm km bm .nil passL (pa_cons (pe_call Fm (hr.mono (by omega)) rfl gm km bm .nil passL
      (pa_cons (pe_op op_add (pe_ix ix_list (pv 3) (pe_op op_mod (pe_callTy call_int1 rfl (b_int W) (by decide +kernel) (pa_cons (pv 2) pa_nil)) pe_int) (fun _ _ => rfl)) (pe_op op_mul pe_int (pe_op op_fdiv (pv 2) pe_int))) (pa_cons (pv 2) pa_nil))) (pa_cons (pe_op op_add (pv 2) pe_int) pa_nil))) pa_nil)) (pv 1)))), fun o3 o4 o5 H' kp e => ?_⟩
    obtain ⟨c, e1, e⟩ := ob e
    obtain ⟨x, e2, e⟩ := ob e
    obtain ⟨y, e3, e4⟩ := Option.map_eq_some_iff.mp e
    cases e4
    refine ⟨_, rfl, p.1, _, rfl, dget_cells kp.r, ?_⟩
    refine ⟨_, rfl, _, rfl, .inl ⟨M.spot, rfl, M.spot, 64, rfl, rfl, (show (0 : Int) < 64 by decide), p.2.1, _, M.spot % 64, .int c, rfl, rfl, SqL.of kp.r.c, atI_pos (by omega) e1, ?_⟩⟩
    refine ⟨_, rfl, M.spot, 64, rfl, rfl, ⟨by decide, by decide⟩, 31, M.spot / 64, rfl, rfl, .inl ⟨by decide, by decide⟩, c, 31 * (M.spot / 64), rfl, rfl, _, rfl, go_mix e2 fun H2 s2 => ?_⟩
    refine ⟨_, rfl, M.spot, 7, rfl, rfl, go_mix e3 fun H3 s3 => ?_⟩
    have kp' := (kp.same s2).same s3
    exact .inl ⟨y, rfl, _, rfl, y, limit, rfl, rfl, c1, h4 _ _ kp'.k kp'.r rfl⟩
  have kp0 : Kp H H p M := ⟨fun a o _ e => e, R⟩
  have kp1 := kp0.spot (M.spot + 1)
  refine ⟨_, pss_cons (ps_set (i := 2) nd rfl (Or.inl rfl) (pe_dget hu (pv 0) pe_str (fun _ _ => rfl))) (pss_cons (ps_dput hu (pv 0) pe_str (pe_op op_add (pv 2) pe_int) rfl)
    (pss_cons (ps_if (pt_cmpR (op_neD (hu64 hr)) (pe_dget hu (pv 0) pe_str (fun _ _ => rfl)) (pe_lst pa_nil) rfl)
      (pss_cons (ps_set (i := 3) nd rfl (Or.inl rfl) (pe_dget hu (pv 0) pe_str (fun _ _ => rfl)))
      (pss_cons (ps_set (i := 4) nd rfl (Or.inl rfl) (pe_op op_mod (pe_callTy call_int1 rfl (b_int W) (by decide +kernel) (pa_cons (pv 2) pa_nil)) (pe_callB call_len_seq rfl (b_len W) (by decide +kernel) (pa_cons (pv 3) pa_nil))))
      (pss_cons (ps_set (i := 5) nd rfl (Or.inl rfl) (pe_ix ix_list (pv 3) (pv 4) (fun _ _ => rfl)))
      (pss_one (ps_if (pt_cmpR op_gt (pv 5) pe_int rfl)
        (pss_cons (ps_asg (pe_op op_fdiv (pv 5) (pv 1)) (pg_sub (pv 3) (pv 4) set_list))
        (pss_one (ps_ret (pe_op op_mod (pe_callTy call_int1 rfl (b_int W) (by decide +kernel) (pa_cons (pv 5) pa_nil)) (pv 1)))))
        pss_nil)))))
      pss_nil) hrest)), ?_⟩
  refine ⟨_, rfl, p.1, _, rfl, dget_spot (K := K) R, ?_⟩
  refine ⟨_, rfl, M.spot, 1, rfl, rfl, _, rfl, p.1, _, rfl, dput_spot R, ?_⟩
  refine ⟨_, rfl, p.1, _, rfl, dget_great kp1.r, by decide, fun q hq => ?_⟩
  have kp2 := kp1.new (u := .lst []) hq
  refine ⟨.list (pyOfs (M.great.map D.int)), .list [], .lst (SqL.of kp2.r.g) (dp_ints _), .lst (SqL.of upd_same) .nil, shaped_ints _, by decide, _, rfl, ?_⟩
  rw [eqv_nil]
  by_cases hg : M.great = []
  · rw [if_pos hg] at h3
    rw [decide_eq_true hg]
    exact iteF (rdrest _ _ _ _ kp2 h3)
  · rw [if_neg hg] at h3
    rw [decide_eq_false hg]
    refine iteT ?_
    obtain ⟨c, e1, e2⟩ := ob h3
    have hlen : (0 : Int) < (M.great.length : Int) := by
      have := List.length_pos_iff.mpr hg
      omega
    have hmod := Int.emod_nonneg M.spot (show ((M.great.length : Nat) : Int) ≠ 0 by omega)
    have hmlt := Int.emod_lt_of_pos M.spot hlen
    refine ⟨_, rfl, p.1, _, rfl, dget_great kp2.r, ?_⟩
    refine ⟨_, rfl, .inl ⟨M.spot, rfl, _, rfl, p.2.2, _, rfl, .inl (SqL.of kp2.r.g), M.spot, (M.great.length : Int), rfl, by rw [List.length_map], hlen, ?_⟩⟩
    refine ⟨_, rfl, _, rfl, p.2.2, _, M.spot % (M.great.length : Int), .int c, rfl, rfl, SqL.of kp2.r.g, atI_pos hmod e1, ?_⟩
    refine ⟨_, rfl, c, 0, rfl, rfl, _, rfl, ?_⟩
    by_cases hc0 : 0 < c
    · replace e2 : (if 0 < c then some (D.int (c % limit), { M with spot := M.spot + 1, great := M.great.set (M.spot % M.great.length).toNat (c / limit) }) else drawRest M limit) = some (d, M') := e2
      rw [if_pos hc0] at e2
      cases e2
      rw [decide_eq_true hc0]
      refine iteT ⟨_, rfl, _, rfl, c, limit, rfl, rfl, ⟨c1, c2⟩, _, rfl, _, rfl, p.2.2, _, M.spot % (M.great.length : Int), (M.spot % (M.great.length : Int)).toNat, rfl, rfl, kp2.r.g, ixN_pos hmod (by rw [List.length_map]; exact hmlt), ?_⟩
      have kp3 := kp2.great (M.great.set (M.spot % (M.great.length : Int)).toNat (c / limit))
      rw [show (M.great.map V.int).set (M.spot % (M.great.length : Int)).toNat (V.int (c / limit)) = (M.great.set (M.spot % (M.great.length : Int)).toNat (c / limit)).map V.int by rw [List.map_set]]
      exact ⟨_, rfl, .inl ⟨c, rfl, _, rfl, c, limit, rfl, rfl, c1, h4 _ _ kp3.k kp3.r rfl⟩⟩
    · replace e2 : (if 0 < c then some (D.int (c % limit), { M with spot := M.spot + 1, great := M.great.set (M.spot % M.great.length).toNat (c / limit) }) else drawRest M limit) = some (d, M') := e2
      rw [if_neg hc0] at e2
      rw [decide_eq_false hc0]
      exact iteF (rdrest _ _ _ _ kp2 e2)
/-! ### the drawing state begun, by hand -/
abbrev N__law_begun : List Str := ["script", "m", "cell"]
theorem sc__law_begun : FnScope N__law_begun ["script"] (defScope (top 74)) := ⟨rfl, rfl, rfl, by decide +kernel, rfl, by decide +kernel, by decide +kernel⟩
/-- a def that makes the drawing state -/
def spB (K : PySem.W.Frag) (F : List Int → Option DrawSt) : Sp := fun vs H Q E => ∃ script M, Rps K none H [.lst (script.map D.int)] vs ∧ F script = some M ∧ ∀ p H', (∀ a, inR p a → H a = none) → Same H H' → Reg H' p M → Q (.ref p.1) H'
theorem ge_eq (c : Int) (x0 x1 : Sc.Slot) : itF ge__law_begun [x0, x1, .ar (.int c)] = some ((true, .int (if 10 ^ 18 ≤ c then c else 0)), [x0, x1, .ar (.int c)]) := by
  by_cases h : (10 : Int) ^ 18 ≤ c
  · have h' : (1000000000000000000 : Int) ≤ c := by simpa using h
    simp [ge__law_begun, cPow, h']
  · have h' : ¬ (1000000000000000000 : Int) ≤ c := by simpa using h
    simp [ge__law_begun, cPow, h']
theorem begun_eq (script : List Int) (x1 : Sc.Slot) (hl : script.length ≤ LIM) : fc__law_begun [.ar (.lst (script.map D.int)), x1, .emp] = some (.nw ((greatOf script).map D.int), [.ar (.lst (script.map D.int)), x1, .emp]) := by
  have h : lcL (gnm 2) ttY ge__law_begun [2] ((script.map D.int).map fun d => (false, d)) [.ar (.lst (script.map D.int)), x1, .emp] = some (((script.map D.int).map fun d => (false, d)).map (fun p => match p.2 with | .int c => .int (if 10 ^ 18 ≤ c then c else 0) | d => d), [.ar (.lst (script.map D.int)), x1, .emp]) := by
    refine lcL_map _ fun p hp => ?_
    obtain ⟨d, hd, rfl⟩ := List.mem_map.mp hp
    obtain ⟨c, _, rfl⟩ := List.mem_map.mp hd
    exact ⟨_, _, _, _, rfl, rfl, rfl, rfl, ge_eq c _ _, rfl⟩
  have h2 : (((script.map D.int).map fun d => (false, d)).map (fun p => match p.2 with | .int c => .int (if 10 ^ 18 ≤ c then c else 0) | d => d)) = (greatOf script).map D.int := by
    unfold greatOf
    rw [List.map_map, List.map_map, List.map_map]
    rfl
  rw [h2] at h
  have hl2 : (greatOf script).length ≤ LIM := by unfold greatOf; rw [List.length_map]; exact hl
  show (lcF (seqI (nmF 0)) (gnm 2) ttY ge__law_begun [2]) _ = _
  rw [lcF_eq]
  rw [List.map_map] at h
  simp [h, hl2]
theorem sd_all {K : PySem.W.Frag} {H : Hp} {v u : V} {d : D} (h : Rp K none H d v) : SD K ⟨H, fun _ => none, fun _ => .non⟩ H H [some v, some u, none] [.ar d, .emp, .emp] := by
  refine ⟨rfl, Same.refl _, Same.refl _, fun a o e => (nomatch e), fun a o e _ => e, fun _ => [], fun i s e => ?_, fun i a m => (nomatch m), fun i j a m => (nomatch m), fun i hi => rfl, fun i a m => (nomatch m)⟩
  match i, e with
  | 0, e => cases e; exact ⟨rfl, v, rfl, h⟩
  | 1, e => cases e; rfl
  | 2, e => cases e; rfl
theorem ok__law_begun {P : Program} {w : World} {K : PySem.W.Frag} {mg : Str → Option Value} {base : Heap} (W : Wd P K mg) : Cal P w K mg base 2 "_law_begun" ["script"] (spB K begunF) := by
  obtain ⟨fd, F⟩ := W.says.d.def_ 49 (d := d__law_begun) rfl
  refine ⟨⟨fd, ?_, F.bindsN (fun _ _ _ _ _ _ us hl => match us, hl with | [_], _ => rfl)⟩, g__law_begun W, F.kp⟩
  refine FunD.ok (k := 1) F sc__law_begun (fun vs H Q E ⟨script, M, h1, _⟩ => by rw [h1.length]; rfl) fun cdv A outer s H vs Q E hr h => ?_
  obtain ⟨script, M, h1, h2, h3⟩ := h
  obtain ⟨v, r, rfl, hv, hr0⟩ := h1
  cases hr0
  have hu := hu1 hr
  have nd := sc__law_begun.nd
  obtain ⟨fdm, Fm, bm⟩ := (ok__law_folded (P := P) (w := w) (base := base) W).ex
  have gm := (ok__law_folded (P := P) (w := w) (base := base) W).gl
  have km := (ok__law_folded (P := P) (w := w) (base := base) W).kp
  unfold begunF at h2
  split at h2
  case h_2 => cases h2
  rename_i ds e0
  split at h2
  case isFalse => cases h2
  rename_i hl
  obtain ⟨cells, e1, e2⟩ := Option.map_eq_some_iff.mp h2
  cases e2
  have ec := intsOf_eq e1
  subst ec
  refine ⟨_, pss_cons (ps_set (i := 1) nd rfl (Or.inl rfl) (pe_disp (pps_cons pe_str (pe_call Fm (hr.mono (by omega)) rfl gm km bm .nil passL (pa_cons (pv 0) pa_nil)) (pps_cons pe_str (pe_lst pa_nil) (pps_cons pe_str pe_int pps_nil))) rfl rfl (fun z => (nomatch z)) (by decide)))
    (pss_cons (ps_dput hu (pv 1) pe_str (de_lc (own := [("cell", 2)]) rfl sc__law_begun.nd (di_seq (de_name 0)) (blkOk_by (N := N__law_begun) (by kernel_rfl)) (fun _ _ _ _ _ => dg_name 2 sc__law_begun.nd rfl (by first | exact Or.inl rfl | exact Or.inr rfl)) (fun _ _ _ _ _ => dts_nil) (fun _ _ _ _ _ => de_if (dt_ge (de_name 2) (de_pow (de_int) (de_int))) (de_name 2) (de_int))) rfl) (pss_one (ps_ret (pv 1)))), ?_⟩
  intro q hq
  have sq : Same H (upd H q (.dK [])) := fun a o e => by rw [upd_ne (ne_of_none e hq)]; exact e
  refine ⟨v, rfl, [.lst (script.map D.int)], _, ⟨v, [], rfl, hv.mono sq, rfl⟩, rfl, e0, fun u H1 s1 r1 => ?_⟩
  obtain ⟨ac, vs, rfl, ⟨n1, a1⟩, r2⟩ := r1
  have ev := rps_ints r2
  subst ev
  refine ⟨by decide, fun ag hag => ?_⟩
  have nq : ac ≠ q := fun z => by rw [z, upd_same] at n1; cases n1
  have hac : H ac = none := by rw [upd_ne nq] at n1; exact n1
  have hq1 : H1 q = some (.dK []) := s1 _ _ upd_same
  have nag : q ≠ ag := fun z => by rw [← z, hq1] at hag; cases hag
  have nac : ac ≠ ag := fun z => by rw [← z, a1] at hag; cases hag
  refine ⟨by rw [upd_ne nag]; exact hq1, [(.inr "cells", .ref ac), (.inr "great", .ref ag), (.inr "spot", .int 0)], rfl, (show 3 ≤ 15 by decide), ?_⟩
  -- the heap as it stands
  have sH : Same H (upd (upd H1 ag (.lst [])) q (.dK (mergeK [] [(.inr "cells", .ref ac), (.inr "great", .ref ag), (.inr "spot", .int 0)]))) := fun a o e => by
    have z1 : a ≠ q := fun z => by rw [z, hq] at e; cases e
    have z2 : a ≠ ag := fun z => by
      have e2 := s1 _ _ (sq _ _ e)
      rw [z, hag] at e2; cases e2
    rw [upd_ne z1, upd_ne z2]
    exact s1 _ _ (sq _ _ e)
  generalize hH2 : upd (upd H1 ag (.lst [])) q (.dK (mergeK [] [(.inr "cells", .ref ac), (.inr "great", .ref ag), (.inr "spot", .int 0)])) = H2 at sH ⊢
  have q2 : H2 q = some (.dK (drawKvs ac ag 0)) := by rw [← hH2, upd_same]; rfl
  have ac2 : H2 ac = some (.lst (cells.map V.int)) := by rw [← hH2, upd_ne nq, upd_ne nac]; exact a1
  refine ⟨⟨H2, fun _ => none, fun _ => .non⟩, H2, _, _, _, sd_all (hv.mono sH), begun_eq script .emp hl, fun w H3 H4 s3 S4 R4 => ?_⟩
  obtain ⟨O, ag2, gs, _, _, _, rfl, n4, a4, r4⟩ := R4
  have eg := rps_ints r4
  subst eg
  have s24 : Same H2 H4 := s3.trans S4.sub
  have nn : H2 ag2 = none := s3.free n4
  refine ⟨_, rfl, q, _, rfl, DPut.k (k := .inr "great") (s24 _ _ q2) (by show 3 < sizeLine; decide), _, rfl, ?_⟩
  have nq2 : ag2 ≠ q := fun z => by rw [z, q2] at nn; cases nn
  have nac2 : ag2 ≠ ac := fun z => by rw [z, ac2] at nn; cases nn
  refine h3 (q, ac, ag2) _ (fun a ha => ?_) (fun a o e => ?_) ⟨Ne.symm nq, Ne.symm nq2, Ne.symm nac2, upd_same, ?_, ?_⟩
  · rcases ha with rfl | rfl | rfl
    · exact hq
    · exact hac
    · exact sH.free nn
  · rw [upd_ne (fun z => by rw [z, hq] at e; cases e)]
    exact s24 _ _ (sH _ _ e)
  · show upd H4 q _ ac = _
    rw [upd_ne nq]
    exact s24 _ _ ac2
  · show upd H4 q _ ag2 = _
    rw [upd_ne nq2]
    exact a4
abbrev N__law_of : List Str := ["m", "some"]
theorem sc__law_of : FnScope N__law_of ["m", "some"] (defScope (top 75)) := ⟨rfl, rfl, rfl, by decide +kernel, rfl, by decide +kernel, by decide +kernel⟩
theorem ok__law_of {P : Program} {w : World} {K : PySem.W.Frag} {mg : Str → Option Value} {base : Heap} (W : Wd P K mg) : Cal P w K mg base 3 "_law_of" ["m", "some"] (spM K 1 R__law_of) := by
  obtain ⟨fd, F⟩ := W.says.d.def_ 50 (d := d__law_of) rfl
  refine ⟨⟨fd, fn_M F sc__law_of (fun cdv A outer s H E hr => ?_), F.bindsN (fun _ _ _ _ _ _ us hl => match us, hl with | [_, _], _ => rfl)⟩, g__law_of W, F.kp⟩
  · exact ds_one (ds_ret (de_ix (de_name 1) (de_callM 0 (ok__law_draw W) (hr.mono (by decide)) (da_cons (de_len (b_len W) (de_name 1)) (da_nil)))))
abbrev N__law_same : List Str := ["told", "due", "one", "far"]
theorem sc__law_same : FnScope N__law_same ["told", "due"] (defScope (top 76)) := ⟨rfl, rfl, rfl, by decide +kernel, rfl, by decide +kernel, by decide +kernel⟩
theorem okn__law_same {P : Program} {w : World} {K : PySem.W.Frag} {mg : Str → Option Value} {base : Heap} (W : Wd P K mg) : ∀ n, Cal P w K mg base (n + 0) "_law_same" ["told", "due"] (spF K 2 (Rn__law_same n)) := by
  obtain ⟨fd, F⟩ := W.says.d.def_ 51 (d := d__law_same) rfl
  have bd : Binds K fd ["told", "due"] [] := F.bindsN (fun _ _ _ _ _ _ us hl => match us, hl with | [_, _], _ => rfl)
  intro n
  induction n with
  | zero => exact ⟨⟨fd, fn_none, bd⟩, g__law_same W, F.kp⟩
  | succ n ih =>
    refine ⟨⟨fd, FnOk.mono (fn_D (k := n + 0) F sc__law_same (fun cdv A outer s H E hr => ?_)) (by omega), bd⟩, g__law_same W, F.kp⟩
    have C := @ih
    exact ds_cons (ds_if (dt_val (de_isi (de_name 1) (b_isinstance W) (b_tuple W) (by decide +kernel))) (ds_cons (ds_if (dt_w (dw_or (dt_not (dt_val (de_isi (de_name 0) (b_isinstance W) (b_tuple W) (by decide +kernel)))) (dw_or1 (dt_ne (hu64 hr) (de_len (b_len W) (de_name 0)) (de_len (b_len W) (de_name 1)))))) (ds_one (ds_ret (de_bl))) (ds_nil)) (ds_cons (ds_for (passes_of rfl) rfl (di_zip (de_name 0) (de_name 1) (b_zip W)) (dg_tup rfl (dgs_cons (dg_name 2 sc__law_same.nd rfl (by first | exact Or.inl rfl | exact Or.inr rfl)) (dgs_cons (dg_name 3 sc__law_same.nd rfl (by first | exact Or.inl rfl | exact Or.inr rfl)) (dgs_nil)))) (ds_one (ds_if (dt_not (dt_val (de_call C (hr.mono (by omega)) (da_cons (de_name 2) (da_cons (de_name 3) (da_nil)))))) (ds_one (ds_ret (de_bl))) (ds_nil)))) (ds_one (ds_ret (de_bl))))) (ds_nil)) (ds_cons (ds_if (dt_isx (de_name 1) (de_non)) (ds_one (ds_ret (de_isx (de_name 0) (de_non)))) (ds_nil)) (ds_cons (ds_if (dt_val (de_isi (de_name 1) (b_isinstance W) (b_bool W) (by decide +kernel))) (ds_one (ds_ret (de_and (de_isi (de_name 0) (b_isinstance W) (b_bool W) (by decide +kernel)) (de_one (de_eq (hu64 hr) (de_name 0) (de_name 1)))))) (ds_nil)) (ds_cons (ds_if (dt_val (de_isi (de_name 1) (b_isinstance W) (b_str W) (by decide +kernel))) (ds_one (ds_ret (de_and (de_isi (de_name 0) (b_isinstance W) (b_str W) (by decide +kernel)) (de_one (de_eq (hu64 hr) (de_name 0) (de_name 1)))))) (ds_nil)) (ds_one (ds_ret (de_and (de_isi (de_name 0) (b_isinstance W) (b_int W) (by decide +kernel)) (de_and (de_not (de_isi (de_name 0) (b_isinstance W) (b_bool W) (by decide +kernel))) (de_one (de_eq (hu64 hr) (de_name 0) (de_name 1))))))))))
theorem ok__law_same {P : Program} {w : World} {K : PySem.W.Frag} {mg : Str → Option Value} {base : Heap} (W : Wd P K mg) : Cal P w K mg base 8 "_law_same" ["told", "due"] (spF K 2 R__law_same) := okn__law_same W 8
abbrev N__law_text : List Str := ["m", "letters", "most", "turn"]
theorem sc__law_text : FnScope N__law_text ["m", "letters", "most"] (defScope (top 77)) := ⟨rfl, rfl, rfl, by decide +kernel, rfl, by decide +kernel, by decide +kernel⟩
theorem ok__law_text {P : Program} {w : World} {K : PySem.W.Frag} {mg : Str → Option Value} {base : Heap} (W : Wd P K mg) : Cal P w K mg base 3 "_law_text" ["m", "letters", "most"] (spM K 2 R__law_text) := by
  obtain ⟨fd, F⟩ := W.says.d.def_ 52 (d := d__law_text) rfl
  refine ⟨⟨fd, fn_M F sc__law_text (fun cdv A outer s H E hr => ?_), F.bindsN (fun _ _ _ _ _ _ us hl => match us, hl with | [_, _, _], _ => rfl)⟩, g__law_text W, F.kp⟩
  · exact ds_one (ds_ret (de_tuple (b_tuple W) (de_lc (own := [("turn", 3)]) rfl sc__law_text.nd (di_rng1 (de_callM 0 (ok__law_draw W) (hr.mono (by decide)) (da_cons (de_add (de_name 2) (de_int)) (da_nil))) (b_range W)) (blkOk_by (N := N__law_text) (by kernel_rfl)) (fun _ _ _ _ _ => dg_name 3 sc__law_text.nd rfl (by first | exact Or.inl rfl | exact Or.inr rfl)) (fun _ _ _ _ _ => dts_nil) (fun _ _ _ _ _ => de_callM 0 (ok__law_draw W) (hr.mono (by decide)) (da_cons (de_name 1) (da_nil))))))
abbrev N__law_line : List Str := ["m", "bits_so", "spot", "sums", "one", "other"]
theorem sc__law_line : FnScope N__law_line ["m", "bits_so", "spot", "sums"] (defScope (top 78)) := ⟨rfl, rfl, rfl, by decide +kernel, rfl, by decide +kernel, by decide +kernel⟩
theorem ok__law_line {P : Program} {w : World} {K : PySem.W.Frag} {mg : Str → Option Value} {base : Heap} (W : Wd P K mg) : Cal P w K mg base 4 "_law_line" ["m", "bits_so", "spot", "sums"] (spM K 3 R__law_line) := by
  obtain ⟨fd, F⟩ := W.says.d.def_ 53 (d := d__law_line) rfl
  refine ⟨⟨fd, fn_M F sc__law_line (fun cdv A outer s H E hr => ?_), F.bindsN (fun _ _ _ _ _ _ us hl => match us, hl with | [_, _, _, _], _ => rfl)⟩, g__law_line W, F.kp⟩
  · exact ds_cons (ds_if (dt_w (dw_or (dt_eq (hu64 hr) (de_name 2) (de_int)) (dw_or1 (dt_eq (hu64 hr) (de_callM 0 (ok__law_draw W) (hr.mono (by decide)) (da_cons (de_int) (da_nil))) (de_int))))) (ds_one (ds_ret (de_callM 0 (ok__law_of W) (hr.mono (by decide)) (da_cons (de_lst (di_cons (de_tup (di_cons (de_str) (di_cons (de_callM 0 (ok__law_draw W) (hr.mono (by decide)) (da_cons (de_name 1) (da_nil))) (di_nil)))) (di_cons (de_tup (di_cons (de_str) (di_nil))) (di_cons (de_tup (di_cons (de_str) (di_nil))) (di_cons (de_tup (di_cons (de_str) (di_cons (de_int) (di_nil)))) (di_cons (de_tup (di_cons (de_str) (di_cons (de_sub (de_name 1) (de_int)) (di_nil)))) (di_nil))))))) (da_nil))))) (ds_nil)) (ds_cons (ds_par (i := 4) (j := 5) rfl sc__law_line.nd rfl rfl (by decide) rfl rfl (de_callM 0 (ok__law_draw W) (hr.mono (by decide)) (da_cons (de_name 2) (da_nil))) (de_callM 0 (ok__law_draw W) (hr.mono (by decide)) (da_cons (de_name 2) (da_nil))) rfl) (ds_cons (ds_if (dt_lt (de_callM 0 (ok__law_draw W) (hr.mono (by decide)) (da_cons (de_int) (da_nil))) (de_name 3)) (ds_one (ds_ret (de_tup (di_cons (de_str) (di_cons (de_name 4) (di_cons (de_name 5) (di_nil))))))) (ds_nil)) (ds_one (ds_ret (de_callM 0 (ok__law_of W) (hr.mono (by decide)) (da_cons (de_lst (di_cons (de_tup (di_cons (de_str) (di_cons (de_name 4) (di_nil)))) (di_cons (de_tup (di_cons (de_str) (di_cons (de_name 4) (di_cons (de_name 5) (di_nil))))) (di_cons (de_tup (di_cons (de_str) (di_cons (de_name 4) (di_cons (de_name 5) (di_nil))))) (di_cons (de_tup (di_cons (de_str) (di_cons (de_name 4) (di_cons (de_name 5) (di_nil))))) (di_nil)))))) (da_nil)))))))
abbrev N__law_program : List Str := ["m", "bits_so", "many", "most", "lines", "turn", "added", "spot", "line"]
theorem sc__law_program : FnScope N__law_program ["m", "bits_so", "many", "most"] (defScope (top 79)) := ⟨rfl, rfl, rfl, by decide +kernel, rfl, by decide +kernel, by decide +kernel⟩
theorem ok__law_program {P : Program} {w : World} {K : PySem.W.Frag} {mg : Str → Option Value} {base : Heap} (W : Wd P K mg) : Cal P w K mg base 5 "_law_program" ["m", "bits_so", "many", "most"] (spM K 3 R__law_program) := by
  obtain ⟨fd, F⟩ := W.says.d.def_ 54 (d := d__law_program) rfl
  refine ⟨⟨fd, fn_M F sc__law_program (fun cdv A outer s H E hr => ?_), F.bindsN (fun _ _ _ _ _ _ us hl => match us, hl with | [_, _, _, _], _ => rfl)⟩, g__law_program W, F.kp⟩
  · exact ds_cons (ds_set (i := 4) (de_add (de_lc (own := [("spot", 7)]) rfl sc__law_program.nd (di_rng1 (de_name 1) (b_range W)) (blkOk_by (N := N__law_program) (by kernel_rfl)) (fun _ _ _ _ _ => dg_name 7 sc__law_program.nd rfl (by first | exact Or.inl rfl | exact Or.inr rfl)) (fun _ _ _ _ _ => dts_nil) (fun _ _ _ _ _ => de_tup (di_cons (de_str) (di_cons (de_name 7) (di_nil))))) (de_lst (di_cons (de_tup (di_cons (de_str) (di_nil))) (di_nil)))) sc__law_program.nd rfl (by first | exact Or.inl rfl | exact Or.inr rfl)) (ds_cons (ds_for (passes_of rfl) rfl (di_rng1 (de_name 2) (b_range W)) (dg_name 5 sc__law_program.nd rfl (by first | exact Or.inl rfl | exact Or.inr rfl)) (ds_cons (ds_set (i := 6) (de_len (b_len W) (de_lco 4 (own := [("line", 8)]) rfl sc__law_program.nd (blkOk_by (N := N__law_program) (by kernel_rfl)) (fun _ _ _ _ _ => dg_name 8 sc__law_program.nd rfl (by first | exact Or.inl rfl | exact Or.inr rfl)) (fun _ _ _ _ _ => dts_one (dt_eq (hu64 hr) (de_ix (de_name 8) (de_int)) (de_str))) (fun _ _ _ _ _ => de_int))) sc__law_program.nd rfl (by first | exact Or.inl rfl | exact Or.inr rfl)) (ds_one (ds_drop (de_app 4 (de_callM 0 (ok__law_line W) (hr.mono (by decide)) (da_cons (de_name 1) (da_cons (de_len (b_len W) (de_name 4)) (da_cons (de_if (dt_lt (de_name 6) (de_name 3)) (de_int) (de_int)) (da_nil)))))))))) (ds_one (ds_ret (de_tup (di_cons (de_name 1) (di_cons (de_tuple (b_tuple W) (de_name 4)) (di_nil)))))))
abbrev N__law_place : List Str := ["lines", "carries_so", "letter", "found", "behind", "line", "word", "one", "other", "carry"]
theorem sc__law_place : FnScope N__law_place ["lines", "carries_so", "letter"] (defScope (top 80)) := ⟨rfl, rfl, rfl, by decide +kernel, rfl, by decide +kernel, by decide +kernel⟩
theorem ok__law_place {P : Program} {w : World} {K : PySem.W.Frag} {mg : Str → Option Value} {base : Heap} (W : Wd P K mg) : Cal P w K mg base 1 "_law_place" ["lines", "carries_so", "letter"] (spF K 3 R__law_place) := by
  obtain ⟨fd, F⟩ := W.says.d.def_ 55 (d := d__law_place) rfl
  refine ⟨⟨fd, fn_D F sc__law_place (fun cdv A outer s H E hr => ?_), F.bindsN (fun _ _ _ _ _ _ us hl => match us, hl with | [_, _, _], _ => rfl)⟩, g__law_place W, F.kp⟩
  · exact ds_cons (ds_par (i := 3) (j := 4) rfl sc__law_place.nd rfl rfl (by decide) rfl rfl (de_lst (di_nil)) (de_lst (di_nil)) rfl) (ds_cons (ds_for (passes_of rfl) rfl (di_seq (de_name 0)) (dg_name 5 sc__law_place.nd rfl (by first | exact Or.inl rfl | exact Or.inr rfl)) (ds_cons (ds_set (i := 6) (de_ix (de_name 5) (de_int)) sc__law_place.nd rfl (by first | exact Or.inl rfl | exact Or.inr rfl)) (ds_one (ds_if (dt_eq (hu64 hr) (de_name 6) (de_str)) (ds_one (ds_drop (de_app 3 (de_mod (de_div (de_name 2) (de_ix (de_tup (di_cons (de_int) (di_cons (de_int) (di_cons (de_int) (di_nil))))) (de_ix (de_name 5) (de_int)))) (de_int))))) (ds_one (ds_if (dt_w (dw_or (dt_eq (hu64 hr) (de_name 6) (de_str)) (dw_or1 (dt_eq (hu64 hr) (de_name 6) (de_str))))) (ds_one (ds_drop (de_app 3 (de_int1 (b_int W) (de_eq (hu64 hr) (de_name 6) (de_str)))))) (ds_one (ds_if (dt_eq (hu64 hr) (de_name 6) (de_str)) (ds_one (ds_drop (de_app 3 (de_sub (de_int) (de_ix (de_name 3) (de_ix (de_name 5) (de_int))))))) (ds_cons (ds_par (i := 7) (j := 8) rfl sc__law_place.nd rfl rfl (by decide) rfl rfl (de_ix (de_name 3) (de_ix (de_name 5) (de_int))) (de_ix (de_name 3) (de_ix (de_name 5) (de_int))) rfl) (ds_one (ds_if (dt_eq (hu64 hr) (de_name 6) (de_str)) (ds_cons (ds_set (i := 9) (de_ix (de_name 1) (de_len (b_len W) (de_name 4))) sc__law_place.nd rfl (by first | exact Or.inl rfl | exact Or.inr rfl)) (ds_cons (ds_drop (de_app 3 (de_ix (de_tup (di_cons (de_int) (di_cons (de_int) (di_cons (de_int) (di_cons (de_int) (di_nil)))))) (de_add (de_add (de_name 7) (de_name 8)) (de_name 9))))) (ds_one (ds_drop (de_app 4 (de_ix (de_tup (di_cons (de_int) (di_cons (de_int) (di_cons (de_int) (di_cons (de_int) (di_nil)))))) (de_add (de_add (de_name 7) (de_name 8)) (de_name 9)))))))) (ds_one (ds_drop (de_app 3 (de_ix (de_dix (hu1 hr) (de_disp (dps_cons (de_str) (de_tup (di_cons (de_int) (di_cons (de_int) (di_cons (de_int) (di_nil))))) (dps_cons (de_str) (de_tup (di_cons (de_int) (di_cons (de_int) (di_cons (de_int) (di_nil))))) (dps_cons (de_str) (de_tup (di_cons (de_int) (di_cons (de_int) (di_cons (de_int) (di_nil))))) (dps_nil))))) (de_name 6)) (de_add (de_name 7) (de_name 8))))))))))))))))) (ds_one (ds_ret (de_tup (di_cons (de_name 3) (di_cons (de_tuple (b_tuple W) (de_name 4)) (di_nil)))))))
abbrev N__law_noughts : List Str := ["lines", "line"]
theorem sc__law_noughts : FnScope N__law_noughts ["lines"] (defScope (top 81)) := ⟨rfl, rfl, rfl, by decide +kernel, rfl, by decide +kernel, by decide +kernel⟩
theorem ok__law_noughts {P : Program} {w : World} {K : PySem.W.Frag} {mg : Str → Option Value} {base : Heap} (W : Wd P K mg) : Cal P w K mg base 1 "_law_noughts" ["lines"] (spF K 1 R__law_noughts) := by
  obtain ⟨fd, F⟩ := W.says.d.def_ 56 (d := d__law_noughts) rfl
  refine ⟨⟨fd, fn_D F sc__law_noughts (fun cdv A outer s H E hr => ?_), F.bindsN (fun _ _ _ _ _ _ us hl => match us, hl with | [_], _ => rfl)⟩, g__law_noughts W, F.kp⟩
  · exact ds_one (ds_ret (de_tuple (b_tuple W) (de_lc (own := [("line", 1)]) rfl sc__law_noughts.nd (di_seq (de_name 0)) (blkOk_by (N := N__law_noughts) (by kernel_rfl)) (fun _ _ _ _ _ => dg_name 1 sc__law_noughts.nd rfl (by first | exact Or.inl rfl | exact Or.inr rfl)) (fun _ _ _ _ _ => dts_one (dt_eq (hu64 hr) (de_ix (de_name 1) (de_int)) (de_str))) (fun _ _ _ _ _ => de_int))))
abbrev N__law_walk : List Str := ["lines", "carries_so", "text", "marks", "letter", "found"]
theorem sc__law_walk : FnScope N__law_walk ["lines", "carries_so", "text"] (defScope (top 82)) := ⟨rfl, rfl, rfl, by decide +kernel, rfl, by decide +kernel, by decide +kernel⟩
theorem ok__law_walk {P : Program} {w : World} {K : PySem.W.Frag} {mg : Str → Option Value} {base : Heap} (W : Wd P K mg) : Cal P w K mg base 2 "_law_walk" ["lines", "carries_so", "text"] (spF K 3 R__law_walk) := by
  obtain ⟨fd, F⟩ := W.says.d.def_ 57 (d := d__law_walk) rfl
  refine ⟨⟨fd, fn_D F sc__law_walk (fun cdv A outer s H E hr => ?_), F.bindsN (fun _ _ _ _ _ _ us hl => match us, hl with | [_, _, _], _ => rfl)⟩, g__law_walk W, F.kp⟩
  · exact ds_cons (ds_set (i := 3) (de_lst (di_nil)) sc__law_walk.nd rfl (by first | exact Or.inl rfl | exact Or.inr rfl)) (ds_cons (ds_for (passes_of rfl) rfl (di_seq (de_name 2)) (dg_name 4 sc__law_walk.nd rfl (by first | exact Or.inl rfl | exact Or.inr rfl)) (ds_cons (ds_asg (de_call (ok__law_place W) (hr.mono (by decide)) (da_cons (de_name 0) (da_cons (de_name 1) (da_cons (de_name 4) (da_nil))))) (dg_tup rfl (dgs_cons (dg_name 5 sc__law_walk.nd rfl (by first | exact Or.inl rfl | exact Or.inr rfl)) (dgs_cons (dg_name 1 sc__law_walk.nd rfl (by first | exact Or.inl rfl | exact Or.inr rfl)) (dgs_nil))))) (ds_one (ds_drop (de_app 3 (de_ix (de_name 5) (de_neg (de_int)))))))) (ds_one (ds_ret (de_tup (di_cons (de_tuple (b_tuple W) (de_name 3)) (di_cons (de_name 1) (di_nil)))))))
abbrev N__law_cut : List Str := ["m", "text", "found", "left", "turn", "size"]
theorem sc__law_cut : FnScope N__law_cut ["m", "text"] (defScope (top 83)) := ⟨rfl, rfl, rfl, by decide +kernel, rfl, by decide +kernel, by decide +kernel⟩
theorem ok__law_cut {P : Program} {w : World} {K : PySem.W.Frag} {mg : Str → Option Value} {base : Heap} (W : Wd P K mg) : Cal P w K mg base 3 "_law_cut" ["m", "text"] (spM K 1 R__law_cut) := by
  obtain ⟨fd, F⟩ := W.says.d.def_ 58 (d := d__law_cut) rfl
  refine ⟨⟨fd, fn_M F sc__law_cut (fun cdv A outer s H E hr => ?_), F.bindsN (fun _ _ _ _ _ _ us hl => match us, hl with | [_, _], _ => rfl)⟩, g__law_cut W, F.kp⟩
  · exact ds_cons (ds_par (i := 2) (j := 3) rfl sc__law_cut.nd rfl rfl (by decide) rfl rfl (de_lst (di_nil)) (de_name 1) rfl) (ds_cons (ds_for (passes_of rfl) rfl (di_rng1 (de_int) (b_range W)) (dg_name 4 sc__law_cut.nd rfl (by first | exact Or.inl rfl | exact Or.inr rfl)) (ds_cons (ds_if (dt_eq (hu64 hr) (de_name 3) (de_tup (di_nil))) (ds_one (ds_ret (de_tuple (b_tuple W) (de_name 2)))) (ds_nil)) (ds_cons (ds_set (i := 5) (de_add (de_mul (de_callM 0 (ok__law_draw W) (hr.mono (by decide)) (da_cons (de_int) (da_nil))) (de_callM 0 (ok__law_draw W) (hr.mono (by decide)) (da_cons (de_int) (da_nil)))) (de_callM 0 (ok__law_draw W) (hr.mono (by decide)) (da_cons (de_int) (da_nil)))) sc__law_cut.nd rfl (by first | exact Or.inl rfl | exact Or.inr rfl)) (ds_cons (ds_drop (de_app 2 (de_slice (de_name 3) (do_none) (do_some (de_name 5))))) (ds_one (ds_set (i := 3) (de_slice (de_name 3) (do_some (de_name 5)) (do_none)) sc__law_cut.nd rfl (by first | exact Or.inl rfl | exact Or.inr rfl))))))) (ds_one (ds_ret (de_tuple (b_tuple W) (de_add (de_name 2) (de_lst (di_cons (de_name 3) (di_nil))))))))
abbrev N__law_joined : List Str := ["blocks", "found", "text"]
theorem sc__law_joined : FnScope N__law_joined ["blocks"] (defScope (top 84)) := ⟨rfl, rfl, rfl, by decide +kernel, rfl, by decide +kernel, by decide +kernel⟩
theorem ok__law_joined {P : Program} {w : World} {K : PySem.W.Frag} {mg : Str → Option Value} {base : Heap} (W : Wd P K mg) : Cal P w K mg base 1 "_law_joined" ["blocks"] (spF K 1 R__law_joined) := by
  obtain ⟨fd, F⟩ := W.says.d.def_ 59 (d := d__law_joined) rfl
  refine ⟨⟨fd, fn_D F sc__law_joined (fun cdv A outer s H E hr => ?_), F.bindsN (fun _ _ _ _ _ _ us hl => match us, hl with | [_], _ => rfl)⟩, g__law_joined W, F.kp⟩
  · exact ds_cons (ds_set (i := 1) (de_tup (di_nil)) sc__law_joined.nd rfl (by first | exact Or.inl rfl | exact Or.inr rfl)) (ds_cons (ds_for (passes_of rfl) rfl (di_seq (de_name 0)) (dg_name 2 sc__law_joined.nd rfl (by first | exact Or.inl rfl | exact Or.inr rfl)) (ds_one (ds_set (i := 1) (de_add (de_name 1) (de_name 2)) sc__law_joined.nd rfl (by first | exact Or.inl rfl | exact Or.inr rfl)))) (ds_one (ds_ret (de_name 1))))
abbrev N__law_scanner : List Str := ["program", "found"]
theorem sc__law_scanner : FnScope N__law_scanner ["program"] (defScope (top 85)) := ⟨rfl, rfl, rfl, by decide +kernel, rfl, by decide +kernel, by decide +kernel⟩
theorem ok__law_scanner {P : Program} {w : World} {K : PySem.W.Frag} {mg : Str → Option Value} {base : Heap} (W : Wd P K mg) : Cal P w K mg base 8 "_law_scanner" ["program"] (spF K 1 R__law_scanner) := by
  obtain ⟨fd, F⟩ := W.says.d.def_ 60 (d := d__law_scanner) rfl
  refine ⟨⟨fd, fn_D F sc__law_scanner (fun cdv A outer s H E hr => ?_), F.bindsN (fun _ _ _ _ _ _ us hl => match us, hl with | [_], _ => rfl)⟩, g__law_scanner W, F.kp⟩
  · have tk := takes_of (E := E) (X := cxOf (L2.CX P w) P w K mg base N__law_scanner "_law_scanner" (defScope (top 85)) (He.ga K "_law_scanner") cdv A outer s H E) rfl rfl rfl rfl
    exact ds_cons (ds_set (i := 1) (de_non) sc__law_scanner.nd rfl (by first | exact Or.inl rfl | exact Or.inr rfl)) (ds_cons (ds_try rfl rfl (names_own rfl (g_TooGreat W)) tk (mtOne_ok (m_TooGreat W)) (fun _ pn xe tk pass => ds_one (ds_setX (i := 1) tk (ok_scanner_of W) (hr.mono (by decide)) (da_cons (de_name 0) (da_nil)) sc__law_scanner.nd rfl (by first | exact Or.inl rfl | exact Or.inr rfl))) (fun a oe cls dd pn zc hv => ds_one (ds_set (i := 1) (de_non) sc__law_scanner.nd rfl (by first | exact Or.inl rfl | exact Or.inr rfl)))) (ds_one (ds_ret (de_name 1))))
abbrev N__law_cut_right : List Str := ["program", "blocks", "marks", "stops", "told", "due", "found", "carries_so", "text", "near", "behind"]
theorem sc__law_cut_right : FnScope N__law_cut_right ["program", "blocks", "marks", "stops"] (defScope (top 86)) := ⟨rfl, rfl, rfl, by decide +kernel, rfl, by decide +kernel, by decide +kernel⟩
theorem ok__law_cut_right {P : Program} {w : World} {K : PySem.W.Frag} {mg : Str → Option Value} {base : Heap} (W : Wd P K mg) : Cal P w K mg base 9 "_law_cut_right" ["program", "blocks", "marks", "stops"] (spF K 4 R__law_cut_right) := by
  obtain ⟨fd, F⟩ := W.says.d.def_ 61 (d := d__law_cut_right) rfl
  refine ⟨⟨fd, fn_D F sc__law_cut_right (fun cdv A outer s H E hr => ?_), F.bindsN (fun _ _ _ _ _ _ us hl => match us, hl with | [_, _, _, _], _ => rfl)⟩, g__law_cut_right W, F.kp⟩
  · exact ds_cons (ds_set (i := 4) (de_callK (okK_carries_ahead W) (hr.mono (by decide)) (dk_cons (de_name 0) (dk_cons (de_name 1) (dk_nil)))) sc__law_cut_right.nd rfl (by first | exact Or.inl rfl | exact Or.inr rfl)) (ds_cons (ds_par3 (i := 5) (j := 6) (l := 7) rfl sc__law_cut_right.nd rfl rfl rfl (by decide) (by decide) (by decide) rfl rfl rfl (de_lst (di_cons (de_call (ok__law_noughts W) (hr.mono (by decide)) (da_cons (de_ix (de_name 0) (de_int)) (da_nil))) (di_nil))) (de_tup (di_nil)) (de_call (ok__law_noughts W) (hr.mono (by decide)) (da_cons (de_ix (de_name 0) (de_int)) (da_nil))) rfl) (ds_cons (ds_for (passes_of rfl) rfl (di_seq (de_name 1)) (dg_name 8 sc__law_cut_right.nd rfl (by first | exact Or.inl rfl | exact Or.inr rfl)) (ds_cons (ds_asg (de_call (ok_carried_marks W) (hr.mono (by decide)) (da_cons (de_name 0) (da_cons (de_name 7) (da_cons (de_name 8) (da_nil))))) (dg_tup rfl (dgs_cons (dg_name 9 sc__law_cut_right.nd rfl (by first | exact Or.inl rfl | exact Or.inr rfl)) (dgs_cons (dg_name 10 sc__law_cut_right.nd rfl (by first | exact Or.inl rfl | exact Or.inr rfl)) (dgs_nil))))) (ds_cons (ds_par (i := 6) (j := 7) rfl sc__law_cut_right.nd rfl rfl (by decide) rfl rfl (de_add (de_name 6) (de_name 9)) (de_ix (de_call (ok__law_walk W) (hr.mono (by decide)) (da_cons (de_ix (de_name 0) (de_int)) (da_cons (de_name 7) (da_cons (de_name 8) (da_nil))))) (de_int)) rfl) (ds_cons (ds_if (dt_not (dt_val (de_call (ok__law_same W) (hr.mono (by decide)) (da_cons (de_name 10) (da_cons (de_name 7) (da_nil)))))) (ds_one (ds_ret (de_bl))) (ds_nil)) (ds_one (ds_drop (de_app 5 (de_name 7)))))))) (ds_one (ds_ret (de_and (de_call (ok__law_same W) (hr.mono (by decide)) (da_cons (de_name 4) (da_cons (de_tuple (b_tuple W) (de_name 5)) (da_nil)))) (de_and (de_call (ok__law_same W) (hr.mono (by decide)) (da_cons (de_name 6) (da_cons (de_name 2) (da_nil)))) (de_one (de_call (ok__law_same W) (hr.mono (by decide)) (da_cons (de_ix (de_name 4) (de_neg (de_int))) (da_cons (de_name 3) (da_nil)))))))))))
abbrev N__law_scanner_right : List Str := ["m", "program", "blocks", "marks", "scanner", "state", "found", "ends", "text", "stops", "one", "carries_so", "far", "other"]
theorem sc__law_scanner_right : FnScope N__law_scanner_right ["m", "program", "blocks", "marks"] (defScope (top 87)) := ⟨rfl, rfl, rfl, by decide +kernel, rfl, by decide +kernel, by decide +kernel⟩
theorem ok__law_scanner_right {P : Program} {w : World} {K : PySem.W.Frag} {mg : Str → Option Value} {base : Heap} (W : Wd P K mg) : Cal P w K mg base 9 "_law_scanner_right" ["m", "program", "blocks", "marks"] (spM K 3 R__law_scanner_right) := by
  obtain ⟨fd, F⟩ := W.says.d.def_ 62 (d := d__law_scanner_right) rfl
  refine ⟨⟨fd, fn_M F sc__law_scanner_right (fun cdv A outer s H E hr => ?_), F.bindsN (fun _ _ _ _ _ _ us hl => match us, hl with | [_, _, _, _], _ => rfl)⟩, g__law_scanner_right W, F.kp⟩
  · exact ds_cons (ds_set (i := 4) (de_call (ok__law_scanner W) (hr.mono (by decide)) (da_cons (de_name 1) (da_nil))) sc__law_scanner_right.nd rfl (by first | exact Or.inl rfl | exact Or.inr rfl)) (ds_cons (ds_if (dt_isx (de_name 4) (de_non)) (ds_one (ds_ret (de_bl))) (ds_nil)) (ds_cons (ds_par3 (i := 5) (j := 6) (l := 7) rfl sc__law_scanner_right.nd rfl rfl rfl (by decide) (by decide) (by decide) rfl rfl rfl (de_int) (de_tup (di_nil)) (de_lst (di_cons (de_int) (di_nil))) rfl) (ds_cons (ds_for (passes_of rfl) rfl (di_seq (de_name 2)) (dg_name 8 sc__law_scanner_right.nd rfl (by first | exact Or.inl rfl | exact Or.inr rfl)) (ds_cons (ds_par (i := 6) (j := 5) rfl sc__law_scanner_right.nd rfl rfl (by decide) rfl rfl (de_add (de_name 6) (de_call (ok_marks_from W) (hr.mono (by decide)) (da_cons (de_name 4) (da_cons (de_name 5) (da_cons (de_name 8) (da_nil)))))) (de_call (ok_end_from W) (hr.mono (by decide)) (da_cons (de_name 4) (da_cons (de_name 5) (da_cons (de_name 8) (da_nil))))) rfl) (ds_one (ds_drop (de_app 7 (de_name 5)))))) (ds_cons (ds_set (i := 9) (de_call (ok_carries_ahead W) (hr.mono (by decide)) (da_cons (de_name 1) (da_cons (de_name 2) (da_nil)))) sc__law_scanner_right.nd rfl (by first | exact Or.inl rfl | exact Or.inr rfl)) (ds_cons (ds_for (passes_of rfl) rfl (di_zip (de_name 7) (de_name 9) (b_zip W)) (dg_tup rfl (dgs_cons (dg_name 10 sc__law_scanner_right.nd rfl (by first | exact Or.inl rfl | exact Or.inr rfl)) (dgs_cons (dg_name 11 sc__law_scanner_right.nd rfl (by first | exact Or.inl rfl | exact Or.inr rfl)) (dgs_nil)))) (ds_one (ds_if (dt_ne (hu64 hr) (de_lc (own := [("far", 12), ("other", 13)]) rfl sc__law_scanner_right.nd (di_zip (de_name 7) (de_name 9) (b_zip W)) (blkOk_by (N := N__law_scanner_right) (by kernel_rfl)) (fun _ _ _ _ _ => dg_tup rfl (dgs_cons (dg_name 12 sc__law_scanner_right.nd rfl (by first | exact Or.inl rfl | exact Or.inr rfl)) (dgs_cons (dg_name 13 sc__law_scanner_right.nd rfl (by first | exact Or.inl rfl | exact Or.inr rfl)) (dgs_nil)))) (fun _ _ _ _ _ => dts_one (dt_w (dw_and (dt_eq (hu64 hr) (de_name 13) (de_name 11)) (dw_and1 (dt_ne (hu64 hr) (de_name 12) (de_name 10)))))) (fun _ _ _ _ _ => de_int)) (de_lst (di_nil))) (ds_one (ds_ret (de_bl))) (ds_nil)))) (ds_one (ds_ret (de_call (ok__law_same W) (hr.mono (by decide)) (da_cons (de_tup (di_cons (de_name 6) (di_cons (de_name 5) (di_nil)))) (da_cons (de_tup (di_cons (de_name 3) (di_cons (de_call (ok_end_state W) (hr.mono (by decide)) (da_cons (de_name 4) (da_cons (de_call (ok__law_joined W) (hr.mono (by decide)) (da_cons (de_name 2) (da_nil))) (da_nil)))) (di_nil)))) (da_nil)))))))))))
/-! ### the law: begins the drawing state, then the rest -/
def spL (K : PySem.W.Frag) : Sp := fun vs H Q _ => ∃ (a : Addr) (ns : List Int), vs = [.ref a] ∧ ns.length ≤ 63 ∧ SqL K H a (ns.map V.int) ∧ ∀ H', Q (.bl true) H'
theorem rps_of_ints {K : PySem.W.Frag} {H : Hp} : ∀ ns : List Int, Rps K none H (ns.map D.int) (ns.map V.int)
  | [] => rfl
  | n :: ns => ⟨.int n, ns.map V.int, rfl, rfl, rps_of_ints ns⟩
theorem sd_law {K : PySem.W.Frag} {H H' : Hp} {n0 n1 : Str} {N : List Str} {p : P3} {M : DrawSt} {v : V} {d : D} (n : ∀ a, inR p a → H a = none) (s : Same H H') (R : Reg H' p M) (h : Rp K none H d v) :
    SD K ⟨outH H' p, fun _ => none, fun _ => .non⟩ (outH H' p) H' ((L2.start (n0 :: n1 :: N) [v]).set 1 (some (.ref p.1))) (.ar d :: .mm p M :: List.replicate N.length .emp) := by
  have so : Same H (outH H' p) := fun a o e => by
    rw [outH_out (fun z => by rw [n a z] at e; cases e)]
    exact s a o e
  have e0 : (L2.start (n0 :: n1 :: N) [v]).set 1 (some (V.ref p.1)) = some v :: some (.ref p.1) :: List.replicate N.length none := by
    unfold L2.start
    simp [List.replicate_succ]
  rw [e0]
  refine ⟨by simp, Same.refl _, outH_sub, fun a o e => (nomatch e), fun a o e i => ?_, fun i => if i = 1 then [p.1, p.2.1, p.2.2] else [], fun i s e => ?_, fun i a m => ?_, fun i j a m1 m2 => ?_, fun i hi => ?_, fun i a m => rfl⟩
  · by_cases z : inR p a
    · obtain ⟨u, q, i'⟩ := R.there z
      rw [e] at q; cases q
      rw [i] at i'; cases i'
    · rw [outH_out z]; exact e
  · match i, e with
    | 0, e => cases e; exact ⟨rfl, v, rfl, h.mono so⟩
    | 1, e => cases e; exact ⟨rfl, R.n1, R.n2, R.n3, rfl, R.m, R.c, R.g⟩
    | i + 2, e =>
      rw [List.getElem?_cons_succ, List.getElem?_cons_succ, List.getElem?_replicate] at e
      rw [if_neg (by omega)]
      split at e
      · cases e; rfl
      · cases e
  · split at m
    · exact outH_in (inR_mem.mp m)
    · cases m
  · split at m1
    · split at m2
      · omega
      · cases m2
    · cases m1
  · rw [List.length_cons, List.length_cons] at hi
    rw [if_neg (by omega)]
/-- what never raises may be called where nothing is raised -/
theorem spL_cx {P : Program} {w : World} {K : PySem.W.Frag} {mg : Str → Option Value} {base : Heap} {k : Nat} {f : Addr} {fd : FuncData} {ps : List Str} (F : FnOk P w K mg base (L2.CX P w) k f fd ps (spL K)) : FnOk P w K mg base CX0 k f fd ps (spL K) := by
  refine ⟨F.len, fun A outer s H args us vs Q E hr he hb hv hs => codeAny_mono (F.run A outer s H args us vs Q E0 hr he hb hv hs) fun r s' h => ?_⟩
  cases r with
  | ok fl => cases fl <;> exact h
  | error e =>
    obtain ⟨_, _, _, _, _, _, _, _, _, _, _, _, h⟩ := h
    exact h
abbrev N_law : List Str := ["script", "m", "turn", "program", "text", "marks", "stops", "needed", "kept", "lap", "blocks", "told", "one", "spot", "letter"]
theorem sc_law : FnScope N_law ["script"] (defScope (top 88)) := ⟨rfl, rfl, rfl, by decide +kernel, rfl, by decide +kernel, by decide +kernel⟩
def MainL : Prop := ∀ script : List Int, script.length ≤ 63 → ∃ M, begunF script = some M ∧ ∀ p, ∃ ρ, fb_law (.ar (.lst (script.map D.int)) :: .mm p M :: List.replicate 13 .emp) = some (.rt (.bl true) ρ)
theorem fo_law {P : Program} {w : World} {K : PySem.W.Frag} {mg : Str → Option Value} {base : Heap} {fd : FuncData} (hmain : MainL) (W : Wd P K mg) (F : FunD K "law" "law" (defArgs (top 88)) (defBody (top 88)) (defScope (top 88)) [] [] (He.ga K "law") fd) : FnOk P w K mg base CX0 10 (He.ga K "law") fd ["script"] (spL K) := by
  obtain ⟨fdm, Fm, bm⟩ := (ok__law_begun (P := P) (w := w) (base := base) W).ex
  have gm := (ok__law_begun (P := P) (w := w) (base := base) W).gl
  have km := (ok__law_begun (P := P) (w := w) (base := base) W).kp
  refine spL_cx (FunD.ok (k := 9) F sc_law (fun vs H Q E ⟨a, ns, h, _⟩ => by rw [h]; rfl) fun cdv A outer s H vs Q E hr h => ?_)
  obtain ⟨a, ns, rfl, hl, hS, hQ⟩ := h
  obtain ⟨M, e1, e2⟩ := hmain ns hl
  have rest : DSs (cxOf (L2.CX P w) P w K mg base N_law "law" (defScope (top 88)) (He.ga K "law") cdv A outer s H E) (fun cls d _ H => E cls d H) (defBody (top 88)).tail fb_law := ds_cons (ds_for (passes_of rfl) rfl (di_rng1 (de_int) (b_range W)) (dg_name 2 sc_law.nd rfl (by first | exact Or.inl rfl | exact Or.inr rfl)) (ds_cons (ds_set (i := 3) (de_callM 1 (ok__law_program W) (hr.mono (by decide)) (da_cons (de_add (de_int) (de_callM 1 (ok__law_draw W) (hr.mono (by decide)) (da_cons (de_int) (da_nil)))) (da_cons (de_add (de_int) (de_callM 1 (ok__law_draw W) (hr.mono (by decide)) (da_cons (de_int) (da_nil)))) (da_cons (de_add (de_int) (de_callM 1 (ok__law_draw W) (hr.mono (by decide)) (da_cons (de_int) (da_nil)))) (da_nil))))) sc_law.nd rfl (by first | exact Or.inl rfl | exact Or.inr rfl)) (ds_cons (ds_set (i := 4) (de_callM 1 (ok__law_text W) (hr.mono (by decide)) (da_cons (de_ix (de_tup (di_cons (de_int) (di_cons (de_int) (di_cons (de_int) (di_cons (de_int) (di_nil)))))) (de_ix (de_name 3) (de_int))) (da_cons (de_int) (da_nil)))) sc_law.nd rfl (by first | exact Or.inl rfl | exact Or.inr rfl)) (ds_cons (ds_par (i := 5) (j := 6) rfl sc_law.nd rfl rfl (by decide) rfl rfl (de_call (ok_program_marks W) (hr.mono (by decide)) (da_cons (de_name 3) (da_cons (de_name 4) (da_nil)))) (de_call (ok_carries_behind W) (hr.mono (by decide)) (da_cons (de_name 3) (da_cons (de_name 4) (da_nil)))) rfl) (ds_cons (ds_if (dt_not (dt_val (de_call (ok__law_same W) (hr.mono (by decide)) (da_cons (de_tup (di_cons (de_name 5) (di_cons (de_name 6) (di_nil)))) (da_cons (de_call (ok__law_walk W) (hr.mono (by decide)) (da_cons (de_ix (de_name 3) (de_int)) (da_cons (de_call (ok__law_noughts W) (hr.mono (by decide)) (da_cons (de_ix (de_name 3) (de_int)) (da_nil))) (da_cons (de_name 4) (da_nil))))) (da_nil)))))) (ds_one (ds_ret (de_bl))) (ds_nil)) (ds_cons (ds_set (i := 7) (de_call (ok_needed_lines W) (hr.mono (by decide)) (da_cons (de_name 3) (da_nil))) sc_law.nd rfl (by first | exact Or.inl rfl | exact Or.inr rfl)) (ds_cons (ds_set (i := 8) (de_tuple (b_tuple W) (de_lc (own := [("one", 12), ("spot", 13)]) rfl sc_law.nd (di_zip (de_name 6) (de_call (ok_plus_lines W) (hr.mono (by decide)) (da_cons (de_name 3) (da_nil))) (b_zip W)) (blkOk_by (N := N_law) (by kernel_rfl)) (fun _ _ _ _ _ => dg_tup rfl (dgs_cons (dg_name 12 sc_law.nd rfl (by first | exact Or.inl rfl | exact Or.inr rfl)) (dgs_cons (dg_name 13 sc_law.nd rfl (by first | exact Or.inl rfl | exact Or.inr rfl)) (dgs_nil)))) (fun _ _ _ _ _ => dts_one (dt_inx (de_name 13) (de_name 7))) (fun _ _ _ _ _ => de_name 12))) sc_law.nd rfl (by first | exact Or.inl rfl | exact Or.inr rfl)) (ds_cons (ds_if (dt_not (dt_val (de_call (ok__law_same W) (hr.mono (by decide)) (da_cons (de_call (ok_kept_carries W) (hr.mono (by decide)) (da_cons (de_name 3) (da_cons (de_name 4) (da_nil)))) (da_cons (de_name 8) (da_nil)))))) (ds_one (ds_ret (de_bl))) (ds_nil)) (ds_one (ds_for (passes_of rfl) rfl (di_rng1 (de_int) (b_range W)) (dg_name 9 sc_law.nd rfl (by first | exact Or.inl rfl | exact Or.inr rfl)) (ds_cons (ds_set (i := 10) (de_callM 1 (ok__law_cut W) (hr.mono (by decide)) (da_cons (de_name 4) (da_nil))) sc_law.nd rfl (by first | exact Or.inl rfl | exact Or.inr rfl)) (ds_cons (ds_if (dt_eq (hu64 hr) (de_name 9) (de_int)) (ds_one (ds_set (i := 10) (de_tuple (b_tuple W) (de_lc (own := [("letter", 14)]) rfl sc_law.nd (di_seq (de_name 4)) (blkOk_by (N := N_law) (by kernel_rfl)) (fun _ _ _ _ _ => dg_name 14 sc_law.nd rfl (by first | exact Or.inl rfl | exact Or.inr rfl)) (fun _ _ _ _ _ => dts_nil) (fun _ _ _ _ _ => de_tup (di_cons (de_name 14) (di_nil))))) sc_law.nd rfl (by first | exact Or.inl rfl | exact Or.inr rfl))) (ds_nil)) (ds_one (ds_if (dt_w (dw_or (dt_not (dt_val (de_call (ok__law_cut_right W) (hr.mono (by decide)) (da_cons (de_name 3) (da_cons (de_name 10) (da_cons (de_name 5) (da_cons (de_name 6) (da_nil)))))))) (dw_or1 (dt_not (dt_val (de_callM 1 (ok__law_scanner_right W) (hr.mono (by decide)) (da_cons (de_name 3) (da_cons (de_name 10) (da_cons (de_name 5) (da_nil)))))))))) (ds_one (ds_ret (de_bl))) (ds_nil))))))))))))))) (ds_cons (ds_set (i := 3) (de_tup (di_cons (de_int) (di_cons (de_tup (di_cons (de_tup (di_cons (de_str) (di_cons (de_int) (di_nil)))) (di_cons (de_tup (di_cons (de_str) (di_cons (de_int) (di_cons (de_int) (di_nil))))) (di_nil)))) (di_nil)))) sc_law.nd rfl (by first | exact Or.inl rfl | exact Or.inr rfl)) (ds_cons (ds_set (i := 11) (de_tup (di_cons (de_call (ok_carries_ahead W) (hr.mono (by decide)) (da_cons (de_name 3) (da_cons (de_tup (di_nil)) (da_nil)))) (di_cons (de_call (ok_carries_ahead W) (hr.mono (by decide)) (da_cons (de_name 3) (da_cons (de_tup (di_cons (de_tup (di_nil)) (di_cons (de_tup (di_nil)) (di_nil)))) (da_nil)))) (di_cons (de_call (ok_carries_ahead W) (hr.mono (by decide)) (da_cons (de_name 3) (da_cons (de_tup (di_cons (de_tup (di_cons (de_int) (di_cons (de_int) (di_nil)))) (di_cons (de_tup (di_nil)) (di_cons (de_tup (di_cons (de_int) (di_nil))) (di_nil))))) (da_nil)))) (di_nil))))) sc_law.nd rfl (by first | exact Or.inl rfl | exact Or.inr rfl)) (ds_one (ds_ret (de_call (ok__law_same W) (hr.mono (by decide)) (da_cons (de_name 11) (da_cons (de_tup (di_cons (de_tup (di_cons (de_tup (di_cons (de_int) (di_nil))) (di_nil))) (di_cons (de_mul (de_tup (di_cons (de_tup (di_cons (de_int) (di_nil))) (di_nil))) (de_int)) (di_cons (de_tup (di_cons (de_tup (di_cons (de_int) (di_nil))) (di_cons (de_tup (di_cons (de_int) (di_nil))) (di_cons (de_tup (di_cons (de_int) (di_nil))) (di_cons (de_tup (di_cons (de_int) (di_nil))) (di_nil)))))) (di_nil))))) (da_nil))))))))
  refine ⟨_, pss_cons (ps_set (i := 1) sc_law.nd rfl (Or.inl rfl) (pe_call Fm (hr.mono (by decide)) rfl gm km bm .nil passL (pa_cons (pv 0) pa_nil))) rest, ?_⟩
  have hv : Rp K none H (.lst (ns.map D.int)) (.ref a) := ⟨a, ns.map V.int, rfl, hS, rps_of_ints ns⟩
  refine ⟨.ref a, rfl, ns, M, ⟨.ref a, [], rfl, hv, rfl⟩, e1, fun p H' n s' R => ?_⟩
  obtain ⟨ρ, e3⟩ := e2 p
  refine ⟨_, _, _, _, sd_law n s' R hv, e3, fun v σ H0' H2 s2 S2 R2 => ?_⟩
  cases R2
  exact hQ H2
end Sc
set_option maxRecDepth 100000
set_option maxHeartbeats 1000000
namespace Sc
open PySem PySem.Spec PyProof.Rows L2
/-! ### the plain part: loops of denotations -/
abbrev nD (n : Nat) : D := .int (n : Int)
def turn (g : GD) (b : FS) (p : Bool × D) (ρ : Env) : Option Out := (g p).bind fun bs => (setB ρ bs).bind b
@[simp] theorem z_turn {g : GD} {b : FS} {p : Bool × D} {ρ : Env} : turn g b p ρ = bnd (g p) fun bs => bnd (setB ρ bs) b := rfl
theorem forL_cons {g : GD} {b : FS} {p : Bool × D} {ps : List (Bool × D)} {ρ : Env} : forL g b (p :: ps) ρ = (turn g b p ρ).bind fun o => match o with
    | .nx ρ2 => forL g b ps ρ2
    | .ct ρ2 => forL g b ps ρ2
    | .bk ρ2 => some (.nx ρ2)
    | o => some o := by
  show forL g b (p :: ps) ρ = ((g p).bind fun bs => (setB ρ bs).bind b).bind _
  rw [forL, Option.bind_assoc]
  congr 1
  funext bs
  refine Eq.trans ?_ (Option.bind_assoc _ _ _).symm
  cases setB ρ bs with
  | none => rfl
  | some ρ1 =>
    try simp only [Option.bind_some]
    all_goals
      cases b ρ1 with
      | none => rfl
      | some o => cases o <;> rfl
/-- a for whose turns go on: J of the items taken -/
theorem forL_J {β : Type} {g : GD} {b : FS} (enc : β → Bool × D) (J : List β → Env → Prop) (all : List β) (h : ∀ pre x post ρ, all = pre ++ x :: post → J pre ρ → ∃ ρ2, turn g b (enc x) ρ = some (.nx ρ2) ∧ J (pre ++ [x]) ρ2) :
    ∀ (xs pre : List β) (ρ : Env), all = pre ++ xs → J pre ρ → ∃ ρ', forL g b (xs.map enc) ρ = some (.nx ρ') ∧ J all ρ'
  | [], pre, ρ, e, j => ⟨ρ, rfl, by rw [e, List.append_nil]; exact j⟩
  | x :: xs, pre, ρ, e, j => by
    obtain ⟨ρ2, h1, h2⟩ := h pre x xs ρ e j
    obtain ⟨ρ', h3, h4⟩ := forL_J enc J all h xs (pre ++ [x]) ρ2 (by rw [e]; simp) h2
    refine ⟨ρ', ?_, h4⟩
    rw [List.map_cons, forL_cons, h1]
    exact h3
theorem forL_all {β : Type} {g : GD} {b : FS} {ρ : Env} (enc : β → Bool × D) (J : List β → Env → Prop) (xs : List β) (h0 : J [] ρ) (h : ∀ pre x post ρ, xs = pre ++ x :: post → J pre ρ → ∃ ρ2, turn g b (enc x) ρ = some (.nx ρ2) ∧ J (pre ++ [x]) ρ2) :
    ∃ ρ', forL g b (xs.map enc) ρ = some (.nx ρ') ∧ J xs ρ' := forL_J enc J xs h xs [] ρ rfl h0
/-- .. or hand a value back -/
theorem forL_or {β : Type} {g : GD} {b : FS} (enc : β → Bool × D) (J : List β → Env → Prop) (R : D → Env → Prop) (all : List β) (h : ∀ pre x post ρ, all = pre ++ x :: post → J pre ρ → (∃ ρ2, turn g b (enc x) ρ = some (.nx ρ2) ∧ J (pre ++ [x]) ρ2) ∨ ∃ d ρ2, turn g b (enc x) ρ = some (.rt d ρ2) ∧ R d ρ2) :
    ∀ (xs pre : List β) (ρ : Env), all = pre ++ xs → J pre ρ → (∃ ρ', forL g b (xs.map enc) ρ = some (.nx ρ') ∧ J all ρ') ∨ ∃ d ρ', forL g b (xs.map enc) ρ = some (.rt d ρ') ∧ R d ρ'
  | [], pre, ρ, e, j => .inl ⟨ρ, rfl, by rw [e, List.append_nil]; exact j⟩
  | x :: xs, pre, ρ, e, j => by
    rcases h pre x xs ρ e j with ⟨ρ2, h1, h2⟩ | ⟨d, ρ2, h1, h2⟩
    · rw [List.map_cons, forL_cons, h1]
      exact forL_or enc J R all h xs (pre ++ [x]) ρ2 (by rw [e]; simp) h2
    · refine .inr ⟨d, ρ2, ?_, h2⟩
      rw [List.map_cons, forL_cons, h1]
      rfl
/-! numbered items, ranges -/
def enL (fr : Bool) (ds : List D) : List (Bool × D) := (List.range ds.length).zip ds |>.map fun x => (fr, D.tup [.int (x.1 : Nat), x.2])
@[simp] theorem z_enI {f : ED} {ρ : Env} : enI f ρ = bnd (itF f ρ) fun p => bnd (seqOf p.1.2) fun ds => some (enL p.1.1 ds, p.2) := by unfold enI; simp only [map_bnd]; rfl
theorem enL_go {α : Type} (enc : α → D) (fr : Bool) : ∀ (xs : List α) (k : Nat), (((List.range' k xs.length).zip (xs.map enc)).map fun x => (fr, D.tup [.int (x.1 : Nat), x.2])) = ((List.range' k xs.length).zip xs).map fun x => (fr, D.tup [nD x.1, enc x.2])
  | [], k => rfl
  | x :: xs, k => by
    rw [List.length_cons, List.range'_succ, List.map_cons, List.zip_cons_cons, List.map_cons, enL_go enc fr xs (k + 1)]
    rfl
theorem enL_map {α : Type} (enc : α → D) (fr : Bool) (xs : List α) : enL fr (xs.map enc) = ((List.range' 0 xs.length).zip xs).map fun x => (fr, D.tup [nD x.1, enc x.2]) := by
  unfold enL
  rw [List.length_map, List.range_eq_range']
  exact enL_go enc fr xs 0
theorem zip_num {α : Type} : ∀ {xs : List α} {k : Nat} {pre post : List (Nat × α)} {x : Nat × α}, (List.range' k xs.length).zip xs = pre ++ x :: post → x.1 = k + pre.length ∧ xs = pre.map (·.2) ++ x.2 :: post.map (·.2)
  | [], k, pre, post, x, h => by simp at h
  | a :: xs, k, [], post, x, h => by
    rw [List.length_cons, List.range'_succ, List.zip_cons_cons, List.nil_append] at h
    obtain ⟨rfl, h2⟩ := List.cons.inj h
    refine ⟨rfl, ?_⟩
    rw [← h2]
    simp
    rw [← List.unzip_snd, List.unzip_zip_right (by simp)]
  | a :: xs, k, p :: pre, post, x, h => by
    rw [List.length_cons, List.range'_succ, List.zip_cons_cons, List.cons_append] at h
    obtain ⟨rfl, h2⟩ := List.cons.inj h
    obtain ⟨h3, h4⟩ := zip_num h2
    refine ⟨by rw [h3]; simp; omega, ?_⟩
    rw [h4]
    simp
theorem forL_en {α : Type} {g : GD} {b : FS} {ρ : Env} (enc : α → D) (fr : Bool) (J : List α → Env → Prop) (xs : List α) (h0 : J [] ρ) (h : ∀ pre x post ρ, xs = pre ++ x :: post → J pre ρ → ∃ ρ2, turn g b (fr, .tup [nD pre.length, enc x]) ρ = some (.nx ρ2) ∧ J (pre ++ [x]) ρ2) :
    ∃ ρ', forL g b (enL fr (xs.map enc)) ρ = some (.nx ρ') ∧ J xs ρ' := by
  rw [enL_map]
  obtain ⟨ρ', h1, h2⟩ := forL_all (fun x : Nat × α => (fr, D.tup [nD x.1, enc x.2])) (fun pre ρ => J (pre.map (·.2)) ρ) ((List.range' 0 xs.length).zip xs) (g := g) (b := b) (ρ := ρ) h0 fun pre x post ρ e j => by
    obtain ⟨e1, e2⟩ := zip_num e
    obtain ⟨ρ2, h1, h2⟩ := h (pre.map (·.2)) x.2 (post.map (·.2)) ρ e2 j
    rw [List.length_map] at h1
    refine ⟨ρ2, ?_, by rw [List.map_append]; exact h2⟩
    rw [e1, Nat.zero_add]
    exact h1
  refine ⟨ρ', h1, ?_⟩
  rw [← List.unzip_snd, List.unzip_zip_right (by simp)] at h2
  exact h2
theorem range_pre {n : Nat} {pre post : List Nat} {x : Nat} (h : List.range n = pre ++ x :: post) : x = pre.length ∧ pre = List.range pre.length ∧ x < n := by
  have hl := congrArg List.length h
  simp at hl
  have h1 : (List.range n)[pre.length]? = some x := by rw [h]; simp
  rw [List.getElem?_range (by omega)] at h1
  have h2 : x = pre.length := (Option.some.inj h1).symm
  refine ⟨h2, ?_, by omega⟩
  have h3 := congrArg (List.take pre.length) h
  rw [List.take_range, List.take_left', Nat.min_eq_left (by omega)] at h3
  · exact h3.symm
  · rfl
theorem forL_rng {g : GD} {b : FS} {ρ : Env} (lo c : Int) (n : Nat) (J : Nat → Env → Prop) (h0 : J 0 ρ) (h : ∀ i ρ, i < n → J i ρ → ∃ ρ2, turn g b (true, .int (lo + (i : Int) * c)) ρ = some (.nx ρ2) ∧ J (i + 1) ρ2) :
    ∃ ρ', forL g b (rngL lo n c) ρ = some (.nx ρ') ∧ J n ρ' := by
  obtain ⟨ρ', h1, h2⟩ := forL_all (fun i : Nat => (true, D.int (lo + (i : Int) * c))) (fun pre ρ => J pre.length ρ) (List.range n) (g := g) (b := b) (ρ := ρ) h0 fun pre x post ρ e j => by
    obtain ⟨e1, _, e3⟩ := range_pre e
    obtain ⟨ρ2, h1, h2⟩ := h x ρ e3 (by rw [e1]; exact j)
    exact ⟨ρ2, h1, by rw [List.length_append, List.length_singleton, ← e1]; exact h2⟩
  exact ⟨ρ', h1, by rw [List.length_range] at h2; exact h2⟩
theorem forL_rng_or {g : GD} {b : FS} {ρ : Env} (lo c : Int) (n : Nat) (J : Nat → Env → Prop) (R : D → Env → Prop) (h0 : J 0 ρ) (h : ∀ i ρ, i < n → J i ρ → (∃ ρ2, turn g b (true, .int (lo + (i : Int) * c)) ρ = some (.nx ρ2) ∧ J (i + 1) ρ2) ∨ ∃ d ρ2, turn g b (true, .int (lo + (i : Int) * c)) ρ = some (.rt d ρ2) ∧ R d ρ2) :
    (∃ ρ', forL g b (rngL lo n c) ρ = some (.nx ρ') ∧ J n ρ') ∨ ∃ d ρ', forL g b (rngL lo n c) ρ = some (.rt d ρ') ∧ R d ρ' := by
  have := forL_or (fun i : Nat => (true, D.int (lo + (i : Int) * c))) (fun pre ρ => J pre.length ρ) R (List.range n) (g := g) (b := b) (fun pre x post ρ e j => by
    obtain ⟨e1, _, e3⟩ := range_pre e
    rcases h x ρ e3 (by rw [e1]; exact j) with ⟨ρ2, h1, h2⟩ | h1
    · exact .inl ⟨ρ2, h1, by rw [List.length_append, List.length_singleton, ← e1]; exact h2⟩
    · exact .inr h1) (List.range n) [] ρ rfl h0
  rw [List.length_range] at this
  exact this
/-! comprehensions -/
def lcT (g : GD) (t : TD) (f : ED) (vs : List Nat) (p : Bool × D) (ρ : Env) : Option (Option D × Env) := (g p).bind fun bs => if bs.all (fun b => vs.contains b.1) then (setB ρ bs).bind fun ρ1 => (t ρ1).bind fun q => if q.1
      then (itF f q.2).bind fun y => if y.1.1 then some (some y.1.2, wipeE y.2 vs) else none
      else some (none, wipeE q.2 vs)
    else none
@[simp] theorem z_lcT {g : GD} {t : TD} {f : ED} {vs : List Nat} {p : Bool × D} {ρ : Env} : lcT g t f vs p ρ = bnd (g p) fun bs => if bs.all (fun b => vs.contains b.1) then bnd (setB ρ bs) fun ρ1 => bnd (t ρ1) fun q => if q.1
      then bnd (itF f q.2) fun y => if y.1.1 then some (some y.1.2, wipeE y.2 vs) else none
      else some (none, wipeE q.2 vs)
    else none := rfl
theorem lcL_cons {g : GD} {t : TD} {f : ED} {vs : List Nat} {p : Bool × D} {ps : List (Bool × D)} {ρ : Env} : lcL g t f vs (p :: ps) ρ = (lcT g t f vs p ρ).bind fun r => (lcL g t f vs ps r.2).map fun s => (r.1.toList ++ s.1, s.2) := by
  unfold lcT
  rw [lcL]
  cases g p with
  | none => rfl
  | some bs =>
    rw [Option.bind_some, Option.bind_some]
    split
    · cases setB ρ bs with
      | none => rfl
      | some ρ1 =>
        rw [Option.bind_some, Option.bind_some]
        cases t ρ1 with
        | none => rfl
        | some q =>
          rw [Option.bind_some, Option.bind_some]
          split
          · cases itF f q.2 with
            | none => rfl
            | some y =>
              rw [Option.bind_some, Option.bind_some]
              split <;> rfl
          · rw [Option.bind_some]
            cases lcL g t f vs ps (wipeE q.2 vs) with
            | none => rfl
            | some r => rfl
    · rfl
theorem lcL_J {β : Type} {g : GD} {t : TD} {f : ED} {vs : List Nat} (enc : β → Bool × D) (J : List β → List D → Env → Prop) (all : List β) (h : ∀ pre x post ds ρ, all = pre ++ x :: post → J pre ds ρ → ∃ o ρ2, lcT g t f vs (enc x) ρ = some (o, ρ2) ∧ J (pre ++ [x]) (ds ++ o.toList) ρ2) :
    ∀ (xs pre : List β) (ds : List D) (ρ : Env), all = pre ++ xs → J pre ds ρ → ∃ es ρ', lcL g t f vs (xs.map enc) ρ = some (es, ρ') ∧ J all (ds ++ es) ρ'
  | [], pre, ds, ρ, e, j => ⟨[], ρ, rfl, by rw [e, List.append_nil, List.append_nil]; exact j⟩
  | x :: xs, pre, ds, ρ, e, j => by
    obtain ⟨o, ρ2, h1, h2⟩ := h pre x xs ds ρ e j
    obtain ⟨es, ρ', h3, h4⟩ := lcL_J enc J all h xs (pre ++ [x]) (ds ++ o.toList) ρ2 (by rw [e]; simp) h2
    refine ⟨o.toList ++ es, ρ', ?_, by rw [← List.append_assoc]; exact h4⟩
    rw [List.map_cons, lcL_cons, h1, Option.bind_some, h3]
    rfl
theorem lcL_all {β : Type} {g : GD} {t : TD} {f : ED} {vs : List Nat} {ρ : Env} (enc : β → Bool × D) (J : List β → List D → Env → Prop) (xs : List β) (h0 : J [] [] ρ) (h : ∀ pre x post ds ρ, xs = pre ++ x :: post → J pre ds ρ → ∃ o ρ2, lcT g t f vs (enc x) ρ = some (o, ρ2) ∧ J (pre ++ [x]) (ds ++ o.toList) ρ2) :
    ∃ es ρ', lcL g t f vs (xs.map enc) ρ = some (es, ρ') ∧ J xs es ρ' := lcL_J enc J xs h xs [] [] ρ rfl h0
/-- turns that leave the slots -/
theorem lcL_fm {β : Type} {g : GD} {t : TD} {f : ED} {vs : List Nat} {ρ : Env} (enc : β → Bool × D) (r : β → Option D) : ∀ (xs : List β), (∀ x ∈ xs, lcT g t f vs (enc x) ρ = some (r x, ρ)) → lcL g t f vs (xs.map enc) ρ = some (xs.filterMap r, ρ)
  | [], _ => rfl
  | x :: xs, h => by
    rw [List.map_cons, lcL_cons, h x (by simp), Option.bind_some, lcL_fm enc r xs fun y m => h y (by simp [m])]
    cases e : r x <;> simp [e]
theorem lcL_mp {β : Type} {g : GD} {t : TD} {f : ED} {vs : List Nat} {ρ : Env} (enc : β → Bool × D) (r : β → D) (xs : List β) (h : ∀ x ∈ xs, lcT g t f vs (enc x) ρ = some (some (r x), ρ)) : lcL g t f vs (xs.map enc) ρ = some (xs.map r, ρ) := by
  rw [lcL_fm enc (fun x => some (r x)) xs h]
  simp
theorem lcL_rng {g : GD} {t : TD} {f : ED} {vs : List Nat} {ρ : Env} (lo c : Int) (n : Nat) (r : Nat → D) (h : ∀ i, i < n → lcT g t f vs (true, .int (lo + (i : Int) * c)) ρ = some (some (r i), ρ)) : lcL g t f vs (rngL lo n c) ρ = some ((List.range n).map r, ρ) :=
  lcL_mp (fun i : Nat => (true, D.int (lo + (i : Int) * c))) r (List.range n) fun i m => h i (by simpa using m)
theorem lcL_en {α : Type} {g : GD} {t : TD} {f : ED} {vs : List Nat} {ρ : Env} (enc : α → D) (fr : Bool) (r : Nat → α → Option D) (xs : List α) (h : ∀ i x, xs[i]? = some x → lcT g t f vs (fr, .tup [nD i, enc x]) ρ = some (r i x, ρ)) :
    lcL g t f vs (enL fr (xs.map enc)) ρ = some (((List.range' 0 xs.length).zip xs).filterMap fun p => r p.1 p.2, ρ) := by
  rw [enL_map]
  refine lcL_fm (fun x : Nat × α => (fr, D.tup [nD x.1, enc x.2])) (fun p => r p.1 p.2) _ fun p m => h p.1 p.2 ?_
  obtain ⟨i, hi⟩ := List.getElem?_of_mem m
  rw [List.getElem?_zip_eq_some] at hi
  obtain ⟨h1, h2⟩ := hi
  obtain ⟨h3, h4⟩ := List.getElem?_eq_some_iff.mp h1
  rw [List.getElem_range'] at h4
  rw [← h4, Nat.zero_add, Nat.one_mul]
  exact h2
/-! while: J of a measure -/
theorem whS_J {t : TD} {b : FS} (J : Env → Prop) (μ : Env → Nat) (R : Out → Prop) (h : ∀ ρ, J ρ → ∃ c ρ1, t ρ = some (c, ρ1) ∧ if c = true then ∃ o, b ρ1 = some o ∧ match o with
      | .nx ρ2 => J ρ2 ∧ μ ρ2 < μ ρ
      | .ct ρ2 => J ρ2 ∧ μ ρ2 < μ ρ
      | .bk ρ2 => R (.nx ρ2)
      | o => R o
    else R (.nx ρ1)) : ∀ (n : Nat) (ρ : Env), μ ρ < n → J ρ → ∃ o, whL t b n ρ = some o ∧ R o
  | 0, ρ, hn, _ => absurd hn (Nat.not_lt_zero _)
  | n + 1, ρ, hn, j => by
    obtain ⟨c, ρ1, h1, h2⟩ := h ρ j
    rw [whL, h1, Option.bind_some]
    cases c with
    | false => exact ⟨_, rfl, h2⟩
    | true =>
      obtain ⟨o, h3, h4⟩ := h2
      rw [if_pos rfl]
      dsimp only
      rw [h3, Option.bind_some]
      cases o with
      | nx ρ2 => exact whS_J J μ R h n ρ2 (Nat.lt_of_lt_of_le h4.2 (Nat.le_of_lt_succ hn)) h4.1
      | ct ρ2 => exact whS_J J μ R h n ρ2 (Nat.lt_of_lt_of_le h4.2 (Nat.le_of_lt_succ hn)) h4.1
      | bk ρ2 => exact ⟨_, rfl, h4⟩
      | rt d ρ2 => exact ⟨_, rfl, h4⟩
      | ex c ρ2 => exact ⟨_, rfl, h4⟩
theorem whS_all {t : TD} {b : FS} {ρ : Env} (J : Env → Prop) (μ : Env → Nat) (R : Out → Prop) (h0 : J ρ) (h : ∀ ρ, J ρ → ∃ c ρ1, t ρ = some (c, ρ1) ∧ if c = true then ∃ o, b ρ1 = some o ∧ match o with
      | .nx ρ2 => J ρ2 ∧ μ ρ2 < μ ρ
      | .ct ρ2 => J ρ2 ∧ μ ρ2 < μ ρ
      | .bk ρ2 => R (.nx ρ2)
      | o => R o
    else R (.nx ρ1)) : ∃ o, whS t b ρ = some o ∧ R o := by
  obtain ⟨o, h1, h2⟩ := whS_J J μ R h (μ ρ + 1) ρ (Nat.lt_succ_self _) h0
  exact ⟨o, whS_of h1, h2⟩
def tryO (mt : Str → Option Bool) (fh : FS) : Out → Option Out
  | .ex c ρ => bnd (mt c) fun b => if b then fh ρ else some (.ex c ρ)
  | o => some o
@[simp] theorem z_try {mt : Str → Option Bool} {p q : FS} {ρ : Env} : tryS mt p q ρ = bnd (p ρ) (tryO mt q) := rfl
@[simp] theorem z_try1 {mt : Str → Option Bool} {q : FS} {c : Str} {ρ : Env} : tryO mt q (.ex c ρ) = bnd (mt c) fun b => if b then q ρ else some (.ex c ρ) := rfl
@[simp] theorem z_try2 {mt : Str → Option Bool} {q : FS} {ρ : Env} : tryO mt q (.nx ρ) = some (.nx ρ) := rfl
@[simp] theorem z_try3 {mt : Str → Option Bool} {q : FS} {d : D} {ρ : Env} : tryO mt q (.rt d ρ) = some (.rt d ρ) := rfl
@[simp] theorem z_aug {i : Nat} {o : Int → Int → Int} {g : ED} {ρ : Env} : augI i o g ρ = bnd (intAt ρ i) fun x => bnd (argF g ρ) fun p => bnd (vI p.2 p.1) fun y => bnd (putR p.2 i (.fz (.int (o x y)))) fun ρ' => some (.nx ρ') := by unfold augI; simp only [map_bnd]; rfl
/-! indices -/
theorem atI_nat {α : Type} {xs : List α} {n : Nat} (h : n < xs.length) : atI xs (n : Int) = xs[n]? := by
  unfold atI ixN
  simp [h]
theorem atI_last {α : Type} {xs : List α} (h : xs ≠ []) : atI xs (-1) = xs.getLast? := by
  have hl : 0 < xs.length := List.length_pos_iff.mpr h
  unfold atI ixN
  rw [if_neg (by decide), if_pos (by omega), Option.bind_some, List.getLast?_eq_getElem?]
  congr 1
  omega
/-! the loops, in front of what follows -/
theorem bnd_all {α β : Type} {g : GD} {b : FS} {ρ : Env} {k : Out → Option α} {r : α} (enc : β → Bool × D) (J : List β → Env → Prop) (xs : List β) (h0 : J [] ρ) (h : ∀ pre x post ρ, xs = pre ++ x :: post → J pre ρ → ∃ ρ2, turn g b (enc x) ρ = some (.nx ρ2) ∧ J (pre ++ [x]) ρ2)
    (hk : ∀ ρ', J xs ρ' → k (.nx ρ') = some r) : bnd (forL g b (xs.map enc) ρ) k = some r := by
  obtain ⟨ρ', h1, h2⟩ := forL_all enc J xs h0 h
  rw [h1]
  exact hk ρ' h2
theorem bnd_en {α γ : Type} {g : GD} {b : FS} {ρ : Env} {k : Out → Option γ} {r : γ} (enc : α → D) {fr : Bool} (J : List α → Env → Prop) {xs : List α} (h0 : J [] ρ) (h : ∀ pre x post ρ, xs = pre ++ x :: post → J pre ρ → ∃ ρ2, turn g b (fr, .tup [nD pre.length, enc x]) ρ = some (.nx ρ2) ∧ J (pre ++ [x]) ρ2)
    (hk : ∀ ρ', J xs ρ' → k (.nx ρ') = some r) : bnd (forL g b (enL fr (xs.map enc)) ρ) k = some r := by
  obtain ⟨ρ', h1, h2⟩ := forL_en enc fr J xs h0 h
  rw [h1]
  exact hk ρ' h2
theorem bnd_rng {α : Type} {g : GD} {b : FS} {ρ : Env} {k : Out → Option α} {r : α} {lo c : Int} {n : Nat} (J : Nat → Env → Prop) (h0 : J 0 ρ) (h : ∀ i ρ, i < n → J i ρ → ∃ ρ2, turn g b (true, .int (lo + (i : Int) * c)) ρ = some (.nx ρ2) ∧ J (i + 1) ρ2)
    (hk : ∀ ρ', J n ρ' → k (.nx ρ') = some r) : bnd (forL g b (rngL lo n c) ρ) k = some r := by
  obtain ⟨ρ', h1, h2⟩ := forL_rng lo c n J h0 h
  rw [h1]
  exact hk ρ' h2
/-- items of a list that all come as enc of it, fresh or not -/
theorem bnd_seq {α β : Type} {g : GD} {b : FS} {ρ : Env} {k : Out → Option α} {r : α} (enc : β → D) {fr : Bool} (J : List β → Env → Prop) {xs : List β} (h0 : J [] ρ) (h : ∀ pre x post ρ, xs = pre ++ x :: post → J pre ρ → ∃ ρ2, turn g b (fr, enc x) ρ = some (.nx ρ2) ∧ J (pre ++ [x]) ρ2)
    (hk : ∀ ρ', J xs ρ' → k (.nx ρ') = some r) : bnd (forL g b ((xs.map enc).map fun d => (fr, d)) ρ) k = some r := by
  rw [List.map_map]
  exact bnd_all (fun x => (fr, enc x)) J xs h0 h hk
theorem lcL_sq {β : Type} {g : GD} {t : TD} {f : ED} {vs : List Nat} {ρ : Env} (enc : β → D) {fr : Bool} (r : β → Option D) {xs : List β} (h : ∀ x ∈ xs, lcT g t f vs (fr, enc x) ρ = some (r x, ρ)) : lcL g t f vs ((xs.map enc).map fun d => (fr, d)) ρ = some (xs.filterMap r, ρ) := by
  rw [List.map_map]
  exact lcL_fm (fun x => (fr, enc x)) r xs h
theorem lcL_sm {β : Type} {g : GD} {t : TD} {f : ED} {vs : List Nat} {ρ : Env} (enc : β → D) {fr : Bool} (r : β → D) {xs : List β} (h : ∀ x ∈ xs, lcT g t f vs (fr, enc x) ρ = some (some (r x), ρ)) : lcL g t f vs ((xs.map enc).map fun d => (fr, d)) ρ = some (xs.map r, ρ) := by
  rw [List.map_map]
  exact lcL_mp (fun x => (fr, enc x)) r xs h
@[simp] theorem env1 {a : D} {n : Nat} : envOf (n+1) [a] = .ar a :: List.replicate n .emp := rfl
@[simp] theorem env2 {a b : D} {n : Nat} : envOf (n+2) [a, b] = .ar a :: .ar b :: List.replicate n .emp := rfl
@[simp] theorem env3 {a b c : D} {n : Nat} : envOf (n+3) [a, b, c] = .ar a :: .ar b :: .ar c :: List.replicate n .emp := rfl
@[simp] theorem env4 {a b c d : D} {n : Nat} : envOf (n+4) [a, b, c, d] = .ar a :: .ar b :: .ar c :: .ar d :: List.replicate n .emp := rfl
end Sc
set_option maxRecDepth 100000
set_option maxHeartbeats 1000000
namespace Sc
open PySem PySem.Spec PyProof.Rows L2
/-! ### words -/
@[simp] theorem ok_row : okEq (.str "row") = true := by decide +kernel
@[simp] theorem ne_row_zero : (("row" : Str) = "zero") = False := eq_false (by decide +kernel)
@[simp] theorem ne_row_one : (("row" : Str) = "one") = False := eq_false (by decide +kernel)
@[simp] theorem ne_row_not : (("row" : Str) = "not") = False := eq_false (by decide +kernel)
@[simp] theorem ne_row_and : (("row" : Str) = "and") = False := eq_false (by decide +kernel)
@[simp] theorem ne_row_or : (("row" : Str) = "or") = False := eq_false (by decide +kernel)
@[simp] theorem ne_row_xor : (("row" : Str) = "xor") = False := eq_false (by decide +kernel)
@[simp] theorem ne_row_plus : (("row" : Str) = "plus") = False := eq_false (by decide +kernel)
@[simp] theorem ok_zero : okEq (.str "zero") = true := by decide +kernel
@[simp] theorem ne_zero_row : (("zero" : Str) = "row") = False := eq_false (by decide +kernel)
@[simp] theorem ne_zero_one : (("zero" : Str) = "one") = False := eq_false (by decide +kernel)
@[simp] theorem ne_zero_not : (("zero" : Str) = "not") = False := eq_false (by decide +kernel)
@[simp] theorem ne_zero_and : (("zero" : Str) = "and") = False := eq_false (by decide +kernel)
@[simp] theorem ne_zero_or : (("zero" : Str) = "or") = False := eq_false (by decide +kernel)
@[simp] theorem ne_zero_xor : (("zero" : Str) = "xor") = False := eq_false (by decide +kernel)
@[simp] theorem ne_zero_plus : (("zero" : Str) = "plus") = False := eq_false (by decide +kernel)
@[simp] theorem ok_one : okEq (.str "one") = true := by decide +kernel
@[simp] theorem ne_one_row : (("one" : Str) = "row") = False := eq_false (by decide +kernel)
@[simp] theorem ne_one_zero : (("one" : Str) = "zero") = False := eq_false (by decide +kernel)
@[simp] theorem ne_one_not : (("one" : Str) = "not") = False := eq_false (by decide +kernel)
@[simp] theorem ne_one_and : (("one" : Str) = "and") = False := eq_false (by decide +kernel)
@[simp] theorem ne_one_or : (("one" : Str) = "or") = False := eq_false (by decide +kernel)
@[simp] theorem ne_one_xor : (("one" : Str) = "xor") = False := eq_false (by decide +kernel)
@[simp] theorem ne_one_plus : (("one" : Str) = "plus") = False := eq_false (by decide +kernel)
@[simp] theorem ok_not : okEq (.str "not") = true := by decide +kernel
@[simp] theorem ne_not_row : (("not" : Str) = "row") = False := eq_false (by decide +kernel)
@[simp] theorem ne_not_zero : (("not" : Str) = "zero") = False := eq_false (by decide +kernel)
@[simp] theorem ne_not_one : (("not" : Str) = "one") = False := eq_false (by decide +kernel)
@[simp] theorem ne_not_and : (("not" : Str) = "and") = False := eq_false (by decide +kernel)
@[simp] theorem ne_not_or : (("not" : Str) = "or") = False := eq_false (by decide +kernel)
@[simp] theorem ne_not_xor : (("not" : Str) = "xor") = False := eq_false (by decide +kernel)
@[simp] theorem ne_not_plus : (("not" : Str) = "plus") = False := eq_false (by decide +kernel)
@[simp] theorem ok_and : okEq (.str "and") = true := by decide +kernel
@[simp] theorem ne_and_row : (("and" : Str) = "row") = False := eq_false (by decide +kernel)
@[simp] theorem ne_and_zero : (("and" : Str) = "zero") = False := eq_false (by decide +kernel)
@[simp] theorem ne_and_one : (("and" : Str) = "one") = False := eq_false (by decide +kernel)
@[simp] theorem ne_and_not : (("and" : Str) = "not") = False := eq_false (by decide +kernel)
@[simp] theorem ne_and_or : (("and" : Str) = "or") = False := eq_false (by decide +kernel)
@[simp] theorem ne_and_xor : (("and" : Str) = "xor") = False := eq_false (by decide +kernel)
@[simp] theorem ne_and_plus : (("and" : Str) = "plus") = False := eq_false (by decide +kernel)
@[simp] theorem ok_or : okEq (.str "or") = true := by decide +kernel
@[simp] theorem ne_or_row : (("or" : Str) = "row") = False := eq_false (by decide +kernel)
@[simp] theorem ne_or_zero : (("or" : Str) = "zero") = False := eq_false (by decide +kernel)
@[simp] theorem ne_or_one : (("or" : Str) = "one") = False := eq_false (by decide +kernel)
@[simp] theorem ne_or_not : (("or" : Str) = "not") = False := eq_false (by decide +kernel)
@[simp] theorem ne_or_and : (("or" : Str) = "and") = False := eq_false (by decide +kernel)
@[simp] theorem ne_or_xor : (("or" : Str) = "xor") = False := eq_false (by decide +kernel)
@[simp] theorem ne_or_plus : (("or" : Str) = "plus") = False := eq_false (by decide +kernel)
@[simp] theorem ok_xor : okEq (.str "xor") = true := by decide +kernel
@[simp] theorem ne_xor_row : (("xor" : Str) = "row") = False := eq_false (by decide +kernel)
@[simp] theorem ne_xor_zero : (("xor" : Str) = "zero") = False := eq_false (by decide +kernel)
@[simp] theorem ne_xor_one : (("xor" : Str) = "one") = False := eq_false (by decide +kernel)
@[simp] theorem ne_xor_not : (("xor" : Str) = "not") = False := eq_false (by decide +kernel)
@[simp] theorem ne_xor_and : (("xor" : Str) = "and") = False := eq_false (by decide +kernel)
@[simp] theorem ne_xor_or : (("xor" : Str) = "or") = False := eq_false (by decide +kernel)
@[simp] theorem ne_xor_plus : (("xor" : Str) = "plus") = False := eq_false (by decide +kernel)
@[simp] theorem ok_plus : okEq (.str "plus") = true := by decide +kernel
@[simp] theorem ne_plus_row : (("plus" : Str) = "row") = False := eq_false (by decide +kernel)
@[simp] theorem ne_plus_zero : (("plus" : Str) = "zero") = False := eq_false (by decide +kernel)
@[simp] theorem ne_plus_one : (("plus" : Str) = "one") = False := eq_false (by decide +kernel)
@[simp] theorem ne_plus_not : (("plus" : Str) = "not") = False := eq_false (by decide +kernel)
@[simp] theorem ne_plus_and : (("plus" : Str) = "and") = False := eq_false (by decide +kernel)
@[simp] theorem ne_plus_or : (("plus" : Str) = "or") = False := eq_false (by decide +kernel)
@[simp] theorem ne_plus_xor : (("plus" : Str) = "xor") = False := eq_false (by decide +kernel)
@[simp] theorem z_oEq {neg : Bool} {p q : Bool × D} : oEq neg p q = if (okEq p.2 && okEq q.2) || bothB p.2 q.2 then some (.fz (.bl (if neg then !decide (p.2 = q.2) else decide (p.2 = q.2)))) else none := rfl
@[simp] theorem ok_int (i : Int) : okEq (.int i) = true := rfl
@[simp] theorem z_oIn {neg : Bool} {p q : Bool × D} : oIn neg p q = (seqOf q.2).bind fun ds => if atN p.2 && ds.all atN then some (.fz (.bl (if neg then !decide (p.2 ∈ ds) else decide (p.2 ∈ ds)))) else none := rfl
@[simp] theorem z_atNi (i : Int) : atN (.int i) = true := rfl
@[simp] theorem z_atNs (x : Str) : atN (.str x) = true := rfl
@[simp] theorem z_oAll {a : Bool} {ds : List D} : oAll [(a, .lst ds)] = (blsOf ds).map fun is => .fz (.bl (is.all id)) := rfl
@[simp] theorem z_oSum {a : Bool} {ds : List D} : oSum [(a, .lst ds)] = (intsOf ds).map fun is => .fz (.int is.sum) := rfl
@[simp] theorem z_oMax1 {a : Bool} {ds : List D} : oMax [(a, .lst ds)] = (intsOf ds).bind fun is => if is = [] then none else some (.fz (.int (maxL is))) := rfl
@[simp] theorem z_oMax2 {a b : Bool} {i j : Int} : oMax [(a, .int i), (b, .int j)] = some (.fz (.int (max i j))) := rfl
@[simp] theorem bls_map {α : Type} (f : α → Bool) : ∀ xs : List α, blsOf (xs.map fun x => D.bl (f x)) = some (xs.map f)
  | [] => rfl
  | x :: xs => by rw [List.map_cons, blsOf, bls_map f xs]; rfl
@[simp] theorem ints_map {α : Type} (f : α → Int) : ∀ xs : List α, intsOf (xs.map fun x => D.int (f x)) = some (xs.map f)
  | [] => rfl
  | x :: xs => by rw [List.map_cons, intsOf, ints_map f xs]; rfl
@[simp] theorem oCatT_tt {a b : Bool} {ds es : List D} : oCatT (a, .tup ds) (b, .tup es) = if ds.length + es.length ≤ LIM then some (mkR (a && b) (.tup (ds ++ es))) else none := rfl
@[simp] theorem oAdd_tt {a b : Bool} {g : Int → Int → D} {ds es : List D} : oI g (a, .tup ds) (b, .tup es) = none := rfl
@[simp] theorem oAdd_ll {a b : Bool} {g : Int → Int → D} {ds es : List D} : oI g (a, .lst ds) (b, .lst es) = none := rfl
@[simp] theorem oCatT_ll {a b : Bool} {ds es : List D} : oCatT (a, .lst ds) (b, .lst es) = none := rfl
@[simp] theorem oMul_ti {a b : Bool} {c : Int → Int → Bool} {g : Int → Int → D} {ds : List D} {i : Int} : oIc c g (a, .tup ds) (b, .int i) = none := rfl
@[simp] theorem oMul_li {a b : Bool} {c : Int → Int → Bool} {g : Int → Int → D} {ds : List D} {i : Int} : oIc c g (a, .lst ds) (b, .int i) = none := rfl
@[simp] theorem oRepT_li {a b : Bool} {ds : List D} {i : Int} : oRepT (a, .lst ds) (b, .int i) = none := rfl
@[simp] theorem oRepT_ti {a b : Bool} {ds : List D} {i : Int} : oRepT (a, .tup ds) (b, .int i) = if -1000000 ≤ i ∧ i ≤ 1000000 ∧ ds.length * i.toNat ≤ 1000000 ∧ ds.length ≤ 1000 then some (mkR a (.tup (repD i.toNat ds))) else none := rfl
@[simp] theorem oRepL_li {a b : Bool} {ds : List D} {i : Int} : oRepL (a, .lst ds) (b, .int i) = if a = true ∧ -1000000 ≤ i ∧ i ≤ 1000000 ∧ ds.length * i.toNat ≤ 1000000 then some (.nw (repD i.toNat ds)) else none := rfl
theorem rep_one (n : Nat) (d : D) : repD n [d] = List.replicate n d := by
  unfold repD
  induction n with
  | zero => rfl
  | succ n ih => rw [List.replicate_succ, List.flatten_cons, ih, List.replicate_succ]; rfl
theorem rep_nD (n k : Nat) : List.replicate n (nD k) = (List.replicate n k).map nD := by simp
@[simp] theorem oCatL_ll {a b : Bool} {ds es : List D} : oCatL (a, .lst ds) (b, .lst es) = if a = true ∧ b = true ∧ ds.length + es.length ≤ LIM then some (.nw (ds ++ es)) else none := rfl
@[simp] theorem oPlus_ii {a b : Bool} {x y : Int} : oPlus (a, .int x) (b, .int y) = some (.fz (.int (x + y))) := rfl
@[simp] theorem oPlus_tt {a b : Bool} {ds es : List D} : oPlus (a, .tup ds) (b, .tup es) = if ds.length + es.length ≤ LIM then some (mkR (a && b) (.tup (ds ++ es))) else none := by
  show (Option.orElse (if ds.length + es.length ≤ LIM then some (mkR (a && b) (.tup (ds ++ es))) else none) fun _ => none) = _
  split <;> rfl
@[simp] theorem oPlus_ll {a b : Bool} {ds es : List D} : oPlus (a, .lst ds) (b, .lst es) = if a = true ∧ b = true ∧ ds.length + es.length ≤ LIM then some (.nw (ds ++ es)) else none := rfl
@[simp] theorem oTimes_ii {a b : Bool} {x y : Int} : oTimes (a, .int x) (b, .int y) = if cMul x y then some (.fz (.int (x * y))) else none := by
  show (Option.orElse (if cMul x y then some (Res.fz (.int (x * y))) else none) fun _ => none) = _
  split <;> rfl
@[simp] theorem oTimes_ti {a b : Bool} {ds : List D} {i : Int} : oTimes (a, .tup ds) (b, .int i) = if -1000000 ≤ i ∧ i ≤ 1000000 ∧ ds.length * i.toNat ≤ 1000000 ∧ ds.length ≤ 1000 then some (mkR a (.tup (repD i.toNat ds))) else none := by
  show (Option.orElse (if -1000000 ≤ i ∧ i ≤ 1000000 ∧ ds.length * i.toNat ≤ 1000000 ∧ ds.length ≤ 1000 then some (mkR a (.tup (repD i.toNat ds))) else none) fun _ => none) = _
  split <;> rfl
@[simp] theorem oTimes_li {a b : Bool} {ds : List D} {i : Int} : oTimes (a, .lst ds) (b, .int i) = if a = true ∧ -1000000 ≤ i ∧ i ≤ 1000000 ∧ ds.length * i.toNat ≤ 1000000 then some (.nw (repD i.toNat ds)) else none := rfl
def at0 (f : List Nat) (i : Nat) : Nat := f.getD i 0
theorem nobs_ints : ∀ xs : List Nat, nobs (xs.map nD) = true
  | [] => rfl
  | x :: xs => by rw [List.map_cons, nobs, nobs_ints xs]; rfl
theorem soks_ints : ∀ xs : List Nat, soks (xs.map nD) = true
  | [] => rfl
  | x :: xs => by rw [List.map_cons, soks, soks_ints xs]; rfl
theorem deps_ints : ∀ xs : List Nat, deps (xs.map nD) ≤ 1
  | [] => by decide
  | x :: xs => by rw [List.map_cons, deps]; have := deps_ints xs; show max 1 _ ≤ 1; omega
abbrev nsT (xs : List Nat) : D := .tup (xs.map nD)
abbrev nsL (xs : List Nat) : D := .lst (xs.map nD)
@[simp] theorem ok_nsT (xs : List Nat) : okEq (nsT xs) = true := by
  unfold okEq
  have := deps_ints xs
  rw [nob, nobs_ints, sok, soks_ints, dep]
  simp
  omega
@[simp] theorem noLs_ints : ∀ xs : List Nat, noLs (xs.map nD) = true
  | [] => rfl
  | x :: xs => by rw [List.map_cons, noLs, noLs_ints xs]; rfl
theorem nD_inj {a b : Nat} (h : nD a = nD b) : a = b := by
  have := D.int.inj h
  omega
theorem nsD_inj {xs ys : List Nat} (h : xs.map nD = ys.map nD) : xs = ys := (List.map_inj_right fun _ _ => nD_inj).mp h
theorem atI_map' {α : Type} {f : α → D} {xs : List α} {n : Nat} {x : α} (h : xs[n]? = some x) : atI (xs.map f) (n : Int) = some (f x) := by
  rw [atI_nat (by rw [List.length_map]; exact (List.getElem?_eq_some_iff.mp h).1), List.getElem?_map, h]
  rfl
@[simp] theorem atI_0 {α : Type} {x : α} {xs : List α} : atI (x :: xs) 0 = some x := by
  rw [show (0 : Int) = ((0 : Nat) : Int) from rfl, atI_nat (by simp)]; rfl
@[simp] theorem atI_1 {α : Type} {x y : α} {xs : List α} : atI (x :: y :: xs) 1 = some y := by
  rw [show (1 : Int) = ((1 : Nat) : Int) from rfl, atI_nat (by simp)]; rfl
@[simp] theorem atI_2 {α : Type} {x y z : α} {xs : List α} : atI (x :: y :: z :: xs) 2 = some z := by
  rw [show (2 : Int) = ((2 : Nat) : Int) from rfl, atI_nat (by simp)]; rfl
@[simp] theorem lets_at {k : Nat} (h : k ≤ 3) : atI [D.int 1, .int 2, .int 4, .int 8] (k : Int) = some (nD (2 ^ k)) := by
  match k, h with
  | 0, _ => rfl
  | 1, _ => rfl
  | 2, _ => rfl
  | 3, _ => rfl
end Sc
set_option maxRecDepth 100000
set_option maxHeartbeats 1000000
namespace Sc
open PySem PySem.Spec PyProof.Rows L2
/-! ### programs, by type -/
inductive Bo where
  | and | or | xor | plus
  deriving DecidableEq
inductive Ln where
  | row (k : Nat) | one | zero | not (a : Nat) | bin (o : Bo) (a b : Nat)
  deriving DecidableEq
instance : Inhabited Ln := ⟨.one⟩
def Bo.s : Bo → Str
  | .and => "and" | .or => "or" | .xor => "xor" | .plus => "plus"
def Ln.d : Ln → D
  | .row k => .tup [.str "row", nD k]
  | .one => .tup [.str "one"]
  | .zero => .tup [.str "zero"]
  | .not a => .tup [.str "not", nD a]
  | .bin o a b => .tup [.str o.s, nD a, nD b]
def Ln.isPlus : Ln → Bool
  | .bin .plus _ _ => true
  | _ => false
def Ln.w : Ln → Str
  | .row _ => "row" | .one => "one" | .zero => "zero" | .not _ => "not" | .bin o _ _ => o.s
def Ln.as : Ln → List D
  | .row k => [nD k] | .one => [] | .zero => [] | .not a => [nD a] | .bin _ a b => [nD a, nD b]
theorem Ln.d_eq (l : Ln) : l.d = .tup (.str l.w :: l.as) := by cases l <;> rfl
@[simp] theorem Ln.w_ok (l : Ln) : okEq (.str l.w) = true := by
  cases l with
  | bin o a b => cases o <;> simp [Ln.w, Bo.s]
  | _ => simp [Ln.w]
@[simp] theorem Ln.w_plus (l : Ln) : decide (l.w = "plus") = l.isPlus := by
  cases l with
  | bin o a b => cases o <;> simp [Ln.w, Bo.s, Ln.isPlus]
  | _ => simp [Ln.w, Ln.isPlus]
def Ln.ok (bits n : Nat) : Ln → Prop
  | .row k => k < bits
  | .one => True
  | .zero => True
  | .not a => a < n
  | .bin _ a b => a < n ∧ b < n
def LsOk' (bits : Nat) (ls : List Ln) : Prop := ∀ (i : Nat) (l : Ln), ls[i]? = some l → l.ok bits i
structure Pg where
  bits : Nat
  lines : List Ln
abbrev lsD (ls : List Ln) : D := .tup (ls.map Ln.d)
abbrev Pg.d (p : Pg) : D := .tup [nD p.bits, lsD p.lines]
structure Pg.Ok (p : Pg) : Prop where
  b1 : 1 ≤ p.bits
  b3 : p.bits ≤ 3
  l1 : p.lines ≠ []
  l2 : p.lines.length ≤ 50000
  ok : LsOk' p.bits p.lines
def TxOk (bits : Nat) (t : List Nat) : Prop := t.length ≤ 20000 ∧ ∀ l ∈ t, l < 2 ^ bits
theorem two3 {b : Nat} (h : b ≤ 3) : 2 ^ b ≤ 8 := Nat.pow_le_pow_right (n := 2) (by decide) h
/-! ### letters, lines, programs -/
theorem e_is_integer (i : Int) : R_is_integer [.int i] = some (.ret (.bl true)) := by
  simp -dsimp -implicitDefEqProofs [-Option.map_eq_some_iff, -List.map_map, LIM, R_is_integer, fb_is_integer]
@[simp] theorem e_is_within (v a b : Int) : R_is_within [.int v, .int a, .int b] = some (.ret (.bl (decide (a ≤ v) && decide (v ≤ b)))) := by
  by_cases h : a ≤ v <;> simp -dsimp -implicitDefEqProofs [-Option.map_eq_some_iff, -List.map_map, LIM, R_is_within, fb_is_within, e_is_integer, h]
theorem lets_is {k : Nat} (h : k ≤ 3) : atI [D.int 1, .int 2, .int 4, .int 8] (k : Int) = some (nD (2 ^ k)) := lets_at h
theorem lt_two {x b : Nat} (h : x < 2 ^ b) : (x : Int) ≤ 2 ^ b - 1 := by
  have := Int.ofNat_lt.mpr h
  simp at this
  omega
theorem e_need_text_of {bits : Nat} {t : List Nat} (hb : bits ≤ 3) (ht : TxOk bits t) : R_need_text_of [nD bits, nsT t] = some (.ret .non) := by
  have h1 := ht.1
  have h2 : ¬ (20000 : Int) < (t.length : Int) := by omega
  simp -dsimp -implicitDefEqProofs [-Option.map_eq_some_iff, -List.map_map, LIM, R_need_text_of, fb_need_text_of, c_MOST_PLACES, h2]
  refine bnd_en nD (fun _ ρ => ∃ a b, ρ = [.ar (nD bits), .ar (nsT t), a, b]) ⟨_, _, rfl⟩ (fun pre x post ρ e ⟨a, b, j⟩ => ?_) (fun ρ' _ => rfl)
  subst j
  simp -dsimp -implicitDefEqProofs [-Option.map_eq_some_iff, -List.map_map, LIM, c_LETTERS_BY, lets_is hb, lt_two (ht.2 x (by rw [e]; simp))]
theorem e_is_text_of {bits : Nat} {t : List Nat} (hb : bits ≤ 3) (ht : TxOk bits t) : R_is_text_of [nD bits, nsT t] = some (.ret (.bl true)) := by
  have h1 := ht.1
  have h2 : ¬ (20000 : Int) < (t.length : Int) := by omega
  simp -dsimp -implicitDefEqProofs [-Option.map_eq_some_iff, -List.map_map, LIM, R_is_text_of, fb_is_text_of, c_MOST_PLACES, h2]
  rw [lcL_sm nD (fun _ => .bl true) (fun x m => by simp -dsimp -implicitDefEqProofs [-Option.map_eq_some_iff, -List.map_map, LIM, c_LETTERS_BY, lets_is hb, lt_two (ht.2 x m)])]
  have h3 : t.length ≤ 1000000 := by omega
  simp -dsimp -implicitDefEqProofs [-Option.map_eq_some_iff, -List.map_map, LIM, h3]
theorem e_bit_row {bits k : Nat} {t : List Nat} (hk : k ≤ 3) (ht : TxOk bits t) : R_bit_row [nsT t, nD k] = some (.ret (nsT (t.map fun l => l / 2 ^ k % 2))) := by
  have h1 := ht.1
  have h3 : t.length ≤ 1000000 := by omega
  simp -dsimp -implicitDefEqProofs [-Option.map_eq_some_iff, -List.map_map, LIM, R_bit_row, fb_bit_row]
  have h4 : (2 : Int) ^ k < 1073741824 ∧ 0 < (2 : Int) ^ k := by
    match k, hk with
    | 0, _ => decide
    | 1, _ => decide
    | 2, _ => decide
    | 3, _ => decide
  rw [lcL_sm nD (fun l => nD (l / 2 ^ k % 2)) (fun x m => by simp -dsimp -implicitDefEqProofs [-Option.map_eq_some_iff, -List.map_map, LIM, c_LETTERS_BY, lets_is hk, cDiv, cMod, h4])]
  simp -dsimp -implicitDefEqProofs [-Option.map_eq_some_iff, -List.map_map, LIM, h3, List.map_map, Function.comp_def]
/-! ### lines -/
@[simp] theorem noL_ln (l : Ln) : noL l.d = true := by cases l <;> rfl
@[simp] theorem noLs_lns : ∀ ls : List Ln, noLs (ls.map Ln.d) = true
  | [] => rfl
  | l :: ls => by rw [List.map_cons, noLs, noL_ln, noLs_lns ls]; rfl
theorem e_is_line {bits n : Nat} {l : Ln} (h : l.ok bits n) : R_is_line [nD bits, l.d, nD n] = some (.ret (.bl true)) := by
  cases l with
  | row k =>
    have h1 : (k : Int) ≤ bits - 1 := by have : k < bits := h; omega
    simp -dsimp -implicitDefEqProofs [-Option.map_eq_some_iff, -List.map_map, LIM, R_is_line, fb_is_line, Ln.d, cutD, HT.sIx, h1]
  | one => simp -dsimp -implicitDefEqProofs [-Option.map_eq_some_iff, -List.map_map, LIM, R_is_line, fb_is_line, Ln.d, cutD, HT.sIx]
  | zero => simp -dsimp -implicitDefEqProofs [-Option.map_eq_some_iff, -List.map_map, LIM, R_is_line, fb_is_line, Ln.d, cutD, HT.sIx]
  | not a =>
    have h1 : (a : Int) ≤ n - 1 := by have : a < n := h; omega
    simp -dsimp -implicitDefEqProofs [-Option.map_eq_some_iff, -List.map_map, LIM, R_is_line, fb_is_line, Ln.d, cutD, HT.sIx, h1]
  | bin o a b =>
    have h1 : (a : Int) ≤ n - 1 := by have : a < n := h.1; omega
    have h2 : (b : Int) ≤ n - 1 := by have : b < n := h.2; omega
    cases o <;> simp -dsimp -implicitDefEqProofs [-Option.map_eq_some_iff, -List.map_map, LIM, R_is_line, fb_is_line, Ln.d, Bo.s, cutD, HT.sIx, c_PAIRED, lcL_cons, lcL, blsOf, h1, h2]
theorem e_need_program {p : Pg} (h : p.Ok) : R_need_program [p.d] = some (.ret p.d) := by
  have h1 : (p.lines.length : Int) ≤ 50000 := by have := h.l2; omega
  have h2 : (1 : Int) ≤ p.lines.length := by have := List.length_pos_iff.mpr h.l1; omega
  have h3 : (1 : Int) ≤ p.bits := by have := h.b1; omega
  have h4 : (p.bits : Int) ≤ 3 := by have := h.b3; omega
  simp -dsimp -implicitDefEqProofs [-Option.map_eq_some_iff, -List.map_map, LIM, R_need_program, fb_need_program, Pg.d, lsD, c_MOST_LINES, h1, h2, h3, h4]
  refine bnd_en Ln.d (fun _ ρ => ∃ a b, ρ = [.ar p.d, .fz (nD p.bits), .fz (lsD p.lines), a, b]) ⟨_, _, rfl⟩ (fun pre x post ρ e ⟨a, b, j⟩ => ?_) (fun ρ' ⟨a, b, j⟩ => ?_)
  · subst j
    have hx := e_is_line (h.ok pre.length x (by rw [e]; simp))
    simp -dsimp -implicitDefEqProofs [-Option.map_eq_some_iff, -List.map_map, LIM, hx]
  · subst j
    simp -dsimp -implicitDefEqProofs [-Option.map_eq_some_iff, -List.map_map, LIM, Pg.d, lsD]
/-- the numbers of the lines that add -/
def plusN : Nat → List Ln → List Nat
  | _, [] => []
  | k, l :: ls => if l.isPlus then k :: plusN (k + 1) ls else plusN (k + 1) ls
theorem plusN_len : ∀ (k : Nat) (ls : List Ln), (plusN k ls).length ≤ ls.length
  | _, [] => Nat.le_refl _
  | k, l :: ls => by
    rw [plusN]
    have := plusN_len (k + 1) ls
    split
    · simp; omega
    · simp; omega
theorem plusN_fm : ∀ (k : Nat) (ls : List Ln), (((List.range' k ls.length).zip ls).filterMap fun p => if p.2.isPlus then some (nD p.1) else none) = (plusN k ls).map nD
  | _, [] => rfl
  | k, l :: ls => by
    rw [List.length_cons, List.range'_succ, List.zip_cons_cons, List.filterMap_cons, plusN]
    cases h : l.isPlus with
    | true => simp [plusN_fm (k + 1) ls]
    | false => simp [plusN_fm (k + 1) ls]
theorem e_plus_numbers {ls : List Ln} (hl : ls.length ≤ 50000) : R_plus_numbers [lsD ls] = some (.ret (nsL (plusN 0 ls))) := by
  simp -dsimp -implicitDefEqProofs [-Option.map_eq_some_iff, -List.map_map, LIM, R_plus_numbers, fb_plus_numbers, lcF_eq]
  rw [lcL_en Ln.d _ (fun i l => if l.isPlus then some (nD i) else none) ls (fun i l m => by cases l with
    | bin o a b => cases o <;> simp -dsimp -implicitDefEqProofs [-Option.map_eq_some_iff, -List.map_map, LIM, Ln.d, Bo.s, c_PLUS, Ln.isPlus]
    | _ => simp -dsimp -implicitDefEqProofs [-Option.map_eq_some_iff, -List.map_map, LIM, Ln.d, c_PLUS, Ln.isPlus]), plusN_fm]
  have := plusN_len 0 ls
  have h1 : (plusN 0 ls).length ≤ 1000000 := by omega
  simp -dsimp -implicitDefEqProofs [-Option.map_eq_some_iff, -List.map_map, LIM, h1]
theorem e_plus_lines {p : Pg} (h : p.Ok) : R_plus_lines [p.d] = some (.ret (nsT (plusN 0 p.lines))) := by
  have h1 := e_need_program h
  have h2 := e_plus_numbers h.l2
  simp -dsimp -implicitDefEqProofs [-Option.map_eq_some_iff, -List.map_map, LIM, R_plus_lines, fb_plus_lines, h1, h2]
/-- the carries at the first place -/
def zeros (ls : List Ln) : List Nat := List.replicate (plusN 0 ls).length 0
theorem e_noughts_of {ls : List Ln} (hl : ls.length ≤ 50000) : R_noughts_of [lsD ls] = some (.ret (nsT (zeros ls))) := by
  have h2 := e_plus_numbers hl
  have := plusN_len 0 ls
  have h3 : ((plusN 0 ls).length : Int) ≤ 1000000 := by omega
  have h4 : (plusN 0 ls).length ≤ 1000000 := by omega
  have h5 : -1000000 ≤ ((plusN 0 ls).length : Int) := by omega
  simp -dsimp -implicitDefEqProofs [-Option.map_eq_some_iff, -List.map_map, LIM, R_noughts_of, fb_noughts_of, h2, h3, h4, h5, rep_one, zeros]
/-! ### a place -/
def plainBit (l : Ln) (f : List Nat) (x : Nat) : Nat := match l with
  | .row k => x / 2 ^ k % 2
  | .one => 1
  | .zero => 0
  | .not a => 1 - at0 f a
  | .bin .and a b => at0 f a * at0 f b
  | .bin .or a b => max (at0 f a) (at0 f b)
  | .bin _ a b => (at0 f a + at0 f b) % 2
def stepLn (cs : List Nat) (x : Nat) (s : List Nat × List Nat) (l : Ln) : List Nat × List Nat := match l with
  | .bin .plus a b => (s.1 ++ [(at0 s.1 a + at0 s.1 b + at0 cs s.2.length) % 2], s.2 ++ [(at0 s.1 a + at0 s.1 b + at0 cs s.2.length) / 2])
  | l => (s.1 ++ [plainBit l s.1 x], s.2)
def placeF (ls : List Ln) (cs : List Nat) (x : Nat) : List Nat × List Nat := ls.foldl (stepLn cs x) ([], [])
def Bits (xs : List Nat) : Prop := ∀ x ∈ xs, x ≤ 1
theorem Bits.getD {xs : List Nat} (h : Bits xs) (i : Nat) : at0 xs i ≤ 1 := by
  rw [at0, List.getD_eq_getElem?_getD]
  cases e : xs[i]? with
  | none => exact Nat.zero_le _
  | some x => exact h x (List.mem_of_getElem? e)
theorem Bits.snoc {xs : List Nat} {x : Nat} (h : Bits xs) (hx : x ≤ 1) : Bits (xs ++ [x]) := fun y m => by
  rcases List.mem_append.mp m with m | m
  · exact h y m
  · rw [List.mem_singleton.mp m]; exact hx
theorem plainBit_le {l : Ln} {f : List Nat} {x : Nat} (h : Bits f) : plainBit l f x ≤ 1 := by
  cases l with
  | row k => exact Nat.le_of_lt_succ (Nat.mod_lt _ (by decide))
  | one => exact Nat.le_refl _
  | zero => exact Nat.zero_le _
  | not a => exact Nat.sub_le _ _
  | bin o a b =>
    have h1 := h.getD a
    have h2 := h.getD b
    cases o <;> unfold plainBit <;> dsimp only
    · exact Nat.mul_le_mul h1 h2
    · exact Nat.max_le.mpr ⟨h1, h2⟩
    · omega
    · omega
theorem at_D {f : List Nat} {a : Nat} (h : a < f.length) : atI (f.map nD) (a : Int) = some (nD (at0 f a)) := by
  rw [atI_map' (List.getElem?_eq_getElem h), at0, List.getD_eq_getElem?_getD, List.getElem?_eq_getElem h]
  rfl
theorem e_plain_bit {bits : Nat} {l : Ln} {f : List Nat} {x : Nat} (hb : bits ≤ 3) (hl : l.ok bits f.length) (hf : Bits f) (hp : l.isPlus = false) : R_plain_bit [l.d, nsL f, nD x] = some (.ret (nD (plainBit l f x))) := by
  cases l with
  | row k =>
    have hk : k < bits := hl
    have h4 : (2 : Int) ^ k < 1073741824 ∧ 0 < (2 : Int) ^ k := by
      match k, Nat.lt_of_lt_of_le hk hb with
      | 0, _ => decide
      | 1, _ => decide
      | 2, _ => decide
    simp -dsimp -implicitDefEqProofs [-Option.map_eq_some_iff, -List.map_map, LIM, R_plain_bit, fb_plain_bit, Ln.d, c_LETTERS_BY, lets_is (show k ≤ 3 by omega), cDiv, cMod, h4, plainBit]
  | one => simp -dsimp -implicitDefEqProofs [-Option.map_eq_some_iff, -List.map_map, LIM, R_plain_bit, fb_plain_bit, Ln.d, plainBit]
  | zero => simp -dsimp -implicitDefEqProofs [-Option.map_eq_some_iff, -List.map_map, LIM, R_plain_bit, fb_plain_bit, Ln.d, plainBit]
  | not a =>
    have ha : a < f.length := hl
    have h1 := hf.getD a
    have h2 : (1 : Int) - (at0 f a : Nat) = ((1 - at0 f a : Nat) : Int) := by omega
    simp -dsimp -implicitDefEqProofs [-Option.map_eq_some_iff, -List.map_map, LIM, R_plain_bit, fb_plain_bit, Ln.d, at_D ha, plainBit]
    omega
  | bin o a b =>
    have ha : a < f.length := hl.1
    have hb : b < f.length := hl.2
    cases o with
    | plus => cases hp
    | and =>
      have h3 : cMul ((at0 f a : Nat) : Int) ((at0 f b : Nat) : Int) = true := by
        have := hf.getD a
        unfold cMul
        simp
        omega
      simp -dsimp -implicitDefEqProofs [-Option.map_eq_some_iff, -List.map_map, LIM, R_plain_bit, fb_plain_bit, Ln.d, Bo.s, at_D ha, at_D hb, plainBit, h3]
    | or =>
      simp -dsimp -implicitDefEqProofs [-Option.map_eq_some_iff, -List.map_map, LIM, R_plain_bit, fb_plain_bit, Ln.d, Bo.s, at_D ha, at_D hb, plainBit]
      omega
    | xor =>
      simp -dsimp -implicitDefEqProofs [-Option.map_eq_some_iff, -List.map_map, LIM, R_plain_bit, fb_plain_bit, Ln.d, Bo.s, at_D ha, at_D hb, plainBit, cMod]
end Sc
set_option maxRecDepth 100000
set_option maxHeartbeats 1000000
namespace Sc
open PySem PySem.Spec PyProof.Rows L2
/-! ### places, walks -/
def plusC (ls : List Ln) : Nat := (ls.filter Ln.isPlus).length
theorem plusN_c : ∀ (k : Nat) (ls : List Ln), (plusN k ls).length = plusC ls
  | _, [] => rfl
  | k, l :: ls => by
    have := plusN_c (k + 1) ls
    unfold plusC at this ⊢
    rw [plusN, List.filter_cons]
    cases h : l.isPlus with
    | true => simp [this]
    | false => simpa using this
theorem plusC_snoc {pre : List Ln} {l : Ln} : plusC (pre ++ [l]) = plusC pre + if l.isPlus then 1 else 0 := by
  unfold plusC
  cases h : l.isPlus <;> simp [h]
theorem plusC_lt {pre post : List Ln} {l : Ln} (h : l.isPlus = true) : plusC pre < plusC (pre ++ l :: post) := by
  unfold plusC
  simp [h]
theorem plusC_le (ls : List Ln) : plusC ls ≤ ls.length := List.length_filter_le _ _
structure PlI (pre : List Ln) (s : List Nat × List Nat) : Prop where
  l1 : s.1.length = pre.length
  l2 : s.2.length = plusC pre
  b1 : Bits s.1
  b2 : Bits s.2
theorem bits_nil : Bits [] := fun _ m => nomatch m
theorem stepLn_no {cs : List Nat} {x : Nat} {s : List Nat × List Nat} {l : Ln} (h : l.isPlus = false) : stepLn cs x s l = (s.1 ++ [plainBit l s.1 x], s.2) := by
  cases l with
  | bin o a b => cases o <;> first | rfl | cases h
  | _ => rfl
theorem PlI.step {pre : List Ln} {s : List Nat × List Nat} {l : Ln} {cs : List Nat} {x : Nat} (I : PlI pre s) (hc : Bits cs) : PlI (pre ++ [l]) (stepLn cs x s l) := by
  cases h : l.isPlus with
  | false =>
    rw [stepLn_no h]
    exact ⟨by simp [I.l1], by rw [plusC_snoc, h]; exact I.l2, I.b1.snoc (plainBit_le I.b1), I.b2⟩
  | true =>
    cases l with
    | bin o a b =>
      cases o with
      | plus =>
        have h1 := I.b1.getD a
        have h2 := I.b1.getD b
        have h3 := hc.getD s.2.length
        refine ⟨by simp [stepLn, I.l1], by rw [plusC_snoc, h]; simp [stepLn, I.l2], I.b1.snoc (by omega), I.b2.snoc (by omega)⟩
      | _ => cases h
    | _ => cases h
theorem place_inv {cs : List Nat} {x : Nat} (hc : Bits cs) : ∀ (post pre : List Ln) (s : List Nat × List Nat), PlI pre s → PlI (pre ++ post) (post.foldl (stepLn cs x) s)
  | [], pre, s, I => by rw [List.append_nil]; exact I
  | l :: post, pre, s, I => by
    have := place_inv (x := x) hc post (pre ++ [l]) _ (I.step (l := l) (x := x) hc)
    rw [List.append_assoc] at this
    exact this
theorem placeF_inv {ls : List Ln} {cs : List Nat} {x : Nat} (hc : Bits cs) : PlI ls (placeF ls cs x) := by
  have := place_inv (x := x) hc ls [] ([], []) ⟨rfl, rfl, bits_nil, bits_nil⟩
  rw [List.nil_append] at this
  exact this
theorem split_at {ls pre post : List Ln} {l : Ln} {bits : Nat} (h : LsOk' bits ls) (e : ls = pre ++ l :: post) : l.ok bits pre.length := h pre.length l (by rw [e]; simp)
theorem e_place_bits {bits : Nat} {ls : List Ln} {cs : List Nat} {x : Nat} (hb : bits ≤ 3) (hl : LsOk' bits ls) (hn : ls.length ≤ 50000) (hc : Bits cs) (hcl : cs.length = plusC ls) :
    R_place_bits [lsD ls, nsT cs, nD x] = some (.ret (.tup [nsL (placeF ls cs x).1, nsT (placeF ls cs x).2])) := by
  simp -dsimp -implicitDefEqProofs [-Option.map_eq_some_iff, -List.map_map, LIM, R_place_bits, fb_place_bits]
  refine bnd_seq Ln.d (fun pre ρ => ∃ s5 s6, ρ = [.ar (lsD ls), .ar (nsT cs), .ar (nD x), .ow ((pre.foldl (stepLn cs x) ([], [])).1.map nD), .ow ((pre.foldl (stepLn cs x) ([], [])).2.map nD), s5, s6]) ⟨_, _, rfl⟩ ?_ ?_
  · rintro pre l post ρ e ⟨s5, s6, rfl⟩
    have I := place_inv (x := x) hc pre [] ([], []) ⟨rfl, rfl, bits_nil, bits_nil⟩
    rw [List.nil_append] at I
    have hlo := split_at hl e
    have hlen : pre.length < 1000000 := by have := congrArg List.length e; simp at this; omega
    rw [List.foldl_append, List.foldl_cons, List.foldl_nil]
    generalize pre.foldl (stepLn cs x) ([], []) = s at I ⊢
    obtain ⟨f, g⟩ := s
    obtain ⟨I1, I2, I3, I4⟩ := I
    dsimp only at I1 I2 I3 I4 ⊢
    rw [← I1] at hlo
    have hf : f.length < 1000000 := by omega
    cases hp : l.isPlus with
    | false =>
      have h1 := e_plain_bit (x := x) hb hlo I3 hp
      rw [Ln.d_eq] at h1
      simp -dsimp -implicitDefEqProofs [-Option.map_eq_some_iff, -List.map_map, LIM, Ln.d_eq, h1, hf, stepLn_no hp, hp, c_PLUS]
    | true =>
      cases l with
      | bin o a b =>
        cases o with
        | plus =>
          have hgl : g.length < cs.length := by rw [I2, hcl, e]; exact plusC_lt hp
          have ha : a < f.length := hlo.1
          have hb' : b < f.length := hlo.2
          have hg : g.length < 1000000 := by have := plusC_le pre; omega
          simp -dsimp -implicitDefEqProofs [-Option.map_eq_some_iff, -List.map_map, LIM, Ln.d, Bo.s, c_PLUS, at_D ha, at_D hb', at_D hgl, cMod, cDiv, hf, hg, stepLn]
        | _ => cases hp
      | _ => cases hp
  · rintro ρ' ⟨s5, s6, rfl⟩
    simp -dsimp -implicitDefEqProofs [-Option.map_eq_some_iff, -List.map_map, LIM, placeF]
end Sc
set_option maxRecDepth 100000
set_option maxHeartbeats 1000000
namespace Sc
open PySem PySem.Spec PyProof.Rows L2
/-! ### walks -/
def lastOf (f : List Nat) : Nat := f.getLast?.getD 0
theorem at_last {f : List Nat} (h : f ≠ []) : atI (f.map nD) (-1) = some (nD (lastOf f)) := by
  rw [atI_last (by simpa using h), List.getLast?_map, lastOf]
  cases e : f.getLast? with
  | none => rw [List.getLast?_eq_none_iff] at e; exact (h e).elim
  | some x => rfl
def walkStep (ls : List Ln) (s : List Nat × List Nat) (x : Nat) : List Nat × List Nat := (s.1 ++ [lastOf (placeF ls s.2 x).1], (placeF ls s.2 x).2)
def walkF (ls : List Ln) (cs t : List Nat) : List Nat × List Nat := t.foldl (walkStep ls) ([], cs)
structure WkI (ls : List Ln) (pre : List Nat) (s : List Nat × List Nat) : Prop where
  l1 : s.1.length = pre.length
  l2 : s.2.length = plusC ls
  b1 : Bits s.1
  b2 : Bits s.2
theorem bits_last {f : List Nat} (h : Bits f) : lastOf f ≤ 1 := by
  unfold lastOf
  cases e : f.getLast? with
  | none => exact Nat.zero_le _
  | some x => exact h x (List.mem_of_getLast? e)
theorem WkI.step {ls : List Ln} {pre : List Nat} {s : List Nat × List Nat} {x : Nat} (I : WkI ls pre s) : WkI ls (pre ++ [x]) (walkStep ls s x) := by
  have P := placeF_inv (ls := ls) (x := x) I.b2
  exact ⟨by simp [walkStep, I.l1], P.l2, I.b1.snoc (bits_last P.b1), P.b2⟩
theorem walk_inv {ls : List Ln} : ∀ (post pre : List Nat) (s : List Nat × List Nat), WkI ls pre s → WkI ls (pre ++ post) (post.foldl (walkStep ls) s)
  | [], pre, s, I => by rw [List.append_nil]; exact I
  | x :: post, pre, s, I => by
    have := walk_inv post (pre ++ [x]) _ (I.step (x := x))
    rw [List.append_assoc] at this
    exact this
structure CsOk (ls : List Ln) (cs : List Nat) : Prop where
  len : cs.length = plusC ls
  bits : Bits cs
theorem walkF_inv {ls : List Ln} {cs t : List Nat} (hc : CsOk ls cs) : WkI ls t (walkF ls cs t) := by
  have := walk_inv t [] ([], cs) ⟨rfl, hc.len, bits_nil, hc.bits⟩
  rw [List.nil_append] at this
  exact this
theorem CsOk.walk {ls : List Ln} {cs t : List Nat} (hc : CsOk ls cs) : CsOk ls (walkF ls cs t).2 := ⟨(walkF_inv hc).l2, (walkF_inv hc).b2⟩
theorem zeros_ok (ls : List Ln) : CsOk ls (zeros ls) := ⟨by rw [zeros, List.length_replicate, plusN_c], fun x m => by rw [zeros] at m; rw [List.eq_of_mem_replicate m]; exact Nat.zero_le _⟩
theorem e_walk_marks {bits : Nat} {ls : List Ln} {cs t : List Nat} (hb : bits ≤ 3) (hl : LsOk' bits ls) (h1 : ls ≠ []) (hn : ls.length ≤ 50000) (hc : CsOk ls cs) (ht : t.length ≤ 20000) :
    R_walk_marks [lsD ls, nsT cs, nsT t] = some (.ret (.tup [nsT (walkF ls cs t).1, nsT (walkF ls cs t).2])) := by
  simp -dsimp -implicitDefEqProofs [-Option.map_eq_some_iff, -List.map_map, LIM, R_walk_marks, fb_walk_marks]
  refine bnd_seq nD (fun pre ρ => ∃ s1 s4 s5, ρ = [.ar (lsD ls), s1, .ar (nsT t), .ow ((pre.foldl (walkStep ls) ([], cs)).1.map nD), s4, s5] ∧ (s1 = .ar (nsT (pre.foldl (walkStep ls) ([], cs)).2) ∨ s1 = .fz (nsT (pre.foldl (walkStep ls) ([], cs)).2))) ⟨_, _, _, rfl, .inl rfl⟩ ?_ ?_
  · rintro pre x post ρ e ⟨s1, s4, s5, rfl, h⟩
    have I := walk_inv pre [] ([], cs) ⟨rfl, hc.len, bits_nil, hc.bits⟩
    rw [List.nil_append] at I
    have hlen : pre.length < 1000000 := by have := congrArg List.length e; simp at this; omega
    rw [List.foldl_append, List.foldl_cons, List.foldl_nil]
    generalize pre.foldl (walkStep ls) ([], cs) = s at I h ⊢
    obtain ⟨ms, ds⟩ := s
    obtain ⟨I1, I2, I3, I4⟩ := I
    dsimp only at I1 I2 I3 I4 h ⊢
    have P := placeF_inv (ls := ls) (x := x) I4
    have hne : (placeF ls ds x).1 ≠ [] := fun z => by have := P.l1; rw [z] at this; exact h1 (List.length_eq_zero_iff.mp this.symm)
    have hp := e_place_bits (x := x) hb hl hn I4 I2
    have hms : ms.length < 1000000 := by omega
    rcases h with rfl | rfl
    · simp -dsimp -implicitDefEqProofs [-Option.map_eq_some_iff, -List.map_map, LIM, hp, at_last hne, hms, walkStep]
    · simp -dsimp -implicitDefEqProofs [-Option.map_eq_some_iff, -List.map_map, LIM, hp, at_last hne, hms, walkStep]
  · rintro ρ' ⟨s1, s4, s5, rfl, h⟩
    rcases h with rfl | rfl
    · simp -dsimp -implicitDefEqProofs [-Option.map_eq_some_iff, -List.map_map, LIM, walkF]
    · simp -dsimp -implicitDefEqProofs [-Option.map_eq_some_iff, -List.map_map, LIM, walkF]
/-! ### carries asked -/
theorem e_is_carries {p : Pg} {cs : List Nat} (h : p.Ok) (hc : CsOk p.lines cs) : R_is_carries [p.d, nsT cs] = some (.ret (.bl true)) := by
  have h2 := e_plus_numbers h.l2
  have h3 : (cs.length : Int) = ((plusN 0 p.lines).length : Int) := by rw [hc.len, plusN_c]
  have h4 : cs.length ≤ 1000000 := by rw [hc.len]; have := plusC_le p.lines; have := h.l2; omega
  simp -dsimp -implicitDefEqProofs [-Option.map_eq_some_iff, -List.map_map, LIM, R_is_carries, fb_is_carries, h2, h3]
  rw [lcL_sm nD (fun _ => .bl true) (fun x m => by
    have h5 : (x : Int) ≤ 1 := by have := hc.bits x m; omega
    simp -dsimp -implicitDefEqProofs [-Option.map_eq_some_iff, -List.map_map, LIM, h5])]
  simp -dsimp -implicitDefEqProofs [-Option.map_eq_some_iff, -List.map_map, LIM, h4]
theorem e_need_carries {p : Pg} {cs : List Nat} (h : p.Ok) (hc : CsOk p.lines cs) : R_need_carries [p.d, nsT cs] = some (.ret .non) := by
  have := e_is_carries h hc
  simp -dsimp -implicitDefEqProofs [-Option.map_eq_some_iff, -List.map_map, LIM, R_need_carries, fb_need_carries, this]
theorem e_carried_marks {p : Pg} {cs t : List Nat} (h : p.Ok) (hc : CsOk p.lines cs) (ht : TxOk p.bits t) : R_carried_marks [p.d, nsT cs, nsT t] = some (.ret (.tup [nsT (walkF p.lines cs t).1, nsT (walkF p.lines cs t).2])) := by
  have h1 := e_need_program h
  have h2 := e_need_carries h hc
  have h3 := e_need_text_of h.b3 ht
  have h4 := e_walk_marks h.b3 h.ok h.l1 h.l2 hc ht.1
  simp -dsimp -implicitDefEqProofs [-Option.map_eq_some_iff, -List.map_map, LIM, R_carried_marks, fb_carried_marks, h1, h2, h3, h4]
theorem e_carries_behind {p : Pg} {t : List Nat} (h : p.Ok) (ht : TxOk p.bits t) : R_carries_behind [p.d, nsT t] = some (.ret (nsT (walkF p.lines (zeros p.lines) t).2)) := by
  have h1 := e_need_program h
  have h2 := e_noughts_of h.l2
  have h3 := e_need_text_of h.b3 ht
  have h4 := e_walk_marks h.b3 h.ok h.l1 h.l2 (zeros_ok p.lines) ht.1
  simp -dsimp -implicitDefEqProofs [-Option.map_eq_some_iff, -List.map_map, LIM, R_carries_behind, fb_carries_behind, h1, h2, h3, h4]
/-! ### blocks -/
abbrev bsD (bs : List (List Nat)) : D := .tup (bs.map nsT)
@[simp] theorem noLs_bs : ∀ bs : List (List Nat), noLs (bs.map nsT) = true
  | [] => rfl
  | b :: bs => by rw [List.map_cons, noLs, noLs_bs bs]; simp
structure BsOk' (bits : Nat) (bs : List (List Nat)) : Prop where
  tx : ∀ b ∈ bs, TxOk bits b
  sum : (bs.map List.length).sum ≤ 20000
  n : bs.length ≤ 20000
theorem sum_int : ∀ xs : List Nat, (xs.map fun (x : Nat) => (x : Int)).sum = ((xs.sum : Nat) : Int)
  | [] => rfl
  | x :: xs => by rw [List.map_cons, List.sum_cons, sum_int xs, List.sum_cons]; omega
theorem e_need_blocks {bits : Nat} {bs : List (List Nat)} (hb : bits ≤ 3) (h : BsOk' bits bs) : R_need_blocks [nD bits, bsD bs] = some (.ret .non) := by
  simp -dsimp -implicitDefEqProofs [-Option.map_eq_some_iff, -List.map_map, LIM, R_need_blocks, fb_need_blocks]
  refine bnd_en nsT (fun _ ρ => ∃ a b, ρ = [.ar (nD bits), .ar (bsD bs), a, b] ∧ isLight (some b) = true) ⟨_, _, rfl, rfl⟩ ?_ ?_
  · rintro pre x post ρ e ⟨a, b, rfl, _⟩
    have := e_is_text_of hb (h.tx x (by rw [e]; simp))
    simp -dsimp -implicitDefEqProofs [-Option.map_eq_some_iff, -List.map_map, LIM, this]
    exact ⟨_, _, ⟨rfl, rfl⟩, rfl⟩
  · rintro ρ' ⟨a, b, rfl, hl⟩
    simp -dsimp -implicitDefEqProofs [-Option.map_eq_some_iff, -List.map_map, LIM, hl]
    rw [lcL_sm nsT (fun b => nD b.length) (fun x m => by simp -dsimp -implicitDefEqProofs [-Option.map_eq_some_iff, -List.map_map, LIM, ])]
    have h3 : bs.length ≤ 1000000 := by have := h.n; omega
    have h4 := sum_int (bs.map List.length)
    rw [List.map_map, Function.comp_def] at h4
    have h5 : (((bs.map List.length).sum : Nat) : Int) ≤ 20000 := by have := h.sum; omega
    simp -dsimp -implicitDefEqProofs [-Option.map_eq_some_iff, -List.map_map, LIM, h3, c_MOST_PLACES]
    rw [h4, if_neg (by omega)]
    rfl
/-- the carries behind each block -/
def aheadF (ls : List Ln) : List Nat → List (List Nat) → List (List Nat)
  | cs, [] => [cs]
  | cs, b :: bs => cs :: aheadF ls (walkF ls cs b).2 bs
theorem aheadF_snoc (ls : List Ln) : ∀ (bs : List (List Nat)) (cs b : List Nat), aheadF ls cs (bs ++ [b]) = aheadF ls cs bs ++ [(walkF ls ((aheadF ls cs bs).getLast?.getD []) b).2]
  | [], cs, b => rfl
  | c :: bs, cs, b => by
    rw [List.cons_append, aheadF, aheadF_snoc ls bs, aheadF]
    have hne : aheadF ls (walkF ls cs c).2 bs ≠ [] := by cases bs <;> simp [aheadF]
    rw [List.getLast?_cons, List.cons_append]
    congr 4
    cases e : (aheadF ls (walkF ls cs c).2 bs).getLast? with
    | none => rw [List.getLast?_eq_none_iff] at e; exact (hne e).elim
    | some x => rfl
theorem aheadF_ne (ls : List Ln) (cs : List Nat) (bs : List (List Nat)) : aheadF ls cs bs ≠ [] := by cases bs <;> simp [aheadF]
theorem aheadF_ok {ls : List Ln} : ∀ {bs : List (List Nat)} {cs : List Nat}, CsOk ls cs → ∀ c ∈ aheadF ls cs bs, CsOk ls c
  | [], cs, h, c, m => by rw [List.mem_singleton.mp m]; exact h
  | b :: bs, cs, h, c, m => by
    rcases List.mem_cons.mp m with rfl | m
    · exact h
    · exact aheadF_ok h.walk c m
theorem aheadF_len {ls : List Ln} : ∀ {bs : List (List Nat)} {cs : List Nat}, (aheadF ls cs bs).length = bs.length + 1
  | [], _ => rfl
  | b :: bs, cs => by rw [aheadF, List.length_cons, aheadF_len, List.length_cons]
theorem at_lastT {f : List (List Nat)} (h : f ≠ []) : atI (f.map nsT) (-1) = some (nsT (f.getLast?.getD [])) := by
  rw [atI_last (by simpa using h), List.getLast?_map]
  cases e : f.getLast? with
  | none => rw [List.getLast?_eq_none_iff] at e; exact (h e).elim
  | some x => rfl
theorem e_carries_ahead {p : Pg} {bs : List (List Nat)} (h : p.Ok) (hb : BsOk' p.bits bs) : R_carries_ahead [p.d, bsD bs] = some (.ret (.tup ((aheadF p.lines (zeros p.lines) bs).map nsT))) := by
  have h1 := e_need_program h
  have h2 := e_noughts_of h.l2
  have h3 := e_need_blocks h.b3 hb
  simp -dsimp -implicitDefEqProofs [-Option.map_eq_some_iff, -List.map_map, LIM, R_carries_ahead, fb_carries_ahead, h1, h2, h3]
  refine bnd_seq nsT (fun pre ρ => ∃ b, ρ = [.ar p.d, .ar (bsD bs), .ow ((aheadF p.lines (zeros p.lines) pre).map nsT), b]) ⟨_, rfl⟩ ?_ ?_
  · rintro pre x post ρ e ⟨b, rfl⟩
    have hlen : pre.length + 1 < 1000000 := by have h0 := congrArg List.length e; have := hb.n; simp at h0; omega
    have hc : CsOk p.lines ((aheadF p.lines (zeros p.lines) pre).getLast?.getD []) := by
      cases e2 : (aheadF p.lines (zeros p.lines) pre).getLast? with
      | none => rw [List.getLast?_eq_none_iff] at e2; exact (aheadF_ne _ _ _ e2).elim
      | some c => exact aheadF_ok (zeros_ok _) c (List.mem_of_getLast? e2)
    have h4 := e_walk_marks h.b3 h.ok h.l1 h.l2 hc (hb.tx x (by rw [e]; simp)).1
    have h5 : (aheadF p.lines (zeros p.lines) pre).length < 1000000 := by rw [aheadF_len]; exact hlen
    simp -dsimp -implicitDefEqProofs [-Option.map_eq_some_iff, -List.map_map, LIM, at_lastT (aheadF_ne p.lines (zeros p.lines) pre), h4, h5, aheadF_snoc]
  · rintro ρ' ⟨b, rfl⟩
    simp -dsimp -implicitDefEqProofs [-Option.map_eq_some_iff, -List.map_map, LIM, ]
/-! ### the law's own -/
theorem e_law_noughts {ls : List Ln} (hn : ls.length ≤ 50000) : R__law_noughts [lsD ls] = some (.ret (nsT (zeros ls))) := by
  simp -dsimp -implicitDefEqProofs [-Option.map_eq_some_iff, -List.map_map, LIM, R__law_noughts, fb__law_noughts]
  rw [lcL_sq Ln.d (fun l => if l.isPlus then some (nD 0) else none)]
  rotate_left
  · intro l m
    cases h : l.isPlus <;> simp -dsimp -implicitDefEqProofs [-Option.map_eq_some_iff, -List.map_map, LIM, Ln.d_eq, h]
  have e : ls.filterMap (fun l => if l.isPlus then some (nD 0) else none) = (zeros ls).map nD := by
    rw [zeros, plusN_c, plusC]
    clear hn
    induction ls with
    | nil => rfl
    | cons l ls ih =>
      rw [List.filterMap_cons, List.filter_cons]
      cases h : l.isPlus with
      | true => simp [ih, List.replicate_succ]
      | false => simp [ih]
  have h1 : (zeros ls).length ≤ 1000000 := by rw [zeros, List.length_replicate, plusN_c]; have := plusC_le ls; omega
  rw [e]
  simp -dsimp -implicitDefEqProofs [-Option.map_eq_some_iff, -List.map_map, LIM, h1]
end Sc
set_option maxRecDepth 100000
set_option maxHeartbeats 1000000
namespace Sc
open PySem PySem.Spec PyProof.Rows L2
/-! ### the law's own place and walk -/
theorem lets3 {k : Nat} (h : k < 3) : atI [D.int 1, .int 2, .int 4] (k : Int) = some (nD (2 ^ k)) := by
  match k, h with
  | 0, _ => rfl
  | 1, _ => rfl
  | 2, _ => rfl
theorem bit01 {x : Nat} (h : x ≤ 1) : x = 0 ∨ x = 1 := by omega
theorem sum3 {x y z : Nat} (hx : x ≤ 1) (hy : y ≤ 1) (hz : z ≤ 1) : atI [D.int 0, .int 1, .int 0, .int 1] ((x : Int) + y + z) = some (nD ((x + y + z) % 2)) := by
  rcases bit01 hx with rfl | rfl <;> rcases bit01 hy with rfl | rfl <;> rcases bit01 hz with rfl | rfl <;> rfl
theorem car3 {x y z : Nat} (hx : x ≤ 1) (hy : y ≤ 1) (hz : z ≤ 1) : atI [D.int 0, .int 0, .int 1, .int 1] ((x : Int) + y + z) = some (nD ((x + y + z) / 2)) := by
  rcases bit01 hx with rfl | rfl <;> rcases bit01 hy with rfl | rfl <;> rcases bit01 hz with rfl | rfl <;> rfl
theorem and2 {x y : Nat} (hx : x ≤ 1) (hy : y ≤ 1) : atI [D.int 0, .int 0, .int 1] ((x : Int) + y) = some (nD (x * y)) := by
  rcases bit01 hx with rfl | rfl <;> rcases bit01 hy with rfl | rfl <;> rfl
theorem or2 {x y : Nat} (hx : x ≤ 1) (hy : y ≤ 1) : atI [D.int 0, .int 1, .int 1] ((x : Int) + y) = some (nD (max x y)) := by
  rcases bit01 hx with rfl | rfl <;> rcases bit01 hy with rfl | rfl <;> rfl
theorem xor2 {x y : Nat} (hx : x ≤ 1) (hy : y ≤ 1) : atI [D.int 0, .int 1, .int 0] ((x : Int) + y) = some (nD ((x + y) % 2)) := by
  rcases bit01 hx with rfl | rfl <;> rcases bit01 hy with rfl | rfl <;> rfl
theorem e_law_place {bits : Nat} {ls : List Ln} {cs : List Nat} {x : Nat} (hb : bits ≤ 3) (hl : LsOk' bits ls) (hn : ls.length ≤ 50000) (hc : Bits cs) (hcl : cs.length = plusC ls) :
    R__law_place [lsD ls, nsT cs, nD x] = some (.ret (.tup [nsL (placeF ls cs x).1, nsT (placeF ls cs x).2])) := by
  simp -dsimp -implicitDefEqProofs [-Option.map_eq_some_iff, -List.map_map, LIM, R__law_place, fb__law_place]
  refine bnd_seq Ln.d (fun pre ρ => ∃ s5 s6 s7 s8 s9, ρ = [.ar (lsD ls), .ar (nsT cs), .ar (nD x), .ow ((pre.foldl (stepLn cs x) ([], [])).1.map nD), .ow ((pre.foldl (stepLn cs x) ([], [])).2.map nD), s5, s6, s7, s8, s9]) ⟨_, _, _, _, _, rfl⟩ ?_ ?_
  · rintro pre l post ρ e ⟨s5, s6, s7, s8, s9, rfl⟩
    have I := place_inv (x := x) hc pre [] ([], []) ⟨rfl, rfl, bits_nil, bits_nil⟩
    rw [List.nil_append] at I
    have hlo := split_at hl e
    have hlen : pre.length < 1000000 := by have := congrArg List.length e; simp at this; omega
    rw [List.foldl_append, List.foldl_cons, List.foldl_nil]
    generalize pre.foldl (stepLn cs x) ([], []) = s at I ⊢
    obtain ⟨f, g⟩ := s
    obtain ⟨I1, I2, I3, I4⟩ := I
    dsimp only at I1 I2 I3 I4 ⊢
    rw [← I1] at hlo
    have hf : f.length < 1000000 := by omega
    cases l with
    | row k =>
      have hk : k < bits := hlo
      have h4 : (2 : Int) ^ k < 1073741824 ∧ 0 < (2 : Int) ^ k := by
        match k, Nat.lt_of_lt_of_le hk hb with
        | 0, _ => decide
        | 1, _ => decide
        | 2, _ => decide
      simp -dsimp -implicitDefEqProofs [-Option.map_eq_some_iff, -List.map_map, LIM, Ln.d, lets3 (show k < 3 by omega), cDiv, cMod, h4, hf, stepLn, plainBit]
    | one => simp -dsimp -implicitDefEqProofs [-Option.map_eq_some_iff, -List.map_map, LIM, Ln.d, hf, stepLn, plainBit]
    | zero => simp -dsimp -implicitDefEqProofs [-Option.map_eq_some_iff, -List.map_map, LIM, Ln.d, hf, stepLn, plainBit]
    | not a =>
      have ha : a < f.length := hlo
      have h1 := I3.getD a
      have h2 : (1 : Int) - (at0 f a : Nat) = ((1 - at0 f a : Nat) : Int) := by omega
      simp -dsimp -implicitDefEqProofs [-Option.map_eq_some_iff, -List.map_map, LIM, Ln.d, hf, stepLn, plainBit, at_D ha, h2]
    | bin o a b =>
      have ha : a < f.length := hlo.1
      have hb' : b < f.length := hlo.2
      have h1 := I3.getD a
      have h2 := I3.getD b
      cases o with
      | and => simp -dsimp -implicitDefEqProofs [-Option.map_eq_some_iff, -List.map_map, LIM, Ln.d, Bo.s, hf, stepLn, plainBit, at_D ha, at_D hb', mergeD, putKD, getK, and2 h1 h2]
      | or => simp -dsimp -implicitDefEqProofs [-Option.map_eq_some_iff, -List.map_map, LIM, Ln.d, Bo.s, hf, stepLn, plainBit, at_D ha, at_D hb', mergeD, putKD, getK, or2 h1 h2]
      | xor => simp -dsimp -implicitDefEqProofs [-Option.map_eq_some_iff, -List.map_map, LIM, Ln.d, Bo.s, hf, stepLn, plainBit, at_D ha, at_D hb', mergeD, putKD, getK, xor2 h1 h2]
      | plus =>
        have hgl : g.length < cs.length := by rw [I2, hcl, e]; exact plusC_lt rfl
        have hg : g.length < 1000000 := by have := plusC_le pre; omega
        have h3 := hc.getD g.length
        simp -dsimp -implicitDefEqProofs [-Option.map_eq_some_iff, -List.map_map, LIM, Ln.d, Bo.s, hf, hg, stepLn, plainBit, at_D ha, at_D hb', at_D hgl, sum3 h1 h2 h3, car3 h1 h2 h3]
  · rintro ρ' ⟨s5, s6, s7, s8, s9, rfl⟩
    simp -dsimp -implicitDefEqProofs [-Option.map_eq_some_iff, -List.map_map, LIM, placeF]
theorem e_law_walk {bits : Nat} {ls : List Ln} {cs t : List Nat} (hb : bits ≤ 3) (hl : LsOk' bits ls) (h1 : ls ≠ []) (hn : ls.length ≤ 50000) (hc : CsOk ls cs) (ht : t.length ≤ 20000) :
    R__law_walk [lsD ls, nsT cs, nsT t] = some (.ret (.tup [nsT (walkF ls cs t).1, nsT (walkF ls cs t).2])) := by
  simp -dsimp -implicitDefEqProofs [-Option.map_eq_some_iff, -List.map_map, LIM, R__law_walk, fb__law_walk]
  refine bnd_seq nD (fun pre ρ => ∃ s1 s4 s5, ρ = [.ar (lsD ls), s1, .ar (nsT t), .ow ((pre.foldl (walkStep ls) ([], cs)).1.map nD), s4, s5] ∧ (s1 = .ar (nsT (pre.foldl (walkStep ls) ([], cs)).2) ∨ s1 = .fz (nsT (pre.foldl (walkStep ls) ([], cs)).2))) ⟨_, _, _, rfl, .inl rfl⟩ ?_ ?_
  · rintro pre x post ρ e ⟨s1, s4, s5, rfl, h⟩
    have I := walk_inv pre [] ([], cs) ⟨rfl, hc.len, bits_nil, hc.bits⟩
    rw [List.nil_append] at I
    have hlen : pre.length < 1000000 := by have := congrArg List.length e; simp at this; omega
    rw [List.foldl_append, List.foldl_cons, List.foldl_nil]
    generalize pre.foldl (walkStep ls) ([], cs) = s at I h ⊢
    obtain ⟨ms, ds⟩ := s
    obtain ⟨I1, I2, I3, I4⟩ := I
    dsimp only at I1 I2 I3 I4 h ⊢
    have P := placeF_inv (ls := ls) (x := x) I4
    have hne : (placeF ls ds x).1 ≠ [] := fun z => by have := P.l1; rw [z] at this; exact h1 (List.length_eq_zero_iff.mp this.symm)
    have hp := e_law_place (x := x) hb hl hn I4 I2
    have hms : ms.length < 1000000 := by omega
    rcases h with rfl | rfl
    · simp -dsimp -implicitDefEqProofs [-Option.map_eq_some_iff, -List.map_map, LIM, hp, at_last hne, hms, walkStep]
    · simp -dsimp -implicitDefEqProofs [-Option.map_eq_some_iff, -List.map_map, LIM, hp, at_last hne, hms, walkStep]
  · rintro ρ' ⟨s1, s4, s5, rfl, h⟩
    rcases h with rfl | rfl
    · simp -dsimp -implicitDefEqProofs [-Option.map_eq_some_iff, -List.map_map, LIM, walkF]
    · simp -dsimp -implicitDefEqProofs [-Option.map_eq_some_iff, -List.map_map, LIM, walkF]
end Sc
set_option maxRecDepth 100000
set_option maxHeartbeats 1000000
namespace Sc
open PySem PySem.Spec PyProof.Rows L2
/-! ### the same -/
@[simp] theorem z_oIs {neg : Bool} {p : Bool × D} {a : Bool} : oIs neg p (a, .non) = some (.fz (.bl (if neg then !decide (p.2 = .non) else decide (p.2 = .non)))) := rfl
mutual
def okS : D → Bool
  | .int _ => true
  | .tup ds => okSs ds
  | _ => false
def okSs : List D → Bool
  | [] => true
  | d :: ds => okS d && okSs ds
end
mutual
theorem okS_noL : ∀ {d : D}, okS d = true → noL d = true
  | .int _, _ => rfl
  | .tup ds, h => by rw [noL]; rw [okS] at h; exact okSs_noLs h
  | .non, h => by cases h
  | .bl _, h => by cases h
  | .str _, h => by cases h
  | .lst _, h => by cases h
theorem okSs_noLs : ∀ {ds : List D}, okSs ds = true → noLs ds = true
  | [], _ => rfl
  | d :: ds, h => by
    rw [okSs, Bool.and_eq_true] at h
    rw [noLs, okS_noL h.1, okSs_noLs h.2]
    rfl
end
theorem okSs_mem : ∀ {ds : List D}, okSs ds = true → ∀ d ∈ ds, okS d = true
  | d :: ds, h, x, m => by
    rw [okSs, Bool.and_eq_true] at h
    rcases List.mem_cons.mp m with rfl | m
    · exact h.1
    · exact okSs_mem h.2 x m
theorem deps_mem : ∀ {ds : List D}, ∀ d ∈ ds, dep d ≤ deps ds
  | e :: ds, x, m => by
    rw [deps]
    rcases List.mem_cons.mp m with rfl | m
    · exact Nat.le_max_left _ _
    · exact Nat.le_trans (deps_mem x m) (Nat.le_max_right _ _)
theorem zip_self {α : Type} (f : D × D → α) : ∀ ds : List D, (ds.zip ds).map f = ds.map fun x => f (x, x)
  | [] => rfl
  | d :: ds => by rw [List.zip_cons_cons, List.map_cons, zip_self f ds, List.map_cons]
theorem dep_pos (d : D) : 1 ≤ dep d := by cases d <;> simp [dep]
theorem same_ok : ∀ (n : Nat) (d : D), okS d = true → dep d ≤ n → Rn__law_same n [d, d] = some (.ret (.bl true))
  | 0, d, _, h => by have := dep_pos d; omega
  | n + 1, .int i, _, _ => by
    rw [Rn__law_same]
    simp -dsimp -implicitDefEqProofs [-Option.map_eq_some_iff, -List.map_map, LIM, fb__law_same]
  | n + 1, .tup ds, h, hd => by
    rw [okS] at h
    rw [dep] at hd
    rw [Rn__law_same]
    simp -dsimp -implicitDefEqProofs [-Option.map_eq_some_iff, -List.map_map, LIM, fb__law_same, okSs_noLs h, zip_self]
    refine bnd_all (fun x => (true, D.tup [x, x])) (fun pre ρ => ∃ a b, ρ = [.ar (.tup ds), .ar (.tup ds), a, b]) ds ⟨_, _, rfl⟩ ?_ ?_
    · rintro pre x post ρ e ⟨a, b, rfl⟩
      have hm : x ∈ ds := by rw [e]; simp
      have ih := same_ok n x (okSs_mem h x hm) (by have := deps_mem x hm; omega)
      simp -dsimp -implicitDefEqProofs [-Option.map_eq_some_iff, -List.map_map, LIM, ih]
    · rintro ρ' ⟨a, b, rfl⟩
      simp -dsimp -implicitDefEqProofs [-Option.map_eq_some_iff, -List.map_map, LIM, ]
  | n + 1, .non, h, _ => by cases h
  | n + 1, .bl _, h, _ => by cases h
  | n + 1, .str _, h, _ => by cases h
  | n + 1, .lst _, h, _ => by cases h
theorem same8 {d : D} (h : okS d = true) (hd : dep d ≤ 8) : R__law_same [d, d] = some (.ret (.bl true)) := same_ok 8 d h hd
theorem okSs_ints : ∀ xs : List Nat, okSs (xs.map nD) = true
  | [] => rfl
  | x :: xs => by rw [List.map_cons, okSs, okSs_ints xs]; rfl
theorem okSs_nsT : ∀ xs : List (List Nat), okSs (xs.map nsT) = true
  | [] => rfl
  | x :: xs => by rw [List.map_cons, okSs, okSs_nsT xs, okS, okSs_ints]; rfl
theorem deps_nsT : ∀ xs : List (List Nat), deps (xs.map nsT) ≤ 2
  | [] => Nat.zero_le _
  | x :: xs => by
    rw [List.map_cons, deps, dep]
    have h1 := deps_ints x
    have h2 := deps_nsT xs
    omega
theorem same_nsT (xs : List Nat) : R__law_same [nsT xs, nsT xs] = some (.ret (.bl true)) := same8 (by rw [okS]; exact okSs_ints xs) (by rw [dep]; have := deps_ints xs; omega)
theorem same_bsD (xs : List (List Nat)) : R__law_same [bsD xs, bsD xs] = some (.ret (.bl true)) := same8 (by rw [okS]; exact okSs_nsT xs) (by rw [dep]; have := deps_nsT xs; omega)
end Sc
set_option maxRecDepth 100000
set_option maxHeartbeats 1000000
namespace Sc
open PySem PySem.Spec PyProof.Rows L2
/-! ### lines as numbers -/
def rowNum (r : List Nat) : Nat := r.foldr (fun x acc => 2 * acc + x) 0
def lineNum (ones : Nat) (rows f : List Nat) : Ln → Nat
  | .row k => at0 rows k
  | .zero => 0
  | .one => ones
  | .not a => ones ^^^ at0 f a
  | .bin .and a b => at0 f a &&& at0 f b
  | .bin .or a b => at0 f a ||| at0 f b
  | .bin .xor a b => at0 f a ^^^ at0 f b
  | .bin .plus a b => (at0 f a + at0 f b) &&& ones
def numsF (ones : Nat) (rows : List Nat) (ls : List Ln) : List Nat := ls.foldl (fun f l => f ++ [lineNum ones rows f l]) []
def numRow (n k : Nat) : List Nat := (List.range k).map fun i => n / 2 ^ i % 2
def rowsOf (bits : Nat) (t : List Nat) : List Nat := (List.range bits).map fun k => rowNum (t.map fun x => x / 2 ^ k % 2)
def onesOf (t : List Nat) : Nat := rowNum (List.replicate t.length 1)
theorem band (a b : Nat) : Builtin.bitAnd (a : Int) (b : Int) = ((a &&& b : Nat) : Int) := by
  rw [bitAnd_pp (Int.natCast_nonneg a) (Int.natCast_nonneg b), Int.toNat_natCast, Int.toNat_natCast]
theorem bor (a b : Nat) : Builtin.bitOr (a : Int) (b : Int) = ((a ||| b : Nat) : Int) := by
  rw [bitOr_nn (Int.natCast_nonneg a) (Int.natCast_nonneg b), Int.toNat_natCast, Int.toNat_natCast]
theorem bxor (a b : Nat) : Builtin.bitXor (a : Int) (b : Int) = ((a ^^^ b : Nat) : Int) := by
  rw [_root_.Bits.bitXor_pp (Int.natCast_nonneg a) (Int.natCast_nonneg b), Int.toNat_natCast, Int.toNat_natCast]
theorem band_add (a b c : Nat) : Builtin.bitAnd ((a : Int) + (b : Int)) (c : Int) = (((a + b) &&& c : Nat) : Int) := band (a + b) c
@[simp] theorem noLs_rev (r : List Nat) : noLs (r.map nD).reverse = true := by rw [← List.map_reverse]; exact noLs_ints _
theorem cMul2 (x : Int) : cMul 2 x = true := by simp [cMul]
theorem e_row_number {r : List Nat} : R_row_number [nsT r] = some (.ret (nD (rowNum r))) := by
  simp -dsimp -implicitDefEqProofs [-Option.map_eq_some_iff, -List.map_map, LIM, R_row_number, fb_row_number]
  rw [show (List.map (fun d => (true, d)) (List.map nD r)).reverse = r.reverse.map (fun x => (true, nD x)) by simp]
  refine bnd_all _ (fun pre ρ => ∃ b, ρ = [.ar (nsT r), .fz (nD (pre.foldl (fun acc x => 2 * acc + x) 0)), b]) r.reverse ⟨_, rfl⟩ ?_ ?_
  · rintro pre x post ρ e ⟨b, rfl⟩
    simp -dsimp -implicitDefEqProofs [-Option.map_eq_some_iff, -List.map_map, LIM, cMul2]
  · rintro ρ' ⟨b, rfl⟩
    simp -dsimp -implicitDefEqProofs [-Option.map_eq_some_iff, -List.map_map, LIM, rowNum]
theorem e_number_row {n k : Nat} (hk : k ≤ 20000) : R_number_row [nD n, nD k] = some (.ret (nsT (numRow n k))) := by
  have h1 : smallI (k : Int) = true := by unfold smallI BIG; simp; omega
  simp -dsimp -implicitDefEqProofs [-Option.map_eq_some_iff, -List.map_map, LIM, R_number_row, fb_number_row, h1]
  refine bnd_rng (fun i ρ => ∃ a b, ρ = [a, .ar (nD k), .ow ((numRow n i).map nD), b] ∧ (a = .ar (nD (n / 2 ^ i)) ∨ a = .fz (nD (n / 2 ^ i)))) ⟨_, _, rfl, .inl (by simp)⟩ ?_ ?_
  · rintro i ρ hi ⟨a, b, rfl, h⟩
    have h2 : (numRow n i).length < 1000000 := by simp [numRow]; omega
    have h3 : Builtin.bitAnd ((n / 2 ^ i : Nat) : Int) 1 = ((n / 2 ^ i % 2 : Nat) : Int) := by rw [bitAnd_m1]; simp
    have h4 : numRow n (i + 1) = numRow n i ++ [n / 2 ^ i % 2] := by simp [numRow, List.range_succ]
    have h5 : n / 2 ^ i / 2 = n / 2 ^ (i + 1) := by rw [Nat.div_div_eq_div_mul, Nat.pow_succ]
    rw [h4, ← h5]
    generalize n / 2 ^ i = w at h h3 ⊢
    rcases h with rfl | rfl
    · simp -dsimp -implicitDefEqProofs [-Option.map_eq_some_iff, -List.map_map, LIM, h2, h3, cShr]
    · simp -dsimp -implicitDefEqProofs [-Option.map_eq_some_iff, -List.map_map, LIM, h2, h3, cShr]
  · rintro ρ' ⟨a, b, rfl, h⟩
    rcases h with rfl | rfl
    · simp -dsimp -implicitDefEqProofs [-Option.map_eq_some_iff, -List.map_map, LIM, ]
    · simp -dsimp -implicitDefEqProofs [-Option.map_eq_some_iff, -List.map_map, LIM, ]
theorem e_line_number {bits ones : Nat} {l : Ln} {f rows : List Nat} (hl : l.ok bits f.length) (hr : rows.length = bits) : R_line_number [l.d, nsL f, nsL rows, nD ones] = some (.ret (nD (lineNum ones rows f l))) := by
  cases l with
  | row k =>
    have hk : k < rows.length := by rw [hr]; exact hl
    simp -dsimp -implicitDefEqProofs [-Option.map_eq_some_iff, -List.map_map, LIM, R_line_number, fb_line_number, Ln.d, at_D hk, lineNum]
  | one => simp -dsimp -implicitDefEqProofs [-Option.map_eq_some_iff, -List.map_map, LIM, R_line_number, fb_line_number, Ln.d, lineNum]
  | zero => simp -dsimp -implicitDefEqProofs [-Option.map_eq_some_iff, -List.map_map, LIM, R_line_number, fb_line_number, Ln.d, lineNum]
  | not a =>
    have ha : a < f.length := hl
    simp -dsimp -implicitDefEqProofs [-Option.map_eq_some_iff, -List.map_map, LIM, R_line_number, fb_line_number, Ln.d, at_D ha, bxor, lineNum]
  | bin o a b =>
    have ha : a < f.length := hl.1
    have hb : b < f.length := hl.2
    cases o <;> simp -dsimp -implicitDefEqProofs [-Option.map_eq_some_iff, -List.map_map, LIM, R_line_number, fb_line_number, Ln.d, Bo.s, at_D ha, at_D hb, band, bor, bxor, band_add, lineNum]
theorem nums_len {ones : Nat} {rows : List Nat} : ∀ (ls : List Ln) (f : List Nat), (ls.foldl (fun f l => f ++ [lineNum ones rows f l]) f).length = f.length + ls.length
  | [], f => rfl
  | l :: ls, f => by rw [List.foldl_cons, nums_len ls, List.length_append, List.length_singleton, List.length_cons]; omega
theorem e_line_numbers {p : Pg} {t : List Nat} (h : p.Ok) (ht : TxOk p.bits t) : R_line_numbers [p.d, nsT t] = some (.ret (nsL (numsF (onesOf t) (rowsOf p.bits t) p.lines))) := by
  have h1 : smallI (p.bits : Int) = true := by have := h.b3; unfold smallI BIG; simp; omega
  simp -dsimp -implicitDefEqProofs [-Option.map_eq_some_iff, -List.map_map, LIM, R_line_numbers, fb_line_numbers, h1]
  rw [lcL_rng _ _ _ (fun k => nD (rowNum (t.map fun x => x / 2 ^ k % 2)))]
  rotate_left
  · intro k hk
    have h2 := e_bit_row (k := k) (by have := h.b3; omega) ht
    simp -dsimp -implicitDefEqProofs [-Option.map_eq_some_iff, -List.map_map, LIM, h2, e_row_number]
  have h3 : p.bits ≤ 1000000 := by have := h.b3; omega
  have h4 : R_row_number [.tup (List.replicate t.length (D.int 1))] = some (.ret (nD (onesOf t))) := by
    have h0 := e_row_number (r := List.replicate t.length 1)
    rw [show nsT (List.replicate t.length 1) = .tup (List.replicate t.length (D.int 1)) by simp [nsT]] at h0
    exact h0
  have h5 := ht.1
  have h6 : (t.length : Int) ≤ 1000000 := by omega
  have h7 : -1000000 ≤ (t.length : Int) := by omega
  have h8 : t.length ≤ 1000000 := by omega
  simp -dsimp -implicitDefEqProofs [-Option.map_eq_some_iff, -List.map_map, LIM, h3, h6, h7, h8, rep_one, h4]
  rw [show (List.range p.bits).map (fun k => nD (rowNum (t.map fun x => x / 2 ^ k % 2))) = (rowsOf p.bits t).map nD by simp [rowsOf]]
  refine bnd_seq Ln.d (fun pre ρ => ∃ a b, ρ = [.ar p.d, .ar (nsT t), .ow ((rowsOf p.bits t).map nD), .fz (nD (onesOf t)), .ow ((pre.foldl (fun f l => f ++ [lineNum (onesOf t) (rowsOf p.bits t) f l]) []).map nD), a, b]) ⟨_, _, rfl⟩ ?_ ?_
  · rintro pre l post ρ e ⟨a, b, rfl⟩
    have hlen : pre.length < 1000000 := by have h0 := congrArg List.length e; have := h.l2; simp at h0; omega
    have hlo := split_at h.ok e
    rw [List.foldl_append, List.foldl_cons, List.foldl_nil]
    have hfl : (pre.foldl (fun f l => f ++ [lineNum (onesOf t) (rowsOf p.bits t) f l]) []).length = pre.length := by rw [nums_len]; simp
    generalize pre.foldl (fun f l => f ++ [lineNum (onesOf t) (rowsOf p.bits t) f l]) [] = f at hfl ⊢
    rw [← hfl] at hlo
    have h9 := e_line_number (ones := onesOf t) (rows := rowsOf p.bits t) hlo (by simp [rowsOf])
    have h10 : f.length < 1000000 := by omega
    simp -dsimp -implicitDefEqProofs [-Option.map_eq_some_iff, -List.map_map, LIM, h9, h10]
  · rintro ρ' ⟨a, b, rfl⟩
    simp -dsimp -implicitDefEqProofs [-Option.map_eq_some_iff, -List.map_map, LIM, numsF]
theorem nums_last {ones : Nat} {rows : List Nat} {ls : List Ln} (h : ls ≠ []) : numsF ones rows ls ≠ [] := fun z => by
  have h1 : (numsF ones rows ls).length = ls.length := by rw [numsF, nums_len]; simp
  rw [z] at h1
  exact h (List.length_eq_zero_iff.mp h1.symm)
theorem e_program_marks {p : Pg} {t : List Nat} (h : p.Ok) (ht : TxOk p.bits t) : R_program_marks [p.d, nsT t] = some (.ret (nsT (numRow (lastOf (numsF (onesOf t) (rowsOf p.bits t) p.lines)) t.length))) := by
  have h1 := e_need_program h
  have h2 := e_need_text_of h.b3 ht
  have h3 := e_line_numbers h ht
  have h4 := e_number_row (n := lastOf (numsF (onesOf t) (rowsOf p.bits t) p.lines)) ht.1
  have h5 : R_marks_by [p.d, nsT t] = some (.ret (nsT (numRow (lastOf (numsF (onesOf t) (rowsOf p.bits t) p.lines)) t.length))) := by
    simp -dsimp -implicitDefEqProofs [-Option.map_eq_some_iff, -List.map_map, LIM, R_marks_by, fb_marks_by, h3, at_last (nums_last h.l1), h4]
  simp -dsimp -implicitDefEqProofs [-Option.map_eq_some_iff, -List.map_map, LIM, R_program_marks, fb_program_marks, h1, h2, h5]
end Sc
set_option maxRecDepth 100000
set_option maxHeartbeats 1000000
namespace Sc
open PySem PySem.Spec PyProof.Rows L2
/-! ### numbers and places -/
abbrev bitN (x i : Nat) : Nat := x / 2 ^ i % 2
theorem bitN_tb (x i : Nat) : bitN x i = (x.testBit i).toNat := (Nat.toNat_testBit x i).symm
theorem pow_pos2 (i : Nat) : 0 < 2 ^ i := Nat.pow_pos (by decide)
theorem add_div' {x y P : Nat} (h : 0 < P) : (x + y) / P = x / P + y / P + (x % P + y % P) / P := by
  have e1 := Nat.div_add_mod x P
  have e2 := Nat.div_add_mod y P
  have e3 : x + y = P * (x / P + y / P) + (x % P + y % P) := by rw [Nat.mul_add]; omega
  rw [e3, Nat.mul_add_div h]
theorem bit_add (x y i : Nat) : bitN (x + y) i = (bitN x i + bitN y i + (x % 2 ^ i + y % 2 ^ i) / 2 ^ i) % 2 := by
  unfold bitN
  rw [add_div' (pow_pos2 i)]
  omega
theorem car_succ (x y i : Nat) : (x % 2 ^ (i + 1) + y % 2 ^ (i + 1)) / 2 ^ (i + 1) = (bitN x i + bitN y i + (x % 2 ^ i + y % 2 ^ i) / 2 ^ i) / 2 := by
  unfold bitN
  rw [Nat.mod_pow_succ, Nat.mod_pow_succ, Nat.pow_succ, ← Nat.div_div_eq_div_mul]
  have e : x % 2 ^ i + 2 ^ i * (x / 2 ^ i % 2) + (y % 2 ^ i + 2 ^ i * (y / 2 ^ i % 2)) = (x % 2 ^ i + y % 2 ^ i) + 2 ^ i * (x / 2 ^ i % 2 + y / 2 ^ i % 2) := by rw [Nat.mul_add]; omega
  rw [e, Nat.add_mul_div_left _ _ (pow_pos2 i)]
  congr 1
  omega
theorem bit_and (x y i : Nat) : bitN (x &&& y) i = bitN x i * bitN y i := by
  rw [bitN_tb, bitN_tb, bitN_tb, Nat.testBit_and]
  cases x.testBit i <;> cases y.testBit i <;> rfl
theorem bit_or (x y i : Nat) : bitN (x ||| y) i = max (bitN x i) (bitN y i) := by
  rw [bitN_tb, bitN_tb, bitN_tb, Nat.testBit_or]
  cases x.testBit i <;> cases y.testBit i <;> rfl
theorem bit_xor (x y i : Nat) : bitN (x ^^^ y) i = (bitN x i + bitN y i) % 2 := by
  rw [bitN_tb, bitN_tb, bitN_tb, Nat.testBit_xor]
  cases x.testBit i <;> cases y.testBit i <;> rfl
theorem bit_ones {n i : Nat} (h : i < n) : bitN (2 ^ n - 1) i = 1 := by
  rw [bitN_tb, Nat.testBit_two_pow_sub_one]
  simp [h]
theorem bit_le (x i : Nat) : bitN x i ≤ 1 := by unfold bitN; omega
theorem bit_mod {x n i : Nat} (h : i < n) : bitN (x % 2 ^ n) i = bitN x i := by
  rw [bitN_tb, bitN_tb, Nat.testBit_mod_two_pow]
  simp [h]
theorem rowNum_bit : ∀ {r : List Nat} (i : Nat), Bits r → bitN (rowNum r) i = at0 r i
  | [], i, _ => by simp [bitN, rowNum, at0]
  | x :: r, 0, h => by
    have hx := h x (by simp)
    have e : rowNum (x :: r) = 2 * rowNum r + x := rfl
    unfold bitN
    rw [e]
    simp [at0]
    omega
  | x :: r, i + 1, h => by
    have hx := h x (by simp)
    have e : rowNum (x :: r) = 2 * rowNum r + x := rfl
    have ih := rowNum_bit (r := r) i fun y m => h y (by simp [m])
    unfold bitN at ih ⊢
    rw [e, Nat.pow_succ', ← Nat.div_div_eq_div_mul, show (2 * rowNum r + x) / 2 = rowNum r by omega, ih]
    simp [at0]
theorem onesOf_eq (t : List Nat) : onesOf t = 2 ^ t.length - 1 := by
  have h : ∀ n, rowNum (List.replicate n 1) = 2 ^ n - 1 := fun n => by
    induction n with
    | zero => rfl
    | succ n ih =>
      have e : rowNum (List.replicate (n + 1) 1) = 2 * rowNum (List.replicate n 1) + 1 := rfl
      rw [e, ih, Nat.pow_succ]
      have := pow_pos2 n
      omega
  exact h t.length
/-! the numbers of all lines, line by line -/
structure Nums (bits : Nat) (t : List Nat) (ls : List Ln) (N : List Nat) : Prop where
  len : N.length = ls.length
  at_ : ∀ (k : Nat) (l : Ln), ls[k]? = some l → at0 N k = lineNum (onesOf t) (rowsOf bits t) N l
theorem lineNum_congr {ones bits : Nat} {rows f g : List Nat} {l : Ln} {k : Nat} (h : l.ok bits k) (e : ∀ j, j < k → at0 f j = at0 g j) : lineNum ones rows f l = lineNum ones rows g l := by
  cases l with
  | not a => simp only [lineNum, e a h]
  | bin o a b => cases o <;> simp only [lineNum, e a h.1, e b h.2]
  | _ => rfl
theorem at0_app {f g : List Nat} {j : Nat} (h : j < f.length) : at0 (f ++ g) j = at0 f j := by
  unfold at0
  rw [List.getD_eq_getElem?_getD, List.getD_eq_getElem?_getD, List.getElem?_append_left h]
theorem at0_new {f g : List Nat} {x : Nat} : at0 (f ++ x :: g) f.length = x := by
  unfold at0
  rw [List.getD_eq_getElem?_getD]
  simp
theorem nums_go {bits : Nat} {t : List Nat} {ls : List Ln} (hl : LsOk' bits ls) : ∀ (post pre : List Ln) (f : List Nat), ls = pre ++ post → Nums bits t pre f → Nums bits t ls (post.foldl (fun f l => f ++ [lineNum (onesOf t) (rowsOf bits t) f l]) f)
  | [], pre, f, e, I => by rw [e, List.append_nil]; exact I
  | l :: post, pre, f, e, I => by
    rw [List.foldl_cons]
    refine nums_go hl post (pre ++ [l]) _ (by rw [e]; simp) ⟨by simp [I.len], fun k m hk => ?_⟩
    have hmo : m.ok bits k := hl k m (by
      rw [e]
      have hk2 := (List.getElem?_eq_some_iff.mp hk).1
      rw [show pre ++ l :: post = (pre ++ [l]) ++ post by simp, List.getElem?_append_left hk2]
      exact hk)
    by_cases z : k < pre.length
    · rw [List.getElem?_append_left z] at hk
      rw [at0_app (by rw [I.len]; exact z), I.at_ k m hk]
      exact lineNum_congr hmo fun j hj => (at0_app (by rw [I.len]; omega)).symm
    · have hk2 := (List.getElem?_eq_some_iff.mp hk).1
      rw [List.length_append, List.length_singleton] at hk2
      have ek : k = pre.length := by omega
      subst ek
      rw [List.getElem?_append_right (Nat.le_refl _)] at hk
      simp at hk
      subst hk
      rw [← I.len, at0_new]
      exact lineNum_congr hmo fun j hj => (at0_app (by rw [I.len]; omega)).symm
theorem numsF_ok {bits : Nat} {t : List Nat} {ls : List Ln} (hl : LsOk' bits ls) : Nums bits t ls (numsF (onesOf t) (rowsOf bits t) ls) :=
  nums_go hl ls [] [] rfl ⟨rfl, fun k l h => by simp at h⟩
/-- the carries into place i -/
def carL (N : List Nat) (i : Nat) (ls : List Ln) : List Nat := ls.filterMap fun l => match l with
  | .bin .plus a b => some ((at0 N a % 2 ^ i + at0 N b % 2 ^ i) / 2 ^ i)
  | _ => none
theorem carL_len (N : List Nat) (i : Nat) : ∀ ls : List Ln, (carL N i ls).length = plusC ls
  | [] => rfl
  | l :: ls => by
    have ih := carL_len N i ls
    unfold carL plusC at ih ⊢
    rw [List.filterMap_cons, List.filter_cons]
    cases l with
    | bin o a b => cases o <;> simp [Ln.isPlus, ih]
    | _ => simp [Ln.isPlus, ih]
theorem carL_app (N : List Nat) (i : Nat) (a b : List Ln) : carL N i (a ++ b) = carL N i a ++ carL N i b := List.filterMap_append
theorem carL_zero (N : List Nat) (ls : List Ln) : carL N 0 ls = zeros ls := by
  rw [zeros, plusN_c]
  refine List.eq_replicate_iff.mpr ⟨carL_len N 0 ls, fun x m => ?_⟩
  unfold carL at m
  rw [List.mem_filterMap] at m
  obtain ⟨l, _, h⟩ := m
  split at h
  · cases h; simp [Nat.mod_one]
  · cases h
theorem at0_map {f : List Nat} {g : Nat → Nat} {k : Nat} (h : k < f.length) : at0 (f.map g) k = g (at0 f k) := by
  unfold at0
  rw [List.getD_eq_getElem?_getD, List.getD_eq_getElem?_getD, List.getElem?_map, List.getElem?_eq_getElem h]
  rfl
theorem at0_take {f : List Nat} {k j : Nat} (h : j < k) : at0 (f.take k) j = at0 f j := by
  unfold at0
  rw [List.getD_eq_getElem?_getD, List.getD_eq_getElem?_getD, List.getElem?_take, if_pos h]
theorem take_succ' {f : List Nat} {k : Nat} (h : k < f.length) : f.take (k + 1) = f.take k ++ [at0 f k] := by
  rw [List.take_add_one, List.getElem?_eq_getElem h]
  unfold at0
  rw [List.getD_eq_getElem?_getD, List.getElem?_eq_getElem h]
  rfl
/-- a place, by the numbers -/
theorem place_go {bits i : Nat} {t : List Nat} {ls : List Ln} {N : List Nat} {x : Nat} (hb : bits ≤ 3) (hl : LsOk' bits ls) (hN : Nums bits t ls N) (hi : i < t.length) (hx : t[i]? = some x) : ∀ (post pre : List Ln), ls = pre ++ post →
    post.foldl (stepLn (carL N i ls) x) ((N.take pre.length).map (bitN · i), carL N (i + 1) pre) = (N.map (bitN · i), carL N (i + 1) ls)
  | [], pre, e => by
    rw [List.append_nil] at e
    subst e
    rw [List.foldl_nil, ← hN.len, List.take_length]
  | l :: post, pre, e => by
    have hk : pre.length < N.length := by rw [hN.len, e]; simp
    have hat : ls[pre.length]? = some l := by rw [e]; simp
    have hlo := hl _ _ hat
    have hnum := hN.at_ _ _ hat
    have ih := place_go hb hl hN hi hx post (pre ++ [l]) (by rw [e]; simp)
    rw [List.foldl_cons]
    rw [List.length_append, List.length_singleton, take_succ' hk, List.map_append, List.map_singleton, hnum] at ih
    rw [← ih]
    congr 1
    have hlt : ∀ a, a < pre.length → at0 ((N.take pre.length).map (bitN · i)) a = bitN (at0 N a) i := fun a ha => by
      rw [at0_map (by rw [List.length_take]; omega), at0_take ha]
    have hone : bitN (onesOf t) i = 1 := by rw [onesOf_eq]; exact bit_ones hi
    cases l with
    | row k =>
      have hk3 : k < bits := hlo
      rw [stepLn_no rfl, carL_app]
      show (_ ++ [x / 2 ^ k % 2], _) = (_ ++ [bitN (at0 (rowsOf bits t) k) i], carL N (i + 1) pre ++ [])
      rw [List.append_nil]
      congr 3
      have e1 : at0 (rowsOf bits t) k = rowNum (t.map fun x => x / 2 ^ k % 2) := by
        unfold rowsOf at0
        rw [List.getD_eq_getElem?_getD]
        simp [hk3]
      rw [e1, rowNum_bit i (fun y m => by obtain ⟨z, _, rfl⟩ := List.mem_map.mp m; omega)]
      unfold at0
      rw [List.getD_eq_getElem?_getD, List.getElem?_map, hx]
      rfl
    | one =>
      rw [stepLn_no rfl, carL_app]
      show (_ ++ [1], _) = (_ ++ [bitN (onesOf t) i], carL N (i + 1) pre ++ [])
      rw [List.append_nil, hone]
    | zero =>
      rw [stepLn_no rfl, carL_app]
      show (_ ++ [0], _) = (_ ++ [bitN 0 i], carL N (i + 1) pre ++ [])
      rw [List.append_nil]
      simp [bitN]
    | not a =>
      rw [stepLn_no rfl, carL_app]
      show (_ ++ [1 - at0 _ a], _) = (_ ++ [bitN (onesOf t ^^^ at0 N a) i], carL N (i + 1) pre ++ [])
      rw [List.append_nil, hlt a hlo, bit_xor, hone]
      have := bit_le (at0 N a) i
      congr 3
      omega
    | bin o a b =>
      cases o with
      | and =>
        rw [stepLn_no rfl, carL_app]
        show (_ ++ [at0 _ a * at0 _ b], _) = (_ ++ [bitN (at0 N a &&& at0 N b) i], carL N (i + 1) pre ++ [])
        rw [List.append_nil, hlt a hlo.1, hlt b hlo.2, bit_and]
      | or =>
        rw [stepLn_no rfl, carL_app]
        show (_ ++ [max (at0 _ a) (at0 _ b)], _) = (_ ++ [bitN (at0 N a ||| at0 N b) i], carL N (i + 1) pre ++ [])
        rw [List.append_nil, hlt a hlo.1, hlt b hlo.2, bit_or]
      | xor =>
        rw [stepLn_no rfl, carL_app]
        show (_ ++ [(at0 _ a + at0 _ b) % 2], _) = (_ ++ [bitN (at0 N a ^^^ at0 N b) i], carL N (i + 1) pre ++ [])
        rw [List.append_nil, hlt a hlo.1, hlt b hlo.2, bit_xor]
      | plus =>
        have hc : at0 (carL N i ls) (carL N (i + 1) pre).length = (at0 N a % 2 ^ i + at0 N b % 2 ^ i) / 2 ^ i := by
          rw [e, carL_app, carL_len, ← carL_len N i pre]
          exact at0_new
        rw [carL_app]
        show (_ ++ [(at0 _ a + at0 _ b + at0 (carL N i ls) (carL N (i + 1) pre).length) % 2], carL N (i + 1) pre ++ [(at0 _ a + at0 _ b + at0 (carL N i ls) (carL N (i + 1) pre).length) / 2]) = (_ ++ [bitN ((at0 N a + at0 N b) &&& onesOf t) i], carL N (i + 1) pre ++ [(at0 N a % 2 ^ (i + 1) + at0 N b % 2 ^ (i + 1)) / 2 ^ (i + 1)])
        rw [hlt a hlo.1, hlt b hlo.2, hc, car_succ, onesOf_eq, Nat.and_two_pow_sub_one_eq_mod, bit_mod hi, bit_add]
theorem lastOf_map {f : List Nat} {g : Nat → Nat} (h : f ≠ []) : lastOf (f.map g) = g (lastOf f) := by
  unfold lastOf
  rw [List.getLast?_map]
  cases e : f.getLast? with
  | none => rw [List.getLast?_eq_none_iff] at e; exact (h e).elim
  | some x => rfl
theorem walk_go {bits : Nat} {t : List Nat} {ls : List Ln} {N : List Nat} (hb : bits ≤ 3) (hl : LsOk' bits ls) (hN : Nums bits t ls N) (hne : N ≠ []) : ∀ (post pre : List Nat), t = pre ++ post →
    post.foldl (walkStep ls) (numRow (lastOf N) pre.length, carL N pre.length ls) = (numRow (lastOf N) t.length, carL N t.length ls)
  | [], pre, e => by rw [e, List.append_nil]; rfl
  | x :: post, pre, e => by
    have ih := walk_go hb hl hN hne post (pre ++ [x]) (by rw [e]; simp)
    have hi : pre.length < t.length := by rw [e]; simp
    have hp := place_go hb hl hN hi (show t[pre.length]? = some x by rw [e]; simp) ls [] rfl
    rw [List.foldl_cons, ← ih]
    congr 1
    have hp' : placeF ls (carL N pre.length ls) x = (N.map (bitN · pre.length), carL N (pre.length + 1) ls) := hp
    unfold walkStep
    rw [hp', lastOf_map hne]
    simp [numRow, List.range_succ]
/-- the marks of the numbers are those place by place -/
theorem marks_walk {p : Pg} {t : List Nat} (h : p.Ok) : numRow (lastOf (numsF (onesOf t) (rowsOf p.bits t) p.lines)) t.length = (walkF p.lines (zeros p.lines) t).1 := by
  have := walk_go (t := t) h.b3 h.ok (numsF_ok h.ok) (nums_last h.l1) t [] rfl
  rw [List.length_nil, carL_zero] at this
  unfold walkF
  rw [show ([], zeros p.lines) = (numRow (lastOf (numsF (onesOf t) (rowsOf p.bits t) p.lines)) 0, zeros p.lines) from rfl, this]
end Sc
set_option maxRecDepth 100000
set_option maxHeartbeats 1000000
namespace Sc
open PySem PySem.Spec PyProof.Rows L2
/-! ### what is needed -/
def Ln.nm : Ln → List Nat
  | .not a => [a]
  | .bin _ a b => [a, b]
  | _ => []
theorem Ln.nm_lt {l : Ln} {bits n : Nat} (h : l.ok bits n) : ∀ k ∈ l.nm, k < n := by
  cases l with
  | not a => intro k m; rw [List.mem_singleton.mp m]; exact h
  | bin o a b =>
    intro k m
    rcases List.mem_cons.mp m with rfl | m
    · exact h.1
    · rw [List.mem_singleton.mp m]; exact h.2
  | _ => intro k m; cases m
@[simp] theorem e_named_lines (l : Ln) : R_named_lines [l.d] = some (.ret (nsT l.nm)) := by
  cases l with
  | bin o a b => cases o <;> simp -dsimp -implicitDefEqProofs [-Option.map_eq_some_iff, -List.map_map, LIM, R_named_lines, fb_named_lines, Ln.d, Bo.s, Ln.nm, cutD, HT.sIx]
  | _ => simp -dsimp -implicitDefEqProofs [-Option.map_eq_some_iff, -List.map_map, LIM, R_named_lines, fb_named_lines, Ln.d, Ln.nm, cutD, HT.sIx]
def kvT (ks : List Nat) : List (D × D) := ks.map fun k => (nD k, .bl true)
def addK (ks : List Nat) (k : Nat) : List Nat := if k ∈ ks then ks else ks ++ [k]
theorem nD_eq {a b : Nat} : (nD a = nD b) ↔ a = b := ⟨nD_inj, fun h => by rw [h]⟩
theorem any_kv (ks : List Nat) (f : Nat → D) (k : Nat) : ((ks.map fun j => (nD j, f j)).any fun kv => decide (kv.1 = nD k)) = decide (k ∈ ks) := by
  induction ks with
  | nil => rfl
  | cons j ks ih =>
    rw [List.map_cons, List.any_cons, ih]
    by_cases z : j = k
    · subst z; simp
    · have z2 : ¬ nD j = nD k := fun y => z (nD_inj y)
      rw [decide_eq_false z2]
      simp [Ne.symm z]
theorem put_kvT (ks : List Nat) (k : Nat) : putKD (kvT ks) (nD k) (.bl true) = kvT (addK ks k) := by
  unfold putKD kvT
  rw [any_kv ks (fun _ => .bl true) k]
  unfold addK
  by_cases z : k ∈ ks
  · rw [if_pos (decide_eq_true z), if_pos z]
    rw [List.map_map]
    refine List.map_congr_left fun j _ => ?_
    by_cases y : nD j = nD k <;> simp [Function.comp, y]
  · rw [decide_eq_false z, if_neg (by simp), if_neg z]
    simp
theorem get_kvT (ks : List Nat) (k : Nat) : (getK (kvT ks) (nD k)).isSome = decide (k ∈ ks) := by
  unfold getK kvT
  rw [← any_kv ks (fun _ => .bl true) k]
  rw [Option.isSome_map, Bool.eq_iff_iff, List.find?_isSome, List.any_eq_true]
theorem addK_mem {ks : List Nat} {k j : Nat} : j ∈ addK ks k ↔ j ∈ ks ∨ j = k := by
  unfold addK
  split
  · rename_i z
    exact ⟨fun h => .inl h, fun h => by rcases h with h | rfl; exact h; exact z⟩
  · simp
theorem addK_nodup {ks : List Nat} {k : Nat} (h : ks.Nodup) : (addK ks k).Nodup := by
  unfold addK
  split
  · exact h
  · rename_i z
    rw [List.nodup_append]
    exact ⟨h, by simp, fun a m b m2 e => z (by rw [List.mem_singleton.mp m2] at e; rw [← e]; exact m)⟩
theorem addK_fold : ∀ (ns ks : List Nat), (∀ j, j ∈ ns.foldl addK ks ↔ j ∈ ks ∨ j ∈ ns) ∧ (ks.Nodup → (ns.foldl addK ks).Nodup)
  | [], ks => ⟨fun j => by simp, fun h => h⟩
  | n :: ns, ks => by
    obtain ⟨h1, h2⟩ := addK_fold ns (addK ks n)
    refine ⟨fun j => ?_, fun h => h2 (addK_nodup h)⟩
    rw [List.foldl_cons, h1, addK_mem, List.mem_cons, or_assoc]
theorem nodup_le {ks : List Nat} {n : Nat} (h : ks.Nodup) (hb : ∀ k ∈ ks, k < n) : ks.length ≤ n := by
  induction n generalizing ks with
  | zero =>
    cases ks with
    | nil => exact Nat.le_refl _
    | cons k ks => have := hb k (by simp); omega
  | succ n ih =>
    by_cases z : n ∈ ks
    · have h2 := ih (ks := ks.erase n) (h.erase n) fun k m => by
        have := (h.mem_erase_iff).mp m
        have := hb k this.2
        omega
      rw [List.length_erase_of_mem z] at h2
      omega
    · exact Nat.le_succ_of_le (ih h fun k m => by
        have := hb k m
        have : k ≠ n := fun y => z (by rw [← y]; exact m)
        omega)
/-- the keys, line by line from above -/
structure Nd (ls : List Ln) (ks : List Nat) (j : Nat) : Prop where
  nd : ks.Nodup
  lt : ∀ k ∈ ks, k < ls.length
  last : ls.length - 1 ∈ ks
  cl : ∀ k ∈ ks, j ≤ k → ∀ l, ls[k]? = some l → ∀ n ∈ l.nm, n ∈ ks
theorem Nd.step {bits : Nat} {ls : List Ln} {ks : List Nat} {j : Nat} {l : Ln} (hl : LsOk' bits ls) (I : Nd ls ks (j + 1)) (e : ls[j]? = some l) : Nd ls (if j ∈ ks then l.nm.foldl addK ks else ks) j := by
  have hj := (List.getElem?_eq_some_iff.mp e).1
  have hlt := Ln.nm_lt (hl j l e)
  split
  · rename_i z
    obtain ⟨h1, h2⟩ := addK_fold l.nm ks
    refine ⟨h2 I.nd, fun k m => ?_, (h1 _).mpr (.inl I.last), fun k m hk l' e' n mn => ?_⟩
    · rcases (h1 k).mp m with m | m
      · exact I.lt k m
      · have := hlt k m; omega
    · rcases (h1 k).mp m with m | m
      · by_cases y : k = j
        · subst y
          rw [e] at e'
          cases e'
          exact (h1 n).mpr (.inr mn)
        · exact (h1 n).mpr (.inl (I.cl k m (by omega) l' e' n mn))
      · have := hlt k m; omega
  · rename_i z
    refine ⟨I.nd, I.lt, I.last, fun k m hk l' e' n mn => ?_⟩
    by_cases y : k = j
    · subst y; exact (z m).elim
    · exact I.cl k m (by omega) l' e' n mn
/-- a list of needed lines, ascending -/
structure Needed (ls : List Ln) (nd : List Nat) : Prop where
  asc : nd.Pairwise (· < ·)
  lt : ∀ k ∈ nd, k < ls.length
  last : ls.length - 1 ∈ nd
  cl : ∀ k ∈ nd, ∀ l, ls[k]? = some l → ∀ n ∈ l.nm, n ∈ nd
theorem ints_kvT : ∀ ks : List Nat, keysI (kvT ks) = some (ks.map fun (k : Nat) => (k : Int))
  | [] => rfl
  | k :: ks => by
    have := ints_kvT ks
    unfold keysI kvT at this ⊢
    rw [List.map_cons, List.map_cons, intsOf, this]
    rfl
def sortN (ks : List Nat) : List Nat := (sortI (ks.map fun (k : Nat) => (k : Int))).map Int.toNat
theorem sortN_D (ks : List Nat) : (sortI (ks.map fun (k : Nat) => (k : Int))).map D.int = (sortN ks).map nD := by
  unfold sortN
  rw [List.map_map]
  refine List.map_congr_left fun i m => ?_
  have := (sortI_perm _).mem_iff.mp m
  obtain ⟨k, _, rfl⟩ := List.mem_map.mp this
  rfl
theorem sortN_mem {ks : List Nat} {k : Nat} : k ∈ sortN ks ↔ k ∈ ks := by
  unfold sortN
  rw [List.mem_map]
  constructor
  · rintro ⟨i, m, rfl⟩
    obtain ⟨j, hj, rfl⟩ := List.mem_map.mp ((sortI_perm _).mem_iff.mp m)
    exact hj
  · intro m
    exact ⟨(k : Int), (sortI_perm _).mem_iff.mpr (List.mem_map.mpr ⟨k, m, rfl⟩), rfl⟩
theorem sortN_asc {ks : List Nat} (h : ks.Nodup) : (sortN ks).Pairwise (· < ·) := by
  have h1 := sortI_sorted (ks.map fun (k : Nat) => (k : Int))
  have h2 : (sortI (ks.map fun (k : Nat) => (k : Int))).Nodup := (sortI_perm _).nodup_iff.mpr (by
    rw [List.Nodup, List.pairwise_map]
    exact List.Pairwise.imp (fun hab e => hab (by omega)) h)
  unfold sortN
  rw [List.pairwise_map]
  have h3 := h1.and h2
  refine (List.Pairwise.imp_of_mem ?_ h3)
  intro a b ma mb hab
  obtain ⟨x, _, rfl⟩ := List.mem_map.mp ((sortI_perm _).mem_iff.mp ma)
  obtain ⟨y, _, rfl⟩ := List.mem_map.mp ((sortI_perm _).mem_iff.mp mb)
  have h4 := hab.1
  have h5 := hab.2
  show x < y
  omega
theorem e_needed_by {bits : Nat} {ls : List Ln} (hl : LsOk' bits ls) (h1 : ls ≠ []) (hn : ls.length ≤ 60) : ∃ nd, Needed ls nd ∧ R_needed_by [lsD ls, nD (ls.length - 1)] = some (.ret (nsL nd)) := by
  have hpos := List.length_pos_iff.mpr h1
  suffices ∃ ks, Nd ls ks 0 ∧ R_needed_by [lsD ls, nD (ls.length - 1)] = some (.ret (nsL (sortN ks))) by
    obtain ⟨ks, I, e⟩ := this
    exact ⟨sortN ks, ⟨sortN_asc I.nd, fun k m => I.lt k (sortN_mem.mp m), sortN_mem.mpr I.last, fun k m l e n mn => sortN_mem.mpr (I.cl k (sortN_mem.mp m) (Nat.zero_le _) l e n mn)⟩, e⟩
  have hs : smallI ((ls.length - 1 : Nat) : Int) = true := by unfold smallI BIG; simp; omega
  have hs2 : smallI (-1) = true := by decide
  have hx : (((ls.length - 1 : Nat) : Int) + 1).toNat = ls.length := by omega
  obtain ⟨ρ', e1, ks, a, b, rfl, I⟩ := forL_rng (g := gnm 3) (b := (ifS (tstF (dnF false 2 (nmF 3))) (forS (seqI (cfF 1 R_named_lines [binF (nmF 0) (nmF 3) oIx])) (gnm 4) (stS 2 (nmF 4) (kF (.bl true)))) (skF))) (ρ := [.ar (lsD ls), .ar (nD (ls.length - 1)), .od (kvT [ls.length - 1]), .emp, .emp]) ((ls.length - 1 : Nat) : Int) (-1) ls.length
    (fun i ρ => ∃ ks a b, ρ = [.ar (lsD ls), .ar (nD (ls.length - 1)), .od (kvT ks), a, b] ∧ Nd ls ks (ls.length - i)) ⟨[ls.length - 1], _, _, rfl, ⟨by simp, fun k m => by rw [List.mem_singleton.mp m]; omega, by simp, fun k m hk => by rw [List.mem_singleton.mp m] at hk; omega⟩⟩ (by
    rintro i ρ hi ⟨ks, a, b, rfl, I⟩
    have ej : (((ls.length - 1 : Nat) : Int) + (i : Int) * -1) = ((ls.length - (i + 1) : Nat) : Int) := by omega
    rw [ej]
    have hj : ls.length - (i + 1) < ls.length := by omega
    have hls := List.getElem?_eq_getElem hj
    generalize ls[ls.length - (i + 1)] = l at hls
    have e2 : ls.length - i = ls.length - (i + 1) + 1 := by omega
    rw [e2] at I
    generalize ls.length - (i + 1) = j at hj hls I ⊢
    have I2 := I.step hl hls
    by_cases z : j ∈ ks
    · rw [if_pos z] at I2
      simp -dsimp -implicitDefEqProofs [-Option.map_eq_some_iff, -List.map_map, LIM, get_kvT, z]
      rw [atI_map' hls]
      simp -dsimp -implicitDefEqProofs [-Option.map_eq_some_iff, -List.map_map, LIM, ]
      obtain ⟨ρ2, f1, f2⟩ := forL_all (g := gnm 4) (b := stS 2 (nmF 4) (kF (.bl true))) (ρ := [.ar (lsD ls), .ar (nD (ls.length - 1)), .od (kvT ks), .fz (nD j), b]) (fun k => (true, nD k)) (fun pre ρ => ∃ b, ρ = [.ar (lsD ls), .ar (nD (ls.length - 1)), .od (kvT (pre.foldl addK ks)), .fz (nD j), b]) l.nm ⟨_, rfl⟩ (by
        rintro pre x post ρ e ⟨b, rfl⟩
        obtain ⟨g1, g2⟩ := addK_fold pre ks
        have hlen : (kvT (pre.foldl addK ks)).length < 1000000 := by
          have : (pre.foldl addK ks).length ≤ ls.length := nodup_le (g2 I.nd) fun k m => by
            rcases (g1 k).mp m with m | m
            · exact I.lt k m
            · have := Ln.nm_lt (hl j l hls) k (by rw [e]; simp [m]); omega
          simp [kvT]
          omega
        simp -dsimp -implicitDefEqProofs [-Option.map_eq_some_iff, -List.map_map, LIM, hlen, put_kvT])
      obtain ⟨b2, rfl⟩ := f2
      rw [List.map_map]
      exact ⟨_, f1, _, ⟨_, _, rfl⟩, I2⟩
    · rw [if_neg z] at I2
      simp -dsimp -implicitDefEqProofs [-Option.map_eq_some_iff, -List.map_map, LIM, get_kvT, z]
      exact ⟨ks, rfl, I2⟩)
  refine ⟨ks, by rw [Nat.sub_self] at I; exact I, ?_⟩
  have e3 : [(nD (ls.length - 1), D.bl true)] = kvT [ls.length - 1] := rfl
  have hlen : ks.length < 64 := by have := nodup_le I.nd I.lt; omega
  have hx2 : ls.length - 1 + 1 = ls.length := by omega
  simp -dsimp -implicitDefEqProofs [-Option.map_eq_some_iff, -List.map_map, LIM, R_needed_by, fb_needed_by, mergeD, putKD, hs, hs2, hx2]
  rw [e3, e1]
  simp -dsimp -implicitDefEqProofs [-Option.map_eq_some_iff, -List.map_map, LIM, ints_kvT, hlen, sortN_D]
theorem e_needed_lines {p : Pg} {nd : List Nat} (h : p.Ok) (e : R_needed_by [lsD p.lines, nD (p.lines.length - 1)] = some (.ret (nsL nd))) : R_needed_lines [p.d] = some (.ret (nsT nd)) := by
  have h1 := e_need_program h
  have hpos := List.length_pos_iff.mpr h.l1
  have h2 : ((p.lines.length : Nat) : Int) - 1 = ((p.lines.length - 1 : Nat) : Int) := by omega
  simp -dsimp -implicitDefEqProofs [-Option.map_eq_some_iff, -List.map_map, LIM, R_needed_lines, fb_needed_lines, h1, h2, e]
/-! ### the needed lines alone, numbered anew -/
def rank (nd : List Nat) (k : Nat) : Nat := nd.idxOf k
def Ln.ren (f : Nat → Nat) : Ln → Ln
  | .not a => .not (f a)
  | .bin o a b => .bin o (f a) (f b)
  | l => l
def lnAt (ls : List Ln) (k : Nat) : Ln := ls.getD k .one
def subL (ls : List Ln) (nd : List Nat) : List Ln := nd.map fun k => (lnAt ls k).ren (rank nd)
def kvR (f : Nat → Nat) (ks : List Nat) : List (D × D) := ks.map fun k => (nD k, nD (f k))
theorem put_kvR {f : Nat → Nat} {ks : List Nat} {k : Nat} (h : k ∉ ks) : putKD (kvR f ks) (nD k) (nD (f k)) = kvR f (ks ++ [k]) := by
  unfold putKD kvR
  rw [any_kv ks (fun k => nD (f k)) k, decide_eq_false h, if_neg (by simp)]
  simp
theorem get_kvR {f : Nat → Nat} {k : Nat} : ∀ {ks : List Nat}, k ∈ ks → getK (kvR f ks) (nD k) = some (nD (f k))
  | j :: ks, h => by
    unfold getK kvR
    rw [List.map_cons, List.find?_cons]
    by_cases z : j = k
    · subst z; simp
    · have z2 : ¬ nD j = nD k := fun y => z (nD_inj y)
      rw [decide_eq_false z2]
      rcases List.mem_cons.mp h with rfl | h
      · exact (z rfl).elim
      · exact get_kvR h
theorem rank_pre {nd pre post : List Nat} {k : Nat} (h : nd.Pairwise (· < ·)) (e : nd = pre ++ k :: post) : rank nd k = pre.length := by
  have hk : k ∉ pre := fun m => by
    rw [e, List.pairwise_append] at h
    have := h.2.2 k m k (by simp)
    omega
  unfold rank
  rw [e, List.idxOf_append, if_neg hk]
  simp
theorem lnAt_get {ls : List Ln} {k : Nat} (h : k < ls.length) : ls[k]? = some (lnAt ls k) := by
  unfold lnAt
  rw [List.getD_eq_getElem?_getD, List.getElem?_eq_getElem h]
  rfl
theorem e_needed_only {bits : Nat} {ls : List Ln} {nd : List Nat} (hl : LsOk' bits ls) (h1 : ls ≠ []) (hn : ls.length ≤ 60) (N : Needed ls nd) (e : R_needed_by [lsD ls, nD (ls.length - 1)] = some (.ret (nsL nd))) : R_needed_only [lsD ls] = some (.ret (lsD (subL ls nd))) := by
  have hpos := List.length_pos_iff.mpr h1
  have h2 : ((ls.length : Nat) : Int) - 1 = ((ls.length - 1 : Nat) : Int) := by omega
  have hnd : nd.Nodup := N.asc.imp fun h => Nat.ne_of_lt h
  have hlen : nd.length ≤ 60 := by have := nodup_le hnd N.lt; omega
  simp -dsimp -implicitDefEqProofs [-Option.map_eq_some_iff, -List.map_map, LIM, R_needed_only, fb_needed_only, h2, e]
  refine bnd_seq nD (fun pre ρ => ∃ a b c, ρ = [.ar (lsD ls), .od (kvR (rank nd) pre), .ow ((pre.map fun k => (lnAt ls k).ren (rank nd)).map Ln.d), a, b, c] ∧ isLight (some c) = true) ⟨_, _, _, rfl, rfl⟩ ?_ ?_
  · rintro pre k post ρ e2 ⟨a, b, c, rfl, hc⟩
    have hk : k ∈ nd := by rw [e2]; simp
    have hkl := N.lt k hk
    have hkp : k ∉ pre := fun m => by
      have h := N.asc
      rw [e2, List.pairwise_append] at h
      have := h.2.2 k m k (by simp)
      omega
    have hpl : pre.length < 60 := by have := congrArg List.length e2; simp at this; omega
    have hrk := rank_pre N.asc e2
    have hls := lnAt_get hkl
    have hpm : ∀ j ∈ (lnAt ls k).nm, j ∈ pre := fun j m => by
      have h3 := N.cl k hk _ hls j m
      have h4 := Ln.nm_lt (hl k _ hls) j m
      rw [e2] at h3
      rcases List.mem_append.mp h3 with h3 | h3
      · exact h3
      · have h := N.asc
        rw [e2, List.pairwise_append] at h
        rcases List.mem_cons.mp h3 with rfl | h3
        · omega
        · have := (List.pairwise_cons.mp h.2.1).1 j h3
          omega
    have hsz : (kvR (rank nd) pre).length < 1000000 := by simp [kvR]; omega
    have hput := put_kvR (f := rank nd) hkp
    rw [hrk] at hput
    rw [List.map_append, List.map_append, List.map_singleton, List.map_singleton]
    have hsz2 : ((pre.map fun k => (lnAt ls k).ren (rank nd)).map Ln.d).length = pre.length := by simp
    generalize (pre.map fun k => (lnAt ls k).ren (rank nd)).map Ln.d = fd at hsz2 ⊢
    have hfd : fd.length < 1000000 := by omega
    have hpm2 : ∀ j ∈ (lnAt ls k).nm, getK (kvR (rank nd) (pre ++ [k])) (nD j) = some (nD (rank nd j)) := fun j m => get_kvR (List.mem_append_left _ (hpm j m))
    simp -dsimp -implicitDefEqProofs [-Option.map_eq_some_iff, -List.map_map, LIM, atI_map' hls, hsz2, hsz, hput, hfd]
    generalize lnAt ls k = l at hpm2 ⊢
    cases l with
    | row j =>
      simp -dsimp -implicitDefEqProofs [-Option.map_eq_some_iff, -List.map_map, LIM, Ln.d, Ln.ren, hfd]
      first | exact ⟨_, rfl, _, _, _, rfl, hc⟩ | exact ⟨_, _, _, rfl, hc⟩ | exact ⟨_, _, _, ⟨rfl, rfl, rfl⟩, hc⟩ | exact ⟨_, ⟨_, _, rfl⟩, hc⟩ | exact ⟨_, ⟨rfl, rfl⟩, hc⟩ | exact hc
    | one =>
      simp -dsimp -implicitDefEqProofs [-Option.map_eq_some_iff, -List.map_map, LIM, Ln.d, Ln.ren, cutD, HT.sIx, lcL, hc, hfd]
      first | exact ⟨_, rfl, _, _, _, rfl, hc⟩ | exact ⟨_, _, _, rfl, hc⟩ | exact ⟨_, _, _, ⟨rfl, rfl, rfl⟩, hc⟩ | exact ⟨_, ⟨_, _, rfl⟩, hc⟩ | exact ⟨_, ⟨rfl, rfl⟩, hc⟩ | exact hc
    | zero =>
      simp -dsimp -implicitDefEqProofs [-Option.map_eq_some_iff, -List.map_map, LIM, Ln.d, Ln.ren, cutD, HT.sIx, lcL, hc, hfd]
      first | exact ⟨_, rfl, _, _, _, rfl, hc⟩ | exact ⟨_, _, _, rfl, hc⟩ | exact ⟨_, _, _, ⟨rfl, rfl, rfl⟩, hc⟩ | exact ⟨_, ⟨_, _, rfl⟩, hc⟩ | exact ⟨_, ⟨rfl, rfl⟩, hc⟩ | exact hc
    | not j =>
      simp -dsimp -implicitDefEqProofs [-Option.map_eq_some_iff, -List.map_map, LIM, Ln.d, Ln.ren, cutD, HT.sIx, lcL_cons, lcL, hc, hpm2 j (by simp [Ln.nm]), hfd]
      first | exact ⟨_, rfl, _, _, _, rfl, hc⟩ | exact ⟨_, _, _, rfl, hc⟩ | exact ⟨_, _, _, ⟨rfl, rfl, rfl⟩, hc⟩ | exact ⟨_, ⟨_, _, rfl⟩, hc⟩ | exact ⟨_, ⟨rfl, rfl⟩, hc⟩ | exact hc
    | bin o a b =>
      have ha := hpm2 a (by simp [Ln.nm])
      have hb := hpm2 b (by simp [Ln.nm])
      cases o with
      | and =>
        simp -dsimp -implicitDefEqProofs [-Option.map_eq_some_iff, -List.map_map, LIM, Ln.d, Bo.s, Ln.ren, cutD, HT.sIx, lcL_cons, lcL, hc, ha, hb, hfd]
        first | exact ⟨_, rfl, _, _, _, rfl, hc⟩ | exact ⟨_, _, _, rfl, hc⟩ | exact ⟨_, _, _, ⟨rfl, rfl, rfl⟩, hc⟩ | exact ⟨_, ⟨_, _, rfl⟩, hc⟩ | exact ⟨_, ⟨rfl, rfl⟩, hc⟩ | exact hc
      | or =>
        simp -dsimp -implicitDefEqProofs [-Option.map_eq_some_iff, -List.map_map, LIM, Ln.d, Bo.s, Ln.ren, cutD, HT.sIx, lcL_cons, lcL, hc, ha, hb, hfd]
        first | exact ⟨_, rfl, _, _, _, rfl, hc⟩ | exact ⟨_, _, _, rfl, hc⟩ | exact ⟨_, _, _, ⟨rfl, rfl, rfl⟩, hc⟩ | exact ⟨_, ⟨_, _, rfl⟩, hc⟩ | exact ⟨_, ⟨rfl, rfl⟩, hc⟩ | exact hc
      | xor =>
        simp -dsimp -implicitDefEqProofs [-Option.map_eq_some_iff, -List.map_map, LIM, Ln.d, Bo.s, Ln.ren, cutD, HT.sIx, lcL_cons, lcL, hc, ha, hb, hfd]
        first | exact ⟨_, rfl, _, _, _, rfl, hc⟩ | exact ⟨_, _, _, rfl, hc⟩ | exact ⟨_, _, _, ⟨rfl, rfl, rfl⟩, hc⟩ | exact ⟨_, ⟨_, _, rfl⟩, hc⟩ | exact ⟨_, ⟨rfl, rfl⟩, hc⟩ | exact hc
      | plus =>
        simp -dsimp -implicitDefEqProofs [-Option.map_eq_some_iff, -List.map_map, LIM, Ln.d, Bo.s, Ln.ren, cutD, HT.sIx, lcL_cons, lcL, hc, ha, hb, hfd]
        first | exact ⟨_, rfl, _, _, _, rfl, hc⟩ | exact ⟨_, _, _, rfl, hc⟩ | exact ⟨_, _, _, ⟨rfl, rfl, rfl⟩, hc⟩ | exact ⟨_, ⟨_, _, rfl⟩, hc⟩ | exact ⟨_, ⟨rfl, rfl⟩, hc⟩ | exact hc
  · rintro ρ' ⟨a, b, c, rfl, hc⟩
    simp -dsimp -implicitDefEqProofs [-Option.map_eq_some_iff, -List.map_map, LIM, subL]
/-! the smaller program is one -/
theorem nm_in {ls : List Ln} {nd : List Nat} {k : Nat} (N : Needed ls nd) (hk : k ∈ nd) : ∀ j ∈ (lnAt ls k).nm, j ∈ nd := N.cl k hk _ (lnAt_get (N.lt k hk))
theorem rank_lt {nd : List Nat} (h : nd.Pairwise (· < ·)) {j k : Nat} (hj : j ∈ nd) (hk : k ∈ nd) (hl : j < k) : rank nd j < rank nd k := by
  obtain ⟨pre, post, e⟩ := List.append_of_mem hk
  have e1 := rank_pre h e
  rw [e1]
  have hp : j ∈ pre := by
    rw [e] at hj h
    rcases List.mem_append.mp hj with m | m
    · exact m
    · rcases List.mem_cons.mp m with rfl | m
      · omega
      · rw [List.pairwise_append] at h
        have := (List.pairwise_cons.mp h.2.1).1 j m
        omega
  unfold rank
  rw [e, List.idxOf_append, if_pos hp]
  exact List.idxOf_lt_length_of_mem hp
theorem sub_get {ls : List Ln} {nd : List Nat} {i : Nat} {l : Ln} (h : (subL ls nd)[i]? = some l) : ∃ k, nd[i]? = some k ∧ l = (lnAt ls k).ren (rank nd) := by
  unfold subL at h
  rw [List.getElem?_map] at h
  obtain ⟨k, h1, h2⟩ := Option.map_eq_some_iff.mp h
  exact ⟨k, h1, h2.symm⟩
theorem rank_at {nd : List Nat} (h : nd.Pairwise (· < ·)) {i k : Nat} (e : nd[i]? = some k) : rank nd k = i := by
  have hi := (List.getElem?_eq_some_iff.mp e)
  obtain ⟨h1, h2⟩ := hi
  have e2 : nd = nd.take i ++ k :: nd.drop (i + 1) := by
    rw [← h2, List.getElem_cons_drop, List.take_append_drop]
  rw [rank_pre h e2, List.length_take]
  omega
theorem sub_ok {bits : Nat} {ls : List Ln} {nd : List Nat} (hl : LsOk' bits ls) (N : Needed ls nd) : LsOk' bits (subL ls nd) := by
  intro i l h
  obtain ⟨k, h1, rfl⟩ := sub_get h
  have hk := List.mem_of_getElem? h1
  have hlt := N.lt k hk
  have ho := hl k _ (lnAt_get hlt)
  have hn := nm_in N hk
  rw [← rank_at N.asc h1]
  generalize lnAt ls k = l at ho hn
  cases l with
  | row j => exact ho
  | one => trivial
  | zero => trivial
  | not j => exact rank_lt N.asc (hn j (by simp [Ln.nm])) hk ho
  | bin o a b => exact ⟨rank_lt N.asc (hn a (by simp [Ln.nm])) hk ho.1, rank_lt N.asc (hn b (by simp [Ln.nm])) hk ho.2⟩
theorem at0_rank {nd N : List Nat} (h : nd.Pairwise (· < ·)) {k : Nat} (hk : k ∈ nd) : at0 (nd.map (at0 N)) (rank nd k) = at0 N k := by
  obtain ⟨pre, post, e⟩ := List.append_of_mem hk
  rw [rank_pre h e, e, List.map_append, List.map_cons]
  have : pre.length = (pre.map (at0 N)).length := by simp
  rw [this]
  exact at0_new
theorem sub_nums {bits : Nat} {t : List Nat} {ls : List Ln} {nd N : List Nat} (Nn : Needed ls nd) (hN : Nums bits t ls N) : Nums bits t (subL ls nd) (nd.map (at0 N)) := by
  refine ⟨by simp [subL], fun i l h => ?_⟩
  obtain ⟨k, h1, rfl⟩ := sub_get h
  have hk := List.mem_of_getElem? h1
  have hlt := Nn.lt k hk
  have e1 := hN.at_ k _ (lnAt_get hlt)
  have hn := nm_in Nn hk
  rw [← rank_at Nn.asc h1, at0_rank Nn.asc hk, e1]
  generalize lnAt ls k = l at hn
  cases l with
  | not j => simp only [Ln.ren, lineNum, at0_rank Nn.asc (hn j (by simp [Ln.nm]))]
  | bin o a b => cases o <;> simp only [Ln.ren, lineNum, at0_rank Nn.asc (hn a (by simp [Ln.nm])), at0_rank Nn.asc (hn b (by simp [Ln.nm]))]
  | _ => rfl
/-- the carry of a line -/
def carOf (N : List Nat) (i : Nat) : Ln → Nat
  | .bin _ a b => (at0 N a % 2 ^ i + at0 N b % 2 ^ i) / 2 ^ i
  | _ => 0
theorem carL_zip (N : List Nat) (i : Nat) : ∀ (ls : List Ln) (k : Nat) (f : Nat → Ln), (∀ j l, ls[j]? = some l → f (k + j) = l) → carL N i ls = (plusN k ls).map fun j => carOf N i (f j)
  | [], _, _, _ => rfl
  | l :: ls, k, f, h => by
    have ih := carL_zip N i ls (k + 1) f fun j m e => by
      have := h (j + 1) m (by simpa using e)
      rw [← this]
      congr 1
      omega
    have h0 : f k = l := h 0 l rfl
    rw [plusN]
    unfold carL at ih ⊢
    rw [List.filterMap_cons]
    cases l with
    | bin o a b => cases o <;> simp [Ln.isPlus, ih, h0, carOf]
    | _ => simp [Ln.isPlus, ih]
theorem plusN_mem : ∀ (ls : List Ln) (k j : Nat), j ∈ plusN k ls ↔ ∃ i l, ls[i]? = some l ∧ l.isPlus = true ∧ j = k + i
  | [], k, j => by simp [plusN]
  | l :: ls, k, j => by
    have ih := plusN_mem ls (k + 1) j
    have key : (∃ i m, (l :: ls)[i]? = some m ∧ m.isPlus = true ∧ j = k + i) ↔ ((l.isPlus = true ∧ j = k) ∨ ∃ i m, ls[i]? = some m ∧ m.isPlus = true ∧ j = k + 1 + i) := by
      constructor
      · rintro ⟨i, m, e, hp, rfl⟩
        cases i with
        | zero => cases e; exact .inl ⟨hp, rfl⟩
        | succ i => exact .inr ⟨i, m, by simpa using e, hp, by omega⟩
      · rintro (⟨hp, rfl⟩ | ⟨i, m, e, hp, rfl⟩)
        · exact ⟨0, l, rfl, hp, rfl⟩
        · exact ⟨i + 1, m, by simpa using e, hp, by omega⟩
    rw [key, plusN, ← ih]
    cases h : l.isPlus with
    | true => simp
    | false => simp
theorem plusN_asc : ∀ (ls : List Ln) (k : Nat), (plusN k ls).Pairwise (· < ·) ∧ ∀ j ∈ plusN k ls, k ≤ j
  | [], k => ⟨List.Pairwise.nil, fun j m => nomatch m⟩
  | l :: ls, k => by
    obtain ⟨h1, h2⟩ := plusN_asc ls (k + 1)
    rw [plusN]
    split
    · refine ⟨List.pairwise_cons.mpr ⟨fun j m => by have := h2 j m; omega, h1⟩, fun j m => ?_⟩
      rcases List.mem_cons.mp m with rfl | m
      · exact Nat.le_refl _
      · have := h2 j m; omega
    · exact ⟨h1, fun j m => by have := h2 j m; omega⟩
theorem asc_eq {a b : List Nat} (ha : a.Pairwise (· < ·)) (hb : b.Pairwise (· < ·)) (h : ∀ x, x ∈ a ↔ x ∈ b) : a = b := by
  have na : a.Nodup := ha.imp fun h => Nat.ne_of_lt h
  have nb : b.Nodup := hb.imp fun h => Nat.ne_of_lt h
  exact ((List.perm_ext_iff_of_nodup na nb).mpr h).eq_of_pairwise (fun x y _ _ h1 h2 => by omega) ha hb
theorem lnAt_ren_plus (l : Ln) (f : Nat → Nat) : (l.ren f).isPlus = l.isPlus := by cases l with
  | bin o a b => cases o <;> rfl
  | _ => rfl
/-- the kept carries: those of the needed lines that add -/
theorem kept_eq {bits n : Nat} {t : List Nat} {ls : List Ln} {nd N : List Nat} (Nn : Needed ls nd) (hN : Nums bits t ls N) : carL (nd.map (at0 N)) n (subL ls nd) = (((carL N n ls).zip (plusN 0 ls)).filter fun p => decide (p.2 ∈ nd)).map (·.1) := by
  have e1 : carL N n ls = (plusN 0 ls).map fun j => carOf N n (lnAt ls j) := carL_zip N n ls 0 (lnAt ls) fun j l e => by
    unfold lnAt
    rw [Nat.zero_add, List.getD_eq_getElem?_getD, e]
    rfl
  have e2 : ((plusN 0 ls).map fun j => carOf N n (lnAt ls j)).zip (plusN 0 ls) = (plusN 0 ls).map fun j => (carOf N n (lnAt ls j), j) := by
    generalize plusN 0 ls = ps
    induction ps with
    | nil => rfl
    | cons p ps ih => rw [List.map_cons, List.zip_cons_cons, ih, List.map_cons]
  rw [e1, e2, List.filter_map, List.map_map]
  have e3 : carL (nd.map (at0 N)) n (subL ls nd) = (nd.filter fun k => (lnAt ls k).isPlus).map fun j => carOf N n (lnAt ls j) := by
    unfold carL subL
    rw [List.filterMap_map]
    have go : ∀ ks : List Nat, (∀ k ∈ ks, k ∈ nd) → ks.filterMap ((fun l : Ln => match l with
        | .bin .plus a b => some ((at0 (nd.map (at0 N)) a % 2 ^ n + at0 (nd.map (at0 N)) b % 2 ^ n) / 2 ^ n)
        | _ => none) ∘ fun k => (lnAt ls k).ren (rank nd)) = (ks.filter fun k => (lnAt ls k).isPlus).map fun j => carOf N n (lnAt ls j) := by
      intro ks
      induction ks with
      | nil => intro _; rfl
      | cons k ks ih =>
        intro h
        have hk := h k (by simp)
        have hn := nm_in Nn hk
        have ih' := ih fun j m => h j (by simp [m])
        rw [List.filterMap_cons, List.filter_cons, ih']
        simp only [Function.comp]
        generalize hl : lnAt ls k = l at hn
        cases l with
        | bin o a b =>
          cases o with
          | plus => simp [Ln.ren, Ln.isPlus, carOf, hl, at0_rank Nn.asc (hn a (by simp [Ln.nm])), at0_rank Nn.asc (hn b (by simp [Ln.nm]))]
          | _ => simp [Ln.ren, Ln.isPlus]
        | _ => simp [Ln.ren, Ln.isPlus]
    exact go nd fun k m => m
  rw [e3]
  have e4 : (nd.filter fun k => (lnAt ls k).isPlus) = (plusN 0 ls).filter fun k => decide (k ∈ nd) := by
    refine asc_eq (Nn.asc.filter _) ((plusN_asc ls 0).1.filter _) fun x => ?_
    rw [List.mem_filter, List.mem_filter, plusN_mem]
    constructor
    · rintro ⟨h1, h2⟩
      exact ⟨⟨x, lnAt ls x, lnAt_get (Nn.lt x h1), h2, by omega⟩, decide_eq_true h1⟩
    · rintro ⟨⟨i, l, h1, h2, rfl⟩, h3⟩
      rw [Nat.zero_add] at h3 ⊢
      have h4 := lnAt_get (List.getElem?_eq_some_iff.mp h1).1
      rw [h1] at h4
      cases h4
      exact ⟨of_decide_eq_true h3, h2⟩
  rw [e4]
  rfl
theorem e_kept_carries {p : Pg} {t nd : List Nat} (h : p.Ok) (hn : p.lines.length ≤ 60) (ht : TxOk p.bits t) (N : Needed p.lines nd) (e : R_needed_by [lsD p.lines, nD (p.lines.length - 1)] = some (.ret (nsL nd))) :
    R_kept_carries [p.d, nsT t] = some (.ret (nsT ((((walkF p.lines (zeros p.lines) t).2.zip (plusN 0 p.lines)).filter fun q => decide (q.2 ∈ nd)).map (·.1)))) := by
  have h1 := e_need_program h
  have h3 := e_need_text_of h.b3 ht
  have h4 := e_needed_only h.ok h.l1 hn N e
  have hsl : (subL p.lines nd).length ≤ 50000 := by
    have hnd : nd.Nodup := N.asc.imp fun h => Nat.ne_of_lt h
    have := nodup_le hnd N.lt
    simp [subL]
    omega
  have hne : nd ≠ [] := fun z => by have := N.last; rw [z] at this; cases this
  have hse : subL p.lines nd ≠ [] := by simpa [subL] using hne
  have h5 := e_noughts_of hsl
  have h6 := e_walk_marks h.b3 (sub_ok h.ok N) hse hsl (zeros_ok _) ht.1
  have hN := numsF_ok (t := t) h.ok
  have k1 := walk_go (t := t) h.b3 h.ok hN (nums_last h.l1) t [] rfl
  have k2 := walk_go (t := t) h.b3 (sub_ok h.ok N) (sub_nums N hN) (by simpa using hne) t [] rfl
  rw [List.length_nil, carL_zero] at k1 k2
  have k3 : (walkF p.lines (zeros p.lines) t).2 = carL (numsF (onesOf t) (rowsOf p.bits t) p.lines) t.length p.lines := congrArg Prod.snd k1
  have k4 : (walkF (subL p.lines nd) (zeros (subL p.lines nd)) t).2 = carL (nd.map (at0 (numsF (onesOf t) (rowsOf p.bits t) p.lines))) t.length (subL p.lines nd) := congrArg Prod.snd k2
  rw [k3, ← kept_eq N hN, ← k4]
  simp -dsimp -implicitDefEqProofs [-Option.map_eq_some_iff, -List.map_map, LIM, R_kept_carries, fb_kept_carries, h1, h3, h4, h5, h6]
end Sc
set_option maxRecDepth 100000
set_option maxHeartbeats 1000000
namespace Sc
open PySem PySem.Spec PyProof.Rows L2
/-! ### scanners -/
abbrev Tb := List (List (Nat × Nat))
abbrev stD' (s : Nat × Nat) : D := .tup [nD s.1, nD s.2]
abbrev rwD (r : List (Nat × Nat)) : D := .tup (r.map stD')
abbrev tbD (t : Tb) : D := .tup (t.map rwD)
abbrev snD (bits : Nat) (t : Tb) : D := .tup [nD bits, tbD t]
@[simp] theorem noLs_st : ∀ r : List (Nat × Nat), noLs (r.map stD') = true
  | [] => rfl
  | s :: r => by rw [List.map_cons, noLs, noLs_st r]; rfl
@[simp] theorem noLs_rw : ∀ t : Tb, noLs (t.map rwD) = true
  | [] => rfl
  | r :: t => by rw [List.map_cons, noLs, noLs_rw t]; simp
structure SnOk (bits : Nat) (t : Tb) : Prop where
  b1 : 1 ≤ bits
  b3 : bits ≤ 3
  n1 : 1 ≤ t.length
  n6 : t.length ≤ 6
  row : ∀ r ∈ t, r.length = 2 ^ bits ∧ ∀ s ∈ r, s.1 ≤ 1 ∧ s.2 < t.length
theorem e_is_step {s : Nat × Nat} {n : Nat} (h : s.1 ≤ 1 ∧ s.2 < n) : R_is_step [stD' s, nD n] = some (.ret (.bl true)) := by
  have h1 : (s.1 : Int) ≤ 1 := by omega
  have h2 : (s.2 : Int) ≤ n - 1 := by omega
  simp -dsimp -implicitDefEqProofs [-Option.map_eq_some_iff, -List.map_map, LIM, R_is_step, fb_is_step, h1, h2]
theorem e_need_steps {bits n : Nat} {t : Tb} (h : SnOk bits t) (hn : n < t.length) : R_need_steps [nD bits, tbD t, nD n] = some (.ret .non) := by
  obtain ⟨h1, h2⟩ := h.row t[n] (List.getElem_mem hn)
  have hr := List.getElem?_eq_getElem hn
  generalize t[n] = r at h1 h2 hr
  simp -dsimp -implicitDefEqProofs [-Option.map_eq_some_iff, -List.map_map, LIM, R_need_steps, fb_need_steps, c_LETTERS_BY, lets_is h.b3, atI_map' hr, h1]
  refine bnd_en stD' (fun _ ρ => ∃ a b, ρ = [.ar (nD bits), .ar (tbD t), .ar (nD n), .ar (rwD r), a, b]) ⟨_, _, rfl⟩ ?_ (fun ρ' _ => rfl)
  rintro pre x post ρ e ⟨a, b, rfl⟩
  have hx := e_is_step (h2 x (by rw [e]; simp))
  simp -dsimp -implicitDefEqProofs [-Option.map_eq_some_iff, -List.map_map, LIM, hx]
theorem e_need_scanner {bits : Nat} {t : Tb} (h : SnOk bits t) : R_need_scanner [snD bits t] = some (.ret (snD bits t)) := by
  have h1 : (t.length : Int) ≤ 6 := by have := h.n6; omega
  have h2 : (1 : Int) ≤ t.length := by have := h.n1; omega
  have h3 : (1 : Int) ≤ bits := by have := h.b1; omega
  have h4 : (bits : Int) ≤ 3 := by have := h.b3; omega
  have h5 : smallI (t.length : Int) = true := by unfold smallI BIG; simp; omega
  simp -dsimp -implicitDefEqProofs [-Option.map_eq_some_iff, -List.map_map, LIM, R_need_scanner, fb_need_scanner, c_MOST_STATES, h1, h2, h3, h4, h5]
  refine bnd_rng (fun i ρ => ∃ a, ρ = [.ar (snD bits t), .fz (nD bits), .fz (tbD t), a]) ⟨_, rfl⟩ ?_ ?_
  · rintro i ρ hi ⟨a, rfl⟩
    have h6 := e_need_steps h hi
    simp -dsimp -implicitDefEqProofs [-Option.map_eq_some_iff, -List.map_map, LIM, h6]
  · rintro ρ' ⟨a, rfl⟩
    simp -dsimp -implicitDefEqProofs [-Option.map_eq_some_iff, -List.map_map, LIM, ]
def wayStep (t : Tb) (s : List Nat × Nat) (x : Nat) : List Nat × Nat :=
  let q := (t.getD s.2 []).getD x (0, 0)
  (s.1 ++ [q.1], q.2)
def wayF (t : Tb) (s : Nat) (text : List Nat) : List Nat × Nat := text.foldl (wayStep t) ([], s)
theorem way_lt {bits : Nat} {t : Tb} (h : SnOk bits t) {s : Nat} {x : Nat} (hs : s < t.length) (hx : x < 2 ^ bits) : ∃ r, t[s]? = some r ∧ r[x]? = some ((t.getD s []).getD x (0, 0)) ∧ ((t.getD s []).getD x (0, 0)).2 < t.length := by
  obtain ⟨h1, h2⟩ := h.row t[s] (List.getElem_mem hs)
  have e1 : t.getD s [] = t[s] := by rw [List.getD_eq_getElem?_getD, List.getElem?_eq_getElem hs]; rfl
  have e2 : x < (t[s]).length := by rw [h1]; exact hx
  have e3 : (t[s]).getD x (0, 0) = t[s][x] := by rw [List.getD_eq_getElem?_getD, List.getElem?_eq_getElem e2]; rfl
  refine ⟨t[s], List.getElem?_eq_getElem hs, ?_, ?_⟩
  · rw [e1, e3]; exact List.getElem?_eq_getElem e2
  · rw [e1, e3]; exact (h2 _ (List.getElem_mem e2)).2
theorem way_inv {bits : Nat} {t : Tb} (h : SnOk bits t) : ∀ (text : List Nat) (s : List Nat × Nat), s.2 < t.length → (∀ x ∈ text, x < 2 ^ bits) → (text.foldl (wayStep t) s).1.length = s.1.length + text.length ∧ (text.foldl (wayStep t) s).2 < t.length
  | [], s, hs, _ => ⟨rfl, hs⟩
  | x :: text, s, hs, hx => by
    obtain ⟨r, _, _, h3⟩ := way_lt h hs (hx x (by simp))
    obtain ⟨i1, i2⟩ := way_inv h text (wayStep t s x) h3 fun y m => hx y (by simp [m])
    refine ⟨?_, i2⟩
    rw [List.foldl_cons, i1]
    simp [wayStep]
    omega
theorem e_way_of {bits s : Nat} {t : Tb} {text : List Nat} (h : SnOk bits t) (hs : s < t.length) (ht : TxOk bits text) : R_way_of [tbD t, nD s, nsT text] = some (.ret (.tup [nsT (wayF t s text).1, nD (wayF t s text).2])) := by
  simp -dsimp -implicitDefEqProofs [-Option.map_eq_some_iff, -List.map_map, LIM, R_way_of, fb_way_of]
  refine bnd_seq nD (fun pre ρ => ∃ a b c, ρ = [.ar (tbD t), .ar (nD s), .ar (nsT text), .ow ((pre.foldl (wayStep t) ([], s)).1.map nD), c, a, b] ∧ (c = .ar (nD (pre.foldl (wayStep t) ([], s)).2) ∨ c = .fz (nD (pre.foldl (wayStep t) ([], s)).2))) ⟨_, _, _, rfl, .inl rfl⟩ ?_ ?_
  · rintro pre x post ρ e ⟨a, b, c, rfl, hc⟩
    have hlen : pre.length < 1000000 := by have h0 := congrArg List.length e; have := ht.1; simp at h0; omega
    obtain ⟨i1, i2⟩ := way_inv h pre ([], s) hs fun y m => ht.2 y (by rw [e]; simp [m])
    rw [List.foldl_append, List.foldl_cons, List.foldl_nil]
    generalize pre.foldl (wayStep t) ([], s) = q at i1 i2 hc ⊢
    obtain ⟨ms, k⟩ := q
    dsimp only at i1 i2 hc ⊢
    obtain ⟨r, h1, h2, h3⟩ := way_lt h i2 (ht.2 x (by rw [e]; simp))
    have hms : ms.length < 1000000 := by rw [i1]; simp; omega
    have e2 : wayStep t (ms, k) x = (ms ++ [((t.getD k []).getD x (0, 0)).1], ((t.getD k []).getD x (0, 0)).2) := rfl
    rw [e2]
    generalize (t.getD k []).getD x (0, 0) = st at h2 h3 ⊢
    rcases hc with rfl | rfl
    · simp -dsimp -implicitDefEqProofs [-Option.map_eq_some_iff, -List.map_map, LIM, atI_map' h1, atI_map' h2, hms]
      exact ⟨_, _, _, ⟨rfl, rfl, rfl⟩, .inr rfl⟩
    · simp -dsimp -implicitDefEqProofs [-Option.map_eq_some_iff, -List.map_map, LIM, atI_map' h1, atI_map' h2, hms]
      exact ⟨_, _, _, ⟨rfl, rfl, rfl⟩, .inr rfl⟩
  · rintro ρ' ⟨a, b, c, rfl, hc⟩
    rcases hc with rfl | rfl
    · simp -dsimp -implicitDefEqProofs [-Option.map_eq_some_iff, -List.map_map, LIM, wayF]
    · simp -dsimp -implicitDefEqProofs [-Option.map_eq_some_iff, -List.map_map, LIM, wayF]
theorem wayF_lt {bits s : Nat} {t : Tb} {text : List Nat} (h : SnOk bits t) (hs : s < t.length) (ht : TxOk bits text) : (wayF t s text).2 < t.length := (way_inv h text ([], s) hs ht.2).2
theorem e_need_state {bits s : Nat} {t : Tb} (hs : s < t.length) : R_need_state [snD bits t, nD s] = some (.ret .non) := by
  have h1 : (s : Int) ≤ t.length - 1 := by omega
  simp -dsimp -implicitDefEqProofs [-Option.map_eq_some_iff, -List.map_map, LIM, R_need_state, fb_need_state, h1]
theorem e_need_asked {bits s : Nat} {t : Tb} {text : List Nat} (h : SnOk bits t) (hs : s < t.length) (ht : TxOk bits text) : R_need_asked [snD bits t, nD s, nsT text] = some (.ret .non) := by
  have h1 := e_need_scanner h
  have h2 := e_need_state (bits := bits) hs
  have h3 := e_need_text_of h.b3 ht
  simp -dsimp -implicitDefEqProofs [-Option.map_eq_some_iff, -List.map_map, LIM, R_need_asked, fb_need_asked, h1, h2, h3]
theorem e_end_state {bits : Nat} {t : Tb} {text : List Nat} (h : SnOk bits t) (ht : TxOk bits text) : R_end_state [snD bits t, nsT text] = some (.ret (nD (wayF t 0 text).2)) := by
  have h1 := e_need_scanner h
  have h3 := e_need_text_of h.b3 ht
  have h4 : R_way_of [tbD t, .int 0, nsT text] = some (.ret (.tup [nsT (wayF t 0 text).1, nD (wayF t 0 text).2])) := e_way_of h h.n1 ht
  simp -dsimp -implicitDefEqProofs [-Option.map_eq_some_iff, -List.map_map, LIM, R_end_state, fb_end_state, h1, h3, h4]
theorem e_marks_from {bits s : Nat} {t : Tb} {text : List Nat} (h : SnOk bits t) (hs : s < t.length) (ht : TxOk bits text) : R_marks_from [snD bits t, nD s, nsT text] = some (.ret (nsT (wayF t s text).1)) := by
  have h1 := e_need_asked h hs ht
  have h4 := e_way_of h hs ht
  simp -dsimp -implicitDefEqProofs [-Option.map_eq_some_iff, -List.map_map, LIM, R_marks_from, fb_marks_from, h1, h4]
theorem e_end_from {bits s : Nat} {t : Tb} {text : List Nat} (h : SnOk bits t) (hs : s < t.length) (ht : TxOk bits text) : R_end_from [snD bits t, nD s, nsT text] = some (.ret (nD (wayF t s text).2)) := by
  have h1 := e_need_asked h hs ht
  have h4 := e_way_of h hs ht
  simp -dsimp -implicitDefEqProofs [-Option.map_eq_some_iff, -List.map_map, LIM, R_end_from, fb_end_from, h1, h4]
end Sc
set_option maxRecDepth 100000
set_option maxHeartbeats 1000000
namespace Sc
open PySem PySem.Spec PyProof.Rows L2
/-! ### own objects, computed -/
@[simp] theorem fe_lines : (("" : Str) = "lines") = False := eq_false (by decide +kernel)
@[simp] theorem fe_lines_letters : (("lines" : Str) = "letters") = False := eq_false (by decide +kernel)
@[simp] theorem fe_lines_order : (("lines" : Str) = "order") = False := eq_false (by decide +kernel)
@[simp] theorem fe_lines_texts : (("lines" : Str) = "texts") = False := eq_false (by decide +kernel)
@[simp] theorem fe_lines_numbers : (("lines" : Str) = "numbers") = False := eq_false (by decide +kernel)
@[simp] theorem fe_lines_table : (("lines" : Str) = "table") = False := eq_false (by decide +kernel)
@[simp] theorem fe_lines_step_of : (("lines" : Str) = "step_of") = False := eq_false (by decide +kernel)
@[simp] theorem fe_letters : (("" : Str) = "letters") = False := eq_false (by decide +kernel)
@[simp] theorem fe_letters_lines : (("letters" : Str) = "lines") = False := eq_false (by decide +kernel)
@[simp] theorem fe_letters_order : (("letters" : Str) = "order") = False := eq_false (by decide +kernel)
@[simp] theorem fe_letters_texts : (("letters" : Str) = "texts") = False := eq_false (by decide +kernel)
@[simp] theorem fe_letters_numbers : (("letters" : Str) = "numbers") = False := eq_false (by decide +kernel)
@[simp] theorem fe_letters_table : (("letters" : Str) = "table") = False := eq_false (by decide +kernel)
@[simp] theorem fe_letters_step_of : (("letters" : Str) = "step_of") = False := eq_false (by decide +kernel)
@[simp] theorem fe_order : (("" : Str) = "order") = False := eq_false (by decide +kernel)
@[simp] theorem fe_order_lines : (("order" : Str) = "lines") = False := eq_false (by decide +kernel)
@[simp] theorem fe_order_letters : (("order" : Str) = "letters") = False := eq_false (by decide +kernel)
@[simp] theorem fe_order_texts : (("order" : Str) = "texts") = False := eq_false (by decide +kernel)
@[simp] theorem fe_order_numbers : (("order" : Str) = "numbers") = False := eq_false (by decide +kernel)
@[simp] theorem fe_order_table : (("order" : Str) = "table") = False := eq_false (by decide +kernel)
@[simp] theorem fe_order_step_of : (("order" : Str) = "step_of") = False := eq_false (by decide +kernel)
@[simp] theorem fe_texts : (("" : Str) = "texts") = False := eq_false (by decide +kernel)
@[simp] theorem fe_texts_lines : (("texts" : Str) = "lines") = False := eq_false (by decide +kernel)
@[simp] theorem fe_texts_letters : (("texts" : Str) = "letters") = False := eq_false (by decide +kernel)
@[simp] theorem fe_texts_order : (("texts" : Str) = "order") = False := eq_false (by decide +kernel)
@[simp] theorem fe_texts_numbers : (("texts" : Str) = "numbers") = False := eq_false (by decide +kernel)
@[simp] theorem fe_texts_table : (("texts" : Str) = "table") = False := eq_false (by decide +kernel)
@[simp] theorem fe_texts_step_of : (("texts" : Str) = "step_of") = False := eq_false (by decide +kernel)
@[simp] theorem fe_numbers : (("" : Str) = "numbers") = False := eq_false (by decide +kernel)
@[simp] theorem fe_numbers_lines : (("numbers" : Str) = "lines") = False := eq_false (by decide +kernel)
@[simp] theorem fe_numbers_letters : (("numbers" : Str) = "letters") = False := eq_false (by decide +kernel)
@[simp] theorem fe_numbers_order : (("numbers" : Str) = "order") = False := eq_false (by decide +kernel)
@[simp] theorem fe_numbers_texts : (("numbers" : Str) = "texts") = False := eq_false (by decide +kernel)
@[simp] theorem fe_numbers_table : (("numbers" : Str) = "table") = False := eq_false (by decide +kernel)
@[simp] theorem fe_numbers_step_of : (("numbers" : Str) = "step_of") = False := eq_false (by decide +kernel)
@[simp] theorem fe_table : (("" : Str) = "table") = False := eq_false (by decide +kernel)
@[simp] theorem fe_table_lines : (("table" : Str) = "lines") = False := eq_false (by decide +kernel)
@[simp] theorem fe_table_letters : (("table" : Str) = "letters") = False := eq_false (by decide +kernel)
@[simp] theorem fe_table_order : (("table" : Str) = "order") = False := eq_false (by decide +kernel)
@[simp] theorem fe_table_texts : (("table" : Str) = "texts") = False := eq_false (by decide +kernel)
@[simp] theorem fe_table_numbers : (("table" : Str) = "numbers") = False := eq_false (by decide +kernel)
@[simp] theorem fe_table_step_of : (("table" : Str) = "step_of") = False := eq_false (by decide +kernel)
@[simp] theorem fe_step_of : (("" : Str) = "step_of") = False := eq_false (by decide +kernel)
@[simp] theorem fe_step_of_lines : (("step_of" : Str) = "lines") = False := eq_false (by decide +kernel)
@[simp] theorem fe_step_of_letters : (("step_of" : Str) = "letters") = False := eq_false (by decide +kernel)
@[simp] theorem fe_step_of_order : (("step_of" : Str) = "order") = False := eq_false (by decide +kernel)
@[simp] theorem fe_step_of_texts : (("step_of" : Str) = "texts") = False := eq_false (by decide +kernel)
@[simp] theorem fe_step_of_numbers : (("step_of" : Str) = "numbers") = False := eq_false (by decide +kernel)
@[simp] theorem fe_step_of_table : (("step_of" : Str) = "table") = False := eq_false (by decide +kernel)
section
variable {ρ : Env} {i : Nat} {c f : Str} {g : VF} {fe : ED} {d : D} {ds : List D} {b w : Bool} {fs : Fs} {kvs : List (D × D)}
@[simp] theorem z_fsOf {c' : Str} : fsOf c (some (.ob w c' fs)) = if c' = c then some (w, fs) else none := rfl
@[simp] theorem z_lookn : lookFl f [] = none := rfl
@[simp] theorem z_lookc {h : Str} {y : Bool × Fl} {r : Fs} : lookFl f ((h, y) :: r) = if h = f then some y else lookFl f r := rfl
@[simp] theorem z_putn {y : Bool × Fl} : putFl f y [] = [(f, y)] := rfl
@[simp] theorem z_putc {h : Str} {x y : Bool × Fl} {r : Fs} : putFl f x ((h, y) :: r) = if h = f then (h, x) :: r else (h, y) :: putFl f x r := rfl
@[simp] theorem z_vnm : vnm i ρ = (match ρ[i]? with
  | some (.fz d) => some d
  | some (.ar d) => some d
  | _ => none) := rfl
@[simp] theorem z_vk : vk d ρ = some d := rfl
def fvR (ρ : Env) : Option (Bool × Fl) → Option (Res × Env)
  | some (_, .v d) => some (.ar d, ρ)
  | _ => none
@[simp] theorem z_fv : fvF i c f ρ = bnd (fsOf c ρ[i]?) fun fs => fvR ρ (lookFl f fs.2) := rfl
@[simp] theorem z_fvR : fvR ρ (some (b, .v d)) = some (.ar d, ρ) := rfl
def flnR (ρ : Env) : Option (Bool × Fl) → Option (Res × Env)
  | some (_, .l ds) => some (.fz (.int ds.length), ρ)
  | _ => none
@[simp] theorem z_fln : flnF i c f ρ = bnd (fsOf c ρ[i]?) fun fs => flnR ρ (lookFl f fs.2) := rfl
@[simp] theorem z_flnR : flnR ρ (some (b, .l ds)) = some (.fz (.int ds.length), ρ) := rfl
def fixR (ρ : Env) : Option (Bool × Fl) → Option D → Option (Res × Env)
  | some (_, .l ds), some (.int j) => bnd (atI ds j) fun d => some (.ar d, ρ)
  | _, _ => none
@[simp] theorem z_fix : fixF i c f g ρ = bnd (fsOf c ρ[i]?) fun fs => fixR ρ (lookFl f fs.2) (g ρ) := by
  unfold fixF bnd fixR
  simp only [map_bnd]
  try rfl
@[simp] theorem z_fixR {j : Int} : fixR ρ (some (b, .l ds)) (some (.int j)) = bnd (atI ds j) fun d => some (.ar d, ρ) := rfl
def ftgR (ρ : Env) : Option (Bool × Fl) → Option D → Option (Res × Env)
  | some (_, .t kvs), some d => if okTK d then bnd (getK kvs d) fun x => some (.ar x, ρ) else none
  | _, _ => none
@[simp] theorem z_ftg : ftgF i c f g ρ = bnd (fsOf c ρ[i]?) fun fs => ftgR ρ (lookFl f fs.2) (g ρ) := by
  unfold ftgF bnd ftgR
  simp only [map_bnd]
  try rfl
@[simp] theorem z_ftgR : ftgR ρ (some (b, .t kvs)) (some d) = if okTK d then bnd (getK kvs d) fun x => some (.ar x, ρ) else none := rfl
def ftnR (neg : Bool) (ρ : Env) : Option (Bool × Fl) → Option D → Option (Res × Env)
  | some (_, .t kvs), some d => if okTK d then some (.fz (.bl (if neg then !(getK kvs d).isSome else (getK kvs d).isSome)), ρ) else none
  | _, _ => none
@[simp] theorem z_ftn {neg : Bool} : ftnF neg i c f g ρ = bnd (fsOf c ρ[i]?) fun fs => ftnR neg ρ (lookFl f fs.2) (g ρ) := rfl
@[simp] theorem z_ftnR {neg : Bool} : ftnR neg ρ (some (b, .t kvs)) (some d) = if okTK d then some (.fz (.bl (if neg then !(getK kvs d).isSome else (getK kvs d).isSome)), ρ) else none := rfl
@[simp] theorem z_flV1 : flV (.fz d) = some (.v d) := rfl
@[simp] theorem z_flV2 : flV (.ar d) = some (.v d) := rfl
@[simp] theorem z_flV3 : flV (.nw ds) = some (.l ds) := rfl
@[simp] theorem z_flV4 : flV (.nd []) = some (.t []) := rfl
@[simp] theorem z_flV5 : flV (.nt kvs) = some (.t kvs) := rfl
@[simp] theorem z_sf : sfS i c f fe ρ = bnd (fe ρ) fun p => bnd (fsOf c p.2[i]?) fun fs => if fs.2.length < 1000 then bnd (flV p.1) fun x => some (.nx (p.2.set i (.ob fs.1 c (putFl f (false, x) fs.2)))) else none := by
  unfold sfS bnd
  simp only [map_bnd]
  rfl
def ftsR (i : Nat) (c f : Str) (v : D) (ρ : Env) (fs : Bool × Fs) : Option (Bool × Fl) → Option D → Option Out
  | some (b, .t kvs), some d => if okTK d ∧ kvs.length ≤ LIM then some (.nx (ρ.set i (.ob fs.1 c (putFl f (b, .t (putKD kvs d v)) fs.2)))) else none
  | _, _ => none
@[simp] theorem z_fts : ftsS i c f g fe ρ = bnd (itF fe ρ) fun p => bnd (fsOf c p.2[i]?) fun fs => ftsR i c f p.1.2 p.2 fs (lookFl f fs.2) (g p.2) := rfl
@[simp] theorem z_ftsR {v : D} {q : Bool × Fs} : ftsR i c f v ρ q (some (b, .t kvs)) (some d) = if okTK d ∧ kvs.length ≤ LIM then some (.nx (ρ.set i (.ob q.1 c (putFl f (b, .t (putKD kvs d v)) q.2)))) else none := rfl
@[simp] theorem z_isLF : isLF (some (b, .l ds)) = true := rfl
def fapR (i : Nat) (c f : Str) (fs : Bool × Fs) (p : (Bool × D) × Env) (fs2 : Bool × Fs) : Option (Bool × Fl) → Option (Res × Env)
  | some (true, .l ds) => if noFlg i p.2 = true ∧ ds.length < LIM then some (.fz .non, p.2.set i (.ob (fs2.1 && fs.1) c (putFl f (flgOf f fs.2, .l (ds ++ [p.1.2])) (andFl fs.2 fs2.2)))) else none
  | _ => none
@[simp] theorem z_fap : fapF i c f fe ρ = bnd (fsOf c ρ[i]?) fun fs => if noFlg i ρ = true ∧ (("" : Str) :: fs.2.map (·.1)).Nodup ∧ isLF (lookFl f fs.2) = true then bnd (itF fe (ρ.set i (.ob true c (allFl fs.2)))) fun p => bnd (fsOf c p.2[i]?) fun fs2 => fapR i c f fs p fs2 (lookFl f fs2.2) else none := rfl
@[simp] theorem z_fapR {q q2 : Bool × Fs} {p : (Bool × D) × Env} : fapR i c f q p q2 (some (true, .l ds)) = if noFlg i p.2 = true ∧ ds.length < LIM then some (.fz .non, p.2.set i (.ob (q2.1 && q.1) c (putFl f (flgOf f q.2, .l (ds ++ [p.1.2])) (andFl q.2 q2.2)))) else none := rfl
theorem noFlg0 {s : Sc.Slot} {ρ : Env} : noFlg 0 (s :: ρ) = ρ.all fun x => calmS (some x) := by
  unfold noFlg
  rw [Bool.eq_iff_iff, List.all_eq_true, List.all_eq_true]
  constructor
  · intro h x m
    obtain ⟨j, hj⟩ := List.getElem?_of_mem m
    have := h (j + 1) (by have := (List.getElem?_eq_some_iff.mp hj).1; simp; omega)
    rw [List.getElem?_cons_succ, hj] at this
    simpa using this
  · intro h j _
    cases j with
    | zero => rfl
    | succ j =>
      rw [List.getElem?_cons_succ]
      cases e : ρ[j]? with
      | none => simp [calmS]
      | some x => simp [h x (List.mem_of_getElem? e)]
@[simp] theorem z_noFlg {s : Sc.Slot} {ρ : Env} : noFlg 0 (s :: ρ) = ρ.all fun x => calmS (some x) := noFlg0
@[simp] theorem z_calm1 : calmS (some .emp) = true := rfl
@[simp] theorem z_calm2 : calmS (some (.ar d)) = true := rfl
@[simp] theorem z_calm3 : calmS (some (.fz d)) = true := rfl
@[simp] theorem z_calm4 : calmS (some (.ow ds)) = true := rfl
@[simp] theorem z_calm5 : calmS (some (.od kvs)) = true := rfl
def mcR (i : Nat) (c : Str) (f1 : Bool × Fs) (ρ : Env) : Ret × Fs → Option (Res × Env)
  | (.ret d, fs) => some (.fz d, ρ.set i (.ob f1.1 c (andFl f1.2 fs)))
  | _ => none
@[simp] theorem z_mc {m : Str} {n : Nat} {F : OF} {es : List ED} : mcF i c m n F es ρ = bnd (fsOf c ρ[i]?) fun f0 => if lookFl m f0.2 = none then bnd (argsF es ρ) fun p => bnd (views p.2 p.1) fun ps => bnd (fsOf c p.2[i]?) fun f1 => if (ps.length = n ∧ p.1.all isFr = true) ∧ (("" : Str) :: f1.2.map (·.1)).Nodup then bnd (F (allFl f1.2) (ps.map (·.2))) (mcR i c f1 p.2) else none else none := by
  unfold mcF bnd
  congr 1; funext f0
  split
  · congr 1; funext p; congr 1; funext ps; congr 1; funext f1
    split
    · congr 1; funext r
      obtain ⟨r1, r2⟩ := r
      cases r1 <;> rfl
    · rfl
  · rfl
@[simp] theorem z_mcR {q : Bool × Fs} : mcR i c q ρ (.ret d, fs) = some (.fz d, ρ.set i (.ob q.1 c (andFl q.2 fs))) := rfl
@[simp] theorem z_isFr1 : isFr (.fz d) = true := rfl
@[simp] theorem z_isFr2 : isFr (.ar d) = true := rfl
def mkR' (c : Str) (ρ : Env) : Ret × Fs → Option (Res × Env)
  | (.ret .non, fs) => some (.no c (clrFl fs), ρ)
  | _ => none
@[simp] theorem z_mkF' {n : Nat} {F : OF} {es : List ED} : mkF c n F es ρ = bnd (argsF es ρ) fun p => bnd (views p.2 p.1) fun ps => if ps.length = n ∧ p.1.all isFr = true then bnd (F [] (ps.map (·.2))) (mkR' c p.2) else none := by
  unfold mkF bnd
  congr 1; funext p; congr 1; funext ps
  split
  · congr 1; funext r
    obtain ⟨r1, r2⟩ := r
    cases r1 with
    | ret d => cases d <;> rfl
    | exc c => rfl
  · rfl
@[simp] theorem z_mkR' : mkR' c ρ (.ret .non, fs) = some (.no c (clrFl fs), ρ) := rfl
@[simp] theorem z_cn {n : Nat} {F : NRF} {es : List ED} : cnF c n F es ρ = bnd (argsF es ρ) fun p => bnd (views p.2 p.1) fun ps => if ps.length = n then bnd (F (ps.map (·.2))) fun r => if flsN r then some (.no c (clrFl r), p.2) else none else none := rfl
def nfL (ρ : Env) : Option (Bool × Fl) → Option (Res × Env)
  | some (_, .v d) => some (.ar d, ρ)
  | some (_, .l ds) => if noLs ds then some (.nw ds, ρ) else none
  | _ => none
def nfR (c f : Str) : Res × Env → Option (Res × Env)
  | (.no c' fs, ρ) => if c' = c then nfL ρ (lookFl f fs) else none
  | _ => none
@[simp] theorem z_nf {e : ED} : nfF c f e ρ = bnd (e ρ) (nfR c f) := by
  unfold nfF bnd
  congr 1; funext p
  obtain ⟨r, ρ⟩ := p
  cases r <;> rfl
@[simp] theorem z_nfR {c' : Str} : nfR c f (.no c' fs, ρ) = if c' = c then nfL ρ (lookFl f fs) else none := rfl
@[simp] theorem z_nfL1 : nfL ρ (some (b, .l ds)) = if noLs ds then some (.nw ds, ρ) else none := rfl
@[simp] theorem z_nfL2 : nfL ρ (some (b, .v d)) = some (.ar d, ρ) := rfl
@[simp] theorem z_tdp {e1 e2 : ED} : tdpF e1 e2 ρ = bnd (itF e1 ρ) fun k => bnd (itF e2 k.2) fun v => if okTK k.1.2 ∧ v.1.1 = true then some (.nt [(k.1.2, v.1.2)], v.2) else none := rfl
@[simp] theorem z_myFs {c' : Str} {r : Env} : myFs c (.ob true c' fs :: r) = if c' = c then some fs else none := by
  show (if c' = c then some (true, fs) else none).bind _ = _
  split <;> rfl
@[simp] theorem z_runO {n : Nat} {fb : FS} {es : List D} : runO c n fb fs es = bnd (fb (.ob true c fs :: envOf n es)) (outO c) := rfl
@[simp] theorem z_outO1 {r : Env} : outO c (.nx r) = bnd (myFs c r) fun fs => some (.ret .non, fs) := by
  show (myFs c r).map _ = _
  rw [map_bnd]
@[simp] theorem z_outO2 {r : Env} : outO c (.rt d r) = bnd (myFs c r) fun fs => some (.ret d, fs) := by
  show (myFs c r).map _ = _
  rw [map_bnd]
@[simp] theorem z_alln : allFl [] = [] := rfl
@[simp] theorem z_allc {h : Str} {x : Fl} {r : Fs} : allFl ((h, b, x) :: r) = (h, true, x) :: allFl r := rfl
@[simp] theorem z_clrn : clrFl [] = [] := rfl
@[simp] theorem z_clrc {h : Str} {x : Fl} {r : Fs} : clrFl ((h, b, x) :: r) = (h, false, x) :: clrFl r := rfl
@[simp] theorem z_andn {q : Fs} : andFl q [] = [] := rfl
@[simp] theorem z_andc {q : Fs} {h : Str} {x : Fl} {r : Fs} : andFl q ((h, b, x) :: r) = (h, b && flgOf h q, x) :: andFl q r := rfl
@[simp] theorem z_flgn : flgOf f [] = false := rfl
@[simp] theorem z_flgc {h : Str} {x : Fl} {r : Fs} : flgOf f ((h, b, x) :: r) = if h = f then b else flgOf f r := by
  by_cases z : h = f <;> simp [flgOf, lookFl, z]
end
/-! ### stands -/
def kvO (o : List (List Nat)) : List (D × D) := o.map fun c => (nsT c, nD (o.idxOf c))
def stF (b : Bool) (ls : List Ln) (L : Nat) (o x : List (List Nat)) (t : Tb) : Fs := [("lines", b, .v (lsD ls)), ("letters", b, .v (nD L)), ("order", b, .l (o.map nsT)), ("texts", b, .l (x.map nsT)), ("numbers", b, .t (kvO o)), ("table", b, .l (t.map rwD))]
theorem nsT_inj {a b : List Nat} (h : nsT a = nsT b) : a = b := nsD_inj (D.tup.inj h)
theorem nk_ints : ∀ c : List Nat, nkD.nkDs (c.map nD) = some (c.map fun (x : Nat) => NestedKey.num (x : Int))
  | [] => rfl
  | x :: c => by
    rw [List.map_cons, nkD.nkDs, nk_ints c]
    rfl
theorem dp_ints' : ∀ c : List Nat, NestedKey.depthAll (c.map fun (x : Nat) => NestedKey.num (x : Int)) ≤ 1
  | [] => by simp [NestedKey.depthAll]
  | x :: c => by
    rw [List.map_cons, NestedKey.depthAll]
    have := dp_ints' c
    simp [NestedKey.depth]
    omega
@[simp] theorem okTK_nsT (c : List Nat) : okTK (nsT c) = true := by
  unfold okTK
  have h := nk_ints c
  have h2 := dp_ints' c
  rw [show nkD (nsT c) = some (.tup (c.map fun (x : Nat) => NestedKey.num (x : Int))) by rw [nkD, h]; rfl]
  simp [isTK, NestedKey.depth]
  omega
theorem nk_sts : ∀ r : List (Nat × Nat), nkD.nkDs (r.map stD') = some (r.map fun s => NestedKey.tup [.num (s.1 : Int), .num (s.2 : Int)])
  | [] => rfl
  | x :: c => by
    rw [List.map_cons, nkD.nkDs, nk_sts c]
    rfl
theorem dp_sts : ∀ r : List (Nat × Nat), NestedKey.depthAll (r.map fun s => NestedKey.tup [.num (s.1 : Int), .num (s.2 : Int)]) ≤ 3
  | [] => by simp [NestedKey.depthAll]
  | x :: c => by
    rw [List.map_cons, NestedKey.depthAll]
    have := dp_sts c
    simp [NestedKey.depth, NestedKey.depthAll]
    omega
@[simp] theorem okTK_rwD (r : List (Nat × Nat)) : okTK (rwD r) = true := by
  unfold okTK
  have h := nk_sts r
  have h2 := dp_sts r
  rw [show nkD (rwD r) = some (.tup (r.map fun s => NestedKey.tup [.num (s.1 : Int), .num (s.2 : Int)])) by rw [nkD, h]; rfl]
  simp [isTK, NestedKey.depth]
  omega
theorem kvO_any (o : List (List Nat)) (g : List Nat → Nat) (c : List Nat) : ((o.map fun j => (nsT j, nD (g j))).any fun kv => decide (kv.1 = nsT c)) = decide (c ∈ o) := by
  induction o with
  | nil => rfl
  | cons j ks ih =>
    rw [List.map_cons, List.any_cons, ih]
    by_cases z : j = c
    · subst z; simp
    · have z2 : ¬ nsT j = nsT c := fun y => z (nsT_inj y)
      rw [decide_eq_false z2]
      simp [Ne.symm z]
theorem kvO_some (o : List (List Nat)) (c : List Nat) : (getK (kvO o) (nsT c)).isSome = decide (c ∈ o) := by
  unfold getK kvO
  rw [← kvO_any o (fun c => o.idxOf c) c]
  rw [Option.isSome_map, Bool.eq_iff_iff, List.find?_isSome, List.any_eq_true]
theorem kvO_get' {g : List Nat → Nat} {c : List Nat} : ∀ {o : List (List Nat)}, c ∈ o → getK (o.map fun j => (nsT j, nD (g j))) (nsT c) = some (nD (g c))
  | j :: ks, h => by
    unfold getK
    rw [List.map_cons, List.find?_cons]
    by_cases z : j = c
    · subst z; simp
    · have z2 : ¬ nsT j = nsT c := fun y => z (nsT_inj y)
      rw [decide_eq_false z2]
      rcases List.mem_cons.mp h with rfl | h
      · exact (z rfl).elim
      · exact kvO_get' h
theorem kvO_get {o : List (List Nat)} {c : List Nat} (h : c ∈ o) : getK (kvO o) (nsT c) = some (nD (o.idxOf c)) := kvO_get' (g := fun c => o.idxOf c) h
theorem kvO_put {o : List (List Nat)} {c : List Nat} (h : c ∉ o) : putKD (kvO o) (nsT c) (nD o.length) = kvO (o ++ [c]) := by
  unfold putKD kvO
  rw [kvO_any o (fun c => o.idxOf c) c, decide_eq_false h, if_neg (by simp), List.map_append, List.map_singleton]
  congr 1
  · refine List.map_congr_left fun j m => ?_
    rw [List.idxOf_append, if_pos m]
  · rw [List.idxOf_append, if_neg h]
    simp
/-- a letter at a stand -/
def stepO (ls : List Ln) (o x : List (List Nat)) (here l : Nat) : (Nat × Nat) × List (List Nat) × List (List Nat) :=
  let q := placeF ls (o.getD here []) l
  if q.2 ∈ o then ((lastOf q.1, o.idxOf q.2), o, x) else ((lastOf q.1, o.length), o ++ [q.2], x ++ [x.getD here [] ++ [l]])
theorem e_step_of {bits : Nat} {ls : List Ln} {L l : Nat} {o x : List (List Nat)} {t : Tb} (hb : bits ≤ 3) (hl : LsOk' bits ls) (h1 : ls ≠ []) (hn : ls.length ≤ 50000) (ho : ∀ c ∈ o, CsOk ls c) (ht : t.length < o.length) (hx : x.length = o.length) (hs : o.length < 2000) (hxl : ∀ y ∈ x, y.length < 3000) :
    R_Stands_step_of (stF true ls L o x t) [nD l, nD 2000] = some (.ret (stD' (stepO ls o x t.length l).1), stF true ls L (stepO ls o x t.length l).2.1 (stepO ls o x t.length l).2.2 t) := by
  have hat := List.getElem?_eq_getElem ht
  have hmem := List.getElem_mem ht
  have hatx := List.getElem?_eq_getElem (show t.length < x.length by omega)
  have hmx := hxl _ (List.getElem_mem (show t.length < x.length by omega))
  have e1 : o.getD t.length [] = o[t.length] := by rw [List.getD_eq_getElem?_getD, hat]; rfl
  have e2 : x.getD t.length [] = x[t.length] := by rw [List.getD_eq_getElem?_getD, hatx]; rfl
  unfold stepO
  rw [e1, e2]
  generalize o[t.length] = cs at hat hmem
  generalize x[t.length] = w at hatx hmx
  have hc := ho cs hmem
  have hp := e_place_bits (x := l) hb hl hn hc.bits hc.len
  have P := placeF_inv (ls := ls) (x := l) hc.bits
  have hne : (placeF ls cs l).1 ≠ [] := fun z => by have := P.l1; rw [z] at this; exact h1 (List.length_eq_zero_iff.mp this.symm)
  have hcl : o.length < 1000000 := by omega
  have hkv : (kvO o).length ≤ 1000000 := by simp [kvO]; omega
  have hw : w.length < 1000000 := by omega
  have hxl' : x.length < 1000000 := by omega
  dsimp only
  by_cases z : (placeF ls cs l).2 ∈ o
  · rw [if_pos z]
    simp -dsimp -implicitDefEqProofs [-Option.map_eq_some_iff, -List.map_map, LIM, R_Stands_step_of, fb_Stands_step_of, stF, atI_map' hat, hp, kvO_some, z, at_last hne, kvO_get z]
  · rw [if_neg z]
    have z3 : ((o.length : Nat) : Int) ≠ 2000 := by omega
    have hw' : w.length ≤ 999999 := by omega
    have z4 : (placeF ls cs l).2 ∈ o ++ [(placeF ls cs l).2] := by simp
    have z5 : (o ++ [(placeF ls cs l).2]).idxOf (placeF ls cs l).2 = o.length := by rw [List.idxOf_append, if_neg z]; simp
    have z6 := kvO_get z4
    rw [z5] at z6
    simp -dsimp -implicitDefEqProofs [-Option.map_eq_some_iff, -List.map_map, LIM, R_Stands_step_of, fb_Stands_step_of, stF, atI_map' hat, hp, kvO_some, z, at_last hne, kvO_put z, z6, hcl, hkv, z3, atI_map' hatx, hw', hxl', hx]
structure StI (ls : List Ln) (L : Nat) (o x : List (List Nat)) (t : Tb) : Prop where
  nd : o.Nodup
  cs : ∀ c ∈ o, CsOk ls c
  xl : x.length = o.length
  xs : ∀ y ∈ x, y.length < o.length
  z : o[0]? = some (zeros ls)
  row : ∀ (i : Nat) (r : List (Nat × Nat)), t[i]? = some r → ∃ c, o[i]? = some c ∧ r.length = L ∧ ∀ l, l < L → r[l]? = some (lastOf (placeF ls c l).1, o.idxOf (placeF ls c l).2) ∧ (placeF ls c l).2 ∈ o
theorem rowNum_inj {a b : List Nat} (hl : a.length = b.length) (ha : Bits a) (hb : Bits b) (h : rowNum a = rowNum b) : a = b := by
  refine List.ext_getElem hl fun i h1 h2 => ?_
  have e1 := rowNum_bit i ha
  have e2 := rowNum_bit i hb
  rw [h, e2] at e1
  unfold at0 at e1
  rw [List.getD_eq_getElem?_getD, List.getD_eq_getElem?_getD, List.getElem?_eq_getElem h1, List.getElem?_eq_getElem h2] at e1
  exact e1.symm
theorem rowNum_lt : ∀ {a : List Nat}, Bits a → rowNum a < 2 ^ a.length
  | [], _ => by decide
  | x :: a, h => by
    have ih := rowNum_lt (a := a) fun y m => h y (by simp [m])
    have hx := h x (by simp)
    have e : rowNum (x :: a) = 2 * rowNum a + x := rfl
    rw [e, List.length_cons, Nat.pow_succ]
    omega
theorem few_stands {ls : List Ln} {o : List (List Nat)} (hn : o.Nodup) (hc : ∀ c ∈ o, CsOk ls c) : o.length ≤ 2 ^ plusC ls := by
  have h1 : (o.map rowNum).Nodup := by
    rw [List.Nodup, List.pairwise_map]
    refine List.Pairwise.imp_of_mem ?_ hn
    intro a b ma mb hab e
    exact hab (rowNum_inj (by rw [(hc a ma).len, (hc b mb).len]) (hc a ma).bits (hc b mb).bits e)
  have h2 := nodup_le (n := 2 ^ plusC ls) h1 fun k m => by
    obtain ⟨c, mc, rfl⟩ := List.mem_map.mp m
    have := rowNum_lt (hc c mc).bits
    rw [(hc c mc).len] at this
    exact this
  simpa using h2
/-- more stands: what is told stays -/
theorem idx_app {o e : List (List Nat)} {c : List Nat} (h : c ∈ o) : (o ++ e).idxOf c = o.idxOf c := by rw [List.idxOf_append, if_pos h]
def rowStep (ls : List Ln) (here : Nat) (s : List (Nat × Nat) × List (List Nat) × List (List Nat)) (l : Nat) : List (Nat × Nat) × List (List Nat) × List (List Nat) :=
  (s.1 ++ [(stepO ls s.2.1 s.2.2 here l).1], (stepO ls s.2.1 s.2.2 here l).2.1, (stepO ls s.2.1 s.2.2 here l).2.2)
def rowF (ls : List Ln) (here L : Nat) (o x : List (List Nat)) := (List.range L).foldl (rowStep ls here) ([], o, x)
/-- between two letters of a row -/
structure RwI (ls : List Ln) (o0 : List (List Nat)) (here k : Nat) (cs : List Nat) (s : List (Nat × Nat) × List (List Nat) × List (List Nat)) : Prop where
  nd : s.2.1.Nodup
  all : ∀ c ∈ s.2.1, CsOk ls c
  xl : s.2.2.length = s.2.1.length
  xs : ∀ y ∈ s.2.2, y.length < s.2.1.length
  pre : ∃ e, s.2.1 = o0 ++ e
  at_ : s.2.1[here]? = some cs
  len : s.1.length = k
  row : ∀ l, l < k → s.1[l]? = some (lastOf (placeF ls cs l).1, s.2.1.idxOf (placeF ls cs l).2) ∧ (placeF ls cs l).2 ∈ s.2.1
theorem RwI.step {ls : List Ln} {o0 : List (List Nat)} {here k : Nat} {cs : List Nat} {s : List (Nat × Nat) × List (List Nat) × List (List Nat)} (I : RwI ls o0 here k cs s) : RwI ls o0 here (k + 1) cs (rowStep ls here s k) := by
  obtain ⟨r, o, x⟩ := s
  obtain ⟨nd, hc, xl, xs, ⟨e, pre⟩, at_, len, row⟩ := I
  dsimp only at nd hc xl xs pre at_ len row
  have hmem := List.mem_of_getElem? at_
  have hh := (List.getElem?_eq_some_iff.mp at_).1
  have P := placeF_inv (ls := ls) (x := k) (hc cs hmem).bits
  have e1 : o.getD here [] = cs := by rw [List.getD_eq_getElem?_getD, at_]; rfl
  have hatx := List.getElem?_eq_getElem (show here < x.length by omega)
  have hmx := xs _ (List.getElem_mem (show here < x.length by omega))
  have e2 : x.getD here [] = x[here] := by rw [List.getD_eq_getElem?_getD, hatx]; rfl
  unfold rowStep stepO
  dsimp only
  rw [e1, e2]
  generalize x[here] = w at hmx
  by_cases z : (placeF ls cs k).2 ∈ o
  · rw [if_pos z]
    refine ⟨nd, hc, xl, xs, ⟨e, pre⟩, at_, by simp [len], fun l hl => ?_⟩
    dsimp only
    by_cases y : l < k
    · rw [List.getElem?_append_left (by omega)]
      exact row l y
    · have : l = k := by omega
      subst this
      rw [← len, List.getElem?_append_right (Nat.le_refl _)]
      rw [len]
      simp
      exact z
  · rw [if_neg z]
    refine ⟨?_, fun c m => ?_, by simp [xl], fun y m => ?_, ⟨e ++ [(placeF ls cs k).2], ?_⟩, ?_, by simp [len], fun l hl => ?_⟩ <;> try dsimp only
    · rw [List.nodup_append]
      exact ⟨nd, by simp, fun a m b m2 q => z (by rw [List.mem_singleton.mp m2] at q; rw [← q]; exact m)⟩
    · rcases List.mem_append.mp m with m | m
      · exact hc c m
      · rw [List.mem_singleton.mp m]; exact ⟨P.l2, P.b2⟩
    · rw [List.length_append, List.length_singleton]
      rcases List.mem_append.mp m with m | m
      · have := xs y m; omega
      · rw [List.mem_singleton.mp m]; simp; omega
    · rw [pre, List.append_assoc]
    · rw [List.getElem?_append_left hh]; exact at_
    · by_cases y : l < k
      · rw [List.getElem?_append_left (by omega)]
        obtain ⟨h1, h2⟩ := row l y
        rw [idx_app h2]
        exact ⟨h1, List.mem_append_left _ h2⟩
      · have : l = k := by omega
        subst this
        rw [← len, List.getElem?_append_right (Nat.le_refl _), len]
        rw [List.idxOf_append, if_neg z]
        simp
theorem row_go {ls : List Ln} {o0 : List (List Nat)} {here : Nat} {cs : List Nat} : ∀ (L k : Nat) (s : List (Nat × Nat) × List (List Nat) × List (List Nat)), RwI ls o0 here k cs s → RwI ls o0 here (k + L) cs ((List.range' k L).foldl (rowStep ls here) s)
  | 0, k, s, I => I
  | L + 1, k, s, I => by
    rw [List.range'_succ, List.foldl_cons]
    have := row_go L (k + 1) _ I.step
    rw [show k + (L + 1) = k + 1 + L by omega]
    exact this
/-- a row more -/
theorem StI.step {ls : List Ln} {L : Nat} {o x : List (List Nat)} {t : Tb} (I : StI ls L o x t) (h : t.length < o.length) : StI ls L (rowF ls t.length L o x).2.1 (rowF ls t.length L o x).2.2 (t ++ [(rowF ls t.length L o x).1]) ∧ o.length ≤ (rowF ls t.length L o x).2.1.length := by
  have hat := List.getElem?_eq_getElem h
  generalize o[t.length] = cs at hat
  have R0 : RwI ls o t.length 0 cs ([], o, x) := ⟨I.nd, I.cs, I.xl, I.xs, ⟨[], by simp⟩, hat, rfl, fun l hl => absurd hl (Nat.not_lt_zero _)⟩
  have R := row_go L 0 _ R0
  rw [← List.range_eq_range', Nat.zero_add] at R
  have R' : RwI ls o t.length L cs (rowF ls t.length L o x) := R
  generalize rowF ls t.length L o x = q at R'
  obtain ⟨r, o', x'⟩ := q
  obtain ⟨nd, hc, xl, xs, ⟨e, pre⟩, at_, len, row⟩ := R'
  dsimp only at nd hc xl xs pre at_ len row ⊢
  subst pre
  refine ⟨⟨nd, hc, xl, xs, ?_, fun i r2 hi => ?_⟩, by simp⟩
  · have h0 := (List.getElem?_eq_some_iff.mp I.z).1
    rw [List.getElem?_append_left h0]
    exact I.z
  · by_cases y : i < t.length
    · rw [List.getElem?_append_left y] at hi
      obtain ⟨c, h1, h2, h3⟩ := I.row i r2 hi
      refine ⟨c, by rw [List.getElem?_append_left (List.getElem?_eq_some_iff.mp h1).1]; exact h1, h2, fun l hl => ?_⟩
      obtain ⟨h4, h5⟩ := h3 l hl
      rw [idx_app h5]
      exact ⟨h4, List.mem_append_left _ h5⟩
    · have hi2 := (List.getElem?_eq_some_iff.mp hi).1
      rw [List.length_append, List.length_singleton] at hi2
      have : i = t.length := by omega
      subst this
      rw [List.getElem?_append_right (Nat.le_refl _)] at hi
      simp at hi
      subst hi
      exact ⟨cs, at_, len, row⟩
/-- all stands -/
structure StdOk (ls : List Ln) (L : Nat) (o : List (List Nat)) (t : Tb) : Prop where
  nd : o.Nodup
  cs : ∀ c ∈ o, CsOk ls c
  z : o[0]? = some (zeros ls)
  len : t.length = o.length
  row : ∀ (i : Nat) (c : List Nat), o[i]? = some c → ∃ r, t[i]? = some r ∧ r.length = L ∧ ∀ l, l < L → r[l]? = some (lastOf (placeF ls c l).1, o.idxOf (placeF ls c l).2) ∧ (placeF ls c l).2 ∈ o
theorem StI.fin {ls : List Ln} {L : Nat} {o x : List (List Nat)} {t : Tb} (I : StI ls L o x t) (h : t.length = o.length) : StdOk ls L o t := by
  refine ⟨I.nd, I.cs, I.z, h, fun i c hi => ?_⟩
  have hlt : i < t.length := by rw [h]; exact (List.getElem?_eq_some_iff.mp hi).1
  have hr := List.getElem?_eq_getElem hlt
  obtain ⟨c', h1, h2, h3⟩ := I.row i _ hr
  rw [hi] at h1
  cases h1
  exact ⟨_, hr, h2, h3⟩
end Sc
set_option maxRecDepth 100000
set_option maxHeartbeats 1000000
namespace Sc
open PySem PySem.Spec PyProof.Rows L2
/-! ### all stands, made -/
theorem e_row {p : Pg} {L : Nat} {o x : List (List Nat)} {t : Tb} (h : p.Ok) (hp : plusC p.lines ≤ 10) (I : StI p.lines L o x t) (ht : t.length < o.length) :
    lcL (gnm 3) ttY (mcF 0 "Stands" "step_of" 2 R_Stands_step_of [nmF 3, nmF 2]) [3] (rngL 0 L 1) [.ob true "Stands" (stF true p.lines L o x t), .ar p.d, .ar (nD 2000), .emp] =
      some ((rowF p.lines t.length L o x).1.map stD', [.ob true "Stands" (stF true p.lines L (rowF p.lines t.length L o x).2.1 (rowF p.lines t.length L o x).2.2 t), .ar p.d, .ar (nD 2000), .emp]) := by
  have hat := List.getElem?_eq_getElem ht
  generalize o[t.length] = cs at hat
  have R0 : RwI p.lines o t.length 0 cs ([], o, x) := ⟨I.nd, I.cs, I.xl, I.xs, ⟨[], by simp⟩, hat, rfl, fun l hl => absurd hl (Nat.not_lt_zero _)⟩
  obtain ⟨es, ρ', e1, e2, rfl⟩ := lcL_all (g := gnm 3) (t := ttY) (f := mcF 0 "Stands" "step_of" 2 R_Stands_step_of [nmF 3, nmF 2]) (vs := [3]) (ρ := [.ob true "Stands" (stF true p.lines L o x t), .ar p.d, .ar (nD 2000), .emp]) (fun i : Nat => (true, D.int (0 + (i : Int) * 1)))
    (fun pre ds ρ => ds = ((pre.foldl (rowStep p.lines t.length) ([], o, x)).1.map stD') ∧ ρ = [.ob true "Stands" (stF true p.lines L (pre.foldl (rowStep p.lines t.length) ([], o, x)).2.1 (pre.foldl (rowStep p.lines t.length) ([], o, x)).2.2 t), .ar p.d, .ar (nD 2000), .emp]) (List.range L) ⟨rfl, rfl⟩ (by
      rintro pre l post ds ρ e ⟨rfl, rfl⟩
      obtain ⟨h1, h2, h3⟩ := range_pre e
      have R := row_go pre.length 0 _ R0
      rw [← List.range_eq_range', Nat.zero_add, ← h2] at R
      rw [List.foldl_append, List.foldl_cons, List.foldl_nil]
      generalize pre.foldl (rowStep p.lines t.length) ([], o, x) = s at R ⊢
      obtain ⟨r, o', x'⟩ := s
      obtain ⟨nd, hc, xl, xs, pre', at_, len, row⟩ := R
      dsimp only at nd hc xl xs pre' at_ len row ⊢
      have few := few_stands nd hc
      have few2 : 2 ^ plusC p.lines ≤ 2 ^ 10 := Nat.pow_le_pow_right (by decide) hp
      have hs : o'.length < 2000 := by omega
      have hst := e_step_of (l := l) (L := L) (t := t) h.b3 h.ok h.l1 h.l2 hc (List.getElem?_eq_some_iff.mp at_).1 xl hs (fun y m => by have := xs y m; omega)
      have ha : allFl (stF true p.lines L o' x' t) = stF true p.lines L o' x' t := rfl
      have ha2 : ∀ a b, andFl (stF true p.lines L o' x' t) (stF true p.lines L a b t) = stF true p.lines L a b t := fun a b => by simp [stF]
      have hno : lookFl "step_of" (stF true p.lines L o' x' t) = none := by simp [stF]
      have hk : (("" : Str) :: (stF true p.lines L o' x' t).map (·.1)).Nodup := by simp [stF]
      simp -dsimp -implicitDefEqProofs [-Option.map_eq_some_iff, -List.map_map, LIM, hno, ha, ha2, hst, rowStep, hk]
)
  subst e2
  exact e1
theorem pow3 {b : Nat} (h : b ≤ 3) : smallI ((2 : Int) ^ b) = true ∧ ((2 : Int) ^ b).toNat = 2 ^ b := by
  match b, h with
  | 0, _ => decide
  | 1, _ => decide
  | 2, _ => decide
  | 3, _ => decide
theorem e_init {p : Pg} (h : p.Ok) (hp : plusC p.lines ≤ 10) : ∃ o x t, StdOk p.lines (2 ^ p.bits) o t ∧ R_Stands___init__ [] [p.d, nD 2000] = some (.ret .non, stF false p.lines (2 ^ p.bits) o x t) := by
  have hz := e_noughts_of h.l2
  have I0 : StI p.lines (2 ^ p.bits) [zeros p.lines] [[]] [] := ⟨by simp, fun c m => by rw [List.mem_singleton.mp m]; exact zeros_ok _, rfl, fun y m => by rw [List.mem_singleton.mp m]; simp, rfl, fun i r hi => by simp at hi⟩
  obtain ⟨hsm, ht⟩ := pow3 h.b3
  have h8 := two3 h.b3
  obtain ⟨out, e1, o, x, t, K, rfl⟩ := whS_all (t := tstF (binF (flnF 0 "Stands" "table") (flnF 0 "Stands" "order") oLt)) (b := drS (fapF 0 "Stands" "table" (callF [lcF (rng1I (fvF 0 "Stands" "letters")) (gnm 3) (ttY) (mcF 0 "Stands" "step_of" 2 R_Stands_step_of [nmF 3, nmF 2]) [3]] oTuple)))
    (ρ := [.ob true "Stands" (stF false p.lines (2 ^ p.bits) [zeros p.lines] [[]] []), .ar p.d, .ar (nD 2000), .emp])
    (fun ρ => ∃ o x t, ρ = [.ob true "Stands" (stF false p.lines (2 ^ p.bits) o x t), .ar p.d, .ar (nD 2000), .emp] ∧ StI p.lines (2 ^ p.bits) o x t ∧ t.length ≤ o.length)
    (fun ρ => match ρ with
      | .ob _ _ [_, _, _, _, _, (_, _, .l ds)] :: _ => 2 ^ plusC p.lines - ds.length
      | _ => 0)
    (fun out => ∃ o x t, StdOk p.lines (2 ^ p.bits) o t ∧ out = .nx [.ob true "Stands" (stF false p.lines (2 ^ p.bits) o x t), .ar p.d, .ar (nD 2000), .emp])
    ⟨_, _, _, rfl, I0, by simp⟩ (by
      rintro ρ ⟨o, x, t, rfl, I, hl⟩
      have few := few_stands I.nd I.cs
      by_cases z : t.length < o.length
      · have z' : (t.length : Int) < o.length := by omega
        obtain ⟨I', hle⟩ := I.step z
        have hr := e_row h hp I z
        have few' := few_stands I'.nd I'.cs
        have few2 : 2 ^ plusC p.lines ≤ 2 ^ 10 := Nat.pow_le_pow_right (by decide) hp
        have hlen : (rowF p.lines t.length (2 ^ p.bits) o x).1.length ≤ 8 := by
          obtain ⟨c, _, h3, _⟩ := I'.row t.length (rowF p.lines t.length (2 ^ p.bits) o x).1 (by simp)
          omega
        have hlen' : (rowF p.lines t.length (2 ^ p.bits) o x).1.length ≤ 1000000 := by omega
        have htl : t.length < 1000000 := by omega
        have ha : ∀ o x t, allFl (stF false p.lines (2 ^ p.bits) o x t) = stF true p.lines (2 ^ p.bits) o x t := fun _ _ _ => rfl
        have hk : (("" : Str) :: (stF false p.lines (2 ^ p.bits) o x t).map (·.1)).Nodup := by simp [stF]
        have hla : lookFl "table" (stF false p.lines (2 ^ p.bits) o x t) = some (false, .l (t.map rwD)) := by simp [stF]
        have hlo : lookFl "order" (stF false p.lines (2 ^ p.bits) o x t) = some (false, .l (o.map nsT)) := by simp [stF]
        have hlt : lookFl "letters" (stF true p.lines (2 ^ p.bits) o x t) = some (true, .v (nD (2 ^ p.bits))) := by simp [stF]
        refine ⟨true, [.ob true "Stands" (stF false p.lines (2 ^ p.bits) o x t), .ar p.d, .ar (nD 2000), .emp], ?_, ?_⟩
        rotate_left
        · rw [if_pos rfl]
          refine ⟨.nx [.ob true "Stands" (stF false p.lines (2 ^ p.bits) (rowF p.lines t.length (2 ^ p.bits) o x).2.1 (rowF p.lines t.length (2 ^ p.bits) o x).2.2 (t ++ [(rowF p.lines t.length (2 ^ p.bits) o x).1])), .ar p.d, .ar (nD 2000), .emp], ?_, ⟨_, _, _, rfl, I', by simp; omega⟩, ?_⟩
          · simp -dsimp -implicitDefEqProofs [-Option.map_eq_some_iff, -List.map_map, LIM, ha, hk, hla, hlt, hsm, ht, hr, hlen', htl]
            simp -dsimp -implicitDefEqProofs [-Option.map_eq_some_iff, -List.map_map, LIM, stF, htl]
          · show 2 ^ plusC p.lines - ((t ++ [_]).map rwD).length < 2 ^ plusC p.lines - (t.map rwD).length
            simp
            omega
        · simp -dsimp -implicitDefEqProofs [-Option.map_eq_some_iff, -List.map_map, LIM, hla, hlo, z']
      · have z' : ¬ (t.length : Int) < o.length := by omega
        have hla : lookFl "table" (stF false p.lines (2 ^ p.bits) o x t) = some (false, .l (t.map rwD)) := by simp [stF]
        have hlo : lookFl "order" (stF false p.lines (2 ^ p.bits) o x t) = some (false, .l (o.map nsT)) := by simp [stF]
        refine ⟨false, [.ob true "Stands" (stF false p.lines (2 ^ p.bits) o x t), .ar p.d, .ar (nD 2000), .emp], ?_, ?_⟩
        rotate_left
        · exact ⟨o, x, t, I.fin (by omega), rfl⟩
        · simp -dsimp -implicitDefEqProofs [-Option.map_eq_some_iff, -List.map_map, LIM, hla, hlo, z'])
  refine ⟨o, x, t, K, ?_⟩
  have hb3 := h.b3
  simp -dsimp -implicitDefEqProofs [-Option.map_eq_some_iff, -List.map_map, LIM, R_Stands___init__, fb_Stands___init__, hz, c_LETTERS_BY, lets_is h.b3]
  have hs0 : stF false p.lines (2 ^ p.bits) [zeros p.lines] [[]] [] = ([("lines", false, .v (lsD p.lines)), ("letters", false, .v (nD (2 ^ p.bits))), ("order", false, .l [.tup ((zeros p.lines).map nD)]), ("texts", false, .l [.tup []]), ("numbers", false, .t [(.tup ((zeros p.lines).map nD), .int 0)]), ("table", false, .l [])] : List (Str × Bool × Fl)) := by simp [stF, kvO]
  rw [hs0] at e1
  rw [e1]
  simp -dsimp -implicitDefEqProofs [-Option.map_eq_some_iff, -List.map_map, LIM, ]
theorem e_stands_of {p : Pg} (h : p.Ok) (hp : plusC p.lines ≤ 10) : ∃ o x t, StdOk p.lines (2 ^ p.bits) o t ∧ R_stands_of [p.d] = some (stF false p.lines (2 ^ p.bits) o x t) := by
  obtain ⟨o, x, t, K, e⟩ := e_init h hp
  refine ⟨o, x, t, K, ?_⟩
  have e2 : fe_stands_of (envOf 1 [p.d]) = some (.no "Stands" (stF false p.lines (2 ^ p.bits) o x t), [.ar p.d]) := by
    have e' : R_Stands___init__ [] [p.d, .int 2000] = some (.ret .non, stF false p.lines (2 ^ p.bits) o x t) := e
    simp -dsimp -implicitDefEqProofs [-Option.map_eq_some_iff, -List.map_map, LIM, fe_stands_of, c_MOST_STANDS, e', stF]
  show (match fe_stands_of (envOf 1 [p.d]) with
    | some (.no c' fs, _) => if c' = "Stands" then some fs else none
    | _ => none) = _
  rw [e2]
  simp
/-! ### lots -/
/-- numbers by first sight -/
def firstNo {α : Type} [DecidableEq α] (ks : List α) (k : α) : List α := if k ∈ ks then ks else ks ++ [k]
def keyOf (a : List Nat) (r : List (Nat × Nat)) : List (Nat × Nat) := r.map fun s => (s.1, at0 a s.2)
def lotStep (a : List Nat) (s : List (List (Nat × Nat)) × List Nat) (r : List (Nat × Nat)) : List (List (Nat × Nat)) × List Nat :=
  (firstNo s.1 (keyOf a r), s.2 ++ [(firstNo s.1 (keyOf a r)).idxOf (keyOf a r)])
def lotF (t : Tb) (a : List Nat) : List (List (Nat × Nat)) × List Nat := t.foldl (lotStep a) ([], [])
def kvK (ks : List (List (Nat × Nat))) : List (D × D) := ks.map fun k => (rwD k, nD (ks.idxOf k))
theorem stD_inj {a b : Nat × Nat} (h : stD' a = stD' b) : a = b := by
  have := D.tup.inj h
  simp at this
  exact Prod.ext (by have := this.1; omega) (by have := this.2; omega)
theorem rwD_inj {a b : List (Nat × Nat)} (h : rwD a = rwD b) : a = b := (List.map_inj_right fun _ _ => stD_inj).mp (D.tup.inj h)
theorem kvK_any (o : List (List (Nat × Nat))) (g : List (Nat × Nat) → Nat) (c : List (Nat × Nat)) : ((o.map fun j => (rwD j, nD (g j))).any fun kv => decide (kv.1 = rwD c)) = decide (c ∈ o) := by
  induction o with
  | nil => rfl
  | cons j ks ih =>
    rw [List.map_cons, List.any_cons, ih]
    by_cases z : j = c
    · subst z; simp
    · have z2 : ¬ rwD j = rwD c := fun y => z (rwD_inj y)
      rw [decide_eq_false z2]
      simp [Ne.symm z]
theorem kvK_some (o : List (List (Nat × Nat))) (c : List (Nat × Nat)) : (getK (kvK o) (rwD c)).isSome = decide (c ∈ o) := by
  unfold getK kvK
  rw [← kvK_any o (fun c => o.idxOf c) c]
  rw [Option.isSome_map, Bool.eq_iff_iff, List.find?_isSome, List.any_eq_true]
theorem kvK_get' {g : List (Nat × Nat) → Nat} {c : List (Nat × Nat)} : ∀ {o : List (List (Nat × Nat))}, c ∈ o → getK (o.map fun j => (rwD j, nD (g j))) (rwD c) = some (nD (g c))
  | j :: ks, h => by
    unfold getK
    rw [List.map_cons, List.find?_cons]
    by_cases z : j = c
    · subst z; simp
    · have z2 : ¬ rwD j = rwD c := fun y => z (rwD_inj y)
      rw [decide_eq_false z2]
      rcases List.mem_cons.mp h with rfl | h
      · exact (z rfl).elim
      · exact kvK_get' h
theorem kvK_get {o : List (List (Nat × Nat))} {c : List (Nat × Nat)} (h : c ∈ o) : getK (kvK o) (rwD c) = some (nD (o.idxOf c)) := kvK_get' (g := fun c => o.idxOf c) h
theorem kvK_put {o : List (List (Nat × Nat))} {c : List (Nat × Nat)} (h : c ∉ o) : putKD (kvK o) (rwD c) (nD o.length) = kvK (o ++ [c]) := by
  unfold putKD kvK
  rw [kvK_any o (fun c => o.idxOf c) c, decide_eq_false h, if_neg (by simp), List.map_append, List.map_singleton]
  congr 1
  · refine List.map_congr_left fun j m => ?_
    rw [List.idxOf_append, if_pos m]
  · rw [List.idxOf_append, if_neg h]
    simp
section
variable {ρ : Env} {i : Nat} {f g : ED} {d : D} {kvs : List (D × D)}
@[simp] theorem z_tdOf1 : tdOf (some (.td kvs)) = some kvs := rfl
@[simp] theorem z_tdOf2 : tdOf (some (.od [])) = some [] := rfl
@[simp] theorem z_tn {neg : Bool} : tnF neg i g ρ = bnd (argF g ρ) fun p => bnd (view p.2 p.1) fun q => bnd (tdOf p.2[i]?) fun kvs => if okTK q.2 then some (.fz (.bl (if neg then !(getK kvs q.2).isSome else (getK kvs q.2).isSome)), p.2) else none := rfl
@[simp] theorem z_tg : tgF i g ρ = if (tdOf ρ[i]?).isSome then bnd (argF g ρ) fun p => bnd (view p.2 p.1) fun q => bnd (tdOf p.2[i]?) fun kvs => if okTK q.2 then bnd (getK kvs q.2) fun x => some (.fz x, p.2) else none else none := by
  unfold tgF bnd
  simp only [map_bnd]
  rfl
@[simp] theorem z_ts : tsS i g f ρ = bnd (itF f ρ) fun p1 => if p1.1.1 ∧ (tdOf p1.2[i]?).isSome then bnd (argF g p1.2) fun p2 => bnd (view p2.2 p2.1) fun q => bnd (tdOf p2.2[i]?) fun kvs => if okTK q.2 ∧ kvs.length ≤ LIM then some (.nx (p2.2.set i (.td (putKD kvs q.2 p1.1.2)))) else none else none := rfl
@[simp] theorem z_tl : tlF i ρ = bnd (tdOf ρ[i]?) fun kvs => if kvs.length ≤ LIM then some (.fz (.int kvs.length), ρ) else none := rfl
end
end Sc
set_option maxRecDepth 100000
set_option maxHeartbeats 1000000
namespace Sc
open PySem PySem.Spec PyProof.Rows L2
/-! ### lots, level by level -/
abbrev tbL (t : Tb) : D := .lst (t.map rwD)
def TbOk (t : Tb) : Prop := ∀ r ∈ t, r.length ≤ 8 ∧ ∀ s ∈ r, s.2 < t.length
def maxN (a : List Nat) : Nat := a.foldr max 0
theorem maxN_le {a : List Nat} {x : Nat} (h : x ∈ a) : x ≤ maxN a := by
  induction a with
  | nil => cases h
  | cons y a ih =>
    show x ≤ max y (maxN a)
    rcases List.mem_cons.mp h with rfl | h
    · exact Nat.le_max_left _ _
    · exact Nat.le_trans (ih h) (Nat.le_max_right _ _)
theorem maxN_lt {a : List Nat} {k : Nat} (hk : 0 < k) (h : ∀ x ∈ a, x < k) : maxN a < k := by
  induction a with
  | nil => exact hk
  | cons y a ih =>
    have h1 := h y (by simp)
    have h2 := ih fun x m => h x (by simp [m])
    show max y (maxN a) < k
    omega
theorem maxN_mem {a : List Nat} (h : a ≠ []) : maxN a ∈ a := by
  induction a with
  | nil => exact (h rfl).elim
  | cons y a ih =>
    show max y (maxN a) ∈ y :: a
    by_cases z : a = []
    · subst z; simp [maxN]
    · have := ih z
      by_cases w : maxN a ≤ y
      · rw [Nat.max_eq_left w]; simp
      · rw [Nat.max_eq_right (by omega)]; simp [this]
theorem maxL_N : ∀ {a : List Nat}, a ≠ [] → maxL (a.map fun (x : Nat) => (x : Int)) = (maxN a : Int)
  | [x], _ => by simp [maxL, maxN]
  | x :: y :: a, _ => by
    have ih := maxL_N (a := y :: a) (by simp)
    have e : maxL ((x :: y :: a).map fun (x : Nat) => (x : Int)) = max (x : Int) (maxL ((y :: a).map fun (x : Nat) => (x : Int))) := rfl
    rw [e, ih]
    show max (x : Int) (maxN (y :: a)) = ((max x (maxN (y :: a)) : Nat) : Int)
    omega
theorem firstNo_mem {ks : List (List (Nat × Nat))} {k : List (Nat × Nat)} : k ∈ firstNo ks k := by
  unfold firstNo
  split
  · assumption
  · simp
theorem firstNo_sub {ks : List (List (Nat × Nat))} {k j : List (Nat × Nat)} : j ∈ firstNo ks k ↔ j ∈ ks ∨ j = k := by
  unfold firstNo
  split
  · rename_i z
    exact ⟨.inl, fun h => by rcases h with h | rfl; exact h; exact z⟩
  · simp
theorem firstNo_pre {ks : List (List (Nat × Nat))} {k : List (Nat × Nat)} : ∃ e, firstNo ks k = ks ++ e := by
  unfold firstNo
  split
  · exact ⟨[], by simp⟩
  · exact ⟨[k], rfl⟩
theorem firstNo_nd {ks : List (List (Nat × Nat))} {k : List (Nat × Nat)} (h : ks.Nodup) : (firstNo ks k).Nodup := by
  unfold firstNo
  split
  · exact h
  · rename_i z
    rw [List.nodup_append]
    exact ⟨h, by simp, fun a m b m2 e => z (by rw [List.mem_singleton.mp m2] at e; rw [← e]; exact m)⟩
theorem idxK_app {o e : List (List (Nat × Nat))} {c : List (Nat × Nat)} (h : c ∈ o) : (o ++ e).idxOf c = o.idxOf c := by rw [List.idxOf_append, if_pos h]
/-- the rows taken so far -/
structure LtI (a : List Nat) (pre : Tb) (s : List (List (Nat × Nat)) × List Nat) : Prop where
  nd : s.1.Nodup
  len : s.2.length = pre.length
  mem : ∀ k, k ∈ s.1 ↔ ∃ r ∈ pre, k = keyOf a r
  at_ : ∀ (i : Nat) (r : List (Nat × Nat)), pre[i]? = some r → s.2[i]? = some (s.1.idxOf (keyOf a r))
  lt : ∀ x ∈ s.2, x < s.1.length
  le : s.1.length ≤ pre.length
  den : ∀ x, x < s.1.length → x ∈ s.2
theorem LtI.step {a : List Nat} {pre : Tb} {s : List (List (Nat × Nat)) × List Nat} {r : List (Nat × Nat)} (I : LtI a pre s) : LtI a (pre ++ [r]) (lotStep a s r) := by
  obtain ⟨ks, la⟩ := s
  obtain ⟨nd, len, mem, at_, lt, le, den⟩ := I
  dsimp only at nd len mem at_ lt le den
  obtain ⟨e, he⟩ := firstNo_pre (ks := ks) (k := keyOf a r)
  have hm : keyOf a r ∈ firstNo ks (keyOf a r) := firstNo_mem
  unfold lotStep
  refine ⟨firstNo_nd nd, by simp [len], fun k => ?_, fun i q hi => ?_, fun x m => ?_, ?_, fun x hx => ?_⟩ <;> dsimp only
  · rw [firstNo_sub, mem]
    constructor
    · rintro (⟨q, m, rfl⟩ | rfl)
      · exact ⟨q, by simp [m], rfl⟩
      · exact ⟨r, by simp, rfl⟩
    · rintro ⟨q, m, rfl⟩
      rcases List.mem_append.mp m with m | m
      · exact .inl ⟨q, m, rfl⟩
      · rw [List.mem_singleton.mp m]; exact .inr rfl
  · by_cases y : i < pre.length
    · rw [List.getElem?_append_left y] at hi
      rw [List.getElem?_append_left (by omega), at_ i q hi, he]
      congr 1
      exact (idxK_app ((mem _).mpr ⟨q, List.mem_of_getElem? hi, rfl⟩)).symm
    · have hi2 := (List.getElem?_eq_some_iff.mp hi).1
      rw [List.length_append, List.length_singleton] at hi2
      have : i = pre.length := by omega
      subst this
      rw [List.getElem?_append_right (Nat.le_refl _)] at hi
      simp at hi
      subst hi
      rw [← len, List.getElem?_append_right (Nat.le_refl _)]
      simp
  · rcases List.mem_append.mp m with m | m
    · have := lt x m
      rw [he, List.length_append]
      omega
    · rw [List.mem_singleton.mp m]
      exact List.idxOf_lt_length_of_mem hm
  · rw [List.length_append, List.length_singleton]
    unfold firstNo
    split
    · omega
    · simp; omega
  · dsimp only at hx
    by_cases z : x < ks.length
    · exact List.mem_append_left _ (den x z)
    · refine List.mem_append_right _ ?_
      unfold firstNo at hx ⊢
      split at hx
      · omega
      · rename_i w
        rw [List.length_append, List.length_singleton] at hx
        have : x = ks.length := by omega
        subst this
        rw [if_neg w, List.idxOf_append, if_neg w]
        simp
theorem lot_go {a : List Nat} : ∀ (post pre : Tb) (s : List (List (Nat × Nat)) × List Nat), LtI a pre s → LtI a (pre ++ post) (post.foldl (lotStep a) s)
  | [], pre, s, I => by rw [List.append_nil]; exact I
  | r :: post, pre, s, I => by
    have := lot_go post (pre ++ [r]) _ (I.step (r := r))
    rw [List.append_assoc] at this
    exact this
theorem lotF_ok (t : Tb) (a : List Nat) : LtI a t (lotF t a) := by
  have := lot_go (a := a) t [] ([], []) ⟨List.nodup_nil, rfl, fun k => by simp, fun i r h => by simp at h, fun x m => (nomatch m), Nat.le_refl _, fun x h => absurd h (Nat.not_lt_zero _)⟩
  rw [List.nil_append] at this
  exact this
/-! a level -/
structure Lv (t : Tb) (a : List Nat) : Prop where
  len : a.length = t.length
  fine : ∀ (i j : Nat) (r q : List (Nat × Nat)), t[i]? = some r → t[j]? = some q → keyOf a r = keyOf a q → at0 a i = at0 a j
  den : ∀ x, x ≤ maxN a → x ∈ a
  lt : ∀ x ∈ a, x < t.length
theorem at0_get {f : List Nat} {i x : Nat} (h : f[i]? = some x) : at0 f i = x := by
  unfold at0
  rw [List.getD_eq_getElem?_getD, h]
  rfl
theorem key_inj {a b : List Nat} : ∀ {r q : List (Nat × Nat)}, (∀ s ∈ r, ∀ u ∈ q, at0 a s.2 = at0 a u.2 → at0 b s.2 = at0 b u.2) → keyOf a r = keyOf a q → keyOf b r = keyOf b q
  | [], [], _, _ => rfl
  | [], u :: q, _, h => by cases h
  | s :: r, [], _, h => by cases h
  | s :: r, u :: q, hs, h => by
    unfold keyOf at h ⊢
    rw [List.map_cons, List.map_cons] at h ⊢
    obtain ⟨h1, h2⟩ := List.cons.inj h
    have ih := key_inj (fun s m u m2 => hs s (by simp [m]) u (by simp [m2])) h2
    unfold keyOf at ih
    rw [ih]
    have h3 := Prod.mk.inj h1
    rw [h3.1, hs s (by simp) u (by simp) h3.2]
theorem Lv.next {t : Tb} {a : List Nat} (ht : TbOk t) (hne : t ≠ []) (L : Lv t a) : Lv t (lotF t a).2 ∧ ∀ (i j : Nat) (r q : List (Nat × Nat)), t[i]? = some r → t[j]? = some q → at0 (lotF t a).2 i = at0 (lotF t a).2 j → keyOf a r = keyOf a q := by
  have I := lotF_ok t a
  generalize lotF t a = s at I
  obtain ⟨ks, la⟩ := s
  obtain ⟨nd, len, mem, at_, lt, le, den⟩ := I
  dsimp only at nd len mem at_ lt le den ⊢
  have key : ∀ (i j : Nat) (r q : List (Nat × Nat)), t[i]? = some r → t[j]? = some q → at0 la i = at0 la j → keyOf a r = keyOf a q := fun i j r q hi hj h => by
    rw [at0_get (at_ i r hi), at0_get (at_ j q hj)] at h
    have m1 : keyOf a r ∈ ks := (mem _).mpr ⟨r, List.mem_of_getElem? hi, rfl⟩
    have m2 : keyOf a q ∈ ks := (mem _).mpr ⟨q, List.mem_of_getElem? hj, rfl⟩
    have e1 := List.getElem_idxOf (List.idxOf_lt_length_of_mem m1)
    have e2 := List.getElem_idxOf (List.idxOf_lt_length_of_mem m2)
    rw [← e1, ← e2]
    congr 1
  refine ⟨⟨len, fun i j r q hi hj h => ?_, fun x hx => ?_, fun x m => ?_⟩, key⟩
  · rw [at0_get (at_ i r hi), at0_get (at_ j q hj)]
    have : keyOf a r = keyOf a q := by
      refine key_inj (fun s ms u mu e => ?_) h
      have h1 := (ht r (List.mem_of_getElem? hi)).2 s ms
      have h2 := (ht q (List.mem_of_getElem? hj)).2 u mu
      have g1 := List.getElem?_eq_getElem h1
      have g2 := List.getElem?_eq_getElem h2
      exact L.fine s.2 u.2 _ _ g1 g2 (key s.2 u.2 _ _ g1 g2 e)
    rw [this]
  · have h0 : la ≠ [] := fun e => by
      have := List.length_pos_iff.mpr hne
      rw [e] at len
      simp at len
      omega
    have := maxN_mem h0
    have := lt _ this
    have := maxN_lt (a := la) (k := ks.length) (by omega) lt
    exact den x (by omega)
  · have := lt x m; omega
theorem full_nodup : ∀ (K : Nat) (l : List Nat), l.length = K → (∀ v, v < K → v ∈ l) → l.Nodup
  | 0, l, h, _ => by rw [List.length_eq_zero_iff.mp h]; exact List.nodup_nil
  | K + 1, l, h, hv => by
    have hm := hv K (Nat.lt_succ_self K)
    have hp := List.perm_cons_erase hm
    have hl : (l.erase K).length = K := by rw [List.length_erase_of_mem hm]; omega
    have ih := full_nodup K (l.erase K) hl fun v hv' => (List.mem_erase_of_ne (by omega)).mpr (hv v (by omega))
    rw [hp.nodup_iff, List.nodup_cons]
    refine ⟨fun m => ?_, ih⟩
    have hn : (List.range (K + 1)).Nodup := List.nodup_range
    have := hn.length_le_of_subset (l₂ := l.erase K) fun v m2 => by
      rw [List.mem_range] at m2
      by_cases z : v = K
      · rw [z]; exact m
      · exact (List.mem_erase_of_ne z).mpr (hv v m2)
    rw [List.length_range, hl] at this
    omega
def Stable (t : Tb) (a : List Nat) : Prop := ∀ (i j : Nat) (r q : List (Nat × Nat)), t[i]? = some r → t[j]? = some q → at0 a i = at0 a j → keyOf a r = keyOf a q
theorem ex_row {t : Tb} {a : List Nat} {x : Nat} (hl : a.length = t.length) (h : x ∈ a) : ∃ i r, t[i]? = some r ∧ at0 a i = x := by
  obtain ⟨i, hi⟩ := List.getElem?_of_mem h
  have h1 := (List.getElem?_eq_some_iff.mp hi).1
  exact ⟨i, _, List.getElem?_eq_getElem (by omega), at0_get hi⟩
open Classical in
/-- by the key: the lot -/
noncomputable def lotOf (t : Tb) (a : List Nat) (k : List (Nat × Nat)) : Nat := if h : ∃ i r, t[i]? = some r ∧ keyOf a r = k then at0 a (Classical.choose h) else 0
theorem lotOf_eq {t : Tb} {a : List Nat} (L : Lv t a) {i : Nat} {r : List (Nat × Nat)} (h : t[i]? = some r) : lotOf t a (keyOf a r) = at0 a i := by
  have hx : ∃ j q, t[j]? = some q ∧ keyOf a q = keyOf a r := ⟨i, r, h, rfl⟩
  unfold lotOf
  rw [dif_pos hx]
  obtain ⟨q, h1, h2⟩ := Classical.choose_spec hx
  exact L.fine _ i q r h1 h h2
theorem lv_count {t : Tb} {a : List Nat} (L : Lv t a) (hne : t ≠ []) : 1 + maxN a ≤ (lotF t a).1.length ∧ ((lotF t a).1.length = 1 + maxN a → Stable t a) := by
  have I := lotF_ok t a
  generalize lotF t a = s at I
  obtain ⟨ks, la⟩ := s
  obtain ⟨nd, len, mem, at_, lt, le, den⟩ := I
  dsimp only at nd len mem at_ lt le den ⊢
  have hcov : ∀ v, v < 1 + maxN a → v ∈ ks.map (lotOf t a) := fun v hv => by
    obtain ⟨i, r, h1, h2⟩ := ex_row L.len (L.den v (by omega))
    rw [← h2, ← lotOf_eq L h1]
    exact List.mem_map.mpr ⟨_, (mem _).mpr ⟨r, List.mem_of_getElem? h1, rfl⟩, rfl⟩
  refine ⟨?_, fun hk => ?_⟩
  · have hn : (List.range (1 + maxN a)).Nodup := List.nodup_range
    have := hn.length_le_of_subset (l₂ := ks.map (lotOf t a)) fun v m => hcov v (List.mem_range.mp m)
    simpa using this
  · have hn := full_nodup (1 + maxN a) (ks.map (lotOf t a)) (by simp [hk]) hcov
    intro i j r q hi hj e
    have m1 : keyOf a r ∈ ks := (mem _).mpr ⟨r, List.mem_of_getElem? hi, rfl⟩
    have m2 : keyOf a q ∈ ks := (mem _).mpr ⟨q, List.mem_of_getElem? hj, rfl⟩
    rw [← lotOf_eq L hi, ← lotOf_eq L hj] at e
    by_cases z : keyOf a r = keyOf a q
    · exact z
    · exfalso
      rw [List.Nodup, List.pairwise_map] at hn
      have hs : ∀ x ∈ ks, ∀ y ∈ ks, x ≠ y → lotOf t a x ≠ lotOf t a y := by
        intro x mx y my hxy
        obtain ⟨p1, p2, rfl⟩ := List.append_of_mem mx
        rcases List.mem_append.mp my with h | h
        · rw [List.pairwise_append] at hn
          exact fun e => hn.2.2 y h x (by simp) e.symm
        · rcases List.mem_cons.mp h with h | h
          · exact (hxy h.symm).elim
          · rw [List.pairwise_append] at hn
            exact (List.pairwise_cons.mp hn.2.1).1 y h
      exact hs _ m1 _ m2 z e
theorem Lv.zero {t : Tb} (hne : t ≠ []) : Lv t (List.replicate t.length 0) := by
  have hl := List.length_pos_iff.mpr hne
  have h0 : ∀ i, at0 (List.replicate t.length 0) i = 0 := fun i => by
    unfold at0
    rw [List.getD_eq_getElem?_getD, List.getElem?_replicate]
    split <;> rfl
  have hm : maxN (List.replicate t.length 0) = 0 := by
    have := maxN_lt (a := List.replicate t.length 0) (k := 1) (by decide) fun x m => by rw [List.eq_of_mem_replicate m]; decide
    omega
  refine ⟨by simp, fun i j r q _ _ _ => by rw [h0, h0], fun x hx => ?_, fun x m => by rw [List.eq_of_mem_replicate m]; exact hl⟩
  have : x = 0 := by omega
  subst this
  exact List.mem_replicate.mpr ⟨by omega, rfl⟩
end Sc
set_option maxRecDepth 100000
set_option maxHeartbeats 1000000
namespace Sc
open PySem PySem.Spec PyProof.Rows L2
theorem at0_of {a : List Nat} {i : Nat} (h : i < a.length) : a[i]? = some (at0 a i) := by
  rw [List.getElem?_eq_getElem h, at0_get (List.getElem?_eq_getElem h)]
theorem kvK_len {ks : List (List (Nat × Nat))} : (kvK ks).length = ks.length := by simp [kvK]
theorem kvK_none (o : List (List (Nat × Nat))) (c : List (Nat × Nat)) : (getK (kvK o) (rwD c)).isNone = !decide (c ∈ o) := by
  rw [← kvK_some o c]
  cases getK (kvK o) (rwD c) <;> rfl
theorem kvK_new {o : List (List (Nat × Nat))} {c : List (Nat × Nat)} (h : c ∉ o) : getK (kvK (o ++ [c])) (rwD c) = some (nD o.length) := by
  rw [kvK_get (by simp), List.idxOf_append, if_neg h]
  simp
theorem e_lot_rows {t : Tb} {a : List Nat} {s1 s2 s6 s7 : Slot} (ht : TbOk t) (L : Lv t a) (hl : t.length ≤ 2000) : ∃ s6' s7', forL (gnm 6) (seqS (setS 7 (callF [lcF (seqI (nmF 6)) (gtp [gnm 8, gnm 9]) (ttY) (tupF [nmF 8, binF (nmF 3) (nmF 9) oIx]) [8, 9]] oTuple)) (seqS (ifS (tstF (tnF true 4 (nmF 7))) (tsS 4 (nmF 7) (tlF 4)) (skF)) (drS (appF 5 (tgF 4 (nmF 7)))))) ((t.map rwD).map fun d => (false, d)) [.ar (tbL t), s1, s2, .fz (nsL a), .od [], .ow [], s6, s7, .emp, .emp] =
    some (.nx [.ar (tbL t), s1, s2, .fz (nsL a), if (lotF t a).1 = [] then .od [] else .td (kvK (lotF t a).1), .ow ((lotF t a).2.map nD), s6', s7', .emp, .emp]) := by
  rw [List.map_map]
  obtain ⟨ρ', h1, h2⟩ := forL_all (g := gnm 6) (b := seqS (setS 7 (callF [lcF (seqI (nmF 6)) (gtp [gnm 8, gnm 9]) (ttY) (tupF [nmF 8, binF (nmF 3) (nmF 9) oIx]) [8, 9]] oTuple)) (seqS (ifS (tstF (tnF true 4 (nmF 7))) (tsS 4 (nmF 7) (tlF 4)) (skF)) (drS (appF 5 (tgF 4 (nmF 7)))))) (ρ := [.ar (tbL t), s1, s2, .fz (nsL a), .od [], .ow [], s6, s7, .emp, .emp])
    (fun r => (false, rwD r)) (fun (pre : Tb) (ρ : Env) => ∃ (u v : Slot), ρ = [.ar (tbL t), s1, s2, .fz (nsL a), if (pre.foldl (lotStep a) ([], [])).1 = [] then .od [] else .td (kvK (pre.foldl (lotStep a) ([], [])).1), .ow ((pre.foldl (lotStep a) ([], [])).2.map nD), u, v, .emp, .emp]) t ⟨_, _, rfl⟩ (by
      rintro pre r post ρ e ⟨u, v, rfl⟩
      have I := lot_go (a := a) pre [] ([], []) ⟨List.nodup_nil, rfl, fun k => by simp, fun i r h => by simp at h, fun x m => (nomatch m), Nat.le_refl _, fun x h => absurd h (Nat.not_lt_zero _)⟩
      rw [List.nil_append] at I
      rw [List.foldl_append, List.foldl_cons, List.foldl_nil]
      generalize pre.foldl (lotStep a) ([], []) = s at I ⊢
      obtain ⟨ks, la⟩ := s
      obtain ⟨nd, len, mem, at_, lt, le, den⟩ := I
      dsimp only at nd len mem at_ lt le den ⊢
      have hpl : pre.length < t.length := by rw [e]; simp
      obtain ⟨hr1, hr2⟩ := ht r (by rw [e]; simp)
      have hla : la.length < 1000000 := by omega
      have hks : ks.length ≤ 1000000 := by omega
      have hr8 : r.length ≤ 1000000 := by omega
      have hcomp : ∀ u v, lcL (gtp [gnm 8, gnm 9]) ttY (tupF [nmF 8, binF (nmF 3) (nmF 9) oIx]) [8, 9] ((r.map stD').map fun d => (true, d)) [.ar (tbL t), s1, s2, .fz (nsL a), u, .ow (la.map nD), .ar (rwD r), v, .emp, .emp] = some ((keyOf a r).map stD', [.ar (tbL t), s1, s2, .fz (nsL a), u, .ow (la.map nD), .ar (rwD r), v, .emp, .emp]) := by
        intro u v
        rw [show (keyOf a r).map stD' = r.map fun s => stD' (s.1, at0 a s.2) by simp [keyOf]]
        refine lcL_sm stD' _ fun s m => ?_
        have hat := at0_of (a := a) (i := s.2) (by rw [L.len]; exact hr2 s m)
        simp -dsimp -implicitDefEqProofs [-Option.map_eq_some_iff, -List.map_map, LIM, atI_map' hat]
      have hkl : (keyOf a r).length ≤ 1000000 := by simp [keyOf]; omega
      have e0 : lotStep a (ks, la) r = (firstNo ks (keyOf a r), la ++ [(firstNo ks (keyOf a r)).idxOf (keyOf a r)]) := rfl
      rw [e0]
      generalize keyOf a r = kk at hcomp hkl ⊢
      by_cases z : kk ∈ ks
      · have z0 : ks ≠ [] := fun e => by rw [e] at z; cases z
        have e1 : firstNo ks kk = ks := by unfold firstNo; rw [if_pos z]
        simp -dsimp -implicitDefEqProofs [-Option.map_eq_some_iff, -List.map_map, LIM, hcomp, z0, z, kvK_none, kvK_get z, hla, hks, hkl, e1]
      · have e1 : firstNo ks kk = ks ++ [kk] := by unfold firstNo; rw [if_neg z]
        have e2 : (ks ++ [kk]).idxOf kk = ks.length := by rw [List.idxOf_append, if_neg z]; simp
        have e3 := kvK_new z
        have e4 := kvK_put z
        by_cases z0 : ks = []
        · subst z0
          have e5 : getK [] (rwD kk) = none := rfl
          have e6 : putKD [] (rwD kk) (.int 0) = kvK [kk] := e4
          have e7 : getK (kvK [kk]) (rwD kk) = some (.int 0) := e3
          simp -dsimp -implicitDefEqProofs [-Option.map_eq_some_iff, -List.map_map, LIM, hcomp, hla, hks, hkl, e1, e5, e6, e7]
        · simp -dsimp -implicitDefEqProofs [-Option.map_eq_some_iff, -List.map_map, LIM, hcomp, z0, z, kvK_none, hla, hks, hkl, e1, e2, e3, e4, kvK_len]
          trace_state)
  obtain ⟨u, v, rfl⟩ := h2
  exact ⟨u, v, h1⟩
theorem e_lot_levels {t : Tb} (ht : TbOk t) (hne : t ≠ []) (hl : t.length ≤ 2000) : ∃ (lv : List (List Nat)) (a : List Nat), R_lot_levels [tbL t, nD 6] = some (.ret (.lst (lv.map nsL))) ∧ lv.getLast? = some a ∧ Lv t a ∧ (6 ≤ maxN a ∨ Stable t a) := by
  have hpos := List.length_pos_iff.mpr hne
  unfold R_lot_levels fb_lot_levels
  have hz : List.replicate t.length (D.int 0) = (List.replicate t.length 0).map nD := by simp
  have hm0 : maxN (List.replicate t.length 0) = 0 := by
    have := maxN_lt (a := List.replicate t.length 0) (k := 1) (by decide) fun x m => by rw [List.eq_of_mem_replicate m]; decide
    omega
  obtain ⟨out, e1, lv, a, ρ', rfl, h2, h3, h4⟩ := whS_all (t := tstF (kF (.bl true))) (b := seqS (par3 3 4 5 (binF (nmF 2) (negF (kF (.int 1))) oIx) (dnewF) (lstF [])) (seqS (forS (seqI (nmF 0)) (gnm 6) (seqS (setS 7 (callF [lcF (seqI (nmF 6)) (gtp [gnm 8, gnm 9]) (ttY) (tupF [nmF 8, binF (nmF 3) (nmF 9) oIx]) [8, 9]] oTuple)) (seqS (ifS (tstF (tnF true 4 (nmF 7))) (tsS 4 (nmF 7) (tlF 4)) (skF)) (drS (appF 5 (tgF 4 (nmF 7))))))) (seqS (ifS (tstF (binF (tlF 4) (binF (kF (.int 1)) (callF [nmF 3] oMax) oPlus) (oEq false))) (rtS (nmF 2)) (skF)) (seqS (drS (appF 2 (nmF 5))) (ifS (tstF (binF (tlF 4) (nmF 1) oGt)) (rtS (nmF 2)) (skF))))))
    (ρ := [.ar (tbL t), .ar (nD 6), .ow ([List.replicate t.length 0].map nsL), .emp, .emp, .emp, .emp, .emp, .emp, .emp])
    (fun ρ => ∃ (lv : List (List Nat)) (a : List Nat) (s3 s4 s5 s6 s7 : Slot), ρ = [.ar (tbL t), .ar (nD 6), .ow (lv.map nsL), s3, s4, s5, s6, s7, .emp, .emp] ∧ lv.getLast? = some a ∧ Lv t a ∧ lv.length ≤ maxN a + 1 ∧ maxN a ≤ 5)
    (fun ρ => match ρ with
      | _ :: _ :: .ow ds :: _ => 7 - ds.length
      | _ => 0)
    (fun out => ∃ (lv : List (List Nat)) (a : List Nat) (ρ' : Env), out = .rt (.lst (lv.map nsL)) ρ' ∧ lv.getLast? = some a ∧ Lv t a ∧ (6 ≤ maxN a ∨ Stable t a))
    ⟨_, _, _, _, _, _, _, rfl, rfl, Lv.zero hne, by simp [hm0], by rw [List.getLast_singleton, hm0]; decide⟩ (by
      rintro ρ ⟨lv, a, s3, s4, s5, s6, s7, rfl, hlast, L, hlen, h5⟩
      refine ⟨true, [.ar (tbL t), .ar (nD 6), .ow (lv.map nsL), s3, s4, s5, s6, s7, .emp, .emp], by simp -dsimp -implicitDefEqProofs [-Option.map_eq_some_iff, -List.map_map, LIM, ], ?_⟩
      rw [if_pos rfl]
      have hlv : lv ≠ [] := fun e => by rw [e] at hlast; simp at hlast
      have hat : atI (lv.map nsL) (-1) = some (nsL a) := by rw [atI_last (by simpa using hlv), List.getLast?_map, hlast]; rfl
      have hane : a ≠ [] := fun e => by have := L.len; rw [e] at this; simp at this; omega
      obtain ⟨c1, c2⟩ := lv_count L hne
      obtain ⟨L2, _⟩ := L.next ht hne
      have I := lotF_ok t a
      have hmx := maxL_N hane
      obtain ⟨s6', s7', hrow⟩ := e_lot_rows (s1 := .ar (nD 6)) (s2 := .ow (lv.map nsL)) (s6 := s6) (s7 := s7) ht L hl
      have hk0 : (lotF t a).1 ≠ [] := fun e => by rw [e] at c1; simp at c1
      have hkl : (lotF t a).1.length ≤ 1000000 := by have := I.le; omega
      have hkl' : ((lotF t a).1.length : Int) ≤ 1000000 := by omega
      have hlen' : lv.length < 1000000 := by omega
      have hla0 : (lotF t a).2 ≠ [] := fun e => by have := L2.len; rw [e] at this; simp at this; omega
      have hmx2 : maxN (lotF t a).2 < (lotF t a).1.length := maxN_lt (by omega) I.lt
      have hmx3 : (lotF t a).1.length - 1 ≤ maxN (lotF t a).2 := maxN_le (I.den _ (by omega))
      rw [if_neg hk0] at hrow
      generalize lotF t a = s at *
      obtain ⟨ks, la⟩ := s
      dsimp only at *
      by_cases zz : ks.length = 1 + maxN a
      · have zz' : (ks.length : Int) = 1 + (maxN a : Int) := by omega
        have hkl2 : maxN a + 1 ≤ 1000000 := by omega
        have hkl3 : 1 + maxN a ≤ 1000000 := by omega
        simp -dsimp -implicitDefEqProofs [-Option.map_eq_some_iff, -List.map_map, LIM, hat, hlv, hrow, kvK_len, hkl3, zz, hmx, hane]
        exact ⟨lv, rfl, a, hlast, L, .inr (c2 zz)⟩
      · have zz' : ¬ (ks.length : Int) = 1 + (maxN a : Int) := by omega
        by_cases z7 : 6 < ks.length
        · have z7' : (6 : Int) < ks.length := by omega
          simp -dsimp -implicitDefEqProofs [-Option.map_eq_some_iff, -List.map_map, LIM, hat, hlv, hrow, kvK_len, hkl, zz', hmx, hane, z7', hlen']
          exact ⟨lv ++ [la], by simp, la, by simp, L2, .inl (by omega)⟩
        · have z7' : ¬ (6 : Int) < ks.length := by omega
          simp -dsimp -implicitDefEqProofs [-Option.map_eq_some_iff, -List.map_map, LIM, hat, hlv, hrow, kvK_len, hkl, zz', hmx, hane, z7', hlen']
          exact ⟨⟨lv ++ [la], by simp, la, by simp, L2, by simp; omega, by omega⟩, by omega⟩)
  refine ⟨lv, a, ?_, h2, h3, h4⟩
  have hl1 : (t.length : Int) ≤ 1000000 := by omega
  have hl2 : t.length ≤ 1000000 := by omega
  have hz2 : nsL (List.replicate t.length 0) = .lst (List.replicate t.length (D.int 0)) := by rw [nsL, hz]
  rw [List.map_singleton, hz2] at e1
  simp -dsimp -implicitDefEqProofs [-Option.map_eq_some_iff, -List.map_map, LIM, rep_one, hl1, hl2, e1]
end Sc
set_option maxRecDepth 100000
set_option maxHeartbeats 1000000
namespace Sc
open PySem PySem.Spec PyProof.Rows L2
/-! ### numbers by number -/
def kvL (ks : List Nat) : List (D × D) := ks.map fun k => (nD k, nD (ks.idxOf k))
theorem kvL_any (o : List Nat) (g : Nat → Nat) (c : Nat) : ((o.map fun j => (nD j, nD (g j))).any fun kv => decide (kv.1 = nD c)) = decide (c ∈ o) := by
  induction o with
  | nil => rfl
  | cons j ks ih =>
    rw [List.map_cons, List.any_cons, ih]
    by_cases z : j = c
    · subst z; simp
    · have z2 : ¬ nD j = nD c := fun y => z (nD_inj y)
      rw [decide_eq_false z2]
      simp [Ne.symm z]
theorem kvL_some (o : List Nat) (c : Nat) : (getK (kvL o) (nD c)).isSome = decide (c ∈ o) := by
  unfold getK kvL
  rw [← kvL_any o (fun c => o.idxOf c) c]
  rw [Option.isSome_map, Bool.eq_iff_iff, List.find?_isSome, List.any_eq_true]
theorem kvL_none (o : List Nat) (c : Nat) : (getK (kvL o) (nD c)).isNone = !decide (c ∈ o) := by
  rw [← kvL_some o c]
  cases getK (kvL o) (nD c) <;> rfl
theorem kvL_get' {g : Nat → Nat} {c : Nat} : ∀ {o : List Nat}, c ∈ o → getK (o.map fun j => (nD j, nD (g j))) (nD c) = some (nD (g c))
  | j :: ks, h => by
    unfold getK
    rw [List.map_cons, List.find?_cons]
    by_cases z : j = c
    · subst z; simp
    · have z2 : ¬ nD j = nD c := fun y => z (nD_inj y)
      rw [decide_eq_false z2]
      rcases List.mem_cons.mp h with rfl | h
      · exact (z rfl).elim
      · exact kvL_get' h
theorem kvL_get {o : List Nat} {c : Nat} (h : c ∈ o) : getK (kvL o) (nD c) = some (nD (o.idxOf c)) := kvL_get' (g := fun c => o.idxOf c) h
theorem kvL_put {o : List Nat} {c : Nat} (h : c ∉ o) : putKD (kvL o) (nD c) (nD o.length) = kvL (o ++ [c]) := by
  unfold putKD kvL
  rw [kvL_any o (fun c => o.idxOf c) c, decide_eq_false h, if_neg (by simp), List.map_append, List.map_singleton]
  congr 1
  · refine List.map_congr_left fun j m => ?_
    rw [List.idxOf_append, if_pos m]
  · rw [List.idxOf_append, if_neg h]
    simp
theorem kvL_len {ks : List Nat} : (kvL ks).length = ks.length := by simp [kvL]
/-! ### the least table -/
abbrev lotsOf (a w : List Nat) : List Nat := w.map (at0 a)
def leaStep (a : List Nat) (w : List Nat) (s : Nat × Nat) : List Nat := if at0 a s.2 ∈ lotsOf a w then w else w ++ [s.2]
structure WI (t : Tb) (a w : List Nat) : Prop where
  nd : (lotsOf a w).Nodup
  lt : ∀ s ∈ w, s < t.length
  z : w.head? = some 0
theorem WI.step {t : Tb} {a w : List Nat} {s : Nat × Nat} (I : WI t a w) (hs : s.2 < t.length) : WI t a (leaStep a w s) := by
  unfold leaStep
  split
  · exact I
  · rename_i h
    refine ⟨?_, fun x m => ?_, ?_⟩
    · rw [lotsOf, List.map_append, List.nodup_append]
      exact ⟨I.nd, by simp, fun x m y m2 e => h (by rw [List.map_singleton, List.mem_singleton] at m2; rw [← m2, ← e]; exact m)⟩
    · rcases List.mem_append.mp m with m | m
      · exact I.lt x m
      · rw [List.mem_singleton.mp m]; exact hs
    · have := I.z
      cases w with
      | nil => cases this
      | cons x w => exact this
theorem lea_pre {a : List Nat} : ∀ (r : List (Nat × Nat)) (w : List Nat), ∃ e, r.foldl (leaStep a) w = w ++ e
  | [], w => ⟨[], by simp⟩
  | s :: r, w => by
    obtain ⟨e, h⟩ := lea_pre r (leaStep a w s)
    rw [List.foldl_cons, h]
    unfold leaStep
    split
    · exact ⟨e, rfl⟩
    · exact ⟨s.2 :: e, by simp⟩
theorem lea_mem {a : List Nat} : ∀ (r : List (Nat × Nat)) (w : List Nat), ∀ s ∈ r, at0 a s.2 ∈ lotsOf a (r.foldl (leaStep a) w)
  | [], w, s, m => by cases m
  | u :: r, w, s, m => by
    rw [List.foldl_cons]
    rcases List.mem_cons.mp m with rfl | m
    · obtain ⟨e, h⟩ := lea_pre (a := a) r (leaStep a w s)
      rw [h]
      have : at0 a s.2 ∈ lotsOf a (leaStep a w s) := by
        unfold leaStep
        split
        · assumption
        · simp [lotsOf]
      rw [lotsOf, List.map_append]
      exact List.mem_append_left _ this
    · exact lea_mem r _ s m
theorem WI.go {t : Tb} {a : List Nat} : ∀ (r : List (Nat × Nat)) (w : List Nat), (∀ s ∈ r, s.2 < t.length) → WI t a w → WI t a (r.foldl (leaStep a) w)
  | [], w, _, I => I
  | s :: r, w, h, I => WI.go r _ (fun u m => h u (by simp [m])) (I.step (h s (by simp)))
theorem WI.few {t : Tb} {a w : List Nat} (I : WI t a w) (hl : a.length = t.length) : w.length ≤ maxN a + 1 := by
  have := I.nd.length_le_of_subset (l₂ := List.range (maxN a + 1)) fun x m => by
    obtain ⟨s, hs, rfl⟩ := List.mem_map.mp m
    have := I.lt s hs
    have h2 := at0_of (a := a) (i := s) (by omega)
    have := maxN_le (List.mem_of_getElem? h2)
    rw [List.mem_range]
    omega
  simpa using this
def Done (t : Tb) (a w : List Nat) (n : Nat) : Prop := ∀ (i s : Nat) (r : List (Nat × Nat)), i < n → w[i]? = some s → t[s]? = some r → ∀ q ∈ r, at0 a q.2 ∈ lotsOf a w
def leastT (t : Tb) (a w : List Nat) : Tb := w.map fun s => (t.getD s []).map fun q => (q.1, (lotsOf a w).idxOf (at0 a q.2))
theorem e_least_row {t : Tb} {a w : List Nat} {r : List (Nat × Nat)} {s5 s6 s7 : Slot} {n : Nat} (ht : TbOk t) (hl : a.length = t.length) (h6 : maxN a ≤ 5) (hr : r.length ≤ 8 ∧ ∀ s ∈ r, s.2 < t.length) (I : WI t a w) (l5 : isLight (some s5) = true) (l6 : isLight (some s6) = true) : ∃ s5' s6', (isLight (some s5') = true ∧ isLight (some s6') = true) ∧ forL (gtp [gnm 5, gnm 6]) (ifS (tstF (dnF true 2 (binF (nmF 1) (nmF 6) oIx))) (seqS (stS 2 (binF (nmF 1) (nmF 6) oIx) (dlF 2)) (drS (appF 3 (nmF 6)))) (skF)) ((r.map stD').map fun d => (true, d)) [.ar (tbL t), .ar (nsL a), .od (kvL (lotsOf a w)), .ow (w.map nD), .fz (nD n), s5, s6, s7] =
    some (.nx [.ar (tbL t), .ar (nsL a), .od (kvL (lotsOf a (r.foldl (leaStep a) w))), .ow ((r.foldl (leaStep a) w).map nD), .fz (nD n), s5', s6', s7]) := by
  rw [List.map_map]
  obtain ⟨ρ', h1, h2⟩ := forL_all (g := gtp [gnm 5, gnm 6]) (b := ifS (tstF (dnF true 2 (binF (nmF 1) (nmF 6) oIx))) (seqS (stS 2 (binF (nmF 1) (nmF 6) oIx) (dlF 2)) (drS (appF 3 (nmF 6)))) (skF)) (ρ := [.ar (tbL t), .ar (nsL a), .od (kvL (lotsOf a w)), .ow (w.map nD), .fz (nD n), s5, s6, s7])
    (fun s => (true, stD' s)) (fun (pre : List (Nat × Nat)) (ρ : Env) => ∃ (u v : Slot), ρ = [.ar (tbL t), .ar (nsL a), .od (kvL (lotsOf a (pre.foldl (leaStep a) w))), .ow ((pre.foldl (leaStep a) w).map nD), .fz (nD n), u, v, s7] ∧ isLight (some u) = true ∧ isLight (some v) = true) r ⟨_, _, rfl, l5, l6⟩ (by
      rintro pre s post ρ e ⟨u, v, rfl, lu, lv⟩
      have I := WI.go pre w (fun u m => hr.2 u (by rw [e]; simp [m])) I
      rw [List.foldl_append, List.foldl_cons, List.foldl_nil]
      generalize pre.foldl (leaStep a) w = w at I ⊢
      have hs := hr.2 s (by rw [e]; simp)
      have hat := at0_of (a := a) (i := s.2) (by omega)
      have few := I.few hl
      have hwl : w.length < 1000000 := by omega
      have hwl2 : (kvL (lotsOf a w)).length < 1000000 := by rw [kvL_len]; simp; omega
      unfold leaStep
      by_cases z : at0 a s.2 ∈ lotsOf a w
      · rw [if_pos z]
        have hn := kvL_none (lotsOf a w) (at0 a s.2)
        rw [decide_eq_true z] at hn
        simp -dsimp -implicitDefEqProofs [-Option.map_eq_some_iff, -List.map_map, LIM, atI_map' hat, hn]
        try exact ⟨_, _, ⟨rfl, rfl⟩, rfl, rfl⟩
      · rw [if_neg z]
        have hn := kvL_none (lotsOf a w) (at0 a s.2)
        rw [decide_eq_false z] at hn
        have hp : putKD (kvL (lotsOf a w)) (nD (at0 a s.2)) (nD w.length) = kvL (lotsOf a (w ++ [s.2])) := by
          have := kvL_put z
          rw [List.length_map] at this
          rw [this]
          simp [lotsOf]
        have hk : (kvL (lotsOf a w)).length = w.length := by rw [kvL_len]; simp
        generalize kvL (lotsOf a w) = kv at hn hp hk hwl2 ⊢
        simp -dsimp -implicitDefEqProofs [-Option.map_eq_some_iff, -List.map_map, LIM, atI_map' hat, hn, hk, hp, hwl]
        try exact ⟨_, _, ⟨rfl, rfl⟩, rfl, rfl⟩)
  obtain ⟨u, v, rfl, lu, lv⟩ := h2
  exact ⟨u, v, ⟨lu, lv⟩, h1⟩
theorem e_least_table {t : Tb} {a : List Nat} (ht : TbOk t) (hne : t ≠ []) (hl : a.length = t.length) (ht2 : t.length ≤ 2000) (h6 : maxN a ≤ 5) : ∃ w, R_least_table [tbL t, nsL a] = some (.ret (tbD (leastT t a w))) ∧ WI t a w ∧ Done t a w w.length := by
  have hpos := List.length_pos_iff.mpr hne
  have hat0 := at0_of (a := a) (i := 0) (by omega)
  obtain ⟨out, e1, w, s5, s6, ⟨l5, l6⟩, rfl, I, Dn⟩ := whS_all (t := tstF (binF (nmF 4) (callF [nmF 3] oLen) oLt)) (b := seqS (forS (seqI (binF (nmF 0) (binF (nmF 3) (nmF 4) oIx) oIx)) (gtp [gnm 5, gnm 6]) (ifS (tstF (dnF true 2 (binF (nmF 1) (nmF 6) oIx))) (seqS (stS 2 (binF (nmF 1) (nmF 6) oIx) (dlF 2)) (drS (appF 3 (nmF 6)))) (skF))) (augI 4 (fun i j => i + j) (kF (.int 1))))
    (ρ := [.ar (tbL t), .ar (nsL a), .od (kvL (lotsOf a [0])), .ow ([0].map nD), .fz (nD 0), .emp, .emp, .emp])
    (fun ρ => ∃ (w : List Nat) (n : Nat) (s5 s6 : Slot), (isLight (some s5) = true ∧ isLight (some s6) = true) ∧ ρ = [.ar (tbL t), .ar (nsL a), .od (kvL (lotsOf a w)), .ow (w.map nD), .fz (nD n), s5, s6, .emp] ∧ WI t a w ∧ Done t a w n ∧ n ≤ w.length)
    (fun ρ => match ρ with
      | [_, _, _, _, .fz (.int n), _, _, _] => 7 - n.toNat
      | _ => 0)
    (fun out => ∃ (w : List Nat) (s5 s6 : Slot), (isLight (some s5) = true ∧ isLight (some s6) = true) ∧ out = .nx [.ar (tbL t), .ar (nsL a), .od (kvL (lotsOf a w)), .ow (w.map nD), .fz (nD w.length), s5, s6, .emp] ∧ WI t a w ∧ Done t a w w.length)
    ⟨[0], 0, _, _, ⟨rfl, rfl⟩, rfl, ⟨by simp, fun s m => by rw [List.mem_singleton.mp m]; exact hpos, rfl⟩, fun i s r h => absurd h (Nat.not_lt_zero _), by simp⟩ (by
      rintro ρ ⟨w, n, s5, s6, ⟨l5, l6⟩, rfl, I, Dn, hn⟩
      have few := I.few hl
      have hwl : w.length ≤ 1000000 := by omega
      by_cases z : n < w.length
      · have z' : (n : Int) < w.length := by omega
        refine ⟨true, [.ar (tbL t), .ar (nsL a), .od (kvL (lotsOf a w)), .ow (w.map nD), .fz (nD n), s5, s6, .emp], by simp -dsimp -implicitDefEqProofs [-Option.map_eq_some_iff, -List.map_map, LIM, hwl, z'], ?_⟩
        rw [if_pos rfl]
        have hw := List.getElem?_eq_getElem z
        generalize w[n] = s at hw
        have hst := I.lt s (List.mem_of_getElem? hw)
        have hr := List.getElem?_eq_getElem hst
        generalize t[s] = r at hr
        obtain ⟨s5', s6', ll, hrow⟩ := e_least_row (s5 := s5) (s6 := s6) (s7 := .emp) (n := n) ht hl h6 (ht r (List.mem_of_getElem? hr)) I l5 l6
        refine ⟨.nx [.ar (tbL t), .ar (nsL a), .od (kvL (lotsOf a (r.foldl (leaStep a) w))), .ow ((r.foldl (leaStep a) w).map nD), .fz (nD (n + 1)), s5', s6', .emp], ?_, ⟨_, _, _, _, ll, rfl, I.go r _ fun u m => (ht r (List.mem_of_getElem? hr)).2 u m, ?_, ?_⟩, ?_⟩
        · simp -dsimp -implicitDefEqProofs [-Option.map_eq_some_iff, -List.map_map, LIM, atI_map' hw, atI_map' hr, hrow, intAt]
        · intro i u q' hi hiu hq' v hv
          obtain ⟨e, he⟩ := lea_pre (a := a) r w
          by_cases zi : i < n
          · rw [he, List.getElem?_append_left (by omega)] at hiu
            have := Dn i u q' zi hiu hq' v hv
            rw [he, lotsOf, List.map_append]
            exact List.mem_append_left _ this
          · have : i = n := by omega
            subst this
            rw [he, List.getElem?_append_left z, hw] at hiu
            cases hiu
            rw [hr] at hq'
            cases hq'
            exact lea_mem r w v hv
        · obtain ⟨e, he⟩ := lea_pre (a := a) r w
          rw [he, List.length_append]
          omega
        · show 7 - ((n + 1 : Nat) : Int).toNat < 7 - (n : Int).toNat
          omega
      · have z' : ¬ (n : Int) < w.length := by omega
        refine ⟨false, [.ar (tbL t), .ar (nsL a), .od (kvL (lotsOf a w)), .ow (w.map nD), .fz (nD n), s5, s6, .emp], by simp -dsimp -implicitDefEqProofs [-Option.map_eq_some_iff, -List.map_map, LIM, hwl, z'], ?_⟩
        have : n = w.length := by omega
        subst this
        exact ⟨w, _, _, ⟨l5, l6⟩, rfl, I, Dn⟩)
  refine ⟨w, ?_, I, Dn⟩
  have hk0 : kvL (lotsOf a [0]) = [(nD (at0 a 0), .int 0)] := by simp [kvL, lotsOf]
  have hw0 : [0].map nD = [D.int 0] := rfl
  have hn0 : nD 0 = .int 0 := rfl
  rw [hk0, hw0, hn0] at e1
  have few := I.few hl
  have hwl : w.length ≤ 1000000 := by omega
  have hat0' : atI (a.map nD) 0 = some (nD (at0 a 0)) := by
    have := atI_map' (f := nD) hat0
    exact this
  have hmd : mergeD [] [(nD (at0 a 0), D.int 0)] = [(nD (at0 a 0), D.int 0)] := rfl
  have hin : ∀ s ∈ w, ∀ u : Slot, lcL (gtp [gnm 5, gnm 6]) ttY (tupF [nmF 5, dgF 2 (binF (nmF 1) (nmF 6) oIx)]) [5, 6] (((t.getD s []).map stD').map fun d => (true, d)) [.ar (tbL t), .ar (nsL a), .od (kvL (lotsOf a w)), .fz (.lst (w.map nD)), .fz (nD w.length), .emp, .emp, u] = some (((t.getD s []).map fun q => (q.1, (lotsOf a w).idxOf (at0 a q.2))).map stD', [.ar (tbL t), .ar (nsL a), .od (kvL (lotsOf a w)), .fz (.lst (w.map nD)), .fz (nD w.length), .emp, .emp, u]) := by
    intro s ms u
    obtain ⟨i, hi⟩ := List.getElem?_of_mem ms
    have hst := List.getElem?_eq_getElem (I.lt s ms)
    generalize hq : t[s]'(I.lt s ms) = r at hst
    have hg : t.getD s [] = r := by rw [List.getD_eq_getElem?_getD, hst]; rfl
    rw [hg, List.map_map (g := stD')]
    refine lcL_sm stD' (stD' ∘ fun q => (q.1, (lotsOf a w).idxOf (at0 a q.2))) fun q mq => ?_
    have hm := Dn i s r (List.getElem?_eq_some_iff.mp hi).1 hi hst q mq
    have hat := at0_of (a := a) (i := q.2) (by have := (ht r (List.mem_of_getElem? hst)).2 q mq; omega)
    have hg2 := kvL_get hm
    generalize kvL (lotsOf a w) = kv at hg2 ⊢
    simp -dsimp -implicitDefEqProofs [-Option.map_eq_some_iff, -List.map_map, LIM, atI_map' hat, hg2]
  have hout : lcL (gnm 7) ttY (callF [lcF (seqI (binF (nmF 0) (nmF 7) oIx)) (gtp [gnm 5, gnm 6]) ttY (tupF [nmF 5, dgF 2 (binF (nmF 1) (nmF 6) oIx)]) [5, 6]] oTuple) [7] ((w.map nD).map fun d => (true, d)) [.ar (tbL t), .ar (nsL a), .od (kvL (lotsOf a w)), .fz (.lst (w.map nD)), .fz (nD w.length), s5, s6, .emp] = some ((leastT t a w).map rwD, [.ar (tbL t), .ar (nsL a), .od (kvL (lotsOf a w)), .fz (.lst (w.map nD)), .fz (nD w.length), s5, s6, .emp]) := by
    rw [leastT, List.map_map (g := rwD)]
    refine lcL_sm nD _ fun s ms => ?_
    have hst := List.getElem?_eq_getElem (I.lt s ms)
    have hg : t.getD s [] = t[s]'(I.lt s ms) := by rw [List.getD_eq_getElem?_getD, hst]; rfl
    have h1 := hin s ms
    have h8 : (t.getD s []).length ≤ 8 := by rw [hg]; exact (ht _ (List.getElem_mem _)).1
    have h8' : (t.getD s []).length ≤ 1000000 := by omega
    rw [← hg] at hst
    generalize t.getD s [] = r at *
    generalize kvL (lotsOf a w) = kv at *
    simp -dsimp -implicitDefEqProofs [-Option.map_eq_some_iff, -List.map_map, LIM, atI_map' hst, h1, h8', l5, l6]
    rw [hst]
    rfl
  have hlt : (leastT t a w).length = w.length := by simp [leastT]
  simp -dsimp -implicitDefEqProofs [-Option.map_eq_some_iff, -List.map_map, LIM, R_least_table, fb_least_table, hat0', hmd, e1, hwl, hout, hlt]
end Sc
set_option maxRecDepth 100000
set_option maxHeartbeats 1000000
namespace Sc
open PySem PySem.Spec PyProof.Rows L2
/-! ### a scanner walks as its program -/
structure Sc (p : Pg) (T : Tb) (φ : List Nat → Nat) (R : List Nat → Prop) : Prop where
  ok : SnOk p.bits T
  z : R (zeros p.lines)
  z0 : φ (zeros p.lines) = 0
  lt : ∀ c, R c → φ c < T.length
  st : ∀ c l, R c → l < 2 ^ p.bits → R (placeF p.lines c l).2 ∧ (T.getD (φ c) []).getD l (0, 0) = (lastOf (placeF p.lines c l).1, φ (placeF p.lines c l).2)
theorem std_tb {p : Pg} {o : List (List Nat)} {t : Tb} (h : p.Ok) (K : StdOk p.lines (2 ^ p.bits) o t) : TbOk t := by
  intro r m
  obtain ⟨i, hi⟩ := List.getElem?_of_mem m
  have h1 := (List.getElem?_eq_some_iff.mp hi).1
  have h2 := List.getElem?_eq_getElem (by rw [← K.len]; exact h1 : i < o.length)
  obtain ⟨r', e1, e2, e3⟩ := K.row i _ h2
  rw [hi] at e1
  cases e1
  have h8 := two3 h.b3
  refine ⟨by omega, fun s ms => ?_⟩
  obtain ⟨l, hl⟩ := List.getElem?_of_mem ms
  have hl2 := (List.getElem?_eq_some_iff.mp hl).1
  obtain ⟨e4, e5⟩ := e3 l (by omega)
  rw [hl] at e4
  cases e4
  have := List.idxOf_lt_length_of_mem e5
  have e6 := K.len
  show o.idxOf _ < t.length
  omega
theorem getD_of {α : Type} {xs : List α} {i : Nat} {x d : α} (h : xs[i]? = some x) : xs.getD i d = x := by rw [List.getD_eq_getElem?_getD, h]; rfl
theorem idx_get {α : Type} [BEq α] [LawfulBEq α] {xs : List α} {x : α} (h : x ∈ xs) : xs[xs.idxOf x]? = some x := by
  have h1 := List.idxOf_lt_length_of_mem h
  rw [List.getElem?_eq_getElem h1, List.getElem_idxOf]
theorem sc_of {p : Pg} {o : List (List Nat)} {t : Tb} {a w : List Nat} (h : p.Ok) (K : StdOk p.lines (2 ^ p.bits) o t) (L : Lv t a) (S : Stable t a) (h5 : maxN a ≤ 5) (I : WI t a w) (Dn : Done t a w w.length) :
    Sc p (leastT t a w) (fun c => (lotsOf a w).idxOf (at0 a (o.idxOf c))) (fun c => c ∈ o ∧ at0 a (o.idxOf c) ∈ lotsOf a w) := by
  have few := I.few L.len
  have hwz : ∃ e, w = 0 :: e := by
    have := I.z
    cases w with
    | nil => cases this
    | cons x w => cases this; exact ⟨w, rfl⟩
  obtain ⟨e, rfl⟩ := hwz
  have hz : zeros p.lines ∈ o := List.mem_of_getElem? K.z
  have hz0 : o.idxOf (zeros p.lines) = 0 := by
    cases o with
    | nil => cases hz
    | cons c o =>
      have := K.z
      cases this
      exact List.idxOf_cons_self
  have hlen : (leastT t a (0 :: e)).length = (lotsOf a (0 :: e)).length := by simp [leastT, lotsOf]
  have row : ∀ r ∈ t, r.length = 2 ^ p.bits ∧ ∀ s ∈ r, s.1 ≤ 1 := fun r m => by
    obtain ⟨i, hi⟩ := List.getElem?_of_mem m
    have h1 := (List.getElem?_eq_some_iff.mp hi).1
    have h2 := List.getElem?_eq_getElem (by rw [← K.len]; exact h1 : i < o.length)
    have hcs := K.cs _ (List.mem_of_getElem? h2)
    obtain ⟨r', e1, e2, e3⟩ := K.row i _ h2
    rw [hi] at e1
    cases e1
    refine ⟨e2, fun s ms => ?_⟩
    obtain ⟨l, hl⟩ := List.getElem?_of_mem ms
    have hl2 := (List.getElem?_eq_some_iff.mp hl).1
    obtain ⟨e4, e5⟩ := e3 l (by omega)
    rw [hl] at e4
    cases e4
    exact bits_last (placeF_inv hcs.bits).b1
  refine ⟨⟨h.b1, h.b3, by simp [leastT], by rw [hlen]; simp at few ⊢; omega, fun r m => ?_⟩, ⟨hz, by rw [hz0]; simp [lotsOf]⟩, by rw [hz0]; simp [lotsOf], fun c hc => by rw [hlen]; exact List.idxOf_lt_length_of_mem hc.2, fun c l hc hl => ?_⟩
  · rw [leastT, List.mem_map] at m
    obtain ⟨s, ms, rfl⟩ := m
    have hst := List.getElem?_eq_getElem (I.lt s ms)
    rw [getD_of hst]
    obtain ⟨i, hi⟩ := List.getElem?_of_mem ms
    obtain ⟨r1, r2⟩ := row _ (List.getElem_mem (I.lt s ms))
    refine ⟨by rw [List.length_map]; exact r1, fun q mq => ?_⟩
    obtain ⟨u, mu, rfl⟩ := List.mem_map.mp mq
    refine ⟨r2 u mu, ?_⟩
    rw [hlen]
    exact List.idxOf_lt_length_of_mem (Dn i s _ (List.getElem?_eq_some_iff.mp hi).1 hi hst u mu)
  · obtain ⟨hc1, hc2⟩ := hc
    obtain ⟨r, e1, e2, e3⟩ := K.row (o.idxOf c) c (idx_get hc1)
    obtain ⟨e4, e5⟩ := e3 l hl
    have hj := idx_get hc2
    rw [lotsOf, List.getElem?_map] at hj
    obtain ⟨s, hs, hs2⟩ := Option.map_eq_some_iff.mp hj
    have ms := List.mem_of_getElem? hs
    have hst := List.getElem?_eq_getElem (I.lt s ms)
    generalize t[s]'(I.lt s ms) = r2 at hst
    have hk := S s (o.idxOf c) r2 r hst e1 hs2
    have hk2 : (keyOf a r2)[l]? = some (lastOf (placeF p.lines c l).1, at0 a (o.idxOf (placeF p.lines c l).2)) := by
      rw [hk, keyOf, List.getElem?_map, e4]
      rfl
    rw [keyOf, List.getElem?_map] at hk2
    obtain ⟨q, hq, hq2⟩ := Option.map_eq_some_iff.mp hk2
    have hq3 := Prod.mk.inj hq2
    have hd := Dn _ s r2 (List.getElem?_eq_some_iff.mp hs).1 hs hst q (List.mem_of_getElem? hq)
    refine ⟨⟨e5, by rw [← hq3.2]; exact hd⟩, ?_⟩
    have hT : (leastT t a (0 :: e))[(lotsOf a (0 :: e)).idxOf (at0 a (o.idxOf c))]? = some (r2.map fun q => (q.1, (lotsOf a (0 :: e)).idxOf (at0 a q.2))) := by
      rw [leastT, List.getElem?_map, hs]
      show some ((t.getD s []).map _) = _
      rw [getD_of hst]
    rw [getD_of hT, getD_of (x := (q.1, (lotsOf a (0 :: e)).idxOf (at0 a q.2))) (by rw [List.getElem?_map, hq]; rfl), hq3.1, hq3.2]
theorem sc_way {p : Pg} {T : Tb} {φ : List Nat → Nat} {R : List Nat → Prop} (S : Sc p T φ R) : ∀ (text ms cs : List Nat), R cs → (∀ x ∈ text, x < 2 ^ p.bits) →
    text.foldl (wayStep T) (ms, φ cs) = ((text.foldl (walkStep p.lines) (ms, cs)).1, φ (text.foldl (walkStep p.lines) (ms, cs)).2) ∧ R (text.foldl (walkStep p.lines) (ms, cs)).2
  | [], ms, cs, h, _ => ⟨rfl, h⟩
  | x :: text, ms, cs, h, hx => by
    obtain ⟨h1, h2⟩ := S.st cs x h (hx x (by simp))
    rw [List.foldl_cons, List.foldl_cons]
    have e : wayStep T (ms, φ cs) x = (ms ++ [lastOf (placeF p.lines cs x).1], φ (placeF p.lines cs x).2) := by
      unfold wayStep
      dsimp only
      rw [h2]
    rw [e]
    exact sc_way S text _ _ h1 fun y m => hx y (by simp [m])
theorem sc_walk {p : Pg} {T : Tb} {φ : List Nat → Nat} {R : List Nat → Prop} (S : Sc p T φ R) {text cs : List Nat} (h : R cs) (hx : TxOk p.bits text) :
    wayF T (φ cs) text = ((walkF p.lines cs text).1, φ (walkF p.lines cs text).2) ∧ R (walkF p.lines cs text).2 := sc_way S text [] cs h hx.2
@[simp] theorem z_rs {c : Str} {fs : List ED} {ρ : Env} : rsS c fs ρ = bnd (argsF fs ρ) fun p => some (.ex c p.2) := rfl
/-- a scanner, or none -/
theorem e_scanner_of {p : Pg} (h : p.Ok) (hp : plusC p.lines ≤ 10) : R_scanner_of [p.d] = some (.exc "TooGreat") ∨ ∃ T φ R, R_scanner_of [p.d] = some (.ret (snD p.bits T)) ∧ Sc p T φ R := by
  obtain ⟨o, x, t, K, e⟩ := e_stands_of h hp
  have few := few_stands K.nd K.cs
  have few2 : 2 ^ plusC p.lines ≤ 2 ^ 10 := Nat.pow_le_pow_right (by decide) hp
  have ht := std_tb h K
  have hne : t ≠ [] := fun e => by
    have h1 := K.len
    have h2 := (List.getElem?_eq_some_iff.mp K.z).1
    rw [e] at h1
    simp at h1
    omega
  have hl2 : t.length ≤ 2000 := by rw [K.len]; omega
  obtain ⟨lv, a, e1, e2, L, e3⟩ := e_lot_levels ht hne hl2
  have hn := e_need_program h
  have hlv : lv ≠ [] := fun e => by rw [e] at e2; simp at e2
  have hat : atI (lv.map nsL) (-1) = some (nsL a) := by rw [atI_last (by simpa using hlv), List.getLast?_map, e2]; rfl
  have hane : a ≠ [] := fun e => by have := L.len; rw [e] at this; exact hne (List.length_eq_zero_iff.mp this.symm)
  have hmx := maxL_N hane
  have e1' : R_lot_levels [tbL t, .int 6] = some (.ret (.lst (lv.map nsL))) := e1
  have hnl : noLs (lv.map nsL) = false := by
    cases lv with
    | nil => exact (hlv rfl).elim
    | cons c lv => rfl
  have hst : flsN (stF false p.lines (2 ^ p.bits) o x t) = true := by
    simp [flsN, stF, kvO]
  by_cases z : 6 ≤ maxN a
  · have z' : (6 : Int) ≤ maxN a := by omega
    have hsb : R_scanner_by_table [nD p.bits, tbL t] = some (.exc "TooGreat") := by
      simp -dsimp -implicitDefEqProofs [-Option.map_eq_some_iff, -List.map_map, LIM, R_scanner_by_table, fb_scanner_by_table, c_MOST_STATES, e1', hnl, hlv, hat, hmx, hane, z']
    left
    have hsb' : R_scanner_by_table [nD p.bits, .lst (t.map rwD)] = some (.exc "TooGreat") := hsb
    simp -dsimp -implicitDefEqProofs [-Option.map_eq_some_iff, -List.map_map, LIM, R_scanner_of, fb_scanner_of, hn, e, hst]
    simp [stF, hsb']
  · have z' : ¬ (6 : Int) ≤ maxN a := by omega
    obtain ⟨w, e4, I, Dn⟩ := e_least_table ht hne L.len hl2 (by omega)
    have S : Stable t a := by rcases e3 with e3 | e3; exact (z e3).elim; exact e3
    right
    refine ⟨_, _, _, ?_, sc_of h K L S (by omega) I Dn⟩
    have hsb : R_scanner_by_table [nD p.bits, tbL t] = some (.ret (snD p.bits (leastT t a w))) := by
      simp -dsimp -implicitDefEqProofs [-Option.map_eq_some_iff, -List.map_map, LIM, R_scanner_by_table, fb_scanner_by_table, c_MOST_STATES, e1', hnl, hlv, hat, hmx, hane, z', e4]
    have hsb' : R_scanner_by_table [nD p.bits, .lst (t.map rwD)] = some (.ret (snD p.bits (leastT t a w))) := hsb
    simp -dsimp -implicitDefEqProofs [-Option.map_eq_some_iff, -List.map_map, LIM, R_scanner_of, fb_scanner_of, hn, e, hst]
    simp [stF, hsb']
end Sc
set_option maxRecDepth 100000
set_option maxHeartbeats 1000000
namespace Sc
open PySem PySem.Spec PyProof.Rows L2
/-! ### the law's parts: cuts -/
theorem e_law_scanner {p : Pg} (h : p.Ok) (hp : plusC p.lines ≤ 10) : R__law_scanner [p.d] = some (.ret .non) ∨ ∃ T φ R, R__law_scanner [p.d] = some (.ret (snD p.bits T)) ∧ Sc p T φ R := by
  rcases e_scanner_of h hp with e | ⟨T, φ, R, e, S⟩
  · left
    simp -dsimp -implicitDefEqProofs [-Option.map_eq_some_iff, -List.map_map, LIM, R__law_scanner, fb__law_scanner, e, mtOne]
  · right
    refine ⟨T, φ, R, ?_, S⟩
    simp -dsimp -implicitDefEqProofs [-Option.map_eq_some_iff, -List.map_map, LIM, R__law_scanner, fb__law_scanner, e]
theorem flat_len {bits : Nat} {bs : List (List Nat)} (h : BsOk' bits bs) : bs.flatten.length ≤ 20000 := by rw [List.length_flatten]; exact h.sum
theorem flat_ok {bits : Nat} {bs : List (List Nat)} (h : BsOk' bits bs) : TxOk bits bs.flatten := ⟨flat_len h, fun l m => by
  obtain ⟨b, hb, hl⟩ := List.mem_flatten.mp m
  exact (h.tx b hb).2 l hl⟩
theorem flat_pre {bits : Nat} {bs pre post : List (List Nat)} {x : List Nat} (h : BsOk' bits bs) (e : bs = pre ++ x :: post) : pre.flatten.length + x.length ≤ 20000 ∧ pre.length < 20000 ∧ TxOk bits x := by
  have h1 := flat_len h
  have h2 := h.n
  rw [e] at h1 h2
  simp at h1 h2
  exact ⟨by simp; omega, by omega, h.tx x (by rw [e]; simp)⟩
theorem e_law_joined {bits : Nat} {bs : List (List Nat)} (h : BsOk' bits bs) : R__law_joined [bsD bs] = some (.ret (nsT bs.flatten)) := by
  simp -dsimp -implicitDefEqProofs [-Option.map_eq_some_iff, -List.map_map, LIM, R__law_joined, fb__law_joined]
  refine bnd_seq nsT (fun pre ρ => ∃ b, ρ = [.ar (bsD bs), .fz (nsT pre.flatten), b]) ⟨_, rfl⟩ ?_ ?_
  · rintro pre x post ρ e ⟨b, rfl⟩
    obtain ⟨h1, h2, h3⟩ := flat_pre h e
    have h4 : pre.flatten.length + x.length ≤ 1000000 := by omega
    rw [List.flatten_append, List.flatten_singleton]
    generalize pre.flatten = f at h1 h4 ⊢
    simp -dsimp -implicitDefEqProofs [-Option.map_eq_some_iff, -List.map_map, LIM, h4]
  · rintro ρ' ⟨b, rfl⟩
    simp -dsimp -implicitDefEqProofs [-Option.map_eq_some_iff, -List.map_map, LIM, ]
theorem walk_acc (ls : List Ln) : ∀ (t ms cs : List Nat), t.foldl (walkStep ls) (ms, cs) = (ms ++ (walkF ls cs t).1, (walkF ls cs t).2)
  | [], ms, cs => by simp [walkF]
  | x :: t, ms, cs => by
    unfold walkF
    rw [List.foldl_cons, List.foldl_cons]
    have e : ∀ ms, walkStep ls (ms, cs) x = (ms ++ [lastOf (placeF ls cs x).1], (placeF ls cs x).2) := fun _ => rfl
    rw [e, e, walk_acc ls t (ms ++ _) _, walk_acc ls t ([] ++ _) _]
    simp
theorem walk_app (ls : List Ln) (cs a b : List Nat) : walkF ls cs (a ++ b) = ((walkF ls cs a).1 ++ (walkF ls (walkF ls cs a).2 b).1, (walkF ls (walkF ls cs a).2 b).2) := by
  conv => lhs; unfold walkF
  rw [List.foldl_append]
  have : a.foldl (walkStep ls) ([], cs) = ((walkF ls cs a).1, (walkF ls cs a).2) := rfl
  rw [this, walk_acc]
theorem ahead_last (ls : List Ln) : ∀ (bs : List (List Nat)) (cs : List Nat), (aheadF ls cs bs).getLast?.getD [] = (walkF ls cs bs.flatten).2
  | [], cs => rfl
  | b :: bs, cs => by
    rw [aheadF, List.getLast?_cons, List.flatten_cons, walk_app, ← ahead_last ls bs]
    cases e : (aheadF ls (walkF ls cs b).2 bs).getLast? with
    | none => rw [List.getLast?_eq_none_iff] at e; exact (aheadF_ne _ _ _ e).elim
    | some x => rfl
theorem e_law_cut_right {p : Pg} {bs : List (List Nat)} (h : p.Ok) (hb : BsOk' p.bits bs) : R__law_cut_right [p.d, bsD bs, nsT (walkF p.lines (zeros p.lines) bs.flatten).1, nsT (walkF p.lines (zeros p.lines) bs.flatten).2] = some (.ret (.bl true)) := by
  have h1 := e_carries_ahead h hb
  have h2 := e_law_noughts h.l2
  have hl := flat_len hb
  simp -dsimp -implicitDefEqProofs [-Option.map_eq_some_iff, -List.map_map, LIM, R__law_cut_right, fb__law_cut_right, h1, h2]
  refine bnd_seq nsT (fun pre ρ => ∃ s8 s9 s10, ρ = [.ar p.d, .ar (bsD bs), .ar (nsT (walkF p.lines (zeros p.lines) bs.flatten).1), .ar (nsT (walkF p.lines (zeros p.lines) bs.flatten).2), .fz (.tup ((aheadF p.lines (zeros p.lines) bs).map nsT)), .ow ((aheadF p.lines (zeros p.lines) pre).map nsT), .fz (nsT (walkF p.lines (zeros p.lines) pre.flatten).1), .fz (nsT (walkF p.lines (zeros p.lines) pre.flatten).2), s8, s9, s10]) ⟨_, _, _, rfl⟩ ?_ ?_
  · rintro pre x post ρ e ⟨s8, s9, s10, rfl⟩
    obtain ⟨g1, g2, g3⟩ := flat_pre hb e
    have I := walkF_inv (t := pre.flatten) (zeros_ok p.lines)
    have ok : CsOk p.lines (walkF p.lines (zeros p.lines) pre.flatten).2 := ⟨I.l2, I.b2⟩
    have hk := e_carried_marks h ok g3
    have hw := e_law_walk h.b3 h.ok h.l1 h.l2 ok g3.1
    have J := walkF_inv (t := x) ok
    have hs := same_nsT (walkF p.lines (walkF p.lines (zeros p.lines) pre.flatten).2 x).2
    rw [List.flatten_append, List.flatten_singleton, walk_app, aheadF_snoc, ahead_last]
    have hm : (walkF p.lines (zeros p.lines) pre.flatten).1.length + (walkF p.lines (walkF p.lines (zeros p.lines) pre.flatten).2 x).1.length ≤ 1000000 := by rw [I.l1, J.l1]; omega
    have ha : (aheadF p.lines (zeros p.lines) pre).length < 1000000 := by rw [aheadF_len]; omega
    generalize walkF p.lines (zeros p.lines) pre.flatten = s at *
    generalize walkF p.lines s.2 x = s2 at *
    generalize aheadF p.lines (zeros p.lines) pre = f at *
    simp -dsimp -implicitDefEqProofs [-Option.map_eq_some_iff, -List.map_map, LIM, hk, hw, hs, hm, ha]
  · rintro ρ' ⟨s8, s9, s10, rfl⟩
    have hs := same_nsT (walkF p.lines (zeros p.lines) bs.flatten).2
    have hs2 := same_nsT (walkF p.lines (zeros p.lines) bs.flatten).1
    have hs3 := same_bsD (aheadF p.lines (zeros p.lines) bs)
    have hlen : (aheadF p.lines (zeros p.lines) bs).length ≤ 1000000 := by rw [aheadF_len]; have := hb.n; omega
    have hat := at_lastT (aheadF_ne p.lines (zeros p.lines) bs)
    have hne := aheadF_ne p.lines (zeros p.lines) bs
    rw [ahead_last] at hat
    generalize walkF p.lines (zeros p.lines) bs.flatten = s at *
    generalize aheadF p.lines (zeros p.lines) bs = f at *
    simp -dsimp -implicitDefEqProofs [-Option.map_eq_some_iff, -List.map_map, LIM, hs, hs2, hs3, hlen, hat, hne]
/-- the states between blocks: of the carries there -/
theorem e_scanner_right {p : Pg} {bs : List (List Nat)} {q : P3} {M : DrawSt} (h : p.Ok) (hp : plusC p.lines ≤ 10) (hb : BsOk' p.bits bs) : R__law_scanner_right q M [p.d, bsD bs, nsT (walkF p.lines (zeros p.lines) bs.flatten).1] = some (.bl true, M) := by
  rcases e_law_scanner h hp with e | ⟨T, φ, R, e, S⟩
  · simp -dsimp -implicitDefEqProofs [-Option.map_eq_some_iff, -List.map_map, LIM, R__law_scanner_right, fb__law_scanner_right, e]
  have hl := flat_len hb
  simp -dsimp -implicitDefEqProofs [-Option.map_eq_some_iff, -List.map_map, LIM, R__law_scanner_right, fb__law_scanner_right, e]
  refine bnd_seq nsT (fun pre ρ => ∃ s8, ρ = [.mm q M, .ar p.d, .ar (bsD bs), .ar (nsT (walkF p.lines (zeros p.lines) bs.flatten).1), .fz (snD p.bits T), .fz (nD (φ (walkF p.lines (zeros p.lines) pre.flatten).2)), .fz (nsT (walkF p.lines (zeros p.lines) pre.flatten).1), .ow (((aheadF p.lines (zeros p.lines) pre).map φ).map nD), s8, .emp, .emp, .emp, .emp, .emp] ∧ R (walkF p.lines (zeros p.lines) pre.flatten).2) ⟨.emp, by rw [List.flatten_nil, aheadF]; simp [walkF, S.z0], S.z⟩ ?_ ?_
  · rintro pre x post ρ e ⟨s8, rfl, hR⟩
    obtain ⟨g1, g2, g3⟩ := flat_pre hb e
    have I := walkF_inv (t := pre.flatten) (zeros_ok p.lines)
    have ok : CsOk p.lines (walkF p.lines (zeros p.lines) pre.flatten).2 := ⟨I.l2, I.b2⟩
    have J := walkF_inv (t := x) ok
    obtain ⟨w1, w2⟩ := sc_walk S hR g3
    have hk := e_marks_from S.ok (S.lt _ hR) g3
    have hk2 := e_end_from S.ok (S.lt _ hR) g3
    rw [w1] at hk hk2
    rw [List.flatten_append, List.flatten_singleton, walk_app, aheadF_snoc, ahead_last]
    have hm : (walkF p.lines (zeros p.lines) pre.flatten).1.length + (walkF p.lines (walkF p.lines (zeros p.lines) pre.flatten).2 x).1.length ≤ 1000000 := by rw [I.l1, J.l1]; omega
    have ha : (aheadF p.lines (zeros p.lines) pre).length < 1000000 := by rw [aheadF_len]; omega
    generalize walkF p.lines (zeros p.lines) pre.flatten = s at *
    generalize walkF p.lines s.2 x = s2 at *
    generalize aheadF p.lines (zeros p.lines) pre = f at *
    simp -dsimp -implicitDefEqProofs [-Option.map_eq_some_iff, -List.map_map, LIM, hk, hk2, hm, ha]
    exact w2
  · rintro ρ' ⟨s8, rfl, hR⟩
    have h1 := e_carries_ahead h hb
    have h2 := e_law_joined hb
    have h3 := e_end_state S.ok (flat_ok hb)
    have hlen : (aheadF p.lines (zeros p.lines) bs).length ≤ 1000000 := by rw [aheadF_len]; have := hb.n; omega
    have hw := (sc_walk S S.z (flat_ok hb)).1
    rw [S.z0] at hw
    rw [hw] at h3
    have hs : R__law_same [.tup [nsT (walkF p.lines (zeros p.lines) bs.flatten).1, nD (φ (walkF p.lines (zeros p.lines) bs.flatten).2)], .tup [nsT (walkF p.lines (zeros p.lines) bs.flatten).1, nD (φ (walkF p.lines (zeros p.lines) bs.flatten).2)]] = some (.ret (.bl true)) := same8 (by simp [okS, okSs, okSs_ints]) (by have := deps_ints (walkF p.lines (zeros p.lines) bs.flatten).1; simp [dep, deps]; omega)
    generalize walkF p.lines (zeros p.lines) bs.flatten = s at *
    generalize aheadF p.lines (zeros p.lines) bs = f at *
    have hz : ((f.map φ).map nD).zip (f.map nsT) = f.map fun c => (nD (φ c), nsT c) := by
      clear hlen h1
      induction f with
      | nil => rfl
      | cons c f ih => rw [List.map_cons, List.map_cons, List.map_cons, List.zip_cons_cons, ih, List.map_cons]
    have hz2 : (f.map fun c => (nD (φ c), nsT c)).map (fun x => (true, D.tup [x.1, x.2])) = f.map fun c => (true, D.tup [nD (φ c), nsT c]) := by rw [List.map_map]; rfl
    simp -dsimp -implicitDefEqProofs [-Option.map_eq_some_iff, -List.map_map, LIM, h1, hlen, hz, hz2]
    refine bnd_all (fun c => (true, D.tup [nD (φ c), nsT c])) (fun pre ρ => ∃ s10 s11, ρ = [.mm q M, .ar p.d, .ar (bsD bs), .ar (nsT s.1), .fz (snD p.bits T), .fz (nD (φ s.2)), .fz (nsT s.1), .fz (.lst ((f.map φ).map nD)), s8, .fz (.tup (f.map nsT)), s10, s11, .emp, .emp]) f ⟨_, _, rfl⟩ ?_ ?_
    · rintro pre c0 post ρ e ⟨s10, s11, rfl⟩
      have hin : lcL (gtp [gnm 12, gnm 13]) (andT (tstF (binF (nmF 13) (nmF 11) (oEq false))) (tstF (binF (nmF 12) (nmF 10) (oEq true)))) (kF (D.int 1)) [12, 13] (f.map fun c => (true, D.tup [nD (φ c), nsT c])) [.mm q M, .ar p.d, .ar (bsD bs), .ar (nsT s.1), .fz (snD p.bits T), .fz (nD (φ s.2)), .fz (nsT s.1), .fz (.lst ((f.map φ).map nD)), s8, .fz (.tup (f.map nsT)), .fz (nD (φ c0)), .fz (nsT c0), .emp, .emp] = some ([], [.mm q M, .ar p.d, .ar (bsD bs), .ar (nsT s.1), .fz (snD p.bits T), .fz (nD (φ s.2)), .fz (nsT s.1), .fz (.lst ((f.map φ).map nD)), s8, .fz (.tup (f.map nsT)), .fz (nD (φ c0)), .fz (nsT c0), .emp, .emp]) := by
        have := lcL_fm (g := gtp [gnm 12, gnm 13]) (t := andT (tstF (binF (nmF 13) (nmF 11) (oEq false))) (tstF (binF (nmF 12) (nmF 10) (oEq true)))) (f := kF (D.int 1)) (vs := [12, 13]) (ρ := [.mm q M, .ar p.d, .ar (bsD bs), .ar (nsT s.1), .fz (snD p.bits T), .fz (nD (φ s.2)), .fz (nsT s.1), .fz (.lst ((f.map φ).map nD)), s8, .fz (.tup (f.map nsT)), .fz (nD (φ c0)), .fz (nsT c0), .emp, .emp]) (fun c => (true, D.tup [nD (φ c), nsT c])) (fun _ => none) f fun c m => by
          by_cases zc : c = c0
          · subst zc
            simp -dsimp -implicitDefEqProofs [-Option.map_eq_some_iff, -List.map_map, LIM, ]
          · have hne : ¬ c.map nD = c0.map nD := fun z => zc (nsT_inj (congrArg D.tup z))
            simp -dsimp -implicitDefEqProofs [-Option.map_eq_some_iff, -List.map_map, LIM, hne]
        rw [this]
        simp
      have hok : okEq (.lst []) = true := by decide +kernel
      simp -dsimp -implicitDefEqProofs [-Option.map_eq_some_iff, -List.map_map, LIM, hz, hz2, hin, hok]
    · rintro ρ' ⟨s10, s11, rfl⟩
      generalize bs.flatten = fl at *
      simp -dsimp -implicitDefEqProofs [-Option.map_eq_some_iff, -List.map_map, LIM, h2, h3, hs]
end Sc
set_option maxRecDepth 100000
set_option maxHeartbeats 1000000
namespace Sc
open PySem PySem.Spec PyProof.Rows L2
/-! ### draws -/
theorem cMul_l {i j : Int} (h : i.natAbs < 18446744073709551616) : cMul i j = true := by unfold cMul; rw [decide_eq_true (by exact h)]; rfl
theorem cMul_r {i j : Int} (h : j.natAbs < 18446744073709551616) : cMul i j = true := by unfold cMul; rw [decide_eq_true (p := j.natAbs < 2 ^ 64) (by exact h)]; simp
theorem e_mixed (c n : Int) (h0 : 0 ≤ n) (h1 : n < 2 ^ 62) : ∃ x : Int, R__law_mixed [.int c, .int n] = some (.ret (.int x)) := by
  have m1 : cMul 2 n = true := cMul_l (by decide)
  have m2 : cMul c (1 + 2 * n) = true := cMul_r (by omega)
  have m3 : cMul (c * (1 + 2 * n)) 48271 = true := cMul_r (by decide)
  have m4 : cMul 7919 n = true := cMul_l (by decide)
  have m5 : cMul (7919 * n) n = true := cMul_r (by omega)
  have m6 : cMul 104729 n = true := cMul_l (by decide)
  have m7 : ∀ x, cMul x 69621 = true := fun x => cMul_r (by decide)
  have e1 : cMod (c * (1 + 2 * n) * 48271) 2147483647 = true := rfl
  have e2 : ∀ x, cMod x 2147483629 = true := fun _ => rfl
  have e3 : ∀ x, cDiv x 7 = true := fun _ => rfl
  simp -dsimp -implicitDefEqProofs [-Option.map_eq_some_iff, -List.map_map, LIM, R__law_mixed, fb__law_mixed, m1, m2, m3, m4, m5, m6, m7, e1, e2, e3]
structure MOk (b : Nat) (M : DrawSt) : Prop where
  c : M.cells.length = 64
  s0 : 0 ≤ M.spot
  s1 : M.spot ≤ b
theorem MOk.mono {a b : Nat} {M : DrawSt} (h : MOk a M) (l : a ≤ b) : MOk b M := ⟨h.c, h.s0, by have := h.s1; omega⟩
theorem e_mixR (c n : Int) (h0 : 0 ≤ n) (h1 : n < 2 ^ 62) : ∃ x : Int, mixR c n = some x := by
  obtain ⟨x, e⟩ := e_mixed c n h0 h1
  exact ⟨x, by unfold mixR; rw [e]⟩
theorem e_rest {b : Nat} {M : DrawSt} {l : Nat} (h : MOk b M) (hb : b ≤ 1000000) (hl : 0 < l) : ∃ (x : Nat) (M' : DrawSt), drawRest M l = some (nD x, M') ∧ x < l ∧ MOk (b + 1) M' := by
  obtain ⟨c, s0, s1⟩ := h
  have hi : (M.spot % 64).toNat < M.cells.length := by omega
  obtain ⟨x, hx⟩ := e_mixR (M.cells[(M.spot % 64).toNat] + 31 * (M.spot / 64)) M.spot s0 (by omega)
  obtain ⟨y, hy⟩ := e_mixR x (M.spot + 7) (by omega) (by omega)
  have k1 := Int.emod_nonneg y (show (l : Int) ≠ 0 by omega)
  have k2 := Int.emod_lt_of_pos y (show (0 : Int) < l by omega)
  refine ⟨(y % l).toNat, { M with spot := M.spot + 1 }, ?_, by omega, ⟨c, by show 0 ≤ M.spot + 1; omega, by show M.spot + 1 ≤ ((b + 1 : Nat) : Int); omega⟩⟩
  unfold drawRest
  rw [List.getElem?_eq_getElem hi, Option.bind_some, hx, Option.bind_some, hy, Option.map_some, nD, Int.toNat_of_nonneg k1]
theorem e_draw {b : Nat} {M : DrawSt} {l : Nat} (h : MOk b M) (hb : b ≤ 1000000) (hl : 0 < l) (hl2 : l < 1073741824) : ∃ (x : Nat) (M' : DrawSt), (∀ q, R__law_draw q M [nD l] = some (nD x, M')) ∧ x < l ∧ MOk (b + 1) M' := by
  have hr := e_rest h hb hl
  obtain ⟨c, s0, s1⟩ := h
  have hc : (0 : Int) < l ∧ (l : Int) < 1073741824 ∧ M.cells.length = 64 ∧ 0 ≤ M.spot := ⟨by omega, by omega, c, s0⟩
  have hd : ∀ q, R__law_draw q M [nD l] = drawF M l := fun _ => rfl
  by_cases z : M.great = []
  · obtain ⟨x, M', e1, e2, e3⟩ := hr
    exact ⟨x, M', fun q => by rw [hd, drawF, if_pos hc, if_pos z, e1], e2, e3⟩
  · have hg : 0 < M.great.length := List.length_pos_iff.mpr z
    have g1 := Int.emod_nonneg M.spot (show (M.great.length : Int) ≠ 0 by omega)
    have g2 := Int.emod_lt_of_pos M.spot (show (0 : Int) < M.great.length by omega)
    have hi : (M.spot % M.great.length).toNat < M.great.length := by omega
    have hgt := List.getElem?_eq_getElem hi
    generalize M.great[(M.spot % M.great.length).toNat] = g at hgt
    by_cases zg : 0 < g
    · have k1 := Int.emod_nonneg g (show (l : Int) ≠ 0 by omega)
      have k2 := Int.emod_lt_of_pos g (show (0 : Int) < l by omega)
      refine ⟨(g % l).toNat, { M with spot := M.spot + 1, great := M.great.set (M.spot % M.great.length).toNat (g / l) }, fun q => ?_, by omega, ⟨c, by show 0 ≤ M.spot + 1; omega, by show M.spot + 1 ≤ ((b + 1 : Nat) : Int); omega⟩⟩
      rw [hd, drawF, if_pos hc, if_neg z, hgt, Option.bind_some, if_pos zg, nD, Int.toNat_of_nonneg k1]
    · obtain ⟨x, M', e1, e2, e3⟩ := hr
      exact ⟨x, M', fun q => by rw [hd, drawF, if_pos hc, if_neg z, hgt, Option.bind_some, if_neg zg, e1], e2, e3⟩
end Sc
set_option maxRecDepth 100000
set_option maxHeartbeats 1000000
namespace Sc
open PySem PySem.Spec PyProof.Rows L2
/-! ### drawn texts, lines, programs -/
theorem e_of {q : P3} {b : Nat} {M : DrawSt} {ds : List D} (h : MOk b M) (hb : b ≤ 100000) (hne : ds ≠ []) (hl : ds.length ≤ 1000) (hn : ∀ d ∈ ds, noL d = true) : ∃ (d : D) (M' : DrawSt), R__law_of q M [.lst ds] = some (d, M') ∧ d ∈ ds ∧ MOk (b + 1) M' := by
  have hp := List.length_pos_iff.mpr hne
  obtain ⟨x, M', e, hx, h'⟩ := e_draw h (by omega) hp (by omega)
  have hg := List.getElem?_eq_getElem hx
  generalize ds[x] = d at hg
  have hat : atI ds (x : Int) = some d := by rw [atI_nat hx, hg]
  have hd := hn d (List.mem_of_getElem? hg)
  refine ⟨d, M', ?_, List.mem_of_getElem? hg, h'⟩
  have hl1 : ds.length ≤ 1000000 := by omega
  have e' := e q
  simp -dsimp -implicitDefEqProofs [-Option.map_eq_some_iff, -List.map_map, LIM, R__law_of, fb__law_of, hl1, e', hat, hd]
theorem e_text {q : P3} {b ways most : Nat} {M : DrawSt} (h : MOk b M) (hb : b ≤ 100000) (hw : 1 ≤ ways) (hw2 : ways ≤ 8) (hm : most ≤ 60) : ∃ (t : List Nat) (M' : DrawSt), R__law_text q M [nD ways, nD most] = some (nsT t, M') ∧ t.length ≤ most ∧ (∀ x ∈ t, x < ways) ∧ MOk (b + 61) M' := by
  obtain ⟨n, M1, e, hn, h1⟩ := e_draw (l := most + 1) h (by omega) (by omega) (by omega)
  obtain ⟨es, ρ', e1, t, M', e2, e3, e4, e5, e6⟩ := lcL_all (g := gnm 3) (t := ttY) (f := cmF 0 1 R__law_draw [nmF 1]) (vs := [3]) (ρ := [.mm q M1, .ar (nD ways), .ar (nD most), .emp]) (fun i : Nat => (true, D.int (0 + (i : Int) * 1)))
    (fun pre ds ρ => ∃ (t : List Nat) (M' : DrawSt), ds = t.map nD ∧ ρ = [.mm q M', .ar (nD ways), .ar (nD most), .emp] ∧ t.length = pre.length ∧ (∀ x ∈ t, x < ways) ∧ MOk (b + 1 + pre.length) M') (List.range n) ⟨[], M1, rfl, rfl, rfl, fun _ m => (nomatch m), h1⟩ (by
      rintro pre i post ds ρ er ⟨t, M', rfl, rfl, tl, tw, hM⟩
      have hpl : pre.length < n := by have h0 := congrArg List.length er; simp at h0; omega
      obtain ⟨x, M2, e2, hx, h2⟩ := e_draw hM (by omega) (show 0 < ways by omega) (by omega)
      have e2' := e2 q
      refine ⟨some (nD x), [.mm q M2, .ar (nD ways), .ar (nD most), .emp], ?_, t ++ [x], M2, by simp, rfl, by simp [tl], fun y m => ?_, by rw [List.length_append, List.length_singleton]; exact h2.mono (by omega)⟩
      · simp -dsimp -implicitDefEqProofs [-Option.map_eq_some_iff, -List.map_map, LIM, e2']
      · rcases List.mem_append.mp m with m | m
        · exact tw y m
        · rw [List.mem_singleton.mp m]; exact hx)
  subst e2 e3
  rw [List.length_range] at e4 e6
  refine ⟨t, M', ?_, by omega, e5, e6.mono (by omega)⟩
  have e' : R__law_draw q M [.int ((most : Int) + 1)] = some (nD n, M1) := by rw [← e q, nD]; simp
  have e1' : lcL (gnm 3) ttY (cmF 0 1 R__law_draw [nmF 1]) [3] (rngL 0 n 1) [.mm q M1, .ar (nD ways), .ar (nD most), .emp] = some (t.map nD, [.mm q M', .ar (nD ways), .ar (nD most), .emp]) := e1
  have hs : smallI (n : Int) = true := by unfold smallI BIG; simp; omega
  have htl : t.length ≤ 1000000 := by omega
  simp -dsimp -implicitDefEqProofs [-Option.map_eq_some_iff, -List.map_map, LIM, R__law_text, fb__law_text, e', e1', hs, htl]
theorem e_line {q : P3} {b bits n often : Nat} {M : DrawSt} (h : MOk b M) (hb : b ≤ 10000) (hb1 : 1 ≤ bits) (hb3 : bits ≤ 3) (hn : n ≤ 1000) : ∃ (l : Ln) (M' : DrawSt), R__law_line q M [nD bits, nD n, nD often] = some (l.d, M') ∧ l.ok bits n ∧ (often = 0 → l.isPlus = false) ∧ MOk (b + 5) M' := by
  have plain : ∀ {a : Nat} {M0 : DrawSt}, MOk a M0 → a ≤ b + 1 → ∃ (l : Ln) (M' : DrawSt), (∀ s4 s5, rtS (cmF 0 1 R__law_of [lstF [tupF [kF (.str "row"), cmF 0 1 R__law_draw [nmF 1]], tupF [kF (.str "one")], tupF [kF (.str "zero")], tupF [kF (.str "row"), kF (.int 0)], tupF [kF (.str "row"), binF (nmF 1) (kF (.int 1)) oSub]]]) [.mm q M0, .ar (nD bits), .ar (nD n), .ar (nD often), s4, s5] = some (.rt l.d [.mm q M', .ar (nD bits), .ar (nD n), .ar (nD often), s4, s5])) ∧ l.ok bits n ∧ l.isPlus = false ∧ MOk (a + 2) M' := by
    intro a M0 h0 ha
    obtain ⟨x, M1, e1, hx, h1⟩ := e_draw (l := bits) h0 (by omega) (by omega) (by omega)
    obtain ⟨d, M2, e2, hd, h2⟩ := e_of (q := q) (ds := [(Ln.row x).d, Ln.one.d, Ln.zero.d, (Ln.row 0).d, (Ln.row (bits - 1)).d]) h1 (by omega) (by simp) (by simp) (by simp [Ln.d])
    have hl : ∃ l : Ln, d = l.d ∧ l.ok bits n ∧ l.isPlus = false := by
      simp only [List.mem_cons, List.not_mem_nil, or_false] at hd
      rcases hd with rfl | rfl | rfl | rfl | rfl
      · exact ⟨_, rfl, hx, rfl⟩
      · exact ⟨_, rfl, trivial, rfl⟩
      · exact ⟨_, rfl, trivial, rfl⟩
      · exact ⟨_, rfl, (by show 0 < bits; omega), rfl⟩
      · exact ⟨_, rfl, (by show bits - 1 < bits; omega), rfl⟩
    obtain ⟨l, rfl, l1, l2⟩ := hl
    refine ⟨l, M2, fun s4 s5 => ?_, l1, l2, h2⟩
    have e1' := e1 q
    have e2' : R__law_of q M1 [.lst [.tup [.str "row", nD x], .tup [.str "one"], .tup [.str "zero"], .tup [.str "row", .int 0], .tup [.str "row", .int ((bits : Int) - 1)]]] = some (l.d, M2) := by
      rw [← e2]
      have : ((bits - 1 : Nat) : Int) = (bits : Int) - 1 := by omega
      have e7 : nD (bits - 1) = D.int ((bits : Int) - 1) := congrArg D.int this
      simp only [Ln.d, e7]
      rfl
    simp -dsimp -implicitDefEqProofs [-Option.map_eq_some_iff, -List.map_map, LIM, e1', e2']
  by_cases z : n = 0
  · subst z
    obtain ⟨l, M', e, l1, l2, h'⟩ := plain h (by omega)
    refine ⟨l, M', ?_, l1, fun _ => l2, h'.mono (by omega)⟩
    have e' := e .emp .emp
    rw [R__law_line, fb__law_line]
    generalize rtS (cmF 0 1 R__law_of [lstF [tupF [kF (.str "row"), cmF 0 1 R__law_draw [nmF 1]], tupF [kF (.str "one")], tupF [kF (.str "zero")], tupF [kF (.str "row"), kF (.int 0)], tupF [kF (.str "row"), binF (nmF 1) (kF (.int 1)) oSub]]]) = pl at e' ⊢
    simp -dsimp -implicitDefEqProofs [-Option.map_eq_some_iff, -List.map_map, LIM, e']
  have z' : ¬ (n : Int) = 0 := by omega
  obtain ⟨x12, M1, e1, _, h1⟩ := e_draw (l := 12) h (by omega) (by omega) (by omega)
  have e1' : R__law_draw q M [.int 12] = some (nD x12, M1) := e1 q
  by_cases z12 : x12 = 0
  · subst z12
    obtain ⟨l, M', e, l1, l2, h'⟩ := plain h1 (by omega)
    refine ⟨l, M', ?_, l1, fun _ => l2, h'.mono (by omega)⟩
    have e' := e .emp .emp
    rw [R__law_line, fb__law_line]
    generalize rtS (cmF 0 1 R__law_of [lstF [tupF [kF (.str "row"), cmF 0 1 R__law_draw [nmF 1]], tupF [kF (.str "one")], tupF [kF (.str "zero")], tupF [kF (.str "row"), kF (.int 0)], tupF [kF (.str "row"), binF (nmF 1) (kF (.int 1)) oSub]]]) = pl at e' ⊢
    simp -dsimp -implicitDefEqProofs [-Option.map_eq_some_iff, -List.map_map, LIM, e', e1', z]
  have z12' : ¬ (x12 : Int) = 0 := by omega
  obtain ⟨x, M2, e2, hx, h2⟩ := e_draw (l := n) h1 (by omega) (by omega) (by omega)
  obtain ⟨y, M3, e3, hy, h3⟩ := e_draw (l := n) h2 (by omega) (by omega) (by omega)
  obtain ⟨x10, M4, e4, _, h4⟩ := e_draw (l := 10) h3 (by omega) (by omega) (by omega)
  have e2' := e2 q
  have e3' := e3 q
  have e4' : R__law_draw q M3 [.int 10] = some (nD x10, M4) := e4 q
  by_cases zp : x10 < often
  · have zp' : (x10 : Int) < often := by omega
    refine ⟨.bin .plus x y, M4, ?_, ⟨hx, hy⟩, fun z0 => by omega, h4.mono (by omega)⟩
    simp -dsimp -implicitDefEqProofs [-Option.map_eq_some_iff, -List.map_map, LIM, R__law_line, fb__law_line, e1', e2', e3', e4', z, z12, zp']
    simp [Ln.d, Bo.s]
  · have zp' : ¬ (x10 : Int) < often := by omega
    obtain ⟨d, M5, e5, hd, h5⟩ := e_of (q := q) (ds := [(Ln.not x).d, (Ln.bin .and x y).d, (Ln.bin .or x y).d, (Ln.bin .xor x y).d]) h4 (by omega) (by simp) (by simp) (by simp [Ln.d])
    have hl : ∃ l : Ln, d = l.d ∧ l.ok bits n ∧ l.isPlus = false := by
      simp only [List.mem_cons, List.not_mem_nil, or_false] at hd
      rcases hd with rfl | rfl | rfl | rfl
      · exact ⟨_, rfl, hx, rfl⟩
      · exact ⟨_, rfl, ⟨hx, hy⟩, rfl⟩
      · exact ⟨_, rfl, ⟨hx, hy⟩, rfl⟩
      · exact ⟨_, rfl, ⟨hx, hy⟩, rfl⟩
    obtain ⟨l, rfl, l1, l2⟩ := hl
    refine ⟨l, M5, ?_, l1, fun _ => l2, h5⟩
    have e5' : R__law_of q M4 [.lst [.tup [.str "not", nD x], .tup [.str "and", nD x, nD y], .tup [.str "or", nD x, nD y], .tup [.str "xor", nD x, nD y]]] = some (l.d, M5) := e5
    simp -dsimp -implicitDefEqProofs [-Option.map_eq_some_iff, -List.map_map, LIM, R__law_line, fb__law_line, e1', e2', e3', e4', e5', z, z12, zp']
end Sc
set_option maxRecDepth 100000
set_option maxHeartbeats 1000000
namespace Sc
open PySem PySem.Spec PyProof.Rows L2
section
def lcoR (j : Nat) (g : GD) (t : TD) (f : ED) (vs : List Nat) (ρ : Env) : Option Sc.Slot → Option (Res × Env)
  | some (.ow ds) => if vs.contains j = false ∧ vs.all (fun v => isLight ρ[v]?) = true then bnd (lcL g t f vs (ds.map fun d => (true, d)) (wipeE (ρ.set j .emp) vs)) fun r => if r.1.length ≤ LIM ∧ isEmp (restE (ρ.set j .emp) r.2 vs)[j]? = true then some (.nw r.1, (restE (ρ.set j .emp) r.2 vs).set j (.ow ds)) else none else none
  | _ => none
@[simp] theorem z_lco {j : Nat} {g : GD} {t : TD} {f : ED} {vs : List Nat} {ρ : Env} : lcoF j g t f vs ρ = lcoR j g t f vs ρ ρ[j]? := rfl
@[simp] theorem z_lcoR {j : Nat} {g : GD} {t : TD} {f : ED} {vs : List Nat} {ρ : Env} {ds : List D} : lcoR j g t f vs ρ (some (.ow ds)) = if vs.contains j = false ∧ vs.all (fun v => isLight ρ[v]?) = true then bnd (lcL g t f vs (ds.map fun d => (true, d)) (wipeE (ρ.set j .emp) vs)) fun r => if r.1.length ≤ LIM ∧ isEmp (restE (ρ.set j .emp) r.2 vs)[j]? = true then some (.nw r.1, (restE (ρ.set j .emp) r.2 vs).set j (.ow ds)) else none else none := rfl
@[simp] theorem isEmp_e : isEmp (some .emp) = true := rfl
end
/-! ### drawn programs -/
def lines0 (bits : Nat) : List Ln := (List.range bits).map Ln.row ++ [.one]
theorem lines0_ok (bits : Nat) : LsOk' bits (lines0 bits) := by
  intro i l h
  unfold lines0 at h
  by_cases z : i < bits
  · rw [List.getElem?_append_left (by simpa using z), List.getElem?_map, List.getElem?_range z] at h
    cases h
    exact z
  · rw [List.getElem?_append_right (by simpa using z)] at h
    have := List.mem_of_getElem? h
    rw [List.mem_singleton.mp this]
    trivial
theorem lines0_plus (bits : Nat) : plusC (lines0 bits) = 0 := by
  unfold plusC lines0
  rw [List.length_eq_zero_iff, List.filter_eq_nil_iff]
  intro l m
  rcases List.mem_append.mp m with m | m
  · obtain ⟨k, _, rfl⟩ := List.mem_map.mp m
    simp [Ln.isPlus]
  · rw [List.mem_singleton.mp m]
    simp [Ln.isPlus]
theorem ls_snoc {bits : Nat} {ls : List Ln} {l : Ln} (h : LsOk' bits ls) (hl : l.ok bits ls.length) : LsOk' bits (ls ++ [l]) := by
  intro i x hx
  by_cases z : i < ls.length
  · rw [List.getElem?_append_left z] at hx
    exact h i x hx
  · have := (List.getElem?_eq_some_iff.mp hx).1
    rw [List.length_append, List.length_singleton] at this
    have : i = ls.length := by omega
    subst this
    rw [List.getElem?_append_right (Nat.le_refl _)] at hx
    simp at hx
    subst hx
    exact hl
theorem plus_count (ls : List Ln) : (ls.filterMap fun l => if l.isPlus then some (D.int 1) else none).length = plusC ls := by
  unfold plusC
  induction ls with
  | nil => rfl
  | cons l ls ih =>
    rw [List.filterMap_cons, List.filter_cons]
    by_cases z : l.isPlus = true
    · simp [z, ih]
    · simp [z, ih]
theorem e_program {q : P3} {b bits extra most : Nat} {M : DrawSt} (h : MOk b M) (hb : b ≤ 9000) (hb1 : 1 ≤ bits) (hb3 : bits ≤ 3) (hx : extra ≤ 10) (hm : most ≤ 4) : ∃ (p : Pg) (M' : DrawSt), R__law_program q M [nD bits, nD extra, nD most] = some (p.d, M') ∧ p.Ok ∧ p.bits = bits ∧ p.lines.length ≤ 14 ∧ plusC p.lines ≤ 4 ∧ MOk (b + 50) M' := by
  have hs1 : smallI (bits : Int) = true := by unfold smallI BIG; simp; omega
  have hs2 : smallI (extra : Int) = true := by unfold smallI BIG; simp; omega
  have h0 : lcL (gnm 7) ttY (tupF [kF (.str "row"), nmF 7]) [7] (rngL 0 bits 1) [.mm q M, .ar (nD bits), .ar (nD extra), .ar (nD most), .emp, .emp, .emp, .emp, .emp] = some (((List.range bits).map Ln.row).map Ln.d, [.mm q M, .ar (nD bits), .ar (nD extra), .ar (nD most), .emp, .emp, .emp, .emp, .emp]) := by
    rw [List.map_map]
    refine lcL_rng 0 1 bits (Ln.d ∘ Ln.row) fun i hi => ?_
    simp -dsimp -implicitDefEqProofs [-Option.map_eq_some_iff, -List.map_map, LIM, Ln.d]
  have hbl : bits ≤ 1000000 := by omega
  have hbl2 : bits + 1 ≤ 1000000 := by omega
  suffices hh : ∃ (ls : List Ln) (M' : DrawSt), R__law_program q M [nD bits, nD extra, nD most] = some (.tup [nD bits, lsD ls], M') ∧ LsOk' bits ls ∧ ls ≠ [] ∧ ls.length = bits + 1 + extra ∧ plusC ls ≤ most ∧ MOk (b + 5 * extra) M' by
    obtain ⟨ls, M', e, k1, k2, k3, k4, k5⟩ := hh
    exact ⟨⟨bits, ls⟩, M', e, ⟨hb1, hb3, k2, by show ls.length ≤ 50000; omega, k1⟩, rfl, by show ls.length ≤ 14; omega, by show plusC ls ≤ 4; omega, k5.mono (by omega)⟩
  obtain ⟨ρ', e1, ls, M', s5, s6, rfl, k1, k2, k3, k4, k5⟩ := forL_rng (g := gnm 5) (b := seqS (setS 6 (callF [lcoF 4 (gnm 8) (tstF (binF (binF (nmF 8) (kF (.int 0)) oIx) (kF (.str "plus")) (oEq false))) (kF (.int 1)) [8]] oLen)) (drS (appF 4 (cmF 0 3 R__law_line [nmF 1, callF [nmF 4] oLen, ifF (tstF (binF (nmF 6) (nmF 3) oLt)) (kF (.int 4)) (kF (.int 0))]))))
    (ρ := [.mm q M, .ar (nD bits), .ar (nD extra), .ar (nD most), .ow ((lines0 bits).map Ln.d), .emp, .emp, .emp, .emp]) 0 1 extra
    (fun i ρ => ∃ (ls : List Ln) (M' : DrawSt) (s5 s6 : Slot), ρ = [.mm q M', .ar (nD bits), .ar (nD extra), .ar (nD most), .ow (ls.map Ln.d), s5, s6, .emp, .emp] ∧ LsOk' bits ls ∧ ls ≠ [] ∧ ls.length = bits + 1 + i ∧ plusC ls ≤ most ∧ MOk (b + 5 * i) M')
    ⟨_, M, _, _, rfl, lines0_ok bits, by simp [lines0], by simp [lines0], by rw [lines0_plus]; exact Nat.zero_le _, h⟩ (by
      rintro i ρ hi ⟨ls, M', s5, s6, rfl, k1, k2, k3, k4, k5⟩
      have hc : ∀ s5 s6 : Slot, lcL (gnm 8) (tstF (binF (binF (nmF 8) (kF (.int 0)) oIx) (kF (.str "plus")) (oEq false))) (kF (.int 1)) [8] ((ls.map Ln.d).map fun d => (true, d)) [.mm q M', .ar (nD bits), .ar (nD extra), .ar (nD most), .emp, s5, s6, .emp, .emp] = some (ls.filterMap fun l => if l.isPlus then some (D.int 1) else none, [.mm q M', .ar (nD bits), .ar (nD extra), .ar (nD most), .emp, s5, s6, .emp, .emp]) := by
        intro s5 s6
        refine lcL_sq Ln.d (fun l => if l.isPlus then some (D.int 1) else none) fun l m => ?_
        rw [Ln.d_eq]
        have hw := Ln.w_ok l
        have hp := Ln.w_plus l
        cases hz : l.isPlus
        · rw [hz] at hp
          simp -dsimp -implicitDefEqProofs [-Option.map_eq_some_iff, -List.map_map, LIM, hw, hp]
        · rw [hz] at hp
          simp -dsimp -implicitDefEqProofs [-Option.map_eq_some_iff, -List.map_map, LIM, hw, hp]
      have hpc := plus_count ls
      have hpl := plusC_le ls
      have hl1 : (ls.filterMap fun l => if l.isPlus then some (D.int 1) else none).length ≤ 1000000 := by rw [hpc]; omega
      have hl2 : ls.length ≤ 1000000 := by omega
      have hl3 : ls.length < 1000000 := by omega
      have hl4 : ((ls.filterMap fun l => if l.isPlus then some (D.int 1) else none).length : Int) = (plusC ls : Int) := by rw [hpc]
      generalize hfm : (ls.filterMap fun l => if l.isPlus then some (D.int 1) else none) = fm at *
      have hfl : fm.length = plusC ls := hpc
      by_cases z : plusC ls < most
      · have z' : (plusC ls : Int) < most := by omega
        obtain ⟨l, M2, e2, l1, l2, h2⟩ := e_line (q := q) (n := ls.length) (often := 4) k5 (by omega) hb1 hb3 (by omega)
        have e2' : R__law_line q M' [nD bits, .int ls.length, .int 4] = some (l.d, M2) := e2
        have hok : plusC (ls ++ [l]) ≤ most := by rw [plusC_snoc]; split <;> omega
        refine ⟨[.mm q M2, .ar (nD bits), .ar (nD extra), .ar (nD most), .ow ((ls ++ [l]).map Ln.d), .fz (nD (0 + i * 1)), .fz (nD (plusC ls)), .emp, .emp], ?_, ls ++ [l], M2, _, _, rfl, ls_snoc k1 l1, by simp, by simp; omega, hok, h2.mono (by omega)⟩
        have hl5 : plusC ls ≤ 1000000 := by omega
        simp -dsimp -implicitDefEqProofs [-Option.map_eq_some_iff, -List.map_map, LIM, hc, hl5, hl2, hl3, hfl, z', e2']
      · have z' : ¬ (plusC ls : Int) < most := by omega
        obtain ⟨l, M2, e2, l1, l2, h2⟩ := e_line (q := q) (n := ls.length) (often := 0) k5 (by omega) hb1 hb3 (by omega)
        have e2' : R__law_line q M' [nD bits, .int ls.length, .int 0] = some (l.d, M2) := e2
        have hok : plusC (ls ++ [l]) ≤ most := by rw [plusC_snoc, if_neg (by rw [l2 rfl]; simp)]; omega
        refine ⟨[.mm q M2, .ar (nD bits), .ar (nD extra), .ar (nD most), .ow ((ls ++ [l]).map Ln.d), .fz (nD (0 + i * 1)), .fz (nD (plusC ls)), .emp, .emp], ?_, ls ++ [l], M2, _, _, rfl, ls_snoc k1 l1, by simp, by simp; omega, hok, h2.mono (by omega)⟩
        have hl5 : plusC ls ≤ 1000000 := by omega
        simp -dsimp -implicitDefEqProofs [-Option.map_eq_some_iff, -List.map_map, LIM, hc, hl5, hl2, hl3, hfl, z', e2'])
  have hll : ls.length ≤ 1000000 := by omega
  refine ⟨ls, M', ?_, k1, k2, k3, k4, k5⟩
  have hl0 : (lines0 bits).map Ln.d = ((List.range bits).map Ln.row).map Ln.d ++ [.tup [.str "one"]] := by simp [lines0, Ln.d]
  rw [hl0] at e1
  have hll0 : (((List.range bits).map Ln.row).map Ln.d).length = bits := by simp
  generalize ((List.range bits).map Ln.row).map Ln.d = l0 at *
  have g1 : l0.length ≤ 1000000 := by omega
  have g2 : l0.length + 1 ≤ 1000000 := by omega
  simp -dsimp -implicitDefEqProofs [-Option.map_eq_some_iff, -List.map_map, LIM, R__law_program, fb__law_program, hs1, hs2, h0, g1, g2, e1, hll]
end Sc
set_option maxRecDepth 100000
set_option maxHeartbeats 1000000
namespace Sc
open PySem PySem.Spec PyProof.Rows L2
/-! ### drawn cuts -/
theorem cut_hi {t : List Nat} {k : Nat} : cutD (t.map nD) none (some (k : Int)) = (t.take k).map nD := by
  unfold cutD
  rw [HT.sIx_none, HT.sIx_nat, List.length_map, List.drop_zero, Nat.sub_zero, ← List.map_take]
  congr 1
  by_cases z : k ≤ t.length
  · rw [Nat.min_eq_left z]
  · rw [Nat.min_eq_right (by omega), List.take_length, List.take_of_length_le (by omega)]
theorem cut_lo {t : List Nat} {k : Nat} : cutD (t.map nD) (some (k : Int)) none = (t.drop k).map nD := by
  unfold cutD
  rw [HT.sIx_none, HT.sIx_nat, List.length_map, ← List.map_drop, ← List.map_take]
  congr 1
  by_cases z : k ≤ t.length
  · rw [Nat.min_eq_left z, List.take_of_length_le (by simp)]
  · rw [Nat.min_eq_right (by omega), List.drop_length, List.drop_of_length_le (by omega)]
    simp
theorem okT0 : okEq (.tup []) = true := by decide +kernel
theorem sm60 : smallI 60 = true := by decide
structure CutI (bits b : Nat) (t : List Nat) (i : Nat) (bs : List (List Nat)) (r : List Nat) (M : DrawSt) : Prop where
  cat : bs.flatten ++ r = t
  n : bs.length = i
  m : MOk (b + 3 * i) M
theorem e_cut {q : P3} {b bits : Nat} {M : DrawSt} {t : List Nat} (h : MOk b M) (hb : b ≤ 9000) (ht : t.length ≤ 60) (htx : ∀ x ∈ t, x < 2 ^ bits) : ∃ (bs : List (List Nat)) (M' : DrawSt), R__law_cut q M [nsT t] = some (bsD bs, M') ∧ bs.flatten = t ∧ BsOk' bits bs ∧ MOk (b + 180) M' := by
  suffices hh : ∃ (bs : List (List Nat)) (M' : DrawSt), R__law_cut q M [nsT t] = some (bsD bs, M') ∧ bs.flatten = t ∧ bs.length ≤ 61 ∧ MOk (b + 180) M' by
    obtain ⟨bs, M', e, e1, e2, e3⟩ := hh
    have hl : (bs.map List.length).sum ≤ 20000 := by rw [← List.length_flatten, e1]; omega
    refine ⟨bs, M', e, e1, ⟨fun c m => ⟨?_, fun x mx => htx x ?_⟩, hl, by omega⟩, e3⟩
    · have h1 : c.length ≤ (bs.map List.length).sum := by
        clear e e1 e2 hl
        induction bs with
        | nil => cases m
        | cons d bs ih =>
          rw [List.map_cons, List.sum_cons]
          rcases List.mem_cons.mp m with rfl | m
          · omega
          · have := ih m; omega
      omega
    · rw [← e1]
      exact List.mem_flatten.mpr ⟨c, m, mx⟩
  have key := forL_rng_or (g := gnm 4) (b := seqS (ifS (tstF (binF (nmF 3) (tupF []) (oEq false))) (rtS (callF [nmF 2] oTuple)) (skF)) (seqS (setS 5 (binF (binF (cmF 0 1 R__law_draw [kF (.int 4)]) (cmF 0 1 R__law_draw [kF (.int 3)]) oTimes) (cmF 0 1 R__law_draw [kF (.int 2)]) oPlus)) (seqS (drS (appF 2 (slF (nmF 3) (noP) (soP (nmF 5))))) (setS 3 (slF (nmF 3) (soP (nmF 5)) (noP))))))
    (ρ := [.mm q M, .ar (nsT t), .ow [], .ar (nsT t), .emp, .emp]) 0 1 60
    (fun i ρ => ∃ (bs : List (List Nat)) (r : List Nat) (M' : DrawSt) (s3 s4 s5 : Slot), ρ = [.mm q M', .ar (nsT t), .ow (bs.map nsT), s3, s4, s5] ∧ (s3 = .ar (nsT r) ∨ s3 = .fz (nsT r)) ∧ CutI bits b t i bs r M')
    (fun d ρ => ∃ (bs : List (List Nat)) (M' : DrawSt) (s1 s2 s3 s4 s5 : Slot), d = bsD bs ∧ ρ = [.mm q M', s1, s2, s3, s4, s5] ∧ bs.flatten = t ∧ bs.length ≤ 61 ∧ MOk (b + 180) M')
    ⟨[], t, M, _, _, _, rfl, .inl rfl, rfl, rfl, h⟩ (by
      rintro i ρ hi ⟨bs, r, M', s3, s4, s5, rfl, h3, C⟩
      have hcat := C.cat
      have hn := C.n
      have hbl : bs.length ≤ 1000000 := by omega
      have hbl2 : bs.length < 1000000 := by omega
      by_cases z : r = []
      · right
        subst z
        rw [List.append_nil] at hcat
        refine ⟨bsD bs, [.mm q M', .ar (nsT t), .ow (bs.map nsT), s3, .fz (nD (0 + i * 1)), s5], ?_, bs, M', _, _, _, _, _, rfl, rfl, hcat, by omega, C.m.mono (by omega)⟩
        rcases h3 with rfl | rfl
        · simp -dsimp -implicitDefEqProofs [-Option.map_eq_some_iff, -List.map_map, LIM, hbl, okT0]
        · simp -dsimp -implicitDefEqProofs [-Option.map_eq_some_iff, -List.map_map, LIM, hbl, okT0]
      · left
        obtain ⟨x1, M1, e1, _, h1⟩ := e_draw (l := 4) C.m (by omega) (by omega) (by omega)
        obtain ⟨x2, M2, e2, _, h2⟩ := e_draw (l := 3) h1 (by omega) (by omega) (by omega)
        obtain ⟨x3, M3, e3, _, h3'⟩ := e_draw (l := 2) h2 (by omega) (by omega) (by omega)
        have e1' : R__law_draw q M' [.int 4] = some (nD x1, M1) := e1 q
        have e2' : R__law_draw q M1 [.int 3] = some (nD x2, M2) := e2 q
        have e3' : R__law_draw q M2 [.int 2] = some (nD x3, M3) := e3 q
        have cm : cMul x1 x2 = true := cMul_l (by omega)
        have hcut := cut_hi (t := r) (k := x1 * x2 + x3)
        have hcut2 := cut_lo (t := r) (k := x1 * x2 + x3)
        have hcast : (((x1 * x2 + x3 : Nat)) : Int) = (x1 : Int) * x2 + x3 := by simp
        rw [hcast] at hcut hcut2
        have zr : ¬ r.map nD = [] := by simpa using z
        have I2 : CutI bits b t (i + 1) (bs ++ [r.take (x1 * x2 + x3)]) (r.drop (x1 * x2 + x3)) M3 := ⟨by rw [List.flatten_append, List.flatten_singleton, List.append_assoc, List.take_append_drop]; exact hcat, by simp [hn], h3'.mono (by omega)⟩
        generalize r.take (x1 * x2 + x3) = rA at *
        generalize r.drop (x1 * x2 + x3) = rB at *
        rcases h3 with rfl | rfl
        · simp -dsimp -implicitDefEqProofs [-Option.map_eq_some_iff, -List.map_map, LIM, okT0, zr, z, e1', e2', e3', cm, hcut, hcut2, hbl2]
          exact ⟨_, rB, _, _, ⟨rfl, by rw [List.map_append]; rfl, rfl⟩, by simp, I2⟩
        · simp -dsimp -implicitDefEqProofs [-Option.map_eq_some_iff, -List.map_map, LIM, okT0, zr, z, e1', e2', e3', cm, hcut, hcut2, hbl2]
          exact ⟨bs ++ [rA], rB, _, _, ⟨rfl, by simp, rfl⟩, by simp, I2⟩)
  rcases key with ⟨ρ', e1, bs, r, M', s3, s4, s5, rfl, h3, C⟩ | ⟨d, ρ', e1, bs, M', s1, s2, s3, s4, s5, rfl, rfl, k1, k2, k3⟩
  · have hn := C.n
    have hbl : bs.length ≤ 1000000 := by omega
    have hbl2 : bs.length + 1 ≤ 1000000 := by omega
    refine ⟨bs ++ [r], M', ?_, by rw [List.flatten_append, List.flatten_singleton]; exact C.cat, by simp; omega, C.m⟩
    rcases h3 with rfl | rfl
    · simp -dsimp -implicitDefEqProofs [-Option.map_eq_some_iff, -List.map_map, LIM, R__law_cut, fb__law_cut, sm60, e1, hbl, hbl2]
    · simp -dsimp -implicitDefEqProofs [-Option.map_eq_some_iff, -List.map_map, LIM, R__law_cut, fb__law_cut, sm60, e1, hbl, hbl2]
  · refine ⟨bs, M', ?_, k1, k2, k3⟩
    simp -dsimp -implicitDefEqProofs [-Option.map_eq_some_iff, -List.map_map, LIM, R__law_cut, fb__law_cut, sm60, e1]
end Sc
set_option maxRecDepth 100000
set_option maxHeartbeats 1000000
namespace Sc
open PySem PySem.Spec PyProof.Rows L2
/-! ### the drawing state, begun -/
theorem ix_cell {cells : List Int} {n : Nat} {j : Int} (h : n < cells.length) (hj : j = (n : Int)) : ixN cells.length j = some n ∧ ∃ c, atI (cells.map D.int) j = some (.int c) := by
  subst hj
  refine ⟨?_, cells[n], ?_⟩
  · unfold ixN
    rw [if_pos (by omega), if_pos (by omega)]
    simp
  · rw [atI_nat (by simpa using h), List.getElem?_map, List.getElem?_eq_getElem h]
    rfl
theorem e_folded {script : List Int} (hl : script.length ≤ 63) : ∃ cells : List Int, cells.length = 64 ∧ R__law_folded [.lst (script.map D.int)] = some (.ret (.lst (cells.map D.int))) := by
  have h64 : smallI 64 = true := by decide
  have h1s : smallI 1 = true := by decide
  have hm : ∀ x, cMod x 2147483647 = true := fun _ => rfl
  have hm2 : ∀ x, cMod x 64 = true := fun _ => rfl
  have hc0 : lcL (gnm 2) ttY (binF (kF (.int 17)) (nmF 2) oPlus) [2] (rngL 0 64 1) [.ar (.lst (script.map D.int)), .emp, .emp, .emp] = some (((List.range 64).map fun (i : Nat) => (17 : Int) + i).map D.int, [.ar (.lst (script.map D.int)), .emp, .emp, .emp]) := by
    rw [List.map_map]
    refine lcL_rng 0 1 64 _ fun i hi => ?_
    simp -dsimp -implicitDefEqProofs [-Option.map_eq_some_iff, -List.map_map, LIM, ]
  have s1 : ∃ ρ', forL (gtp [gnm 2, gnm 3]) (stS 1 (binF (callF [nmF 2] oInt) (kF (.int 64)) oMod) (binF (callF [binF (binF (binF (nmF 1) (binF (callF [nmF 2] oInt) (kF (.int 64)) oMod) oIx) (kF (.int 48271)) oTimes) (nmF 3) oPlus] oInt) (kF (.int 2147483647)) oMod)) (enL false (script.map D.int)) [.ar (.lst (script.map D.int)), .ow (((List.range 64).map fun (i : Nat) => (17 : Int) + i).map D.int), .emp, .emp] = some (.nx ρ') ∧ ∃ (cells : List Int) (u v : Slot), ρ' = [.ar (.lst (script.map D.int)), .ow (cells.map D.int), u, v] ∧ cells.length = 64 := by
    rw [enL_map]
    refine forL_all _ (fun _ ρ => ∃ (cells : List Int) (u v : Slot), ρ = [.ar (.lst (script.map D.int)), .ow (cells.map D.int), u, v] ∧ cells.length = 64) _ ⟨_, _, _, rfl, by simp⟩ ?_
    rintro pre ⟨i, x⟩ post ρ e ⟨cells, u, v, rfl, hc⟩
    have hn : i % 64 < cells.length := by omega
    obtain ⟨h2, c, h3⟩ := ix_cell (j := (i : Int) % 64) hn (by omega)
    have cm : cMul c 48271 = true := cMul_r (by decide)
    rw [hc] at h2
    simp -dsimp -implicitDefEqProofs [-Option.map_eq_some_iff, -List.map_map, LIM, hm, hm2, h2, h3, cm, hc]
    exact ⟨cells.set (i % 64) _, by rw [List.map_set], by simp [hc]⟩
  obtain ⟨ρ1, f1, cells, u, v, rfl, hc⟩ := s1
  have s2 : ∃ ρ', forL (gnm 2) (stS 1 (nmF 2) (binF (callF [binF (binF (nmF 1) (nmF 2) oIx) (binF (binF (nmF 1) (binF (nmF 2) (kF (.int 1)) oSub) oIx) (kF (.int 16807)) oTimes) oPlus] oInt) (kF (.int 2147483647)) oMod)) (rngL 1 63 1) [.ar (.lst (script.map D.int)), .ow (cells.map D.int), u, v] = some (.nx ρ') ∧ ∃ (cells : List Int) (u v : Slot), ρ' = [.ar (.lst (script.map D.int)), .ow (cells.map D.int), u, v] ∧ cells.length = 64 := by
    refine forL_rng 1 1 63 (fun _ ρ => ∃ (cells : List Int) (u v : Slot), ρ = [.ar (.lst (script.map D.int)), .ow (cells.map D.int), u, v] ∧ cells.length = 64) ⟨cells, u, v, rfl, hc⟩ ?_
    rintro i ρ hi ⟨cells, u, v, rfl, hc⟩
    obtain ⟨h2, c, h3⟩ := ix_cell (cells := cells) (n := i + 1) (j := 1 + (i : Int)) (by omega) (by omega)
    obtain ⟨_, c', h4⟩ := ix_cell (cells := cells) (n := i) (j := 1 + (i : Int) - 1) (by omega) (by omega)
    have cm : cMul c' 16807 = true := cMul_r (by decide)
    rw [hc] at h2
    simp -dsimp -implicitDefEqProofs [-Option.map_eq_some_iff, -List.map_map, LIM, hm, h2, h3, h4, cm, hc]
    exact ⟨cells.set (i + 1) _, by rw [List.map_set], by simp [hc]⟩
  obtain ⟨ρ2, f2, cells2, u2, v2, rfl, hc2⟩ := s2
  refine ⟨cells2, hc2, ?_⟩
  have hll : (((List.range 64).map fun (i : Nat) => (17 : Int) + i).map D.int).length ≤ 1000000 := by simp
  generalize ((List.range 64).map fun (i : Nat) => (17 : Int) + i).map D.int = l0 at *
  simp -dsimp -implicitDefEqProofs [-Option.map_eq_some_iff, -List.map_map, LIM, R__law_folded, fb__law_folded, h64, h1s, hc0, hll, f1, f2]
theorem e_begun {script : List Int} (hl : script.length ≤ 63) : ∃ M, begunF script = some M ∧ MOk 0 M := by
  obtain ⟨cells, hc, e⟩ := e_folded hl
  have hL : script.length ≤ LIM := by unfold LIM; omega
  refine ⟨⟨cells, greatOf script, 0⟩, ?_, hc, Int.le_refl _, Int.le_refl _⟩
  unfold begunF
  rw [e]
  show (if script.length ≤ LIM then (intsOf (cells.map D.int)).map fun cells => DrawSt.mk cells (greatOf script) 0 else none) = _
  rw [if_pos hL]
  have := ints_map (fun x : Int => x) cells
  rw [show (cells.map fun x => D.int ((fun x : Int => x) x)) = cells.map D.int from rfl] at this
  rw [this]
  simp
end Sc
set_option maxRecDepth 100000
set_option maxHeartbeats 1000000
namespace Sc
open PySem PySem.Spec PyProof.Rows L2
/-! ### the law -/
theorem single_ok {bits : Nat} {t : List Nat} (h : TxOk bits t) (hl : t.length ≤ 60) : BsOk' bits (t.map fun x => [x]) := by
  refine ⟨fun c m => ?_, ?_, by simp; omega⟩
  · obtain ⟨x, mx, rfl⟩ := List.mem_map.mp m
    exact ⟨by simp, fun l ml => by rw [List.mem_singleton.mp ml]; exact h.2 x mx⟩
  · rw [List.map_map]
    have : ∀ t : List Nat, (t.map (List.length ∘ fun x => [x])).sum = t.length := fun t => by
      induction t with
      | nil => rfl
      | cons x t ih => rw [List.map_cons, List.sum_cons, ih]; simp; omega
    rw [this]
    omega
theorem single_flat (t : List Nat) : (t.map fun x => [x]).flatten = t := by
  induction t with
  | nil => rfl
  | cons x t ih => rw [List.map_cons, List.flatten_cons, ih]; rfl
theorem e_laps {q : P3} {b : Nat} {M : DrawSt} {p : Pg} {t : List Nat} {S : D} {s2 s7 s8 s9 s10 s11 : Slot} (hM : MOk b M) (hb : b ≤ 8000) (h : p.Ok) (hp : plusC p.lines ≤ 10) (ht : TxOk p.bits t) (hl : t.length ≤ 60) :
    ∃ (M' : DrawSt) (s9' s10' : Slot), forL (gnm 9) (seqS (setS 10 (cmF 1 1 R__law_cut [nmF 4])) (seqS (ifS (tstF (binF (nmF 9) (kF (.int 2)) (oEq false))) (setS 10 (callF [lcF (seqI (nmF 4)) (gnm 14) (ttY) (tupF [nmF 14]) [14]] oTuple)) (skF)) (ifS (orT (notT (tstF (cfF 4 R__law_cut_right [nmF 3, nmF 10, nmF 5, nmF 6]))) (notT (tstF (cmF 1 3 R__law_scanner_right [nmF 3, nmF 10, nmF 5])))) (rtS (kF (.bl false))) (skF)))) (rngL 0 3 1)
      [.ar S, .mm q M, s2, .fz p.d, .fz (nsT t), .fz (nsT (walkF p.lines (zeros p.lines) t).1), .fz (nsT (walkF p.lines (zeros p.lines) t).2), s7, s8, s9, s10, s11, .emp, .emp, .emp] =
      some (.nx [.ar S, .mm q M', s2, .fz p.d, .fz (nsT t), .fz (nsT (walkF p.lines (zeros p.lines) t).1), .fz (nsT (walkF p.lines (zeros p.lines) t).2), s7, s8, s9', s10', s11, .emp, .emp, .emp]) ∧ MOk (b + 540) M' := by
  obtain ⟨ρ', e1, M', s9', s10', rfl, h2⟩ := forL_rng (g := gnm 9) (b := seqS (setS 10 (cmF 1 1 R__law_cut [nmF 4])) (seqS (ifS (tstF (binF (nmF 9) (kF (.int 2)) (oEq false))) (setS 10 (callF [lcF (seqI (nmF 4)) (gnm 14) (ttY) (tupF [nmF 14]) [14]] oTuple)) (skF)) (ifS (orT (notT (tstF (cfF 4 R__law_cut_right [nmF 3, nmF 10, nmF 5, nmF 6]))) (notT (tstF (cmF 1 3 R__law_scanner_right [nmF 3, nmF 10, nmF 5])))) (rtS (kF (.bl false))) (skF))))
    (ρ := [.ar S, .mm q M, s2, .fz p.d, .fz (nsT t), .fz (nsT (walkF p.lines (zeros p.lines) t).1), .fz (nsT (walkF p.lines (zeros p.lines) t).2), s7, s8, s9, s10, s11, .emp, .emp, .emp]) 0 1 3
    (fun i ρ => ∃ (M' : DrawSt) (s9' s10' : Slot), ρ = [.ar S, .mm q M', s2, .fz p.d, .fz (nsT t), .fz (nsT (walkF p.lines (zeros p.lines) t).1), .fz (nsT (walkF p.lines (zeros p.lines) t).2), s7, s8, s9', s10', s11, .emp, .emp, .emp] ∧ MOk (b + 180 * i) M')
    ⟨M, _, _, rfl, hM⟩ (by
      rintro i ρ hi ⟨M1, s9', s10', rfl, hM1⟩
      obtain ⟨bs, M2, e2, hf, hbs, hM2⟩ := e_cut (q := q) hM1 (by omega) hl ht.2
      have r1 := e_law_cut_right h hbs
      have r2 := e_scanner_right (q := q) (M := M2) h hp hbs
      have hs := single_ok ht hl
      have r3 := e_law_cut_right h hs
      have r4 := e_scanner_right (q := q) (M := M2) h hp hs
      rw [hf] at r1 r2
      rw [single_flat] at r3 r4
      generalize walkF p.lines (zeros p.lines) t = W at *
      have hc : ∀ s9 s10 : Slot, lcL (gnm 14) ttY (tupF [nmF 14]) [14] ((t.map nD).map fun d => (true, d)) [.ar S, .mm q M2, s2, .fz p.d, .fz (nsT t), .fz (nsT W.1), .fz (nsT W.2), s7, s8, s9, s10, s11, .emp, .emp, .emp] = some ((t.map fun x => [x]).map nsT, [.ar S, .mm q M2, s2, .fz p.d, .fz (nsT t), .fz (nsT W.1), .fz (nsT W.2), s7, s8, s9, s10, s11, .emp, .emp, .emp]) := by
        intro s9 s10
        rw [List.map_map (g := nsT)]
        refine lcL_sm nD _ fun x m => ?_
        simp -dsimp -implicitDefEqProofs [-Option.map_eq_some_iff, -List.map_map, LIM, ]
      have hl1 : t.length ≤ 1000000 := by omega
      by_cases z : i = 2
      · subst z
        refine ⟨[.ar S, .mm q M2, s2, .fz p.d, .fz (nsT t), .fz (nsT W.1), .fz (nsT W.2), s7, s8, .fz (.int 2), .fz (bsD (t.map fun x => [x])), s11, .emp, .emp, .emp], ?_, M2, _, _, rfl, hM2.mono (by omega)⟩
        generalize hT : (t.map fun x => [x]) = T at *
        have hTl : T.length ≤ 1000000 := by rw [← hT]; simp; omega
        simp -dsimp -implicitDefEqProofs [-Option.map_eq_some_iff, -List.map_map, LIM, e2, r3, r4, hc, hTl]
      · have z' : ¬ (i : Int) = 2 := by omega
        refine ⟨[.ar S, .mm q M2, s2, .fz p.d, .fz (nsT t), .fz (nsT W.1), .fz (nsT W.2), s7, s8, .fz (.int i), .fz (bsD bs), s11, .emp, .emp, .emp], ?_, M2, _, _, rfl, hM2.mono (by omega)⟩
        simp -dsimp -implicitDefEqProofs [-Option.map_eq_some_iff, -List.map_map, LIM, e2, r1, r2, z']
        )
  exact ⟨M', s9', s10', e1, h2⟩
noncomputable def lapsF : FS := forS (rng1I (kF (.int 3))) (gnm 9) (seqS (setS 10 (cmF 1 1 R__law_cut [nmF 4])) (seqS (ifS (tstF (binF (nmF 9) (kF (.int 2)) (oEq false))) (setS 10 (callF [lcF (seqI (nmF 4)) (gnm 14) (ttY) (tupF [nmF 14]) [14]] oTuple)) (skF)) (ifS (orT (notT (tstF (cfF 4 R__law_cut_right [nmF 3, nmF 10, nmF 5, nmF 6]))) (notT (tstF (cmF 1 3 R__law_scanner_right [nmF 3, nmF 10, nmF 5])))) (rtS (kF (.bl false))) (skF))))
theorem sm3 : smallI 3 = true := by decide
theorem e_laps' {q : P3} {b : Nat} {M : DrawSt} {p : Pg} {t : List Nat} {S : D} {s2 s7 s8 s9 s10 s11 : Slot} (hM : MOk b M) (hb : b ≤ 8000) (h : p.Ok) (hp : plusC p.lines ≤ 10) (ht : TxOk p.bits t) (hl : t.length ≤ 60) :
    ∃ (M' : DrawSt) (s9' s10' : Slot), lapsF [.ar S, .mm q M, s2, .fz p.d, .fz (nsT t), .fz (nsT (walkF p.lines (zeros p.lines) t).1), .fz (nsT (walkF p.lines (zeros p.lines) t).2), s7, s8, s9, s10, s11, .emp, .emp, .emp] =
      some (.nx [.ar S, .mm q M', s2, .fz p.d, .fz (nsT t), .fz (nsT (walkF p.lines (zeros p.lines) t).1), .fz (nsT (walkF p.lines (zeros p.lines) t).2), s7, s8, s9', s10', s11, .emp, .emp, .emp]) ∧ MOk (b + 540) M' := by
  obtain ⟨M', s9', s10', e, h2⟩ := e_laps (q := q) (S := S) (s2 := s2) (s7 := s7) (s8 := s8) (s9 := s9) (s10 := s10) (s11 := s11) hM hb h hp ht hl
  refine ⟨M', s9', s10', ?_, h2⟩
  rw [lapsF]
  generalize walkF p.lines (zeros p.lines) t = W at *
  simp -dsimp -implicitDefEqProofs [-Option.map_eq_some_iff, -List.map_map, LIM, sm3, e]
noncomputable def bodyF : FS := (seqS (setS 3 (cmF 1 3 R__law_program [binF (kF (.int 1)) (cmF 1 1 R__law_draw [kF (.int 3)]) oPlus, binF (kF (.int 1)) (cmF 1 1 R__law_draw [kF (.int 10)]) oPlus, binF (kF (.int 1)) (cmF 1 1 R__law_draw [kF (.int 4)]) oPlus])) (seqS (setS 4 (cmF 1 2 R__law_text [binF (tupF [kF (.int 1), kF (.int 2), kF (.int 4), kF (.int 8)]) (binF (nmF 3) (kF (.int 0)) oIx) oIx, kF (.int 60)])) (seqS (par2 5 6 (cfF 2 R_program_marks [nmF 3, nmF 4]) (cfF 2 R_carries_behind [nmF 3, nmF 4])) (seqS (ifS (notT (tstF (cfF 2 R__law_same [tupF [nmF 5, nmF 6], cfF 3 R__law_walk [binF (nmF 3) (kF (.int 1)) oIx, cfF 1 R__law_noughts [binF (nmF 3) (kF (.int 1)) oIx], nmF 4]]))) (rtS (kF (.bl false))) (skF)) (seqS (setS 7 (cfF 1 R_needed_lines [nmF 3])) (seqS (setS 8 (callF [lcF (zpI (nmF 6) (cfF 1 R_plus_lines [nmF 3])) (gtp [gnm 12, gnm 13]) (tstF (binF (nmF 13) (nmF 7) (oIn false))) (nmF 12) [12, 13]] oTuple)) (seqS (ifS (notT (tstF (cfF 2 R__law_same [cfF 2 R_kept_carries [nmF 3, nmF 4], nmF 8]))) (rtS (kF (.bl false))) (skF)) lapsF)))))))
theorem e_body {q : P3} {b i : Nat} {M : DrawSt} {S : D} {s2 s3 s4 s5 s6 s7 s8 s9 s10 s11 : Slot} (hM : MOk b M) (hb : b ≤ 6000) :
    ∃ (M' : DrawSt) (s2' s3' s4' s5' s6' s7' s8' s9' s10' : Slot), turn (gnm 2) bodyF (true, .int (0 + (i : Int) * 1)) [.ar S, .mm q M, s2, s3, s4, s5, s6, s7, s8, s9, s10, s11, .emp, .emp, .emp] =
      some (.nx [.ar S, .mm q M', s2', s3', s4', s5', s6', s7', s8', s9', s10', s11, .emp, .emp, .emp]) ∧ MOk (b + 700) M' := by
  obtain ⟨x1, M1, e1, h1, hM1⟩ := e_draw (l := 3) hM (by omega) (by omega) (by omega)
  obtain ⟨x2, M2, e2, h2, hM2⟩ := e_draw (l := 10) hM1 (by omega) (by omega) (by omega)
  obtain ⟨x3, M3, e3, h3, hM3⟩ := e_draw (l := 4) hM2 (by omega) (by omega) (by omega)
  have e1' : R__law_draw q M [.int 3] = some (nD x1, M1) := e1 q
  have e2' : R__law_draw q M1 [.int 10] = some (nD x2, M2) := e2 q
  have e3' : R__law_draw q M2 [.int 4] = some (nD x3, M3) := e3 q
  obtain ⟨p, M4, e4, h, hbits, hlines, hplus, hM4⟩ := e_program (q := q) (bits := 1 + x1) (extra := 1 + x2) (most := 1 + x3) hM3 (by omega) (by omega) (by omega) (by omega) (by omega)
  have e4' : R__law_program q M3 [.int (1 + (x1 : Int)), .int (1 + (x2 : Int)), .int (1 + (x3 : Int))] = some (p.d, M4) := by
    rw [← e4, nD, nD, nD]
    simp
  have h8 := two3 h.b3
  have hp1 : 1 ≤ 2 ^ p.bits := Nat.one_le_two_pow
  obtain ⟨t, M5, e5, tl, tw, hM5⟩ := e_text (q := q) (ways := 2 ^ p.bits) (most := 60) hM4 (by omega) hp1 h8 (by omega)
  have e5' : R__law_text q M4 [nD (2 ^ p.bits), .int 60] = some (nsT t, M5) := e5
  have ht : TxOk p.bits t := ⟨by omega, tw⟩
  have r1 := e_program_marks h ht
  rw [marks_walk h] at r1
  have r2 := e_carries_behind h ht
  have r3 := e_law_noughts h.l2
  have r4 := e_law_walk h.b3 h.ok h.l1 h.l2 (zeros_ok p.lines) ht.1
  obtain ⟨nd, N, e6⟩ := e_needed_by h.ok h.l1 (by omega)
  have r5 := e_needed_lines h e6
  have r6 := e_plus_lines h
  have r7 := e_kept_carries h (by omega) ht N e6
  obtain ⟨M6, s9', s10', e7, hM6⟩ := e_laps' (q := q) (S := S) (s2 := .fz (.int (0 + (i : Int) * 1))) (s7 := .fz (nsT nd)) (s8 := .fz (nsT ((((walkF p.lines (zeros p.lines) t).2.zip (plusN 0 p.lines)).filter fun q => decide (q.2 ∈ nd)).map (·.1)))) (s9 := s9) (s10 := s10) (s11 := s11) hM5 (by omega) h (by omega) ht tl
  have I := walkF_inv (t := t) (zeros_ok p.lines)
  have hs1 : R__law_same [.tup [nsT (walkF p.lines (zeros p.lines) t).1, nsT (walkF p.lines (zeros p.lines) t).2], .tup [nsT (walkF p.lines (zeros p.lines) t).1, nsT (walkF p.lines (zeros p.lines) t).2]] = some (.ret (.bl true)) := same_bsD [(walkF p.lines (zeros p.lines) t).1, (walkF p.lines (zeros p.lines) t).2]
  have hs2 := same_nsT ((((walkF p.lines (zeros p.lines) t).2.zip (plusN 0 p.lines)).filter fun q => decide (q.2 ∈ nd)).map (·.1))
  have hlk : ((((walkF p.lines (zeros p.lines) t).2.zip (plusN 0 p.lines)).filter fun q => decide (q.2 ∈ nd)).map (·.1)).length ≤ 1000000 := by
    have h9 := I.l2
    have h10 := List.length_filter_le (fun q : Nat × Nat => decide (q.2 ∈ nd)) ((walkF p.lines (zeros p.lines) t).2.zip (plusN 0 p.lines))
    rw [List.length_zip, h9] at h10
    rw [List.length_map]
    omega
  refine ⟨M6, .fz (.int (0 + (i : Int) * 1)), .fz p.d, .fz (nsT t), .fz (nsT (walkF p.lines (zeros p.lines) t).1), .fz (nsT (walkF p.lines (zeros p.lines) t).2), .fz (nsT nd), .fz (nsT ((((walkF p.lines (zeros p.lines) t).2.zip (plusN 0 p.lines)).filter fun q => decide (q.2 ∈ nd)).map (·.1))), s9', s10', ?_, hM6.mono (by omega)⟩
  rw [bodyF]
  generalize walkF p.lines (zeros p.lines) t = W at *
  generalize plusN 0 p.lines = pn at *
  generalize lapsF = lf at *
  have hz : ((W.2.map nD).zip (pn.map nD)).map (fun x => (true, D.tup [x.1, x.2])) = (W.2.zip pn).map fun x => (true, D.tup [nD x.1, nD x.2]) := by
    rw [List.zip_map, List.map_map]
    rfl
  have hc : ∀ s2 s8 s9 s10 : Slot, lcL (gtp [gnm 12, gnm 13]) (tstF (binF (nmF 13) (nmF 7) (oIn false))) (nmF 12) [12, 13] ((W.2.zip pn).map fun x => (true, D.tup [nD x.1, nD x.2])) [.ar S, .mm q M5, s2, .fz p.d, .fz (nsT t), .fz (nsT W.1), .fz (nsT W.2), .fz (nsT nd), s8, s9, s10, s11, .emp, .emp, .emp] = some ((((W.2.zip pn).filter fun q => decide (q.2 ∈ nd)).map (·.1)).map nD, [.ar S, .mm q M5, s2, .fz p.d, .fz (nsT t), .fz (nsT W.1), .fz (nsT W.2), .fz (nsT nd), s8, s9, s10, s11, .emp, .emp, .emp]) := by
    intro s2 s8 s9 s10
    have hfm : ((((W.2.zip pn).filter fun q => decide (q.2 ∈ nd)).map (·.1)).map nD) = (W.2.zip pn).filterMap fun x => if x.2 ∈ nd then some (nD x.1) else none := by
      generalize W.2.zip pn = xs
      induction xs with
      | nil => rfl
      | cons x xs ih =>
        rw [List.filterMap_cons, List.filter_cons]
        by_cases z : x.2 ∈ nd
        · simp only [z, decide_true, if_true]
          rw [← ih]
          rfl
        · simp only [z, decide_false, if_false]
          rw [← ih]
          rfl
    rw [hfm]
    refine lcL_fm (fun x : Nat × Nat => (true, D.tup [nD x.1, nD x.2])) (fun x => if x.2 ∈ nd then some (nD x.1) else none) _ fun x m => ?_
    by_cases z : x.2 ∈ nd
    · simp -dsimp -implicitDefEqProofs [-Option.map_eq_some_iff, -List.map_map, LIM, z]
      exact ⟨x.2, z, rfl⟩
    · simp -dsimp -implicitDefEqProofs [-Option.map_eq_some_iff, -List.map_map, LIM, z]
      intro a ma e
      have : a = x.2 := by omega
      rw [← this] at z
      exact z ma
  generalize hk : ((W.2.zip pn).filter fun q => decide (q.2 ∈ nd)).map (·.1) = kc at *
  simp -dsimp -implicitDefEqProofs [-Option.map_eq_some_iff, -List.map_map, LIM, e1', e2', e3', e4', e5', r1, r2, r3, r4, r5, r6, r7, hs1, hs2, hz, hc, hlk, lets_is h.b3]
  have e8 : (0 : Int) + (i : Int) * 1 = i := by omega
  rw [e8] at e7
  exact e7
theorem bs_dec {bits : Nat} {bs : List (List Nat)} (h : ((bs.all fun b => decide (b.length ≤ 20000) && b.all fun l => decide (l < 2 ^ bits)) && decide ((bs.map List.length).sum ≤ 20000) && decide (bs.length ≤ 20000)) = true) : BsOk' bits bs := by
  simp only [Bool.and_eq_true, List.all_eq_true, decide_eq_true_eq] at h
  exact ⟨fun b m => ⟨(h.1.1 b m).1, (h.1.1 b m).2⟩, h.1.2, h.2⟩
def pA : Pg := ⟨1, [.row 0, .bin .plus 0 0]⟩
theorem pA_ok : pA.Ok := ⟨by decide, by decide, by decide, by decide, fun i l h => by
  match i with
  | 0 => cases h; exact (by decide : 0 < 1)
  | 1 => cases h; exact ⟨(by decide : 0 < 1), (by decide : 0 < 1)⟩
  | n + 2 => cases h⟩
theorem main' (script : List Int) (M : DrawSt) (hM : MOk 0 M) (q : P3) : ∃ ρ, fb_law (.ar (.lst (script.map D.int)) :: .mm q M :: List.replicate 13 .emp) = some (.rt (.bl true) ρ) := by
  obtain ⟨ρ', e1, M', s2, s3, s4, s5, s6, s7, s8, s9, s10, rfl, _⟩ := forL_rng (g := gnm 2) (b := bodyF) (ρ := [.ar (.lst (script.map D.int)), .mm q M, .emp, .emp, .emp, .emp, .emp, .emp, .emp, .emp, .emp, .emp, .emp, .emp, .emp]) 0 1 3
    (fun i ρ => ∃ (M' : DrawSt) (s2 s3 s4 s5 s6 s7 s8 s9 s10 : Slot), ρ = [.ar (.lst (script.map D.int)), .mm q M', s2, s3, s4, s5, s6, s7, s8, s9, s10, .emp, .emp, .emp, .emp] ∧ MOk (700 * i) M') ⟨M, _, _, _, _, _, _, _, _, _, rfl, hM⟩ (by
      rintro i ρ hi ⟨M', s2, s3, s4, s5, s6, s7, s8, s9, s10, rfl, hM'⟩
      obtain ⟨M2, s2', s3', s4', s5', s6', s7', s8', s9', s10', e, h2⟩ := e_body (q := q) (S := .lst (script.map D.int)) (i := i) (s2 := s2) (s3 := s3) (s4 := s4) (s5 := s5) (s6 := s6) (s7 := s7) (s8 := s8) (s9 := s9) (s10 := s10) (s11 := .emp) hM' (by omega)
      exact ⟨_, e, M2, _, _, _, _, _, _, _, _, _, rfl, h2.mono (by omega)⟩)
  have a1 := e_carries_ahead pA_ok (bs := []) (bs_dec (by decide))
  have a2 := e_carries_ahead pA_ok (bs := [[], []]) (bs_dec (by decide))
  have a3 := e_carries_ahead pA_ok (bs := [[0, 1], [], [1]]) (bs_dec (by decide))
  have b1 : aheadF pA.lines (zeros pA.lines) [] = [[0]] := by decide
  have b2 : aheadF pA.lines (zeros pA.lines) [[], []] = [[0], [0], [0]] := by decide
  have b3 : aheadF pA.lines (zeros pA.lines) [[0, 1], [], [1]] = [[0], [1], [1], [1]] := by decide
  rw [b1] at a1
  rw [b2] at a2
  rw [b3] at a3
  have hfb : fb_law = seqS (forS (rng1I (kF (.int 3))) (gnm 2) bodyF) (seqS (setS 3 (tupF [kF (.int 1), tupF [tupF [kF (.str "row"), kF (.int 0)], tupF [kF (.str "plus"), kF (.int 0), kF (.int 0)]]])) (seqS (setS 11 (tupF [cfF 2 R_carries_ahead [nmF 3, tupF []], cfF 2 R_carries_ahead [nmF 3, tupF [tupF [], tupF []]], cfF 2 R_carries_ahead [nmF 3, tupF [tupF [kF (.int 0), kF (.int 1)], tupF [], tupF [kF (.int 1)]]]])) (rtS (cfF 2 R__law_same [nmF 11, tupF [tupF [tupF [kF (.int 0)]], binF (tupF [tupF [kF (.int 0)]]) (kF (.int 3)) oTimes, tupF [tupF [kF (.int 0)], tupF [kF (.int 1)], tupF [kF (.int 1)], tupF [kF (.int 1)]]]])))) := rfl
  have a1' : R_carries_ahead [.tup [.int 1, .tup [.tup [.str "row", .int 0], .tup [.str "plus", .int 0, .int 0]]], .tup []] = some (.ret (.tup [.tup [.int 0]])) := a1
  have a2' : R_carries_ahead [.tup [.int 1, .tup [.tup [.str "row", .int 0], .tup [.str "plus", .int 0, .int 0]]], .tup [.tup [], .tup []]] = some (.ret (.tup [.tup [.int 0], .tup [.int 0], .tup [.int 0]])) := a2
  have a3' : R_carries_ahead [.tup [.int 1, .tup [.tup [.str "row", .int 0], .tup [.str "plus", .int 0, .int 0]]], .tup [.tup [.int 0, .int 1], .tup [], .tup [.int 1]]] = some (.ret (.tup [.tup [.int 0], .tup [.int 1], .tup [.int 1], .tup [.int 1]])) := a3
  have hs : R__law_same [.tup [.tup [.tup [.int 0]], .tup [.tup [.int 0], .tup [.int 0], .tup [.int 0]], .tup [.tup [.int 0], .tup [.int 1], .tup [.int 1], .tup [.int 1]]], .tup [.tup [.tup [.int 0]], .tup [.tup [.int 0], .tup [.int 0], .tup [.int 0]], .tup [.tup [.int 0], .tup [.int 1], .tup [.int 1], .tup [.int 1]]]] = some (.ret (.bl true)) := same8 (by decide) (by decide)
  have hr3 : repD 3 [D.tup [.int 0]] = [.tup [.int 0], .tup [.int 0], .tup [.int 0]] := rfl
  rw [hfb]
  generalize bodyF = bf at *
  simp -dsimp -implicitDefEqProofs [-Option.map_eq_some_iff, -List.map_map, LIM, sm3, e1, a1', a2', a3', hs, hr3]
end Sc
namespace Sc
theorem mainL : MainL := fun script hl => by
  obtain ⟨M, e, hM⟩ := e_begun hl
  exact ⟨M, e, fun p => main' script M hM p⟩
end Sc
set_option maxRecDepth 100000
set_option maxHeartbeats 0
namespace Sc
open PySem PySem.Spec PyProof.Rows L2
theorem facts {P : Program} {w : World} {K : PySem.W.Frag} {h : Heap} {mg : Str → Option Value} {f : Addr} (X : K.In h) (G : h.Ns mainGlobals mg) (hfa : mg ("law" : Str) = some (.ref f)) (c : SaysX fa fn ex xs ds K) (hf : P.main.file = pfile) (hs : (P.main.scope.names.lookup ("super" : Str)).isSome = false) :
    ∃ fd : FuncData, (∀ (s : Shared) (v : Value), BindsTo s fd ⟨[v], []⟩ [("script", v)]) ∧ ∀ base : Heap, K.In base → base.Ns mainGlobals mg → FnOk P w K mg base CX0 10 f fd ["script"] (spL K) := by
  have W : Wd P K mg := ⟨⟨h, X, G⟩, c, hf, hs⟩
  obtain ⟨fd, F⟩ := W.says.d.def_ 63 (d := d_law) rfl
  have e := hfa.symm.trans (g_law W)
  cases e
  have b := FunD.bindsA (ps := ["script"]) F fun _ _ _ _ _ _ us hl => match us, hl with | [_], _ => rfl
  refine ⟨fd, fun s v => b s [v] rfl, fun base _ _ => ?_⟩
  exact fo_law mainL W F
end Sc
open PySem PySem.W PySem.Calls PyProof.Rows
theorem PySem.Challenge.cw_scanadds_k79_whole_texts_in_blocks_holds : PySem.Challenge.rw_scanadds_k79_whole_texts_in_blocks.Holds := by
  w_on; o_law
  refine HandSHeadRun.head_any (r := OpenLaw.row PySem.Challenge.rw_scanadds_k79_whole_texts_in_blocks) (q := view (OpenLaw.row PySem.Challenge.rw_scanadds_k79_whole_texts_in_blocks).prog [88]) (H := Sc.hk) (ob := Sc.obK) (M := 8000) (loose := Sc.loose) (d := HandSHeadRun.topDef (OpenLaw.row PySem.Challenge.rw_scanadds_k79_whole_texts_in_blocks).prog 88) (kwd := []) Sc.obK_eq
    (by kernel_rfl) (fun s => by kernel_rfl) Sc.run (by kernel_rfl) (by kernel_rfl) (by kernel_rfl) (by rfl) (by first | assumption | decide +kernel) (by decide +kernel) ⟨rfl, rfl, rfl, rfl, rfl, by decide +kernel⟩ ?hw ?hc
  case hw => w_witness2
  case hc =>
    refine L2.walk_ofE (l := PySem.Challenge.rw_scanadds_k79_whole_texts_in_blocks) (n := 63) (k := 10) (x := "script") (CX := L2.CX0) rfl (by decide) (by kernel_rfl) ⟨rfl, by decide, by decide⟩ ?F (fun _ _ _ _ z => z)
    intro w mg fa h Y G hmg0
    obtain ⟨K, KX, c⟩ := Y
    have hmg : mg ("law" : PySem.Str) = some (.ref fa) := by
      have e : (HandSHeadRun.topDef (OpenLaw.row PySem.Challenge.rw_scanadds_k79_whole_texts_in_blocks).prog 88).name = ("law" : PySem.Str) := by kernel_rfl
      rw [← e]
      exact hmg0
    obtain ⟨fd, hb, hF⟩ := Sc.facts (P := (PySem.Challenge.rw_scanadds_k79_whole_texts_in_blocks).prog) (w := w) KX G hmg c rfl (by decide +kernel)
    exact ⟨K, fd, Sc.spL K, KX, hb, fun H a ns hl _ hS => ⟨a, ns, rfl, hl, hS, fun _ => rfl⟩, hF⟩
