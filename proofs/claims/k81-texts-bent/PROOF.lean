import PyProof.Rows.All
import Wide.All
import OpenK.AllK
import Wide.FinOn
import HandS.ForMost
import HandS.Exc
import KE.KDictKeyed
import HandS.TupAny
import HandS.Deep
import HandS.SortInts
import HandS.TupLen
import HandS.More
import HandS.Conv
import HandS.RaiseMore
import HandS.IsInst
import HandS.TupMul
import PyProof.StrBlock2
import HandS.Style
import HandS.Small
import HandS.Finally
import HandS.Words
import HandS.Rev
import HandS.Iter
import PyProof.ReprRoads
import PyProof.CallFns
import HandS.DictTup
import HandS.ForDict
import HandS.SetFor
import HandS.Text
import HandS.ExcOwn
import HandS.ExcInit
import HandS.WordsExc
import KE.KExcIs
import KE.KTryMore
import HandS.ExcField
import HandS.ExcIs
import HandS.TupSets
import HandS.Strs
import HandS.Sort
import KE.KDictDisplayH
import KE.KDictCopyH
import KE.KDictList
import HandS.DictComp
import HandS.SetKeys
import HandS.DictEq
import KE.KDictWalk
import KE.DataFind
import KE.SortData
import HandS.Ends
import HandS.Replace
import PySem.Challenge.RW_holdshelf_k81_texts_bent
set_option Elab.async false
set_option linter.all false
set_option maxRecDepth 100000
set_option maxHeartbeats 1000000
/-! DL1: plain data D, how the abstract heap bears them (Own, Rp), roots, Sim. -/
namespace Dl
open PySem PySem.Spec PyProof.Rows L2

/-- the module's names, the world -/
structure MG where
  f : Str → Option Value
  w : World
instance : CoeFun MG (fun _ => Str → Option Value) := ⟨MG.f⟩
instance : Coe MG (Str → Option Value) := ⟨MG.f⟩
/-- which sort of dict: keys ints and texts; tuples of these; tuples of tuples -/
inductive Kd where
  | k | t | n
  deriving DecidableEq
/-- plain data; o: owned (may be changed), else frozen -/
inductive D where
  | non | bl (b : Bool) | int (i : Int) | str (s : Str)
  | tup (xs : List D)
  | lst (o : Bool) (xs : List D)
  | dic (o : Bool) (kd : Kd) (ks vs : List D)
  | obj (o : Bool) (c : Str) (fs : List Str) (vs : List D)
  | scr (ns : List Int)
  | exn (c : Str) (fs : List Str) (vs : List D)
  | ptr (a : Addr)
  | lat (a : Addr) (xs : List D)
  | dlk (a : Addr) (ks vs : List D)

mutual
def D.frz : D → D
  | .tup xs => .tup (frzL xs)
  | .lst _ xs => .lst false (frzL xs)
  | .dic _ kd ks vs => .dic false kd ks (frzL vs)
  | .obj _ c fs vs => .obj false c fs (frzL vs)
  | .non => .non
  | .bl b => .bl b
  | .int i => .int i
  | .str s => .str s
  | .scr ns => .scr ns
  | .exn c fs vs => .exn c fs (frzL vs)
  | .ptr a => .ptr a
  | .lat _ xs => .lst false (frzL xs)
  | .dlk a ks vs => .dlk a ks vs
def frzL : List D → List D
  | [] => []
  | d :: ds => d.frz :: frzL ds
end
mutual
def D.stable : D → Bool
  | .tup xs => stableL xs
  | .lst o xs => !o && stableL xs
  | .dic o _ _ vs => !o && stableL vs
  | .obj o _ _ vs => !o && stableL vs
  | .non => true
  | .bl _ => true
  | .int _ => true
  | .str _ => true
  | .scr _ => true
  | .exn _ _ vs => stableL vs
  | .ptr _ => true
  | .lat _ _ => false
  | .dlk _ _ _ => true
def stableL : List D → Bool
  | [] => true
  | d :: ds => d.stable && stableL ds
end
theorem stableL_all : ∀ ds, stableL ds = ds.all D.stable
  | [] => by simp [stableL]
  | d :: ds => by rw [stableL, stableL_all ds, List.all_cons]
mutual
theorem D.frz_of_stable : ∀ d : D, d.stable = true → d.frz = d
  | .tup xs, h => by rw [D.frz, frzL_of_stable xs (by simpa [D.stable] using h)]
  | .lst o xs, h => by
    simp only [D.stable, Bool.and_eq_true, Bool.not_eq_true'] at h
    rw [D.frz, frzL_of_stable xs h.2, h.1]
  | .dic o _ _ vs, h => by
    simp only [D.stable, Bool.and_eq_true, Bool.not_eq_true'] at h
    rw [D.frz, frzL_of_stable vs h.2, h.1]
  | .obj o _ _ vs, h => by
    simp only [D.stable, Bool.and_eq_true, Bool.not_eq_true'] at h
    rw [D.frz, frzL_of_stable vs h.2, h.1]
  | .non, _ => by simp [D.frz]
  | .bl _, _ => by simp [D.frz]
  | .int _, _ => by simp [D.frz]
  | .str _, _ => by simp [D.frz]
  | .scr _, _ => by simp [D.frz]
  | .exn _ _ vs, h => by rw [D.frz, frzL_of_stable vs (by simpa [D.stable] using h)]
  | .ptr _, _ => by simp [D.frz]
  | .lat _ _, h => by simp [D.stable] at h
  | .dlk _ _ _, _ => by simp [D.frz]
theorem frzL_of_stable : ∀ ds : List D, stableL ds = true → frzL ds = ds
  | [], _ => by simp [frzL]
  | d :: ds, h => by
    simp only [stableL, Bool.and_eq_true] at h
    rw [frzL, D.frz_of_stable d h.1, frzL_of_stable ds h.2]
end
mutual
theorem D.stable_frz : ∀ d : D, d.frz.stable = true
  | .tup xs => by simp only [D.frz, D.stable]; exact stable_frzL xs
  | .lst o xs => by simp only [D.frz, D.stable, Bool.not_false, Bool.true_and]; exact stable_frzL xs
  | .dic o _ _ vs => by simp only [D.frz, D.stable, Bool.not_false, Bool.true_and]; exact stable_frzL vs
  | .obj o _ _ vs => by simp only [D.frz, D.stable, Bool.not_false, Bool.true_and]; exact stable_frzL vs
  | .non => by simp [D.frz, D.stable]
  | .bl _ => by simp [D.frz, D.stable]
  | .int _ => by simp [D.frz, D.stable]
  | .str _ => by simp [D.frz, D.stable]
  | .scr _ => by simp [D.frz, D.stable]
  | .exn _ _ vs => by simp only [D.frz, D.stable]; exact stable_frzL vs
  | .ptr _ => by simp [D.frz, D.stable]
  | .lat _ xs => by simp only [D.frz, D.stable, Bool.not_false, Bool.true_and]; exact stable_frzL xs
  | .dlk _ _ _ => by simp [D.frz, D.stable]
theorem stable_frzL : ∀ ds : List D, stableL (frzL ds) = true
  | [] => by simp [frzL, stableL]
  | d :: ds => by simp only [frzL, stableL, D.stable_frz d, stable_frzL ds, Bool.and_self]
end

/-- a dict's key as data -/
def kyD : Key → D
  | .inl i => .int i
  | .inr s => .str s
def ktD (l : List Key) : D := .tup (l.map kyD)

def tupish : HO → Bool
  | .tup _ => true
  | .xd _ => true
  | _ => false
mutual
/-- none, truths, numbers, texts, tuples of these: they never change -/
def D.imm : D → Bool
  | .non => true
  | .bl _ => true
  | .int _ => true
  | .str _ => true
  | .tup xs => immL xs
  | .lst _ _ => false
  | .dic _ _ _ _ => false
  | .obj _ _ _ _ => false
  | .scr _ => false
  | .exn _ _ _ => false
  | .ptr _ => false
  | .lat _ _ => false
  | .dlk _ _ _ => false
def immL : List D → Bool
  | [] => true
  | d :: ds => d.imm && immL ds
end
mutual
theorem D.stable_of_imm : ∀ d : D, d.imm = true → d.stable = true
  | .tup xs, h => by rw [D.stable]; exact stableL_of_imm xs (by simpa [D.imm] using h)
  | .lst _ _, h => by simp [D.imm] at h
  | .dic _ _ _ _, h => by simp [D.imm] at h
  | .obj _ _ _ _, h => by simp [D.imm] at h
  | .scr _, h => by simp [D.imm] at h
  | .non, _ => by simp [D.stable]
  | .exn _ _ _, h => by simp [D.imm] at h
  | .ptr _, h => by simp [D.imm] at h
  | .lat _ _, h => by simp [D.imm] at h
  | .dlk _ _ _, h => by simp [D.imm] at h
  | .bl _, _ => by simp [D.stable]
  | .int _, _ => by simp [D.stable]
  | .str _, _ => by simp [D.stable]
theorem stableL_of_imm : ∀ ds : List D, immL ds = true → stableL ds = true
  | [], _ => by simp [stableL]
  | d :: ds, h => by
    simp only [immL, Bool.and_eq_true] at h
    simp only [stableL, D.stable_of_imm d h.1, stableL_of_imm ds h.2, Bool.and_self]
end
theorem immL_all : ∀ ds, immL ds = ds.all D.imm
  | [] => by simp [immL]
  | d :: ds => by rw [immL, immL_all ds, List.all_cons]

/-- at a: an exception of the class cls, its dict d -/
def exH (cls : Value) (d : Option Addr) (a : Addr) : HO := .ext fun h => ∃ (oe : Obj) (vs : Array Value), h.get? a = some oe ∧ Zc cls d oe ∧ oe.data = .fields vs
theorem exH_ok {P : Program} {w : World} {H : Hp} {h : Heap} {a : Addr} {cls : Value} {d : Option Addr} {oe : Obj} {vs : Array Value} (e : h.get? a = some oe) (z : Zc cls d oe) (q : oe.data = .fields vs) : ObjOk P w H h a (exH cls d a) :=
  ⟨⟨oe, vs, e, z, q⟩, ⟨oe, e⟩, fun _ _ ⟨o, v, q, r⟩ k => ⟨o, v, k o q, r⟩⟩
/-- its fields: none, or in its dict -/
def XdAt (H : Hp) : Option Addr → List (Str × V) → Prop
  | none, fvs => fvs = []
  | some dd, fvs => H dd = some (.xd fvs)
/-! dicts whose keys are tuples of tuples -/
mutual
/-- immutable data as a key -/
def D.nk : D → Option NestedKey
  | .non => some .none
  | .int i => some (.num i)
  | .str x => some (.text x)
  | .tup xs => match nkL xs with
    | some ks => some (.tup ks)
    | none => none
  | _ => none
def nkL : List D → Option (List NestedKey)
  | [] => some []
  | d :: ds => match d.nk, nkL ds with
    | some k, some ks => some (k :: ks)
    | _, _ => none
end
mutual
inductive NkAt (H : Hp) : V → D → NestedKey → Prop
  | non : NkAt H .non .non .none
  | int (i : Int) : NkAt H (.int i) (.int i) (.num i)
  | str (x : Str) : NkAt H (.str x) (.str x) (.text x)
  | tup {a : Addr} {xs : List V} {ds : List D} {ks : List NestedKey} : H a = some (.tup xs) → NkAll H xs ds ks → NkAt H (.ref a) (.tup ds) (.tup ks)
inductive NkAll (H : Hp) : List V → List D → List NestedKey → Prop
  | nil : NkAll H [] [] []
  | cons {v : V} {vs : List V} {d : D} {ds : List D} {k : NestedKey} {ks : List NestedKey} : NkAt H v d k → NkAll H vs ds ks → NkAll H (v :: vs) (d :: ds) (k :: ks)
end
mutual
theorem NkAt.lift {H H' : Hp} (hs : ∀ a xs, H a = some (.tup xs) → H' a = some (.tup xs)) : ∀ {v : V} {d : D} {k : NestedKey}, NkAt H v d k → NkAt H' v d k
  | _, _, _, .non => .non
  | _, _, _, .int i => .int i
  | _, _, _, .str x => .str x
  | _, _, _, .tup e l => .tup (hs _ _ e) (NkAll.lift hs l)
theorem NkAll.lift {H H' : Hp} (hs : ∀ a xs, H a = some (.tup xs) → H' a = some (.tup xs)) : ∀ {vs : List V} {ds : List D} {ks : List NestedKey}, NkAll H vs ds ks → NkAll H' vs ds ks
  | _, _, _, .nil => .nil
  | _, _, _, .cons o l => .cons (NkAt.lift hs o) (NkAll.lift hs l)
end
abbrev NEnt := NestedKey × Addr × Value
/-- the keys of a dict as data -/
inductive KeysN (H : Hp) : List NEnt → List D → Prop
  | nil : KeysN H [] []
  | cons {x : NEnt} {xs : List NEnt} {k : D} {ks : List D} : NkAt H (.ref x.2.1) k x.1 → x.1.depth ≤ 8 → KeysN H xs ks → KeysN H (x :: xs) (k :: ks)
theorem KeysN.lift {H H' : Hp} (hs : ∀ a xs, H a = some (.tup xs) → H' a = some (.tup xs)) {xs : List NEnt} {ks : List D} (h : KeysN H xs ks) : KeysN H' xs ks := by
  induction h with
  | nil => exact .nil
  | cons h1 h2 _ ih => exact .cons (h1.lift hs) h2 ih
def entN (w : World) (x : NEnt) : DictEntry := ⟨x.1.hash w, .ref x.2.1, x.2.2⟩
/-- at a: a dict with these entries -/
def dnH (w : World) (a : Addr) (xs : List NEnt) : HO := .ext fun h => (a == sysModules) = false ∧ xs.length ≤ sizeLine ∧ (xs.map (·.1)).Nodup ∧ ∃ o es ep, h.get? a = some o ∧ o.ExactDict ∧ o.data = .dict es ep ∧ es.toList = xs.map (entN w)
def lockable : HO → Bool
  | .dK _ => true
  | .dT _ => true
  | _ => false
/-! ### how data stand in the abstract heap. Hs: the part that stays for ever -/
section
variable (K : PySem.W.Frag) (mg : MG) (Hs H : Hp)
mutual
inductive Own : V → D → List Addr → Prop
  | non : Own .non .non []
  | bl (b : Bool) : Own (.bl b) (.bl b) []
  | int (i : Int) : Own (.int i) (.int i) []
  | str (s : Str) : Own (.str s) (.str s) []
  | tup {a : Addr} {xs : List V} {ds : List D} {fp : List Addr} : Hs a = some (.tup xs) → OwnL xs ds fp → Own (.ref a) (.tup ds) fp
  | lstF {a : Addr} {xs : List V} {ds : List D} : Hs a = some (.lst xs) → OwnL xs ds [] → Own (.ref a) (.lst false ds) []
  | lstO {a : Addr} {xs : List V} {ds : List D} {fp : List Addr} : H a = some (.lst xs) → Hs a = none → OwnL xs ds fp → Own (.ref a) (.lst true ds) (a :: fp)
  | dkF {a : Addr} {kvs : List (Key × V)} {ks ds : List D} : Hs a = some (.dK kvs) → ks = kvs.map (fun p => kyD p.1) → OwnL (kvs.map (·.2)) ds [] → Own (.ref a) (.dic false .k ks ds) []
  | dkO {a : Addr} {kvs : List (Key × V)} {ks ds : List D} {fp : List Addr} : H a = some (.dK kvs) → Hs a = none → ks = kvs.map (fun p => kyD p.1) → OwnL (kvs.map (·.2)) ds fp → Own (.ref a) (.dic true .k ks ds) (a :: fp)
  | dtF {a : Addr} {kvs : List (List Key × V)} {ks ds : List D} : Hs a = some (.dT kvs) → ks = kvs.map (fun p => ktD p.1) → OwnL (kvs.map (·.2)) ds [] → Own (.ref a) (.dic false .t ks ds) []
  | dtO {a : Addr} {kvs : List (List Key × V)} {ks ds : List D} {fp : List Addr} : H a = some (.dT kvs) → Hs a = none → ks = kvs.map (fun p => ktD p.1) → OwnL (kvs.map (·.2)) ds fp → Own (.ref a) (.dic true .t ks ds) (a :: fp)
  | dnF {a : Addr} {xs : List NEnt} {vs : List V} {ks ds : List D} : Hs a = some (dnH mg.w a xs) → KeysN Hs xs ks → Vals vs (xs.map (·.2.2)) → OwnL vs ds [] → Own (.ref a) (.dic false .n ks ds) []
  | dnO {a : Addr} {xs : List NEnt} {vs : List V} {ks ds : List D} {fp : List Addr} : H a = some (dnH mg.w a xs) → Hs a = none → KeysN Hs xs ks → Vals vs (xs.map (·.2.2)) → OwnL vs ds fp → Own (.ref a) (.dic true .n ks ds) (a :: fp)
  | objF {a dx C : Addr} {c : Str} {fvs : List (Str × V)} {fs : List Str} {ds : List D} : mg c = some (.ref C) → Hs a = some (.ins C dx fvs) → fs = fvs.map (·.1) → OwnL (fvs.map (·.2)) ds [] → Own (.ref a) (.obj false c fs ds) []
  | objO {a dx C : Addr} {c : Str} {fvs : List (Str × V)} {fs : List Str} {ds : List D} {fp : List Addr} : mg c = some (.ref C) → H a = some (.ins C dx fvs) → Hs a = none → fs = fvs.map (·.1) → OwnL (fvs.map (·.2)) ds fp → Own (.ref a) (.obj true c fs ds) (a :: fp)
  | scr {a : Addr} {ns : List Int} : SqL K Hs a (ns.map V.int) → Own (.ref a) (.scr ns) []
  | exn {a C : Addr} {d : Option Addr} {c : Str} {fvs : List (Str × V)} {fs : List Str} {ds : List D} {fp : List Addr} : mg c = some (.ref C) → Hs a = some (exH (.ref C) d a) → XdAt Hs d fvs → fs = fvs.map (·.1) → OwnL (fvs.map (·.2)) ds fp → Own (.ref a) (.exn c fs ds) fp
  | ptr (a : Addr) : Own (.ref a) (.ptr a) []
  | lat {a : Addr} {xs : List V} {ds : List D} {fp : List Addr} : H a = some (.lst xs) → Hs a = none → OwnL xs ds fp → Own (.ref a) (.lat a ds) (a :: fp)
  | dlk {a : Addr} {od : Obj} {xs : List NEnt} {ws : List V} {ks ds : List D} : Hs a = some (.frz od (dnH mg.w a xs)) → KeysN Hs xs ks → Vals ws (xs.map (·.2.2)) → OwnL ws ds [] → Own (.ref a) (.dlk a ks ds) []
inductive OwnL : List V → List D → List Addr → Prop
  | nil : OwnL [] [] []
  | cons {v : V} {vs : List V} {d : D} {ds : List D} {f1 f2 : List Addr} : Own v d f1 → OwnL vs ds f2 → OwnL (v :: vs) (d :: ds) (f1 ++ f2)
end
/-- to be read as it stands -/
inductive Rt where
  | v (x : V) (d : D)
  | c (a : Addr) (o : HO)
  | h (a : Addr) (od : Obj) (u : HO)
  | t (a : Addr) (xs : List V)
  | p (a : Addr) (o : HO)
  | z (P : Hp → Hp → List Addr → Prop)
/-- what a root may say in words of its own -/
structure SemR (P : Hp → Hp → List Addr → Prop) : Prop where
  mono : ∀ {Hs Hs' H H' : Hp} {f : List Addr}, (∀ a o, Hs a = some o → Hs' a = some o) → P Hs H f → (∀ a ∈ f, H' a = H a ∧ (Hs a = none → Hs' a = none)) → P Hs' H' f
  fpH : ∀ {Hs H : Hp} {f : List Addr}, P Hs H f → ∀ a ∈ f, (∃ o, H a = some o ∧ tupish o = false) ∧ (Hs a = none ∨ ∃ od u, H a = some (.frz od u) ∧ Hs a = some u)
  lean : ∀ {Hs H : Hp} {f : List Addr} {a : Addr}, P Hs H f → Hs a = none → ∀ {Hs' H' : Hp} {f' : List Addr}, P Hs' H' f' → (∃ od u, Hs' a = some (.frz od u)) → P (fun b => if b = a then none else Hs' b) H' f'
inductive OwnR : List Rt → List Addr → Prop
  | nil : OwnR [] []
  | v {x : V} {d : D} {f1 f2 : List Addr} {rs : List Rt} : Own K mg Hs H x d f1 → OwnR rs f2 → OwnR (.v x d :: rs) (f1 ++ f2)
  | c {a : Addr} {o : HO} {f : List Addr} {rs : List Rt} : H a = some o → Hs a = none → tupish o = false → OwnR rs f → OwnR (.c a o :: rs) (a :: f)
  | h {a : Addr} {od : Obj} {u : HO} {f : List Addr} {rs : List Rt} : H a = some (.frz od u) → Hs a = some u → lockable u = true → OwnR rs f → OwnR (.h a od u :: rs) (a :: f)
  | t {a : Addr} {xs : List V} {f : List Addr} {rs : List Rt} : Hs a = some (.tup xs) → OwnR rs f → OwnR (.t a xs :: rs) f
  | p {a : Addr} {o : HO} {f : List Addr} {rs : List Rt} : Hs a = some o → OwnR rs f → OwnR (.p a o :: rs) f
  | z {P : Hp → Hp → List Addr → Prop} {f1 f2 : List Addr} {rs : List Rt} : P Hs H f1 → SemR P → OwnR rs f2 → OwnR (.z P :: rs) (f1 ++ f2)
mutual
inductive Rp : V → D → Prop
  | non : Rp .non .non
  | bl (b : Bool) : Rp (.bl b) (.bl b)
  | int (i : Int) : Rp (.int i) (.int i)
  | str (s : Str) : Rp (.str s) (.str s)
  | tup {a : Addr} {xs : List V} {ds : List D} : H a = some (.tup xs) → RpL xs ds → Rp (.ref a) (.tup ds)
  | lst {a : Addr} {o : Bool} {xs : List V} {ds : List D} : H a = some (.lst xs) → RpL xs ds → Rp (.ref a) (.lst o ds)
  | dk {a : Addr} {o : Bool} {kvs : List (Key × V)} {ks ds : List D} : Rd H a (.dK kvs) → ks = kvs.map (fun p => kyD p.1) → RpL (kvs.map (·.2)) ds → Rp (.ref a) (.dic o .k ks ds)
  | dt {a : Addr} {o : Bool} {kvs : List (List Key × V)} {ks ds : List D} : Rd H a (.dT kvs) → ks = kvs.map (fun p => ktD p.1) → RpL (kvs.map (·.2)) ds → Rp (.ref a) (.dic o .t ks ds)
  | dn {a : Addr} {o : Bool} {xs : List NEnt} {vs : List V} {ks ds : List D} : H a = some (dnH mg.w a xs) → KeysN H xs ks → Vals vs (xs.map (·.2.2)) → RpL vs ds → Rp (.ref a) (.dic o .n ks ds)
  | obj {a dx C : Addr} {o : Bool} {c : Str} {fvs : List (Str × V)} {fs : List Str} {ds : List D} : mg c = some (.ref C) → H a = some (.ins C dx fvs) → fs = fvs.map (·.1) → RpL (fvs.map (·.2)) ds → Rp (.ref a) (.obj o c fs ds)
  | scr {a : Addr} {ns : List Int} : SqL K H a (ns.map V.int) → Rp (.ref a) (.scr ns)
  | exn {a C : Addr} {d : Option Addr} {c : Str} {fvs : List (Str × V)} {fs : List Str} {ds : List D} : mg c = some (.ref C) → H a = some (exH (.ref C) d a) → XdAt H d fvs → fs = fvs.map (·.1) → RpL (fvs.map (·.2)) ds → Rp (.ref a) (.exn c fs ds)
  | ptr (a : Addr) : Rp (.ref a) (.ptr a)
  | lat {a : Addr} {xs : List V} {ds : List D} : H a = some (.lst xs) → RpL xs ds → Rp (.ref a) (.lat a ds)
  | dlk {a : Addr} {od : Obj} {xs : List NEnt} {ws : List V} {ks ds : List D} : H a = some (.frz od (dnH mg.w a xs)) → KeysN H xs ks → Vals ws (xs.map (·.2.2)) → RpL ws ds → Rp (.ref a) (.dlk a ks ds)
inductive RpL : List V → List D → Prop
  | nil : RpL [] []
  | cons {v : V} {vs : List V} {d : D} {ds : List D} : Rp v d → RpL vs ds → RpL (v :: vs) (d :: ds)
end
end

def SubHp (Hs H : Hp) : Prop := ∀ a o, Hs a = some o → H a = some o ∨ (lockable o = true ∧ ∃ ob, H a = some (.frz ob o))
def Sim (K : PySem.W.Frag) (mg : MG) (H : Hp) (rs : List Rt) : Prop :=
  ∃ (Hs : Hp) (fp : List Addr), SubHp Hs H ∧ OwnR K mg Hs H rs fp ∧ fp.Nodup

section
variable {K : PySem.W.Frag} {mg : MG} {Hs Hs' H H' : Hp}
theorem SqT.lift {a : Addr} {xs : List V} (h : SqT K Hs a xs) (hs : ∀ a o, Hs a = some o → Hs' a = some o) : SqT K Hs' a xs := by
  rcases h with (h | ⟨o, h⟩) | h
  · exact .inl (.inl (hs _ _ h))
  · exact .inl (.inr ⟨o, hs _ _ h⟩)
  · exact .inr h
theorem SqL.lift {a : Addr} {xs : List V} (h : SqL K Hs a xs) (hs : ∀ a o, Hs a = some o → Hs' a = some o) : SqL K Hs' a xs := by
  rcases h with (h | ⟨o, h⟩) | h
  · exact .inl (.inl (hs _ _ h))
  · exact .inl (.inr ⟨o, hs _ _ h⟩)
  · exact .inr h
theorem SubHp.tup (s : SubHp Hs H) {a : Addr} {xs : List V} (h : Hs a = some (.tup xs)) : H a = some (.tup xs) := by
  rcases s _ _ h with h | ⟨z, _⟩
  · exact h
  · cases z
theorem SubHp.lst (s : SubHp Hs H) {a : Addr} {xs : List V} (h : Hs a = some (.lst xs)) : H a = some (.lst xs) := by
  rcases s _ _ h with h | ⟨z, _⟩
  · exact h
  · cases z
theorem SubHp.sqL (s : SubHp Hs H) {a : Addr} {xs : List V} (h : SqL K Hs a xs) : SqL K H a xs := by
  rcases h with (h | ⟨o, h⟩) | h
  · exact .inl (.inl (s.lst h))
  · rcases s _ _ h with h | ⟨z, _⟩
    · exact .inl (.inr ⟨_, h⟩)
    · cases z
  · exact .inr h
theorem SubHp.rdK (s : SubHp Hs H) {a : Addr} {kvs : List (Key × V)} (h : Hs a = some (.dK kvs)) : Rd H a (.dK kvs) := by
  rcases s _ _ h with h | ⟨_, ob, z⟩
  · exact .inl h
  · exact .inr ⟨ob, z⟩
theorem SubHp.rdT (s : SubHp Hs H) {a : Addr} {kvs : List (List Key × V)} (h : Hs a = some (.dT kvs)) : Rd H a (.dT kvs) := by
  rcases s _ _ h with h | ⟨_, ob, z⟩
  · exact .inl h
  · exact .inr ⟨ob, z⟩
theorem SubHp.ins (s : SubHp Hs H) {a C dx : Addr} {fs : List (Str × V)} (h : Hs a = some (.ins C dx fs)) : H a = some (.ins C dx fs) := by
  rcases s _ _ h with h | ⟨z, _⟩
  · exact h
  · cases z
theorem SubHp.fz (s : SubHp Hs H) {a : Addr} {od : Obj} {u : HO} (h : Hs a = some (.frz od u)) : H a = some (.frz od u) := by
  rcases s _ _ h with h | ⟨z, _⟩
  · exact h
  · cases z
theorem SubHp.none (s : SubHp Hs H) {a : Addr} (h : H a = none) : Hs a = none := by
  cases e : Hs a with
  | none => rfl
  | some o =>
    rcases s _ _ e with z | ⟨_, _, z⟩
    · rw [h] at z; cases z
    · rw [h] at z; cases z

theorem SubHp.dn (s : SubHp Hs H) {a : Addr} {w : World} {b : Addr} {xs : List NEnt} (h : Hs a = some (dnH w b xs)) : H a = some (dnH w b xs) := by
  rcases s _ _ h with h | ⟨z, _⟩
  · exact h
  · cases z
theorem SubHp.exH (s : SubHp Hs H) {a : Addr} {cls : Value} {d : Option Addr} {b : Addr} (h : Hs a = some (exH cls d b)) : H a = some (exH cls d b) := by
  rcases s _ _ h with h | ⟨z, _⟩
  · exact h
  · cases z
theorem SubHp.xd (s : SubHp Hs H) {d : Option Addr} {fvs : List (Str × V)} (h : XdAt Hs d fvs) : XdAt H d fvs := by
  cases d with
  | none => exact h
  | some dd =>
    rcases s _ _ h with h | ⟨z, _⟩
    · exact h
    · cases z
theorem XdAt.lift {d : Option Addr} {fvs : List (Str × V)} (h : XdAt Hs d fvs) (hs : ∀ a o, Hs a = some o → Hs' a = some o) : XdAt Hs' d fvs := by
  cases d with
  | none => exact h
  | some dd => exact hs _ _ h

/-! what owned parts lean on -/
mutual
theorem Own.fpH : ∀ {v : V} {d : D} {fp : List Addr}, Own K mg Hs H v d fp → ∀ a ∈ fp, (∃ o, H a = some o ∧ tupish o = false) ∧ Hs a = none
  | _, _, _, .non, _, h => nomatch h
  | _, _, _, .bl _, _, h => nomatch h
  | _, _, _, .int _, _, h => nomatch h
  | _, _, _, .str _, _, h => nomatch h
  | _, _, _, .tup _ l, a, h => OwnL.fpH l a h
  | _, _, _, .lstF _ _, _, h => nomatch h
  | _, _, _, .lstO e n l, a, h => by
    rcases List.mem_cons.mp h with rfl | h
    · exact ⟨⟨_, e, rfl⟩, n⟩
    · exact OwnL.fpH l a h
  | _, _, _, .dkF _ _ _, _, h => nomatch h
  | _, _, _, .dkO e n _ l, a, h => by
    rcases List.mem_cons.mp h with rfl | h
    · exact ⟨⟨_, e, rfl⟩, n⟩
    · exact OwnL.fpH l a h
  | _, _, _, .dtF _ _ _, _, h => nomatch h
  | _, _, _, .dtO e n _ l, a, h => by
    rcases List.mem_cons.mp h with rfl | h
    · exact ⟨⟨_, e, rfl⟩, n⟩
    · exact OwnL.fpH l a h
  | _, _, _, .objF _ _ _ _, _, h => nomatch h
  | _, _, _, .dnF _ _ _ _, _, h => nomatch h
  | _, _, _, .dnO e n _ _ l, a, h => by
    rcases List.mem_cons.mp h with rfl | h
    · exact ⟨⟨_, e, rfl⟩, n⟩
    · exact OwnL.fpH l a h
  | _, _, _, .objO _ e n _ l, a, h => by
    rcases List.mem_cons.mp h with rfl | h
    · exact ⟨⟨_, e, rfl⟩, n⟩
    · exact OwnL.fpH l a h
  | _, _, _, .scr _, _, h => nomatch h
  | _, _, _, .exn _ _ _ _ l, a, h => OwnL.fpH l a h
  | _, _, _, .ptr _, _, h => nomatch h
  | _, _, _, .dlk _ _ _ _, _, h => nomatch h
  | _, _, _, .lat e n l, a, h => by
    rcases List.mem_cons.mp h with rfl | h
    · exact ⟨⟨_, e, rfl⟩, n⟩
    · exact OwnL.fpH l a h
theorem OwnL.fpH : ∀ {vs : List V} {ds : List D} {fp : List Addr}, OwnL K mg Hs H vs ds fp → ∀ a ∈ fp, (∃ o, H a = some o ∧ tupish o = false) ∧ Hs a = none
  | _, _, _, .nil, _, h => nomatch h
  | _, _, _, .cons o l, a, h => by
    rcases List.mem_append.mp h with h | h
    · exact Own.fpH o a h
    · exact OwnL.fpH l a h
end
theorem OwnR.fpH {rs : List Rt} {fp : List Addr} (h : OwnR K mg Hs H rs fp) : ∀ a ∈ fp, (∃ o, H a = some o ∧ tupish o = false) ∧ (Hs a = none ∨ ∃ od u, H a = some (.frz od u) ∧ Hs a = some u) := by
  induction h with
  | nil => intro a h; nomatch h
  | v o _ ih => intro a h; exact (List.mem_append.mp h).elim (fun z => ⟨(o.fpH a z).1, .inl (o.fpH a z).2⟩) (ih a)
  | c e n t _ ih =>
    intro a h
    rcases List.mem_cons.mp h with rfl | h
    · exact ⟨⟨_, e, t⟩, .inl n⟩
    · exact ih a h
  | h e n t _ ih =>
    intro a h
    rcases List.mem_cons.mp h with rfl | h
    · exact ⟨⟨_, e, rfl⟩, .inr ⟨_, _, e, n⟩⟩
    · exact ih a h
  | t e _ ih => exact ih
  | p e _ ih => exact ih
  | z o q _ ih => intro a h; exact (List.mem_append.mp h).elim (q.fpH o a) (ih a)

/-! another heap, another stable part -/
mutual
theorem Own.mono (hs : ∀ a o, Hs a = some o → Hs' a = some o) : ∀ {v : V} {d : D} {fp : List Addr}, Own K mg Hs H v d fp → (∀ a ∈ fp, H' a = H a ∧ Hs' a = none) → Own K mg Hs' H' v d fp
  | _, _, _, .non, _ => .non
  | _, _, _, .bl b, _ => .bl b
  | _, _, _, .int i, _ => .int i
  | _, _, _, .str s, _ => .str s
  | _, _, _, .tup e l, k => .tup (hs _ _ e) (OwnL.mono hs l k)
  | _, _, _, .lstF e l, _ => .lstF (hs _ _ e) (OwnL.mono hs l fun _ z => nomatch z)
  | _, _, _, .lstO e n l, k => .lstO ((k _ List.mem_cons_self).1.trans e) (k _ List.mem_cons_self).2 (OwnL.mono hs l fun a z => k a (List.mem_cons_of_mem _ z))
  | _, _, _, .dkF e q l, _ => .dkF (hs _ _ e) q (OwnL.mono hs l fun _ z => nomatch z)
  | _, _, _, .dkO e n q l, k => .dkO ((k _ List.mem_cons_self).1.trans e) (k _ List.mem_cons_self).2 q (OwnL.mono hs l fun a z => k a (List.mem_cons_of_mem _ z))
  | _, _, _, .dtF e q l, _ => .dtF (hs _ _ e) q (OwnL.mono hs l fun _ z => nomatch z)
  | _, _, _, .dtO e n q l, k => .dtO ((k _ List.mem_cons_self).1.trans e) (k _ List.mem_cons_self).2 q (OwnL.mono hs l fun a z => k a (List.mem_cons_of_mem _ z))
  | _, _, _, .objF g e q l, _ => .objF g (hs _ _ e) q (OwnL.mono hs l fun _ z => nomatch z)
  | _, _, _, .dnF e q r l, _ => .dnF (hs _ _ e) (q.lift fun _ _ z => hs _ _ z) r (OwnL.mono hs l fun _ z => nomatch z)
  | _, _, _, .dnO e n q r l, k => .dnO ((k _ List.mem_cons_self).1.trans e) (k _ List.mem_cons_self).2 (q.lift fun _ _ z => hs _ _ z) r (OwnL.mono hs l fun a z => k a (List.mem_cons_of_mem _ z))
  | _, _, _, .objO g e n q l, k => .objO g ((k _ List.mem_cons_self).1.trans e) (k _ List.mem_cons_self).2 q (OwnL.mono hs l fun a z => k a (List.mem_cons_of_mem _ z))
  | _, _, _, .scr e, _ => .scr (SqL.lift e hs)
  | _, _, _, .exn g e x q l, k => .exn g (hs _ _ e) (x.lift hs) q (OwnL.mono hs l k)
  | _, _, _, .ptr a, _ => .ptr a
  | _, _, _, .dlk e q r l, _ => .dlk (hs _ _ e) (q.lift fun _ _ z => hs _ _ z) r (OwnL.mono hs l fun _ z => nomatch z)
  | _, _, _, .lat e n l, k => .lat ((k _ List.mem_cons_self).1.trans e) (k _ List.mem_cons_self).2 (OwnL.mono hs l fun a z => k a (List.mem_cons_of_mem _ z))
theorem OwnL.mono (hs : ∀ a o, Hs a = some o → Hs' a = some o) : ∀ {vs : List V} {ds : List D} {fp : List Addr}, OwnL K mg Hs H vs ds fp → (∀ a ∈ fp, H' a = H a ∧ Hs' a = none) → OwnL K mg Hs' H' vs ds fp
  | _, _, _, .nil, _ => .nil
  | _, _, _, .cons o l, k => .cons (Own.mono hs o fun a z => k a (List.mem_append_left _ z)) (OwnL.mono hs l fun a z => k a (List.mem_append_right _ z))
end
theorem OwnR.mono (hs : ∀ a o, Hs a = some o → Hs' a = some o) {rs : List Rt} {fp : List Addr} (h : OwnR K mg Hs H rs fp) : (∀ a ∈ fp, H' a = H a ∧ (Hs a = none → Hs' a = none)) → OwnR K mg Hs' H' rs fp := by
  induction h with
  | nil => intro _; exact .nil
  | v o _ ih => intro k; exact .v (o.mono hs fun a z => ⟨(k a (List.mem_append_left _ z)).1, (k a (List.mem_append_left _ z)).2 (o.fpH a z).2⟩) (ih fun a z => k a (List.mem_append_right _ z))
  | c e n t _ ih => intro k; exact .c ((k _ List.mem_cons_self).1.trans e) ((k _ List.mem_cons_self).2 n) t (ih fun a z => k a (List.mem_cons_of_mem _ z))
  | h e n t _ ih => intro k; exact .h ((k _ List.mem_cons_self).1.trans e) (hs _ _ n) t (ih fun a z => k a (List.mem_cons_of_mem _ z))
  | t e _ ih => intro k; exact .t (hs _ _ e) (ih k)
  | p e _ ih => intro k; exact .p (hs _ _ e) (ih k)
  | z o q _ ih => intro k; exact .z (q.mono hs o fun a z => k a (List.mem_append_left _ z)) q (ih fun a z => k a (List.mem_append_right _ z))

/-! frozen for ever -/
mutual
theorem Own.frz (hs : ∀ a o, Hs a = some o → Hs' a = some o) : ∀ {v : V} {d : D} {fp : List Addr}, Own K mg Hs H v d fp → (∀ a ∈ fp, Hs' a = H a) → Own K mg Hs' H' v d.frz []
  | _, _, _, .non, _ => by rw [D.frz]; exact .non
  | _, _, _, .bl b, _ => by rw [D.frz]; exact .bl b
  | _, _, _, .int i, _ => by rw [D.frz]; exact .int i
  | _, _, _, .str s, _ => by rw [D.frz]; exact .str s
  | _, _, _, .tup e l, k => by rw [D.frz]; exact .tup (hs _ _ e) (OwnL.frz hs l k)
  | _, _, _, .lstF e l, _ => by rw [D.frz]; exact .lstF (hs _ _ e) (OwnL.frz hs l fun _ z => nomatch z)
  | _, _, _, .lstO e n l, k => by rw [D.frz]; exact .lstF ((k _ List.mem_cons_self).trans e) (OwnL.frz hs l fun a z => k a (List.mem_cons_of_mem _ z))
  | _, _, _, .dkF e q l, _ => by rw [D.frz]; exact .dkF (hs _ _ e) q (OwnL.frz hs l fun _ z => nomatch z)
  | _, _, _, .dkO e n q l, k => by rw [D.frz]; exact .dkF ((k _ List.mem_cons_self).trans e) q (OwnL.frz hs l fun a z => k a (List.mem_cons_of_mem _ z))
  | _, _, _, .dtF e q l, _ => by rw [D.frz]; exact .dtF (hs _ _ e) q (OwnL.frz hs l fun _ z => nomatch z)
  | _, _, _, .dtO e n q l, k => by rw [D.frz]; exact .dtF ((k _ List.mem_cons_self).trans e) q (OwnL.frz hs l fun a z => k a (List.mem_cons_of_mem _ z))
  | _, _, _, .objF g e q l, _ => by rw [D.frz]; exact .objF g (hs _ _ e) q (OwnL.frz hs l fun _ z => nomatch z)
  | _, _, _, .dnF e q r l, _ => by rw [D.frz]; exact .dnF (hs _ _ e) (q.lift fun _ _ z => hs _ _ z) r (OwnL.frz hs l fun _ z => nomatch z)
  | _, _, _, .dnO e n q r l, k => by rw [D.frz]; exact .dnF ((k _ List.mem_cons_self).trans e) (q.lift fun _ _ z => hs _ _ z) r (OwnL.frz hs l fun a z => k a (List.mem_cons_of_mem _ z))
  | _, _, _, .objO g e n q l, k => by rw [D.frz]; exact .objF g ((k _ List.mem_cons_self).trans e) q (OwnL.frz hs l fun a z => k a (List.mem_cons_of_mem _ z))
  | _, _, _, .scr e, _ => by rw [D.frz]; exact .scr (SqL.lift e hs)
  | _, _, _, .exn g e x q l, k => by rw [D.frz]; exact .exn g (hs _ _ e) (x.lift hs) q (OwnL.frz hs l k)
  | _, _, _, .ptr a, _ => by rw [D.frz]; exact .ptr a
  | _, _, _, .dlk e q r l, _ => by rw [D.frz]; exact .dlk (hs _ _ e) (q.lift fun _ _ z => hs _ _ z) r (OwnL.mono hs l fun _ z => nomatch z)
  | _, _, _, .lat e n l, k => by rw [D.frz]; exact .lstF ((k _ List.mem_cons_self).trans e) (OwnL.frz hs l fun a z => k a (List.mem_cons_of_mem _ z))
theorem OwnL.frz (hs : ∀ a o, Hs a = some o → Hs' a = some o) : ∀ {vs : List V} {ds : List D} {fp : List Addr}, OwnL K mg Hs H vs ds fp → (∀ a ∈ fp, Hs' a = H a) → OwnL K mg Hs' H' vs (frzL ds) []
  | _, _, _, .nil, _ => by rw [frzL]; exact .nil
  | _, _, _, .cons o l, k => by
    rw [frzL]
    exact .cons (f1 := []) (f2 := []) (Own.frz hs o fun a z => k a (List.mem_append_left _ z)) (OwnL.frz hs l fun a z => k a (List.mem_append_right _ z))
end
mutual
theorem Own.fp_nil : ∀ {v : V} {d : D} {fp : List Addr}, Own K mg Hs H v d fp → d.stable = true → fp = []
  | _, _, _, .non, _ => rfl
  | _, _, _, .bl b, _ => rfl
  | _, _, _, .int i, _ => rfl
  | _, _, _, .str s, _ => rfl
  | _, _, _, .tup e l, k => OwnL.fp_nil l (by simpa [D.stable] using k)
  | _, _, _, .lstF e l, _ => rfl
  | _, _, _, .lstO e n l, k => by simp [D.stable] at k
  | _, _, _, .dkF e q l, _ => rfl
  | _, _, _, .dkO e n q l, k => by simp [D.stable] at k
  | _, _, _, .dtF e q l, _ => rfl
  | _, _, _, .dtO e n q l, k => by simp [D.stable] at k
  | _, _, _, .objF g e q l, _ => rfl
  | _, _, _, .dnF e q r l, _ => rfl
  | _, _, _, .dnO e n q r l, k => by simp [D.stable] at k
  | _, _, _, .objO g e n q l, k => by simp [D.stable] at k
  | _, _, _, .scr e, _ => rfl
  | _, _, _, .exn _ _ _ _ l, k => OwnL.fp_nil l (by simpa [D.stable] using k)
  | _, _, _, .ptr _, _ => rfl
  | _, _, _, .dlk _ _ _ _, _ => rfl
  | _, _, _, .lat _ _ _, k => by simp [D.stable] at k
theorem OwnL.fp_nil : ∀ {vs : List V} {ds : List D} {fp : List Addr}, OwnL K mg Hs H vs ds fp → stableL ds = true → fp = []
  | _, _, _, .nil, _ => rfl
  | _, _, _, .cons o l, k => by
    simp only [stableL, Bool.and_eq_true] at k
    rw [Own.fp_nil o k.1, OwnL.fp_nil l k.2]
    rfl
end
/-! to be read -/
mutual
theorem Own.rp (s : SubHp Hs H) : ∀ {v : V} {d : D} {fp : List Addr}, Own K mg Hs H v d fp → Rp K mg H v d
  | _, _, _, .non => .non
  | _, _, _, .bl b => .bl b
  | _, _, _, .int i => .int i
  | _, _, _, .str x => .str x
  | _, _, _, .tup e l => .tup (s.tup e) (OwnL.rp s l)
  | _, _, _, .lstF e l => .lst (s.lst e) (OwnL.rp s l)
  | _, _, _, .lstO e n l => .lst e (OwnL.rp s l)
  | _, _, _, .dkF e q l => .dk (s.rdK e) q (OwnL.rp s l)
  | _, _, _, .dkO e n q l => .dk (.inl e) q (OwnL.rp s l)
  | _, _, _, .dtF e q l => .dt (s.rdT e) q (OwnL.rp s l)
  | _, _, _, .dtO e n q l => .dt (.inl e) q (OwnL.rp s l)
  | _, _, _, .objF g e q l => .obj g (s.ins e) q (OwnL.rp s l)
  | _, _, _, .dnF e q r l => .dn (s.dn e) (q.lift fun _ _ z => s.tup z) r (OwnL.rp s l)
  | _, _, _, .dnO e n q r l => .dn e (q.lift fun _ _ z => s.tup z) r (OwnL.rp s l)
  | _, _, _, .objO g e n q l => .obj g e q (OwnL.rp s l)
  | _, _, _, .scr e => .scr (s.sqL e)
  | _, _, _, .exn g e x q l => .exn g (s.exH e) (s.xd x) q (OwnL.rp s l)
  | _, _, _, .ptr a => .ptr a
  | _, _, _, .dlk e q r l => .dlk (s.fz e) (q.lift fun _ _ z => s.tup z) r (OwnL.rp s l)
  | _, _, _, .lat e n l => .lat e (OwnL.rp s l)
theorem OwnL.rp (s : SubHp Hs H) : ∀ {vs : List V} {ds : List D} {fp : List Addr}, OwnL K mg Hs H vs ds fp → RpL K mg H vs ds
  | _, _, _, .nil => .nil
  | _, _, _, .cons o l => .cons (Own.rp s o) (OwnL.rp s l)
end
theorem Same.rd {a : Addr} {u : HO} (e : Same H H') (h : Rd H a u) : Rd H' a u := by
  rcases h with h | ⟨o, h⟩
  · exact .inl (e _ _ h)
  · exact .inr ⟨o, e _ _ h⟩
mutual
theorem Rp.grow (e : Same H H') : ∀ {v : V} {d : D}, Rp K mg H v d → Rp K mg H' v d
  | _, _, .non => .non
  | _, _, .bl b => .bl b
  | _, _, .int i => .int i
  | _, _, .str x => .str x
  | _, _, .tup z l => .tup (e _ _ z) (RpL.grow e l)
  | _, _, .lst z l => .lst (e _ _ z) (RpL.grow e l)
  | _, _, .dk z q l => .dk (Same.rd e z) q (RpL.grow e l)
  | _, _, .dt z q l => .dt (Same.rd e z) q (RpL.grow e l)
  | _, _, .obj g z q l => .obj g (e _ _ z) q (RpL.grow e l)
  | _, _, .dn z q r l => .dn (e _ _ z) (q.lift fun _ _ z => e _ _ z) r (RpL.grow e l)
  | _, _, .scr z => .scr (SqL.lift z e)
  | _, _, .exn g z x q l => .exn g (e _ _ z) (x.lift e) q (RpL.grow e l)
  | _, _, .ptr a => .ptr a
  | _, _, .lat z l => .lat (e _ _ z) (RpL.grow e l)
  | _, _, .dlk z q r l => .dlk (e _ _ z) (q.lift fun _ _ z => e _ _ z) r (RpL.grow e l)
theorem RpL.grow (e : Same H H') : ∀ {vs : List V} {ds : List D}, RpL K mg H vs ds → RpL K mg H' vs ds
  | _, _, .nil => .nil
  | _, _, .cons o l => .cons (Rp.grow e o) (RpL.grow e l)
end
theorem OwnL.length : ∀ {vs : List V} {ds : List D} {fp : List Addr}, OwnL K mg Hs H vs ds fp → vs.length = ds.length
  | _, _, _, .nil => rfl
  | _, _, _, .cons _ l => by rw [List.length_cons, List.length_cons, OwnL.length l]
theorem RpL.length : ∀ {vs : List V} {ds : List D}, RpL K mg H vs ds → vs.length = ds.length
  | _, _, .nil => rfl
  | _, _, .cons _ l => by rw [List.length_cons, List.length_cons, RpL.length l]
theorem RpL.get : ∀ {vs : List V} {ds : List D} {i : Nat} {v : V} {d : D}, RpL K mg H vs ds → vs[i]? = some v → ds[i]? = some d → Rp K mg H v d
  | _, _, _, _, _, .nil, h, _ => by simp at h
  | _, _, 0, _, _, .cons o l, h, h' => by simp at h h'; subst h h'; exact o
  | _, _, i + 1, _, _, .cons o l, h, h' => RpL.get (i := i) l (by simpa using h) (by simpa using h')

/-! ### roots -/
def vals (xs : List V) (ds : List D) : List Rt := List.zipWith Rt.v xs ds
theorem OwnR.perm {rs rs' : List Rt} (p : rs.Perm rs') : ∀ {fp : List Addr}, OwnR K mg Hs H rs fp → ∃ fp', OwnR K mg Hs H rs' fp' ∧ fp.Perm fp' := by
  induction p with
  | nil => intro fp h; exact ⟨fp, h, .refl _⟩
  | cons x _ ih =>
    intro fp h
    cases h with
    | v o l =>
      obtain ⟨f, h1, h2⟩ := ih l
      exact ⟨_, .v o h1, h2.append_left _⟩
    | c e n t l =>
      obtain ⟨f, h1, h2⟩ := ih l
      exact ⟨_, .c e n t h1, h2.cons _⟩
    | h e n t l =>
      obtain ⟨f, h1, h2⟩ := ih l
      exact ⟨_, .h e n t h1, h2.cons _⟩
    | t e l =>
      obtain ⟨f, h1, h2⟩ := ih l
      exact ⟨_, .t e h1, h2⟩
    | p e l =>
      obtain ⟨f, h1, h2⟩ := ih l
      exact ⟨_, .p e h1, h2⟩
    | z o q l =>
      obtain ⟨f, h1, h2⟩ := ih l
      exact ⟨_, .z o q h1, h2.append_left _⟩
  | swap x y l =>
    intro fp h
    cases h with
    | v o l =>
      cases l with
      | v o2 l => exact ⟨_, .v o2 (.v o l), by rw [← List.append_assoc, ← List.append_assoc]; exact (List.perm_append_comm).append_right _⟩
      | c e n t l => exact ⟨_, .c e n t (.v o l), List.perm_middle⟩
      | h e n t l => exact ⟨_, .h e n t (.v o l), List.perm_middle⟩
      | t e l => exact ⟨_, .t e (.v o l), .refl _⟩
      | p e l => exact ⟨_, .p e (.v o l), .refl _⟩
      | z o2 q2 l => exact ⟨_, .z o2 q2 (.v o l), by rw [← List.append_assoc, ← List.append_assoc]; exact (List.perm_append_comm).append_right _⟩
    | c e n t l =>
      cases l with
      | v o2 l => exact ⟨_, .v o2 (.c e n t l), List.perm_middle.symm⟩
      | c e2 n2 t2 l => exact ⟨_, .c e2 n2 t2 (.c e n t l), .swap _ _ _⟩
      | h e2 n2 t2 l => exact ⟨_, .h e2 n2 t2 (.c e n t l), .swap _ _ _⟩
      | t e2 l => exact ⟨_, .t e2 (.c e n t l), .refl _⟩
      | p e2 l => exact ⟨_, .p e2 (.c e n t l), .refl _⟩
      | z o2 q2 l => exact ⟨_, .z o2 q2 (.c e n t l), List.perm_middle.symm⟩
    | h e n t l =>
      cases l with
      | v o2 l => exact ⟨_, .v o2 (.h e n t l), List.perm_middle.symm⟩
      | c e2 n2 t2 l => exact ⟨_, .c e2 n2 t2 (.h e n t l), .swap _ _ _⟩
      | h e2 n2 t2 l => exact ⟨_, .h e2 n2 t2 (.h e n t l), .swap _ _ _⟩
      | t e2 l => exact ⟨_, .t e2 (.h e n t l), .refl _⟩
      | p e2 l => exact ⟨_, .p e2 (.h e n t l), .refl _⟩
      | z o2 q2 l => exact ⟨_, .z o2 q2 (.h e n t l), List.perm_middle.symm⟩
    | t e l =>
      cases l with
      | v o2 l => exact ⟨_, .v o2 (.t e l), .refl _⟩
      | c e2 n2 t2 l => exact ⟨_, .c e2 n2 t2 (.t e l), .refl _⟩
      | h e2 n2 t2 l => exact ⟨_, .h e2 n2 t2 (.t e l), .refl _⟩
      | t e2 l => exact ⟨_, .t e2 (.t e l), .refl _⟩
      | p e2 l => exact ⟨_, .p e2 (.t e l), .refl _⟩
      | z o2 q2 l => exact ⟨_, .z o2 q2 (.t e l), .refl _⟩
    | p e l =>
      cases l with
      | v o2 l => exact ⟨_, .v o2 (.p e l), .refl _⟩
      | c e2 n2 t2 l => exact ⟨_, .c e2 n2 t2 (.p e l), .refl _⟩
      | h e2 n2 t2 l => exact ⟨_, .h e2 n2 t2 (.p e l), .refl _⟩
      | t e2 l => exact ⟨_, .t e2 (.p e l), .refl _⟩
      | p e2 l => exact ⟨_, .p e2 (.p e l), .refl _⟩
      | z o2 q2 l => exact ⟨_, .z o2 q2 (.p e l), .refl _⟩
    | z o q l =>
      cases l with
      | v o2 l => exact ⟨_, .v o2 (.z o q l), by rw [← List.append_assoc, ← List.append_assoc]; exact (List.perm_append_comm).append_right _⟩
      | c e2 n2 t2 l => exact ⟨_, .c e2 n2 t2 (.z o q l), List.perm_middle⟩
      | h e2 n2 t2 l => exact ⟨_, .h e2 n2 t2 (.z o q l), List.perm_middle⟩
      | t e2 l => exact ⟨_, .t e2 (.z o q l), .refl _⟩
      | p e2 l => exact ⟨_, .p e2 (.z o q l), .refl _⟩
      | z o2 q2 l => exact ⟨_, .z o2 q2 (.z o q l), by rw [← List.append_assoc, ← List.append_assoc]; exact (List.perm_append_comm).append_right _⟩
  | trans _ _ ih1 ih2 =>
    intro fp h
    obtain ⟨f1, a, b⟩ := ih1 h
    obtain ⟨f2, c, d⟩ := ih2 a
    exact ⟨f2, c, b.trans d⟩
theorem Sim.perm {rs rs' : List Rt} (h : Sim K mg H rs) (p : rs.Perm rs') : Sim K mg H rs' := by
  obtain ⟨Hs, fp, s, o, n⟩ := h
  obtain ⟨fp', o', q⟩ := o.perm p
  exact ⟨Hs, fp', s, o', q.nodup_iff.mp n⟩
theorem Sim.tail {r : Rt} {rs : List Rt} (h : Sim K mg H (r :: rs)) : Sim K mg H rs := by
  obtain ⟨Hs, fp, s, o, n⟩ := h
  cases o with
  | v o l => exact ⟨Hs, _, s, l, (List.nodup_append.mp n).2.1⟩
  | c e z t l => exact ⟨Hs, _, s, l, (List.nodup_cons.mp n).2⟩
  | h e z t l => exact ⟨Hs, _, s, l, (List.nodup_cons.mp n).2⟩
  | t e l => exact ⟨Hs, _, s, l, n⟩
  | p e l => exact ⟨Hs, _, s, l, n⟩
  | z o q l => exact ⟨Hs, _, s, l, (List.nodup_append.mp n).2.1⟩
theorem Sim.drop {xs rs : List Rt} (h : Sim K mg H (xs ++ rs)) : Sim K mg H rs := by
  induction xs with
  | nil => exact h
  | cons x xs ih => exact ih h.tail
theorem Sim.nil : Sim K mg H [] := ⟨fun _ => Option.none, [], (fun _ _ z => by cases z), OwnR.nil, List.nodup_nil⟩
/-- only new objects -/
theorem Sim.grow {rs : List Rt} (h : Sim K mg H rs) (e : Same H H') : Sim K mg H' rs := by
  obtain ⟨Hs, fp, s, o, n⟩ := h
  refine ⟨Hs, fp, fun a u z => ?_, o.mono (fun _ _ z => z) fun a ha => ?_, n⟩
  · rcases s a u z with z | ⟨l, ob, z⟩
    · exact .inl (e _ _ z)
    · exact .inr ⟨l, ob, e _ _ z⟩
  · obtain ⟨⟨u, hu, _⟩, _⟩ := o.fpH a ha
    exact ⟨(e _ _ hu).trans hu.symm, fun z => z⟩
theorem Sim.rp {x : V} {d : D} {rs : List Rt} (h : Sim K mg H (.v x d :: rs)) : Rp K mg H x d := by
  obtain ⟨Hs, fp, s, o, n⟩ := h
  cases o with
  | v o l => exact o.rp s
theorem Sim.cell {a : Addr} {o : HO} {rs : List Rt} (h : Sim K mg H (.c a o :: rs)) : H a = some o := by
  obtain ⟨Hs, fp, s, q, n⟩ := h
  cases q with
  | c e z t l => exact e
theorem Sim.dup {x : V} {d : D} {rs : List Rt} (h : Sim K mg H (.v x d :: rs)) (hd : d.stable = true) : Sim K mg H (.v x d :: .v x d :: rs) := by
  obtain ⟨Hs, fp, s, o, n⟩ := h
  cases o with
  | v o l =>
    have e := o.fp_nil hd
    subst e
    exact ⟨Hs, _, s, .v o (.v o l), n⟩
theorem Sim.frz {x : V} {d : D} {rs : List Rt} (h : Sim K mg H (.v x d :: rs)) : Sim K mg H (.v x d.frz :: rs) := by
  obtain ⟨Hs, fp, s, o, n⟩ := h
  cases o with
  | @v _ _ f1 f2 _ o l =>
    have hn := List.nodup_append.mp n
    have hs : ∀ a u, Hs a = some u → (fun a => if a ∈ f1 then H a else Hs a) a = some u := fun a u z => by
      show (if a ∈ f1 then H a else Hs a) = some u
      by_cases hm : a ∈ f1
      · rw [(o.fpH a hm).2] at z; cases z
      · rw [if_neg hm]; exact z
    refine ⟨fun a => if a ∈ f1 then H a else Hs a, f2, fun a u z => ?_, .v (f1 := []) (o.frz hs fun a ha => if_pos ha) (l.mono hs fun a ha => ⟨rfl, fun hz => ?_⟩), hn.2.1⟩
    · by_cases hm : a ∈ f1
      · exact .inl ((if_pos hm).symm.trans z)
      · exact s a u ((if_neg hm).symm.trans z)
    · have hm : a ∉ f1 := fun hm => hn.2.2 a hm a ha rfl
      exact (if_neg hm).trans hz
/-- a raw cell written -/
theorem Sim.write {a : Addr} {o o' : HO} {rs : List Rt} (h : Sim K mg H (.c a o :: rs)) (ht : tupish o' = false := by rfl) : Sim K mg (upd H a o') (.c a o' :: rs) := by
  obtain ⟨Hs, fp, s, q, n⟩ := h
  cases q with
  | c e z t l =>
    have hn := List.nodup_cons.mp n
    refine ⟨Hs, _, fun b u hb => ?_, .c upd_same z ht (l.mono (fun _ _ z => z) fun b hb => ⟨upd_ne fun q => hn.1 (q ▸ hb), fun z => z⟩), n⟩
    have hne : b ≠ a := fun q => by rw [q, z] at hb; cases hb
    rw [upd_ne hne]
    exact s b u hb
/-- a new cell -/
theorem Sim.alloc {a : Addr} {o : HO} {rs : List Rt} (h : Sim K mg H rs) (hn : H a = none) (ht : tupish o = false := by rfl) : Sim K mg (upd H a o) (.c a o :: rs) := by
  obtain ⟨Hs, fp, s, q, n⟩ := h
  have ne : ∀ b ∈ fp, b ≠ a := fun b hb e => by
    obtain ⟨⟨u, hu, _⟩, _⟩ := q.fpH b hb
    rw [e, hn] at hu; cases hu
  refine ⟨Hs, a :: fp, fun b u hb => ?_, .c upd_same (s.none hn) ht (q.mono (fun _ _ z => z) fun b hb => ⟨upd_ne (ne b hb), fun z => z⟩), List.nodup_cons.mpr ⟨fun hm => ne a hm rfl, n⟩⟩
  have hne : b ≠ a := fun e => by rw [e, s.none hn] at hb; cases hb
  rw [upd_ne hne]
  exact s b u hb
/-- a cell that is never written again -/
theorem Sim.keep {a : Addr} {o : HO} {rs : List Rt} (h : Sim K mg H (.c a o :: rs)) : Sim K mg H rs := h.tail

theorem ownR_vals : ∀ {xs : List V} {ds : List D} {rs : List Rt} {fp : List Addr}, xs.length = ds.length → OwnR K mg Hs H (vals xs ds ++ rs) fp → ∃ f1 f2, fp = f1 ++ f2 ∧ OwnL K mg Hs H xs ds f1 ∧ OwnR K mg Hs H rs f2
  | [], [], rs, fp, _, h => ⟨[], fp, rfl, .nil, h⟩
  | x :: xs, d :: ds, rs, fp, hl, h => by
    cases h with
    | v o l =>
      obtain ⟨f1, f2, e, a, b⟩ := ownR_vals (xs := xs) (ds := ds) (by simpa using hl) l
      subst e
      exact ⟨_, f2, (List.append_assoc _ _ _).symm, .cons o a, b⟩
  | [], _ :: _, _, _, hl, _ => by cases hl
  | _ :: _, [], _, _, hl, _ => by cases hl
theorem vals_ownR : ∀ {xs : List V} {ds : List D} {rs : List Rt} {f1 f2 : List Addr}, OwnL K mg Hs H xs ds f1 → OwnR K mg Hs H rs f2 → OwnR K mg Hs H (vals xs ds ++ rs) (f1 ++ f2)
  | _, _, _, _, _, .nil, h => h
  | _, _, _, _, _, .cons o l, h => by
    rw [List.append_assoc]
    exact .v o (vals_ownR l h)

/-- an owned list taken apart, put together -/
theorem Sim.unL {x : V} {ds : List D} {rs : List Rt} (h : Sim K mg H (.v x (.lst true ds) :: rs)) : ∃ a xs, x = .ref a ∧ xs.length = ds.length ∧ Sim K mg H (.c a (.lst xs) :: vals xs ds ++ rs) := by
  obtain ⟨Hs, fp, s, q, n⟩ := h
  cases q with
  | v o l =>
    cases o with
    | lstO e z ol => exact ⟨_, _, rfl, ol.length, Hs, _, s, .c e z rfl (vals_ownR ol l), n⟩
theorem Sim.foL {a : Addr} {xs : List V} {ds : List D} {rs : List Rt} (h : Sim K mg H (.c a (.lst xs) :: vals xs ds ++ rs)) (hl : xs.length = ds.length) : Sim K mg H (.v (.ref a) (.lst true ds) :: rs) := by
  obtain ⟨Hs, fp, s, q, n⟩ := h
  cases q with
  | c e z t l =>
    obtain ⟨f1, f2, e2, a1, b1⟩ := ownR_vals hl l
    subst e2
    exact ⟨Hs, _, s, .v (.lstO e z a1) b1, n⟩
/-- a list of any sort, a tuple, read apart -/
theorem Sim.unT {x : V} {ds : List D} {rs : List Rt} (h : Sim K mg H (.v x (.tup ds) :: rs)) : ∃ a xs, x = .ref a ∧ xs.length = ds.length ∧ H a = some (.tup xs) ∧ Sim K mg H (vals xs ds ++ rs) := by
  obtain ⟨Hs, fp, s, q, n⟩ := h
  cases q with
  | v o l =>
    cases o with
    | tup e ol => exact ⟨_, _, rfl, ol.length, s.tup e, Hs, _, s, vals_ownR ol l, n⟩
theorem Sim.unT' {x : V} {ds : List D} {rs : List Rt} (h : Sim K mg H (.v x (.tup ds) :: rs)) : ∃ a xs, x = .ref a ∧ xs.length = ds.length ∧ H a = some (.tup xs) ∧ Sim K mg H (.t a xs :: (vals xs ds ++ rs)) := by
  obtain ⟨Hs, fp, s, q, n⟩ := h
  cases q with
  | v o l =>
    cases o with
    | tup e ol => exact ⟨_, _, rfl, ol.length, s.tup e, Hs, _, s, .t e (vals_ownR ol l), n⟩
theorem Sim.foT {a : Addr} {xs : List V} {ds : List D} {rs : List Rt} (h : Sim K mg H (.t a xs :: (vals xs ds ++ rs))) (hl : xs.length = ds.length) : Sim K mg H (.v (.ref a) (.tup ds) :: rs) := by
  obtain ⟨Hs, fp, s, q, n⟩ := h
  cases q with
  | t e l =>
    obtain ⟨f1, f2, e2, a1, b1⟩ := ownR_vals hl l
    subst e2
    exact ⟨Hs, _, s, .v (.tup e a1) b1, n⟩
/-- a new tuple -/
theorem Sim.newT {a : Addr} {xs : List V} {ds : List D} {rs : List Rt} (h : Sim K mg H (vals xs ds ++ rs)) (hl : xs.length = ds.length) (hn : H a = none) : Sim K mg (upd H a (.tup xs)) (.v (.ref a) (.tup ds) :: rs) := by
  obtain ⟨Hs, fp, s, q, n⟩ := h
  obtain ⟨f1, f2, e2, a1, b1⟩ := ownR_vals hl q
  subst e2
  have hs : ∀ b u, Hs b = some u → upd Hs a (.tup xs) b = some u := fun b u hb => by
    have hne : b ≠ a := fun e => by rw [e, s.none hn] at hb; cases hb
    rw [upd_ne hne]; exact hb
  have nw : ∀ b, (∃ o, H b = some o ∧ tupish o = false) → upd H a (.tup xs) b = H b ∧ (Hs b = none → upd Hs a (.tup xs) b = none) := fun b ⟨u, hu, _⟩ => by
    have hne : b ≠ a := fun e => by rw [e, hn] at hu; cases hu
    exact ⟨upd_ne hne, fun hb => by rw [upd_ne hne]; exact hb⟩
  refine ⟨upd Hs a (.tup xs), f1 ++ f2, fun b u hb => ?_, .v (.tup upd_same (a1.mono hs fun b hb => ⟨(nw b (a1.fpH b hb).1).1, (nw b (a1.fpH b hb).1).2 (a1.fpH b hb).2⟩)) (b1.mono hs fun b hb => nw b (b1.fpH b hb).1), n⟩
  by_cases hne : b = a
  · subst hne
    rw [upd_same] at hb ⊢
    exact .inl hb
  · rw [upd_ne hne] at hb ⊢
    exact s b u hb
theorem Sim.unDk {x : V} {ks ds : List D} {rs : List Rt} (h : Sim K mg H (.v x (.dic true .k ks ds) :: rs)) : ∃ a kvs, x = .ref a ∧ ks = kvs.map (fun p => kyD p.1) ∧ kvs.length = ds.length ∧ Sim K mg H (.c a (.dK kvs) :: vals (kvs.map (·.2)) ds ++ rs) := by
  obtain ⟨Hs, fp, s, q, n⟩ := h
  cases q with
  | v o l =>
    cases o with
    | dkO e z q ol => exact ⟨_, _, rfl, q, by simpa using ol.length, Hs, _, s, .c e z rfl (vals_ownR ol l), n⟩
theorem Sim.foDk {a : Addr} {kvs : List (Key × V)} {ks ds : List D} {rs : List Rt} (h : Sim K mg H (.c a (.dK kvs) :: vals (kvs.map (·.2)) ds ++ rs)) (hk : ks = kvs.map (fun p => kyD p.1)) (hl : kvs.length = ds.length) : Sim K mg H (.v (.ref a) (.dic true .k ks ds) :: rs) := by
  obtain ⟨Hs, fp, s, q, n⟩ := h
  cases q with
  | c e z t l =>
    obtain ⟨f1, f2, e2, a1, b1⟩ := ownR_vals (by simpa using hl) l
    subst e2
    exact ⟨Hs, _, s, .v (.dkO e z hk a1) b1, n⟩
theorem Sim.unDt {x : V} {ks ds : List D} {rs : List Rt} (h : Sim K mg H (.v x (.dic true .t ks ds) :: rs)) : ∃ a kvs, x = .ref a ∧ ks = kvs.map (fun p => ktD p.1) ∧ kvs.length = ds.length ∧ Sim K mg H (.c a (.dT kvs) :: vals (kvs.map (·.2)) ds ++ rs) := by
  obtain ⟨Hs, fp, s, q, n⟩ := h
  cases q with
  | v o l =>
    cases o with
    | dtO e z q ol => exact ⟨_, _, rfl, q, by simpa using ol.length, Hs, _, s, .c e z rfl (vals_ownR ol l), n⟩
theorem Sim.foDt {a : Addr} {kvs : List (List Key × V)} {ks ds : List D} {rs : List Rt} (h : Sim K mg H (.c a (.dT kvs) :: vals (kvs.map (·.2)) ds ++ rs)) (hk : ks = kvs.map (fun p => ktD p.1)) (hl : kvs.length = ds.length) : Sim K mg H (.v (.ref a) (.dic true .t ks ds) :: rs) := by
  obtain ⟨Hs, fp, s, q, n⟩ := h
  cases q with
  | c e z t l =>
    obtain ⟨f1, f2, e2, a1, b1⟩ := ownR_vals (by simpa using hl) l
    subst e2
    exact ⟨Hs, _, s, .v (.dtO e z hk a1) b1, n⟩
theorem Sim.unO {x : V} {c : Str} {fs : List Str} {ds : List D} {rs : List Rt} (h : Sim K mg H (.v x (.obj true c fs ds) :: rs)) : ∃ a dx C fvs, x = .ref a ∧ mg c = some (.ref C) ∧ fs = fvs.map (·.1) ∧ fvs.length = ds.length ∧ Sim K mg H (.c a (.ins C dx fvs) :: vals (fvs.map (·.2)) ds ++ rs) := by
  obtain ⟨Hs, fp, s, q, n⟩ := h
  cases q with
  | v o l =>
    cases o with
    | objO g e z q ol => exact ⟨_, _, _, _, rfl, g, q, by simpa using ol.length, Hs, _, s, .c e z rfl (vals_ownR ol l), n⟩
theorem Sim.foO {a dx C : Addr} {c : Str} {fvs : List (Str × V)} {fs : List Str} {ds : List D} {rs : List Rt} (h : Sim K mg H (.c a (.ins C dx fvs) :: vals (fvs.map (·.2)) ds ++ rs)) (hc : mg c = some (.ref C)) (hk : fs = fvs.map (·.1)) (hl : fvs.length = ds.length) : Sim K mg H (.v (.ref a) (.obj true c fs ds) :: rs) := by
  obtain ⟨Hs, fp, s, q, n⟩ := h
  cases q with
  | c e z t l =>
    obtain ⟨f1, f2, e2, a1, b1⟩ := ownR_vals (by simpa using hl) l
    subst e2
    exact ⟨Hs, _, s, .v (.objO hc e z hk a1) b1, n⟩

/-! ### immutable data that can be read are roots -/
def tupHp (Hs H : Hp) : Hp := fun a => match Hs a with
  | some o => some o
  | none => match H a with
    | some o => if tupish o = true then some o else none
    | none => none
theorem tupHp_le {a : Addr} {o : HO} (h : Hs a = some o) : tupHp Hs H a = some o := by unfold tupHp; rw [h]
theorem tupHp_tup (s : SubHp Hs H) {a : Addr} {xs : List V} (e : H a = some (.tup xs)) : tupHp Hs H a = some (.tup xs) := by
  unfold tupHp
  cases q : Hs a with
  | none => simp only [e]; rfl
  | some u =>
    rcases s a u q with z | ⟨l, ob, z⟩
    · rw [e] at z; cases z; rfl
    · rw [e] at z; cases z
theorem tupHp_xd (s : SubHp Hs H) {d : Option Addr} {fvs : List (Str × V)} (e : XdAt H d fvs) : XdAt (tupHp Hs H) d fvs := by
  cases d with
  | none => exact e
  | some a =>
    have e' : H a = some (.xd fvs) := e
    show tupHp Hs H a = some (.xd fvs)
    unfold tupHp
    cases q : Hs a with
    | none => simp only [e']; rfl
    | some u =>
      rcases s a u q with z | ⟨l, ob, z⟩
      · rw [e'] at z; cases z; rfl
      · rw [e'] at z; cases z
mutual
theorem Rp.own (s : SubHp Hs H) : ∀ {v : V} {d : D}, Rp K mg H v d → d.imm = true → Own K mg (tupHp Hs H) H v d []
  | _, _, .non, _ => .non
  | _, _, .bl b, _ => .bl b
  | _, _, .int i, _ => .int i
  | _, _, .str x, _ => .str x
  | _, _, .tup z l, h => .tup (tupHp_tup s z) (RpL.own s l (by simpa [D.imm] using h))
  | _, _, .lst _ _, h => by simp [D.imm] at h
  | _, _, .dk _ _ _, h => by simp [D.imm] at h
  | _, _, .dt _ _ _, h => by simp [D.imm] at h
  | _, _, .obj _ _ _ _, h => by simp [D.imm] at h
  | _, _, .scr _, h => by simp [D.imm] at h
  | _, _, .exn _ _ _ _ _, h => by simp [D.imm] at h
  | _, _, .ptr _, h => by simp [D.imm] at h
  | _, _, .lat _ _, h => by simp [D.imm] at h
  | _, _, .dlk _ _ _ _, h => by simp [D.imm] at h
  | _, _, .dn _ _ _ _, h => by simp [D.imm] at h
theorem RpL.own (s : SubHp Hs H) : ∀ {vs : List V} {ds : List D}, RpL K mg H vs ds → immL ds = true → OwnL K mg (tupHp Hs H) H vs ds []
  | _, _, .nil, _ => .nil
  | _, _, .cons o l, h => by
    simp only [immL, Bool.and_eq_true] at h
    exact OwnL.cons (f1 := []) (f2 := []) (Rp.own s o h.1) (RpL.own s l h.2)
end
theorem Sim.imms {vs : List V} {ds : List D} {rs : List Rt} (h : Sim K mg H rs) (r : RpL K mg H vs ds) (hi : immL ds = true) : Sim K mg H (vals vs ds ++ rs) := by
  obtain ⟨Hs, fp, s, o, n⟩ := h
  refine ⟨tupHp Hs H, [] ++ fp, fun a u e => ?_, vals_ownR (r.own s hi) (o.mono (fun _ _ => tupHp_le) fun a ha => ⟨rfl, fun hn => ?_⟩), n⟩
  · unfold tupHp at e
    split at e
    · rename_i u' e'
      cases e
      exact s a _ e'
    · split at e
      · rename_i u' e'
        split at e
        · cases e; exact .inl e'
        · cases e
      · cases e
  · obtain ⟨⟨u, hu, t⟩, _⟩ := o.fpH a ha
    unfold tupHp
    rw [hn]
    simp only [hu]
    rw [t]
    rfl
theorem Sim.imm {v : V} {d : D} {rs : List Rt} (h : Sim K mg H rs) (r : Rp K mg H v d) (hi : d.imm = true) : Sim K mg H (.v v d :: rs) :=
  h.imms (.cons r .nil) (by simp only [immL, hi, Bool.and_self])
/-- a caught exception is a root -/
theorem Sim.newX {a C : Addr} {d : Option Addr} {c : Str} {fvs : List (Str × V)} {fs : List Str} {ds : List D} {rs : List Rt} (h : Sim K mg H rs) (hn : H a = none) (hC : mg c = some (.ref C)) (hd : XdAt H d fvs) (hf : fs = fvs.map (·.1)) (r : RpL K mg H (fvs.map (·.2)) ds) (hi : immL ds = true) : Sim K mg (upd H a (exH (.ref C) d a)) (.v (.ref a) (.exn c fs ds) :: rs) := by
  obtain ⟨Hs, fp, s, o, n⟩ := h
  have nea : ∀ {b : Addr} {u : HO}, H b = some u → b ≠ a := fun e z => by rw [z, hn] at e; cases e
  have hsa : Hs a = none := s.none hn
  have up : ∀ {b : Addr} {u : HO}, H b = some u → upd H a (exH (.ref C) d a) b = some u := fun {b u} e => by rw [upd_ne (nea e)]; exact e
  have tl := r.own s hi
  have sub : SubHp (tupHp Hs H) H := fun b u e => by
    unfold tupHp at e
    split at e
    · rename_i u' e'; cases e; exact s b _ e'
    · split at e
      · rename_i u' e'
        split at e
        · cases e; exact .inl e'
        · cases e
      · cases e
  have hta : tupHp Hs H a = none := sub.none hn
  have le2 : ∀ b u, tupHp Hs H b = some u → upd (tupHp Hs H) a (exH (.ref C) d a) b = some u := fun b u e => by rw [upd_ne (fun z => by rw [z, hta] at e; cases e)]; exact e
  refine ⟨upd (tupHp Hs H) a (exH (.ref C) d a), [] ++ fp, fun b u e => ?_, .v (f1 := []) (.exn hC upd_same ((tupHp_xd s hd).lift le2) hf ((OwnL.mono le2 tl fun _ z => nomatch z))) (o.mono (fun b u e => le2 b u (tupHp_le e)) fun b hb => ⟨?_, fun hz => ?_⟩), n⟩
  · by_cases hb : b = a
    · subst hb
      rw [upd_same] at e ⊢
      exact .inl e
    · rw [upd_ne hb] at e
      rcases sub b u e with z | ⟨l, ob, z⟩
      · exact .inl (up z)
      · exact .inr ⟨l, ob, up z⟩
  · obtain ⟨⟨u, hu, t⟩, _⟩ := o.fpH b hb
    rw [upd_ne (nea hu)]
  · obtain ⟨⟨u, hu, t⟩, _⟩ := o.fpH b hb
    rw [upd_ne (nea hu)]
    unfold tupHp
    rw [hz]
    simp only [hu]
    rw [t]
    rfl
/-! ### parts of data -/
inductive Sub (H : Hp) : V → D → V → D → Prop
  | refl (v : V) (d : D) : Sub H v d v d
  | tup {a : Addr} {xs : List V} {ds : List D} {i : Nat} {x : V} {e : D} {v : V} {d : D} : H a = some (.tup xs) → xs[i]? = some x → ds[i]? = some e → Sub H x e v d → Sub H (.ref a) (.tup ds) v d
  | lst {a : Addr} {xs : List V} {o : Bool} {ds : List D} {i : Nat} {x : V} {e : D} {v : V} {d : D} : H a = some (.lst xs) → xs[i]? = some x → ds[i]? = some e → Sub H x e v d → Sub H (.ref a) (.lst o ds) v d
  | dk {a : Addr} {kvs : List (Key × V)} {o : Bool} {ks ds : List D} {i : Nat} {x : V} {e : D} {v : V} {d : D} : Rd H a (.dK kvs) → (kvs.map (·.2))[i]? = some x → ds[i]? = some e → Sub H x e v d → Sub H (.ref a) (.dic o .k ks ds) v d
  | dt {a : Addr} {kvs : List (List Key × V)} {o : Bool} {ks ds : List D} {i : Nat} {x : V} {e : D} {v : V} {d : D} : Rd H a (.dT kvs) → (kvs.map (·.2))[i]? = some x → ds[i]? = some e → Sub H x e v d → Sub H (.ref a) (.dic o .t ks ds) v d
  | obj {a dx C : Addr} {fvs : List (Str × V)} {o : Bool} {c : Str} {fs : List Str} {ds : List D} {i : Nat} {x : V} {e : D} {v : V} {d : D} : H a = some (.ins C dx fvs) → (fvs.map (·.2))[i]? = some x → ds[i]? = some e → Sub H x e v d → Sub H (.ref a) (.obj o c fs ds) v d
theorem Sub.trans {v : V} {d : D} {v1 : V} {d1 : D} {v2 : V} {d2 : D} (a : Sub H v d v1 d1) (b : Sub H v1 d1 v2 d2) : Sub H v d v2 d2 := by
  induction a with
  | refl => exact b
  | tup h1 h2 h3 _ ih => exact .tup h1 h2 h3 (ih b)
  | lst h1 h2 h3 _ ih => exact .lst h1 h2 h3 (ih b)
  | dk h1 h2 h3 _ ih => exact .dk h1 h2 h3 (ih b)
  | dt h1 h2 h3 _ ih => exact .dt h1 h2 h3 (ih b)
  | obj h1 h2 h3 _ ih => exact .obj h1 h2 h3 (ih b)
theorem Sub.grow {v : V} {d : D} {v1 : V} {d1 : D} (a : Sub H v d v1 d1) (e : Same H H') : Sub H' v d v1 d1 := by
  induction a with
  | refl => exact .refl _ _
  | tup h1 h2 h3 _ ih => exact .tup (e _ _ h1) h2 h3 ih
  | lst h1 h2 h3 _ ih => exact .lst (e _ _ h1) h2 h3 ih
  | dk h1 h2 h3 _ ih => exact .dk (Same.rd e h1) h2 h3 ih
  | dt h1 h2 h3 _ ih => exact .dt (Same.rd e h1) h2 h3 ih
  | obj h1 h2 h3 _ ih => exact .obj (e _ _ h1) h2 h3 ih
theorem OwnL.get : ∀ {vs : List V} {ds : List D} {fp : List Addr} {i : Nat} {v : V} {d : D}, OwnL K mg Hs H vs ds fp → vs[i]? = some v → ds[i]? = some d → ∃ f, Own K mg Hs H v d f
  | _, _, _, _, _, _, .nil, h, _ => by simp at h
  | _, _, _, 0, _, _, .cons o l, h, h' => by simp at h h'; subst h h'; exact ⟨_, o⟩
  | _, _, _, i + 1, _, _, .cons o l, h, h' => OwnL.get (i := i) l (by simpa using h) (by simpa using h')
theorem Rd.uk {a : Addr} {x y : List (Key × V)} (h : Rd H a (.dK x)) (h' : Rd H a (.dK y)) : x = y := by
  rcases h with h | ⟨o, h⟩ <;> rcases h' with h' | ⟨o', h'⟩ <;> rw [h] at h' <;> cases h' <;> rfl
theorem Rd.ut {a : Addr} {x y : List (List Key × V)} (h : Rd H a (.dT x)) (h' : Rd H a (.dT y)) : x = y := by
  rcases h with h | ⟨o, h⟩ <;> rcases h' with h' | ⟨o', h'⟩ <;> rw [h] at h' <;> cases h' <;> rfl
theorem Own.sub (s : SubHp Hs H) {v : V} {d : D} {v1 : V} {d1 : D} (q : Sub H v d v1 d1) : ∀ {fp : List Addr}, Own K mg Hs H v d fp → ∃ f, Own K mg Hs H v1 d1 f := by
  induction q with
  | refl => intro fp o; exact ⟨_, o⟩
  | tup h1 h2 h3 _ ih =>
    intro fp o
    cases o with
    | tup e l =>
      have e' := s.tup e
      rw [h1] at e'; cases e'
      obtain ⟨f, o'⟩ := l.get h2 h3
      exact ih o'
  | lst h1 h2 h3 _ ih =>
    intro fp o
    cases o with
    | lstF e l =>
      have e' := s.lst e
      rw [h1] at e'; cases e'
      obtain ⟨f, o'⟩ := l.get h2 h3
      exact ih o'
    | lstO e n l =>
      rw [h1] at e; cases e
      obtain ⟨f, o'⟩ := l.get h2 h3
      exact ih o'
  | dk h1 h2 h3 _ ih =>
    intro fp o
    cases o with
    | dkF e _ l =>
      cases Rd.uk h1 (s.rdK e)
      obtain ⟨f, o'⟩ := l.get h2 h3
      exact ih o'
    | dkO e n _ l =>
      cases Rd.uk h1 (.inl e)
      obtain ⟨f, o'⟩ := l.get h2 h3
      exact ih o'
  | dt h1 h2 h3 _ ih =>
    intro fp o
    cases o with
    | dtF e _ l =>
      cases Rd.ut h1 (s.rdT e)
      obtain ⟨f, o'⟩ := l.get h2 h3
      exact ih o'
    | dtO e n _ l =>
      cases Rd.ut h1 (.inl e)
      obtain ⟨f, o'⟩ := l.get h2 h3
      exact ih o'
  | obj h1 h2 h3 _ ih =>
    intro fp o
    cases o with
    | objF _ e _ l =>
      have e' := s.ins e
      rw [h1] at e'; cases e'
      obtain ⟨f, o'⟩ := l.get h2 h3
      exact ih o'
    | objO _ e _ _ l =>
      rw [h1] at e; cases e
      obtain ⟨f, o'⟩ := l.get h2 h3
      exact ih o'
theorem Rp.sub {v : V} {d : D} {v1 : V} {d1 : D} (q : Sub H v d v1 d1) : Rp K mg H v d → Rp K mg H v1 d1 := by
  induction q with
  | refl => intro o; exact o
  | tup h1 h2 h3 _ ih =>
    intro o
    cases o with
    | tup e l => rw [h1] at e; cases e; exact ih (l.get h2 h3)
  | lst h1 h2 h3 _ ih =>
    intro o
    cases o with
    | lst e l => rw [h1] at e; cases e; exact ih (l.get h2 h3)
  | dk h1 h2 h3 _ ih =>
    intro o
    cases o with
    | dk e _ l => cases Rd.uk h1 e; exact ih (l.get h2 h3)
  | dt h1 h2 h3 _ ih =>
    intro o
    cases o with
    | dt e _ l => cases Rd.ut h1 e; exact ih (l.get h2 h3)
  | obj h1 h2 h3 _ ih =>
    intro o
    cases o with
    | obj _ e _ l => rw [h1] at e; cases e; exact ih (l.get h2 h3)
/-- a stable part of a root is a root -/
theorem Sim.sub {v : V} {d : D} {v1 : V} {d1 : D} {rs : List Rt} (h : Sim K mg H (.v v d :: rs)) (q : Sub H v d v1 d1) (hs : d1.stable = true) : Sim K mg H (.v v1 d1 :: .v v d :: rs) := by
  obtain ⟨Hs, fp, s, o, n⟩ := h
  cases o with
  | v o l =>
    obtain ⟨f, o'⟩ := o.sub s q
    have e := o'.fp_nil hs
    subst e
    exact ⟨Hs, _, s, .v (f1 := []) o' (.v o l), n⟩
end
end Dl

set_option Elab.async false
set_option linter.all false
set_option maxRecDepth 100000
set_option maxHeartbeats 1000000
/-! DL2: slots, states, judgements over data; statements; calls of defs. -/
namespace Dl
open PySem PySem.Spec PyProof.Rows L2

/-- the values of a frame's slots as data -/
abbrev DEnv := List (Option D)
def slotR : L2.St → DEnv → List Rt
  | some v :: σ, some d :: ρ => .v v d :: slotR σ ρ
  | _ :: σ, _ :: ρ => slotR σ ρ
  | _, _ => []
theorem slotR_none : ∀ (σ : L2.St) (x : Option V) (ρ : DEnv), slotR (x :: σ) (none :: ρ) = slotR σ ρ := fun σ x ρ => by cases x <;> simp [slotR]
theorem slotR_out : ∀ {σ : L2.St} {ρ : DEnv} {i : Nat} {v : V} {d : D}, σ[i]? = some (some v) → ρ[i]? = some (some d) → (slotR σ ρ).Perm (.v v d :: slotR σ (ρ.set i none))
  | [], _, _, _, _, h, _ => by simp at h
  | _ :: _, [], _, _, _, _, h => by simp at h
  | x :: σ, y :: ρ, 0, v, d, h, h' => by
    simp at h h'; subst h h'
    simp [slotR]
  | x :: σ, y :: ρ, i + 1, v, d, h, h' => by
    have ih := slotR_out (σ := σ) (ρ := ρ) (i := i) (by simpa using h) (by simpa using h')
    rw [List.set_cons_succ]
    cases x with
    | none => simpa [slotR] using ih
    | some x =>
      cases y with
      | none => simpa [slotR] using ih
      | some y =>
        simp only [slotR]
        exact (ih.cons _).trans (.swap _ _ _)
theorem slotR_in : ∀ {σ : L2.St} {ρ : DEnv} {i : Nat} {v : V} {d : D}, i < σ.length → i < ρ.length → (slotR (σ.set i (some v)) (ρ.set i (some d))).Perm (.v v d :: slotR σ (ρ.set i none))
  | [], _, _, _, _, h, _ => by simp at h
  | _ :: _, [], _, _, _, _, h => by simp at h
  | x :: σ, y :: ρ, 0, v, d, h, h' => by
    simp [slotR]
  | x :: σ, y :: ρ, i + 1, v, d, h, h' => by
    have ih := slotR_in (σ := σ) (ρ := ρ) (i := i) (v := v) (d := d) (by simpa using h) (by simpa using h')
    rw [List.set_cons_succ, List.set_cons_succ, List.set_cons_succ]
    cases x with
    | none => simpa [slotR] using ih
    | some x =>
      cases y with
      | none => simpa [slotR] using ih
      | some y =>
        simp only [slotR]
        exact (ih.cons _).trans (.swap _ _ _)
theorem set_get {α : Type} : ∀ {l : List α} {i : Nat} {x : α}, l[i]? = some x → l.set i x = l
  | [], _, _, h => by simp at h
  | a :: l, 0, x, h => by simp at h; simp [h]
  | a :: l, i + 1, x, h => by simp at h; simp [set_get h]
theorem slotR_same {σ : L2.St} {ρ : DEnv} {i : Nat} {v : V} {d : D} (h : σ[i]? = some (some v)) (hl : i < ρ.length) : (slotR σ (ρ.set i (some d))).Perm (.v v d :: slotR σ (ρ.set i none)) := by
  have q := slotR_in (σ := σ) (ρ := ρ) (i := i) (v := v) (d := d) (List.getElem?_eq_some_iff.mp h).1 hl
  rw [set_get h] at q
  exact q
theorem slotR_forget : ∀ (σ : L2.St) (ρ : DEnv) (i : Nat), ∃ xs, (slotR σ ρ).Perm (xs ++ slotR σ (ρ.set i none))
  | [], ρ, i => ⟨[], by cases ρ <;> cases i <;> simp [slotR]⟩
  | _ :: _, [], i => ⟨[], by simp [slotR]⟩
  | x :: σ, y :: ρ, 0 => by
    cases x with
    | none => exact ⟨[], by simp [slotR]⟩
    | some x =>
      cases y with
      | none => exact ⟨[], by simp [slotR]⟩
      | some y => exact ⟨[.v x y], by simp [slotR]⟩
  | x :: σ, y :: ρ, i + 1 => by
    obtain ⟨xs, h⟩ := slotR_forget σ ρ i
    rw [List.set_cons_succ]
    cases x with
    | none => exact ⟨xs, by simpa [slotR] using h⟩
    | some x =>
      cases y with
      | none => exact ⟨xs, by simpa [slotR] using h⟩
      | some y =>
        refine ⟨xs, ?_⟩
        simp only [slotR]
        exact (h.cons _).trans List.perm_middle.symm

/-- the frame at hand: the written part, the module's names, the parameters that are never stored to, the number of slots -/
structure Fm where
  K : PySem.W.Frag
  mg : MG
  vs0 : List V
  n : Nat
  W : WX
/-- nothing is let out -/
def noW : WX := fun _ _ _ _ => False
abbrev fmW (X : Cx) (vs0 : List V) (W : WX) : Fm := ⟨X.K, ⟨X.mg, X.w⟩, vs0, X.N.length, W⟩
abbrev fm (X : Cx) (vs0 : List V) : Fm := fmW X vs0 noW
abbrev fmk (K : PySem.W.Frag) (mg : MG) (vs0 : List V) (n : Nat) : Fm := ⟨K, mg, vs0, n, noW⟩
structure At' (K : PySem.W.Frag) (mg : MG) (vs0 : List V) (n : Nat) (σ : L2.St) (H : Hp) (ρ : DEnv) (ts : List Rt) : Prop where
  lenS : σ.length = n
  lenR : ρ.length = n
  fit : ∀ (i : Nat) (d : D), ρ[i]? = some (some d) → ∃ v, σ[i]? = some (some v)
  par : ∀ (i : Nat) (v : V), vs0[i]? = some v → σ[i]? = some (some v)
  sim : Sim K mg H (slotR σ ρ ++ ts)
abbrev At (F : Fm) (σ : L2.St) (H : Hp) (ρ : DEnv) (ts : List Rt) : Prop := At' F.K F.mg F.vs0 F.n σ H ρ ts
/-- an exception in the air, as data: class, dict -/
def Xin (K : PySem.W.Frag) (mg : MG) (H : Hp) (cls : Value) (d : Option Addr) : D → Prop
  | .exn c fs ds => immL ds = true ∧ ∃ (C : Addr) (fvs : List (Str × V)), mg c = some (.ref C) ∧ cls = .ref C ∧ XdAt H d fvs ∧ fs = fvs.map (·.1) ∧ RpL K mg H (fvs.map (·.2)) ds
  | _ => False
def Mk (K : PySem.W.Frag) (mg : MG) (H H' : Hp) (z : V) (d : D) : Prop := ∀ rs, Sim K mg H rs → Sim K mg H' (.v z d :: rs)

section
variable {F : Fm} {σ : L2.St} {H H' : Hp} {ρ ρ' : DEnv} {ts ts' : List Rt}
theorem At.grow (a : At F σ H ρ ts) (e : Same H H') : At F σ H' ρ ts := ⟨a.lenS, a.lenR, a.fit, a.par, a.sim.grow e⟩
theorem At.temps (a : At F σ H ρ ts) (s : Sim F.K F.mg H' (slotR σ ρ ++ ts')) : At F σ H' ρ ts' := ⟨a.lenS, a.lenR, a.fit, a.par, s⟩
theorem At.perm (a : At F σ H ρ ts) (p : ts.Perm ts') : At F σ H ρ ts' := a.temps (a.sim.perm (p.append_left _))
/-- the temps in front -/
theorem At.front (a : At F σ H ρ ts) : Sim F.K F.mg H (ts ++ slotR σ ρ) := a.sim.perm List.perm_append_comm
theorem At.of_front (a : At F σ H ρ ts) (s : Sim F.K F.mg H' (ts' ++ slotR σ ρ)) : At F σ H' ρ ts' := a.temps (s.perm List.perm_append_comm)
theorem At.tail {r : Rt} (a : At F σ H ρ (r :: ts)) : At F σ H ρ ts := a.of_front (by have := a.front; exact this.tail)
theorem At.mk' {z : V} {d : D} (a : At F σ H ρ ts) (m : Mk F.K F.mg H H' z d) : At F σ H' ρ (.v z d :: ts) := a.of_front (m _ a.front)
theorem At.slot {i : Nat} {d : D} (a : At F σ H ρ ts) (h : ρ[i]? = some (some d)) : ∃ v, σ[i]? = some (some v) ∧ Sim F.K F.mg H (.v v d :: (slotR σ (ρ.set i none) ++ ts)) := by
  obtain ⟨v, e⟩ := a.fit i d h
  exact ⟨v, e, a.sim.perm ((slotR_out e h).append_right _)⟩
theorem At.away {i : Nat} (a : At F σ H ρ ts) (s : Sim F.K F.mg H' (slotR σ (ρ.set i none) ++ ts')) : At F σ H' (ρ.set i none) ts' := by
  refine ⟨a.lenS, by rw [List.length_set]; exact a.lenR, fun j d h => ?_, a.par, s⟩
  by_cases e : i = j
  · subst e
    by_cases hl : i < ρ.length
    · rw [List.getElem?_set_self hl] at h; cases h
    · rw [List.getElem?_eq_none (by simpa using hl)] at h; cases h
  · rw [List.getElem?_set_ne e] at h
    exact a.fit j d h
/-- the slot's value another one -/
theorem At.back {i : Nat} {v : V} {d : D} (a : At F σ H ρ ts) (e : σ[i]? = some (some v)) (s : Sim F.K F.mg H' (.v v d :: (slotR σ (ρ.set i none) ++ ts'))) : At F σ H' (ρ.set i (some d)) ts' := by
  have hl : i < ρ.length := by rw [a.lenR, ← a.lenS]; exact (List.getElem?_eq_some_iff.mp e).1
  refine ⟨a.lenS, by rw [List.length_set]; exact a.lenR, fun j d' h => ?_, a.par, s.perm ((slotR_same e hl).symm.append_right _)⟩
  by_cases q : i = j
  · subst q; exact ⟨v, e⟩
  · rw [List.getElem?_set_ne q] at h
    exact a.fit j d' h
/-- a slot stored -/
theorem At.store {i : Nat} {v : V} {d : D} (a : At F σ H ρ (.v v d :: ts)) (hp : F.vs0.length ≤ i) (hi : i < F.n) : At F (σ.set i (some v)) H (ρ.set i (some d)) ts := by
  have h1 : i < σ.length := by rw [a.lenS]; exact hi
  have h2 : i < ρ.length := by rw [a.lenR]; exact hi
  refine ⟨by rw [List.length_set]; exact a.lenS, by rw [List.length_set]; exact a.lenR, fun j d' h => ?_, fun j w h => ?_, ?_⟩
  · by_cases q : i = j
    · subst q; exact ⟨v, List.getElem?_set_self h1⟩
    · rw [List.getElem?_set_ne q] at h ⊢
      exact a.fit j d' h
  · have q : i ≠ j := fun q => by
      subst q
      have := (List.getElem?_eq_some_iff.mp h).1
      omega
    rw [List.getElem?_set_ne q]
    exact a.par j w h
  · obtain ⟨xs, p⟩ := slotR_forget σ ρ i
    have s1 : Sim F.K F.mg H (xs ++ (.v v d :: (slotR σ (ρ.set i Option.none) ++ ts))) := a.sim.perm ((p.append_right _).trans (by
      rw [List.append_assoc]
      exact (List.perm_middle).append_left _))
    exact s1.drop.perm ((slotR_in h1 h2).symm.append_right _)
end

/-! ### the mirrors' types -/
abbrev EM := DEnv → Option (D × DEnv)
abbrev PM := DEnv → Option D
abbrev BM := DEnv → Option (Bool × DEnv)
inductive Fl where
  | nx | bk | ct | rt (d : D) | xc (x : D)
abbrev SM := DEnv → Option (Fl × DEnv)
abbrev GM := D → DEnv → Option DEnv
abbrev FnM := List D → Option (D × List D)

def tD (F : Fm) (f : EM) : TE := fun σ H Q => ∃ ρ ts d ρ', At F σ H ρ ts ∧ f ρ = some (d, ρ') ∧ ∀ v H', At F σ H' ρ' (.v v d :: ts) → Q v H'
/-- stable parts of a value can be had as roots, now and later -/
def Cj (F : Fm) (σ : L2.St) (ρ : DEnv) (ts : List Rt) (H : Hp) (v : V) (d : D) : Prop := ∀ H2, Same H H2 → ∀ v1 d1, Sub H2 v d v1 d1 → d1.stable = true → At F σ H2 ρ (.v v1 d1 :: ts)
theorem Cj.of {F : Fm} {σ : L2.St} {ρ : DEnv} {ts : List Rt} {H : Hp} {v : V} {d : D} (a : At F σ H ρ (.v v d :: ts)) : Cj F σ ρ ts H v d := fun H2 g v1 d1 q hs => by
  have s2 : Sim F.K F.mg H2 (.v v d :: (ts ++ slotR σ ρ)) := (a.grow g).front
  have s3 := (s2.sub q hs).perm (.swap _ _ _)
  exact a.of_front s3.tail
theorem Cj.now {F : Fm} {σ : L2.St} {ρ : DEnv} {ts : List Rt} {H : Hp} {v : V} {d : D} (c : Cj F σ ρ ts H v d) (hd : d.stable = true) : At F σ H ρ (.v v d :: ts) := c H (Same.refl H) v d (.refl v d) hd
def tP (F : Fm) (f : PM) : TE := fun σ H Q => ∃ ρ ts d, At F σ H ρ ts ∧ f ρ = some d ∧ ∀ v H', Same H H' → Rp F.K F.mg H' v d → Cj F σ ρ ts H' v d → Q v H'
def tT (F : Fm) (f : BM) : TT := fun σ H Q => ∃ ρ ts b ρ', At F σ H ρ ts ∧ f ρ = some (b, ρ') ∧ ∀ H', At F σ H' ρ' ts → Q b H'
def Fin (F : Fm) (ts : List Rt) (D' : Ends) (fl : Fl) (ρ' : DEnv) : Prop := match fl with
  | .nx => ∀ σ' H', At F σ' H' ρ' ts → D'.nx σ' H'
  | .bk => ∀ σ' H', At F σ' H' ρ' ts → D'.bk σ' H'
  | .ct => ∀ σ' H', At F σ' H' ρ' ts → D'.ct σ' H'
  | .rt d => ∀ v σ' H', At F σ' H' ρ' (.v v d :: ts) → D'.rt v H'
  | .xc x => ∀ cls d σ' H', At F σ' H' ρ' ts → Xin F.K F.mg H' cls d x → F.W cls d σ' H'
def tS (F : Fm) (f : SM) : TS := fun D' σ H => ∃ ρ ts fl ρ', At F σ H ρ ts ∧ f ρ = some (fl, ρ') ∧ Fin F ts D' fl ρ'
def tG (F : Fm) (g : GM) : TG := fun v σ H Q => ∃ ρ ts d ρ', At F σ H ρ (.v v d :: ts) ∧ g d ρ = some ρ' ∧ ∀ σ' H', At F σ' H' ρ' ts → Q σ' H'

theorem _root_.L2.PE.imp {X : Cx} {e : Expr} {t t' : TE} (h : PE X e t) (k : ∀ σ H Q, t' σ H Q → t σ H Q) : PE X e t' := ⟨fun pins s σ H Q I q => h.run pins s σ H Q I (k _ _ _ q)⟩
theorem _root_.L2.PT.imp {X : Cx} {e : Expr} {t t' : TT} (h : PT X e t) (k : ∀ σ H Q, t' σ H Q → t σ H Q) : PT X e t' := ⟨fun pins s σ H Q I q => h.run pins s σ H Q I (k _ _ _ q)⟩
theorem _root_.L2.PW.imp {X : Cx} {e : Expr} {t t' : TT} (h : PW X e t) (k : ∀ σ H Q, t' σ H Q → t σ H Q) : PW X e t' := ⟨fun w pins s σ H Q I q => h.run w pins s σ H Q I (k _ _ _ q)⟩
theorem _root_.L2.PS.imp {X : Cx} {e : Stmt} {t t' : TS} (h : PS X e t) (k : ∀ D σ H, t' D σ H → t D σ H) : PS X e t' := ⟨fun pins s σ H Q I q => h.run pins s σ H Q I (k _ _ _ q)⟩
theorem _root_.L2.PSs.imp {X : Cx} {e : List Stmt} {t t' : TS} (h : PSs X e t) (k : ∀ D σ H, t' D σ H → t D σ H) : PSs X e t' := ⟨fun pins s σ H Q I q => h.run pins s σ H Q I (k _ _ _ q)⟩
theorem _root_.L2.PG.imp {X : Cx} {e : Expr} {t t' : TG} (h : PG X e t) (k : ∀ v σ H Q, t' v σ H Q → t v σ H Q) : PG X e t' := ⟨fun pins s σ H v u Q I r q => h.run pins s σ H v u Q I r (k _ _ _ _ q)⟩
theorem _root_.L2.PA.imp {X : Cx} {e : List Expr} {t t' : TA} (h : PA X e t) (k : ∀ σ H Q, t' σ H Q → t σ H Q) : PA X e t' := ⟨fun pos pins s σ H Q I q => h.run pos pins s σ H Q I (k _ _ _ q)⟩
theorem _root_.L2.PI.imp {X : Cx} {tg e : Expr} {t t' : TI} (h : PI X tg e t) (k : ∀ σ H Q, t' σ H Q → t σ H Q) : PI X tg e t' := ⟨fun pins s σ H Q I q => h.run pins s σ H Q I (k _ _ _ q)⟩

/-! ### names, constants -/
def pVar (i : Nat) : PM := fun ρ => ρ.getD i none
def pC (d : D) : PM := fun _ => some d
/-- a stable value of a pure expression as a value of its own -/
def eP (a : PM) : EM := fun ρ => match a ρ with
  | some d => if d.stable = true then some (d, ρ) else none
  | none => none
/-- a name read: its value is frozen -/
def eFr (i : Nat) : EM := fun ρ => match ρ.getD i none with
  | some d => some (d.frz, ρ.set i (some d.frz))
  | none => none
/-- a name read for the last time: its value goes along -/
def eMv (i : Nat) : EM := fun ρ => match ρ.getD i none with
  | some d => some (d, ρ.set i none)
  | none => none
theorem getD_some {ρ : DEnv} {i : Nat} {d : D} (h : ρ.getD i none = some d) : ρ[i]? = some (some d) := by
  rw [List.getD_eq_getElem?_getD] at h
  cases e : ρ[i]? with
  | none => rw [e] at h; simp at h
  | some x => rw [e] at h; simp at h; rw [h]
section
variable {X : Cx} {vs0 : List V} {pos : Pos} {F : Fm}
theorem imp_var {i : Nat} : ∀ σ H Q, tP F (pVar i) σ H Q → tVar i σ H Q := fun σ H Q ⟨ρ, ts, d, a, e, k⟩ => by
  obtain ⟨v, h, s⟩ := a.slot (getD_some e)
  refine ⟨v, h, k v H (Same.refl H) s.rp fun H2 g v1 d1 q hd => ?_⟩
  have s2 := (s.grow g).sub q hd
  refine (a.grow g).temps (s2.perm ?_)
  refine List.Perm.trans ?_ List.perm_middle.symm
  exact ((slotR_out h (getD_some e)).symm.append_right _).cons _
theorem p_var (i : Nat) {x : Str} (hN : X.N[i]? = some x := by rfl) (hv : Vis X.env.scope x := by first | exact Or.inl rfl | exact Or.inr (Or.inl rfl) | exact Or.inr (Or.inr rfl)) (hd : (x == ("__debug__" : Str)) = false := by decide)
    (hcd : (x == ("__classdict__" : Str)) = false := by decide) : PE X (.Name x pos) (tP (fm X vs0) (pVar i)) := (pv i hN hv hd hcd).imp imp_var
theorem imp_fr {i : Nat} : ∀ σ H Q, tD F (eFr i) σ H Q → tVar i σ H Q := fun σ H Q ⟨ρ, ts, d, ρ', a, e, k⟩ => by
  unfold eFr at e
  split at e
  · rename_i d0 e0
    cases e
    obtain ⟨v, h, s⟩ := a.slot (getD_some e0)
    refine ⟨v, h, k v H ?_⟩
    have s2 := s.frz.dup (D.stable_frz d0)
    exact a.back h (s2.perm ((List.perm_middle (l₁ := slotR σ (ρ.set i none))).symm.cons _))
  · cases e
theorem e_fr (i : Nat) {x : Str} (hN : X.N[i]? = some x := by rfl) (hv : Vis X.env.scope x := by first | exact Or.inl rfl | exact Or.inr (Or.inl rfl) | exact Or.inr (Or.inr rfl)) (hd : (x == ("__debug__" : Str)) = false := by decide)
    (hcd : (x == ("__classdict__" : Str)) = false := by decide) : PE X (.Name x pos) (tD (fm X vs0) (eFr i)) := (pv i hN hv hd hcd).imp imp_fr
theorem imp_mv {i : Nat} : ∀ σ H Q, tD F (eMv i) σ H Q → tVar i σ H Q := fun σ H Q ⟨ρ, ts, d, ρ', a, e, k⟩ => by
  unfold eMv at e
  split at e
  · rename_i d0 e0
    cases e
    obtain ⟨v, h, s⟩ := a.slot (getD_some e0)
    refine ⟨v, h, k v H ?_⟩
    exact a.away (s.perm (List.perm_middle (l₁ := slotR σ (ρ.set i none))).symm)
  · cases e
theorem e_mv (i : Nat) {x : Str} (hN : X.N[i]? = some x := by rfl) (hv : Vis X.env.scope x := by first | exact Or.inl rfl | exact Or.inr (Or.inl rfl) | exact Or.inr (Or.inr rfl)) (hd : (x == ("__debug__" : Str)) = false := by decide)
    (hcd : (x == ("__classdict__" : Str)) = false := by decide) : PE X (.Name x pos) (tD (fm X vs0) (eMv i)) := (pv i hN hv hd hcd).imp imp_mv
theorem imp_c {v : V} {d : D} (m : ∀ H, Mk F.K F.mg H H v d) : ∀ σ H Q, tP F (pC d) σ H Q → tC v σ H Q := fun σ H Q ⟨ρ, ts, d', a, e, k⟩ => by
  cases e
  exact k v H (Same.refl H) (Sim.rp (m H [] Sim.nil)) (Cj.of (a.mk' (m H)))
theorem mk_int {K : PySem.W.Frag} {mg : MG} {H : Hp} (i : Int) : Mk K mg H H (.int i) (.int i) := fun rs ⟨Hs, fp, s, o, n⟩ => ⟨Hs, fp, s, .v (f1 := []) (.int i) o, n⟩
theorem mk_str {K : PySem.W.Frag} {mg : MG} {H : Hp} (x : Str) : Mk K mg H H (.str x) (.str x) := fun rs ⟨Hs, fp, s, o, n⟩ => ⟨Hs, fp, s, .v (f1 := []) (.str x) o, n⟩
theorem mk_bl {K : PySem.W.Frag} {mg : MG} {H : Hp} (b : Bool) : Mk K mg H H (.bl b) (.bl b) := fun rs ⟨Hs, fp, s, o, n⟩ => ⟨Hs, fp, s, .v (f1 := []) (.bl b) o, n⟩
theorem mk_non {K : PySem.W.Frag} {mg : MG} {H : Hp} : Mk K mg H H .non .non := fun rs ⟨Hs, fp, s, o, n⟩ => ⟨Hs, fp, s, .v (f1 := []) .non o, n⟩
theorem p_int {i : Int} {j : Nat} : PE X (.Constant (.int i) j pos) (tP (fm X vs0) (pC (.int i))) := pe_int.imp (imp_c fun _ => mk_int i)
theorem p_bl {i : Bool} {j : Nat} : PE X (.Constant (.bool i) j pos) (tP (fm X vs0) (pC (.bl i))) := pe_bl.imp (imp_c fun _ => mk_bl i)
theorem p_str {x : Str} {j : Nat} : PE X (.Constant (.str x) j pos) (tP (fm X vs0) (pC (.str x))) := pe_str.imp (imp_c fun _ => mk_str x)
theorem p_non {j : Nat} : PE X (.Constant .none j pos) (tP (fm X vs0) (pC .non)) := pe_non.imp (imp_c fun _ => mk_non)
/-- a pure expression's stable value -/
theorem imp_eP {f : PM} : ∀ σ H Q, tD F (eP f) σ H Q → tP F f σ H Q := fun σ H Q ⟨ρ, ts, d, ρ', a, e, k⟩ => by
  unfold eP at e
  split at e
  · rename_i d0 e0
    split at e
    · rename_i hs
      cases e
      exact ⟨ρ, ts, d, a, e0, fun v H' g r st => k v H' (st.now hs)⟩
    · cases e
  · cases e
theorem _root_.L2.PE.p {e : Expr} {f : PM} (h : PE X e (tP (fm X vs0) f)) : PE X e (tD (fm X vs0) (eP f)) := h.imp imp_eP

/-! ### operators by values -/
def R2D (K : PySem.W.Frag) (mg : MG) (r : R2) (op : D → D → Option D) : Prop :=
  ∀ (x y : V) (H : Hp) (dx dy d : D) (Q : VK), Rp K mg H x dx → Rp K mg H y dy → op dx dy = some d → (∀ z H', Same H H' → Mk K mg H H' z d → Q z H') → r x y H Q
def R1D (K : PySem.W.Frag) (mg : MG) (r : V → Hp → VK → Prop) (op : D → Option D) : Prop :=
  ∀ (x : V) (H : Hp) (dx d : D) (Q : VK), Rp K mg H x dx → op dx = some d → (∀ z H', Same H H' → Mk K mg H H' z d → Q z H') → r x H Q
def pOp2 (op : D → D → Option D) (a b : PM) : PM := fun ρ => match a ρ, b ρ with
  | some x, some y => op x y
  | _, _ => none
def pOp1 (op : D → Option D) (a : PM) : PM := fun ρ => match a ρ with
  | some x => op x
  | none => none
def eOp2 (op : D → D → Option D) (a b : EM) : EM := fun ρ => match a ρ with
  | some (x, ρ1) => match b ρ1 with
    | some (y, ρ2) => match op x y with
      | some d => some (d, ρ2)
      | none => none
    | none => none
  | none => none
/-- the second one read alone -/
def eOpP (op : D → D → Option D) (a : EM) (b : PM) : EM := fun ρ => match a ρ with
  | some (x, ρ1) => match b ρ1 with
    | some y => match op x y with
      | some d => some (d, ρ1)
      | none => none
    | none => none
  | none => none
/-- both read alone, the value new (perhaps owned) -/
def eOpPP (op : D → D → Option D) (a b : PM) : EM := fun ρ => match pOp2 op a b ρ with
  | some d => some (d, ρ)
  | none => none
/-- a name's list, its index reckoned with changes: the name's value is looked at behind -/
def eOpV (op : D → D → Option D) (i : Nat) (b : EM) : EM := fun ρ => match ρ.getD i none with
  | some _ => match b ρ with
    | some (y, ρ1) => match ρ1.getD i none with
      | some x => match op x y with
        | some d => if d.stable = true then some (d, ρ1) else none
        | none => none
      | none => none
    | none => none
  | none => none
variable {r : R2} {r1 : V → Hp → VK → Prop} {op : D → D → Option D} {op1 : D → Option D} {fa fb : PM} {ea eb : EM}
theorem imp_p2 (hr : R2D F.K F.mg r op) : ∀ σ H Q, tP F (pOp2 op fa fb) σ H Q → tOp r (tP F fa) (tP F fb) σ H Q := fun σ H Q ⟨ρ, ts, d, a, e, k⟩ => by
  unfold pOp2 at e
  split at e
  · rename_i x y ex ey
    refine ⟨ρ, ts, x, a, ex, fun v H1 g1 rx _ => ⟨ρ, ts, y, a.grow g1, ey, fun w H2 g2 ry _ => ?_⟩⟩
    exact hr v w H2 x y d Q (rx.grow g2) ry e fun z H3 g3 m => k z H3 (g1.trans (g2.trans g3)) (Sim.rp (m [] Sim.nil)) (Cj.of (((a.grow g1).grow g2).mk' m))
  · cases e
theorem imp_e2 (hr : R2D F.K F.mg r op) : ∀ σ H Q, tD F (eOp2 op ea eb) σ H Q → tOp r (tD F ea) (tD F eb) σ H Q := fun σ H Q ⟨ρ, ts, d, ρ', a, e, k⟩ => by
  unfold eOp2 at e
  split at e
  · rename_i x ρ1 ex
    split at e
    · rename_i y ρ2 ey
      split at e
      · rename_i d' ed
        cases e
        refine ⟨ρ, ts, x, ρ1, a, ex, fun v H1 a1 => ⟨ρ1, _, y, _, a1, ey, fun w H2 a2 => ?_⟩⟩
        have s2 : Sim F.K F.mg H2 (.v w y :: .v v x :: (ts ++ slotR σ _)) := a2.front
        exact hr v w H2 x y d Q s2.tail.rp s2.rp ed fun z H3 g3 m => k z H3 ((a2.of_front s2.tail.tail).mk' m)
      · cases e
    · cases e
  · cases e
theorem imp_eP2 (hr : R2D F.K F.mg r op) : ∀ σ H Q, tD F (eOpP op ea fb) σ H Q → tOp r (tD F ea) (tP F fb) σ H Q := fun σ H Q ⟨ρ, ts, d, ρ', a, e, k⟩ => by
  unfold eOpP at e
  split at e
  · rename_i x ρ1 ex
    split at e
    · rename_i y ey
      split at e
      · rename_i d' ed
        cases e
        refine ⟨ρ, ts, x, _, a, ex, fun v H1 a1 => ⟨_, _, y, a1, ey, fun w H2 g2 ry _ => ?_⟩⟩
        have s2 : Sim F.K F.mg H2 (.v v x :: (ts ++ slotR σ _)) := (a1.grow g2).front
        exact hr v w H2 x y d Q s2.rp ry ed fun z H3 g3 m => k z H3 (((a1.grow g2).of_front s2.tail).mk' m)
      · cases e
    · cases e
  · cases e
theorem imp_p1 (hr : R1D F.K F.mg r1 op1) : ∀ σ H Q, tP F (pOp1 op1 fa) σ H Q → tUn r1 (tP F fa) σ H Q := fun σ H Q ⟨ρ, ts, d, a, e, k⟩ => by
  unfold pOp1 at e
  split at e
  · rename_i x ex
    refine ⟨ρ, ts, x, a, ex, fun v H1 g1 rx _ => ?_⟩
    exact hr v H1 x d Q rx e fun z H3 g3 m => k z H3 (g1.trans g3) (Sim.rp (m [] Sim.nil)) (Cj.of ((a.grow g1).mk' m))
  · cases e
/-! ### tests -/
def bV (a : EM) : BM := fun ρ => match a ρ with
  | some (.bl b, ρ1) => some (b, ρ1)
  | _ => none
def bP (a : PM) : BM := fun ρ => match a ρ with
  | some (.bl b) => some (b, ρ)
  | _ => none
def bAnd (a b : BM) : BM := fun ρ => match a ρ with
  | some (true, ρ1) => b ρ1
  | some (false, ρ1) => some (false, ρ1)
  | none => none
def bOr (a b : BM) : BM := fun ρ => match a ρ with
  | some (true, ρ1) => some (true, ρ1)
  | some (false, ρ1) => b ρ1
  | none => none
def bNot (a : BM) : BM := fun ρ => match a ρ with
  | some (b, ρ1) => some (!b, ρ1)
  | none => none
variable {b1 b2 : BM}
theorem Rp.bl_inv {K : PySem.W.Frag} {mg : MG} {H : Hp} {v : V} {b : Bool} (h : Rp K mg H v (.bl b)) : v = .bl b := by cases h; rfl
theorem imp_bV : ∀ σ H Q, tT F (bV ea) σ H Q → tB (tD F ea) σ H Q := fun σ H Q ⟨ρ, ts, b, ρ', a, e, k⟩ => by
  unfold bV at e
  split at e
  · rename_i b0 ρ1 ex
    cases e
    refine ⟨ρ, ts, _, _, a, ex, fun v H1 a1 => ?_⟩
    have s2 : Sim F.K F.mg H1 (.v v (.bl b) :: (ts ++ slotR σ _)) := a1.front
    exact ⟨b, s2.rp.bl_inv, k H1 (a1.of_front s2.tail)⟩
  · cases e
theorem imp_bP : ∀ σ H Q, tT F (bP fa) σ H Q → tB (tP F fa) σ H Q := fun σ H Q ⟨ρ, ts, b, ρ', a, e, k⟩ => by
  unfold bP at e
  split at e
  · rename_i b0 ex
    cases e
    exact ⟨ρ, ts, _, a, ex, fun v H1 g rv _ => ⟨b, rv.bl_inv, k H1 (a.grow g)⟩⟩
  · cases e
theorem imp_bAnd : ∀ σ H Q, tT F (bAnd b1 b2) σ H Q → tAnd (tT F b1) (tT F b2) σ H Q := fun σ H Q ⟨ρ, ts, b, ρ', a, e, k⟩ => by
  unfold bAnd at e
  split at e
  · rename_i ρ1 ex
    exact ⟨ρ, ts, true, ρ1, a, ex, fun H1 a1 => iteT ⟨ρ1, ts, b, ρ', a1, e, k⟩⟩
  · rename_i ρ1 ex
    cases e
    exact ⟨ρ, ts, false, _, a, ex, fun H1 a1 => iteF (k H1 a1)⟩
  · cases e
theorem imp_bOr : ∀ σ H Q, tT F (bOr b1 b2) σ H Q → tOr (tT F b1) (tT F b2) σ H Q := fun σ H Q ⟨ρ, ts, b, ρ', a, e, k⟩ => by
  unfold bOr at e
  split at e
  · rename_i ρ1 ex
    cases e
    exact ⟨ρ, ts, true, _, a, ex, fun H1 a1 => iteT (k H1 a1)⟩
  · rename_i ρ1 ex
    exact ⟨ρ, ts, false, ρ1, a, ex, fun H1 a1 => iteF ⟨ρ1, ts, b, ρ', a1, e, k⟩⟩
  · cases e
theorem imp_bNot : ∀ σ H Q, tT F (bNot b1) σ H Q → tNot (tT F b1) σ H Q := fun σ H Q ⟨ρ, ts, b, ρ', a, e, k⟩ => by
  unfold bNot at e
  split at e
  · rename_i b0 ρ1 ex
    cases e
    exact ⟨ρ, ts, b0, _, a, ex, fun H1 a1 => k H1 a1⟩
  · cases e
theorem b_and {a b : Expr} {rest : List Expr} (ha : PT X a (tT (fm X vs0) b1)) (hb : PW X (.BoolOp .And (b :: rest) pos) (tT (fm X vs0) b2)) : PW X (.BoolOp .And (a :: b :: rest) pos) (tT (fm X vs0) (bAnd b1 b2)) := (pw_and ha hb).imp imp_bAnd
theorem b_or {a b : Expr} {rest : List Expr} (ha : PT X a (tT (fm X vs0) b1)) (hb : PW X (.BoolOp .Or (b :: rest) pos) (tT (fm X vs0) b2)) : PW X (.BoolOp .Or (a :: b :: rest) pos) (tT (fm X vs0) (bOr b1 b2)) := (pw_or ha hb).imp imp_bOr
theorem b_not {a : Expr} (ha : PT X a (tT (fm X vs0) b1)) : PT X (.UnaryOp .Not a pos) (tT (fm X vs0) (bNot b1)) := (pt_not ha).imp imp_bNot
theorem b_val {e : Expr} (h : PE X e (tD (fm X vs0) ea)) (he : ∀ whole, isTrue e X.env whole = (do let v ← whole; standAt e.pos; holding [v] (truthy v)) := by intro _; rfl) : PT X e (tT (fm X vs0) (bV ea)) := (pt_val h he).imp imp_bV
theorem b_valP {e : Expr} (h : PE X e (tP (fm X vs0) fa)) (he : ∀ whole, isTrue e X.env whole = (do let v ← whole; standAt e.pos; holding [v] (truthy v)) := by intro _; rfl) : PT X e (tT (fm X vs0) (bP fa)) := (pt_val h he).imp imp_bP
end

/-! ### statements -/
def sNil : SM := fun ρ => some (.nx, ρ)
def sSeq (f g : SM) : SM := fun ρ => match f ρ with
  | some (.nx, ρ1) => g ρ1
  | r => r
def sAsg (e : EM) (g : GM) : SM := fun ρ => match e ρ with
  | some (d, ρ1) => match g d ρ1 with
    | some ρ2 => some (.nx, ρ2)
    | none => none
  | none => none
def sExp (e : EM) : SM := fun ρ => match e ρ with
  | some (_, ρ1) => some (.nx, ρ1)
  | none => none
def sRet (e : EM) : SM := fun ρ => match e ρ with
  | some (d, ρ1) => some (.rt d, ρ1)
  | none => none
def sRetN : SM := fun ρ => some (.rt .non, ρ)
def sIf (c : BM) (f g : SM) : SM := fun ρ => match c ρ with
  | some (true, ρ1) => f ρ1
  | some (false, ρ1) => g ρ1
  | none => none
/-- what the proof never comes to -/
def sNo : SM := fun _ => none
def gN (i : Nat) : GM := fun d ρ => some (ρ.set i (some d))
def gT : List Nat → List D → DEnv → Option DEnv
  | [], [], ρ => some ρ
  | i :: is, d :: ds, ρ => gT is ds (ρ.set i (some d))
  | _, _, _ => none
/-- several names of a tuple -/
def gTu (is : List Nat) : GM := fun d ρ => match d with
  | .tup ds => gT is ds ρ
  | _ => none
section
variable {X : Cx} {vs0 : List V} {W : WX} {pos : Pos} {F : Fm} {f g : SM} {e : EM} {gm : GM} {c : BM}
theorem s_nil : PSs X [] (tS (fmW X vs0 W) sNil) := pss_nil.imp fun D' σ H ⟨ρ, ts, fl, ρ', a, q, k⟩ => by
  cases q
  exact k σ H a
theorem imp_seq : ∀ D' σ H, tS F (sSeq f g) D' σ H → tSeq (tS F f) (tS F g) D' σ H := fun D' σ H ⟨ρ, ts, fl, ρ', a, q, k⟩ => by
  unfold sSeq at q
  cases h : f ρ with
  | none => rw [h] at q; cases q
  | some p =>
    obtain ⟨fl1, ρ1⟩ := p
    rw [h] at q
    cases fl1 with
    | nx => exact ⟨ρ, ts, .nx, ρ1, a, h, fun σ1 H1 a1 => ⟨ρ1, ts, fl, ρ', a1, q, k⟩⟩
    | bk => cases q; exact ⟨ρ, ts, .bk, _, a, h, k⟩
    | ct => cases q; exact ⟨ρ, ts, .ct, _, a, h, k⟩
    | rt d => cases q; exact ⟨ρ, ts, .rt d, _, a, h, k⟩
    | xc x => cases q; exact ⟨ρ, ts, .xc x, _, a, h, k⟩
theorem s_cons {st : Stmt} {rest : List Stmt} (h1 : PS X st (tS (fmW X vs0 W) f)) (h2 : PSs X rest (tS (fmW X vs0 W) g)) : PSs X (st :: rest) (tS (fmW X vs0 W) (sSeq f g)) := (pss_cons h1 h2).imp imp_seq
theorem s_one {st : Stmt} (h1 : PS X st (tS (fmW X vs0 W) f)) : PSs X [st] (tS (fmW X vs0 W) f) := pss_one h1
theorem imp_asg : ∀ D' σ H, tS F (sAsg e gm) D' σ H → tAsg (tD F e) (tG F gm) D' σ H := fun D' σ H ⟨ρ, ts, fl, ρ', a, q, k⟩ => by
  unfold sAsg at q
  split at q
  · rename_i d ρ1 he
    split at q
    · rename_i ρ2 hg
      cases q
      exact ⟨ρ, ts, d, ρ1, a, he, fun v H1 a1 => ⟨ρ1, ts, d, _, a1, hg, k⟩⟩
    · cases q
  · cases q
theorem imp_gN {i : Nat} (hp : F.vs0.length ≤ i) (hi : i < F.n) : ∀ v σ H Q, tG F (gN i) v σ H Q → gName i v σ H Q := fun v σ H Q ⟨ρ, ts, d, ρ', a, q, k⟩ => by
  cases q
  exact k _ H (a.store hp hi)
theorem g_name {x : Str} (i : Nat) (hp : vs0.length ≤ i) (hN : X.N.Nodup) (hi : X.N[i]? = some x := by rfl) (hx : Loc X.env.scope x := by first | exact Or.inl rfl | exact Or.inr rfl) (hf : X.fn x = true ∨ X.env.scope.names.lookup x = some .local := by first | exact .inl rfl | exact .inr rfl | assumption) :
    PG X (.Name x pos) (tG (fm X vs0) (gN i)) := (pg_name hN hi hx hf).imp (imp_gN hp (List.getElem?_eq_some_iff.mp hi).1)
/-- name = e -/
theorem s_set {x : Str} {ex : Expr} {pos' : Pos} (i : Nat) (hp : vs0.length ≤ i) (hN : X.N.Nodup) (he : PE X ex (tD (fm X vs0) e)) (hi : X.N[i]? = some x := by rfl) (hx : Loc X.env.scope x := by first | exact Or.inl rfl | exact Or.inr rfl) (hs : swapsWith ex (some (.Name x pos')) pos.line X.env = pure false := by rfl)
    (hf : X.fn x = true ∨ X.env.scope.names.lookup x = some .local := by first | exact .inl rfl | exact .inr rfl | assumption) : PS X (.Assign [.Name x pos'] ex pos) (tS (fmW X vs0 W) (sAsg e (gN i))) :=
  (ps_set hN hi hx he hs hf).imp fun D' σ H h => by
    obtain ⟨ρ, ts, d, ρ', a, q, k⟩ := imp_asg (F := fmW X vs0 W) D' σ H h
    exact ⟨ρ, ts, d, ρ', a, q, fun v H' a' => imp_gN (F := fm X vs0) hp (List.getElem?_eq_some_iff.mp hi).1 v σ H' D'.nx (k v H' a')⟩
theorem imp_exp : ∀ D' σ H, tS F (sExp e) D' σ H → tDrop (tD F e) D' σ H := fun D' σ H ⟨ρ, ts, fl, ρ', a, q, k⟩ => by
  unfold sExp at q
  split at q
  · rename_i d ρ1 he
    cases q
    exact ⟨ρ, ts, d, _, a, he, fun v H1 a1 => k σ H1 a1.tail⟩
  · cases q
theorem s_exp {ex : Expr} (he : PE X ex (tD (fm X vs0) e)) (hs : swapsWith ex none pos.line X.env = pure false := by rfl) : PS X (.Expr ex pos) (tS (fmW X vs0 W) (sExp e)) := (ps_expr he hs).imp imp_exp
theorem imp_ret : ∀ D' σ H, tS F (sRet e) D' σ H → tRet (tD F e) D' σ H := fun D' σ H ⟨ρ, ts, fl, ρ', a, q, k⟩ => by
  unfold sRet at q
  split at q
  · rename_i d ρ1 he
    cases q
    exact ⟨ρ, ts, d, _, a, he, fun v H1 a1 => k v σ H1 a1⟩
  · cases q
theorem s_ret {ex : Expr} (he : PE X ex (tD (fm X vs0) e)) : PS X (.Return (some ex) pos) (tS (fmW X vs0 W) (sRet e)) := (ps_ret he).imp imp_ret
theorem imp_if : ∀ D' σ H, tS F (sIf c f g) D' σ H → tIfS (tT F c) (tS F f) (tS F g) D' σ H := fun D' σ H ⟨ρ, ts, fl, ρ', a, q, k⟩ => by
  unfold sIf at q
  split at q
  · rename_i ρ1 he
    exact ⟨ρ, ts, true, ρ1, a, he, fun H1 a1 => iteT ⟨ρ1, ts, fl, ρ', a1, q, k⟩⟩
  · rename_i ρ1 he
    exact ⟨ρ, ts, false, ρ1, a, he, fun H1 a1 => iteF ⟨ρ1, ts, fl, ρ', a1, q, k⟩⟩
  · cases q
theorem s_if {ce : Expr} {as bs : List Stmt} (hc : PT X ce (tT (fm X vs0) c)) (ha : PSs X as (tS (fmW X vs0 W) f)) (hb : PSs X bs (tS (fmW X vs0 W) g)) : PS X (.If ce as bs pos) (tS (fmW X vs0 W) (sIf c f g)) := (ps_if hc ha hb).imp imp_if
end

/-! ### argument lists, calls of defs -/
inductive Arg where
  | e (d : D)
  | s (i : Nat)
  | t (i k : Nat) (ds : List D)
abbrev AM := DEnv → Option (List Arg × DEnv)
def aNil : AM := fun ρ => some ([], ρ)
def aE (f : EM) (r : AM) : AM := fun ρ => match f ρ with
  | some (d, ρ1) => match r ρ1 with
    | some (as, ρ2) => some (.e d :: as, ρ2)
    | none => none
  | none => none
/-- a name handed over: its value is lent -/
def aS (i : Nat) (r : AM) : AM := fun ρ => match ρ.getD i none with
  | some _ => match r ρ with
    | some (as, ρ2) => some (.s i :: as, ρ2)
    | none => none
  | none => none
inductive ArgsR (σ : L2.St) : List V → List Arg → List Rt → Prop
  | nil : ArgsR σ [] [] []
  | e {v : V} {d : D} {vs : List V} {as : List Arg} {tm : List Rt} : ArgsR σ vs as tm → ArgsR σ (v :: vs) (.e d :: as) (.v v d :: tm)
  | s {v : V} {i : Nat} {vs : List V} {as : List Arg} {tm : List Rt} : σ[i]? = some (some v) → ArgsR σ vs as tm → ArgsR σ (v :: vs) (.s i :: as) tm
  | t {v : V} {i k : Nat} {a : Addr} {xs : List V} {ds : List D} {vs : List V} {as : List Arg} {tm : List Rt} : σ[i]? = some (some (.ref a)) → xs[k]? = some v → ArgsR σ vs as tm → ArgsR σ (v :: vs) (.t i k ds :: as) (.t a xs :: tm)
def tA (F : Fm) (f : AM) : TA := fun σ H Q => ∃ ρ ts as ρ', At F σ H ρ ts ∧ f ρ = some (as, ρ') ∧ ∀ vs H' tm, ArgsR σ vs as tm → At F σ H' ρ' (tm ++ ts) → Q vs H'
section
variable {X : Cx} {vs0 : List V} {pos : Pos} {F : Fm} {f : EM} {r : AM}
theorem a_nil : PA X [] (tA (fm X vs0) aNil) := pa_nil.imp fun σ H Q ⟨ρ, ts, as, ρ', a, q, k⟩ => by
  cases q
  exact k [] H [] .nil a
theorem imp_aE : ∀ σ H Q, tA F (aE f r) σ H Q → tCons (tD F f) (tA F r) σ H Q := fun σ H Q ⟨ρ, ts, as, ρ', a, q, k⟩ => by
  unfold aE at q
  split at q
  · rename_i d ρ1 he
    split at q
    · rename_i as' ρ2 hr
      cases q
      refine ⟨ρ, ts, d, ρ1, a, he, fun v H1 a1 => ⟨ρ1, _, as', _, a1, hr, fun vs H2 tm ar a2 => k _ H2 _ (.e ar) (a2.perm ?_)⟩⟩
      exact List.perm_middle
    · cases q
  · cases q
theorem a_e {ex : Expr} {es : List Expr} (ha : PE X ex (tD (fm X vs0) f)) (hr : PA X es (tA (fm X vs0) r)) (hs : starEach (ex :: es) X.env = (false, eval ex X.env) :: starEach es X.env := by rfl) : PA X (ex :: es) (tA (fm X vs0) (aE f r)) := (pa_cons ha hr hs).imp imp_aE
theorem imp_aS {i : Nat} : ∀ σ H Q, tA F (aS i r) σ H Q → tCons (tVar i) (tA F r) σ H Q := fun σ H Q ⟨ρ, ts, as, ρ', a, q, k⟩ => by
  unfold aS at q
  split at q
  · rename_i d0 h0
    split at q
    · rename_i as' ρ2 hr
      cases q
      obtain ⟨v, e⟩ := a.fit i d0 (getD_some h0)
      exact ⟨v, e, ρ, ts, as', _, a, hr, fun vs H2 tm ar a2 => k _ H2 _ (.s e ar) a2⟩
    · cases q
  · cases q
theorem a_s {x : Str} {es : List Expr} (i : Nat) (hr : PA X es (tA (fm X vs0) r)) (hN : X.N[i]? = some x := by rfl) (hv : Vis X.env.scope x := by first | exact Or.inl rfl | exact Or.inr (Or.inl rfl) | exact Or.inr (Or.inr rfl)) (hd : (x == ("__debug__" : Str)) = false := by decide)
    (hcd : (x == ("__classdict__" : Str)) = false := by decide) (hs : starEach (.Name x pos :: es) X.env = (false, eval (.Name x pos) X.env) :: starEach es X.env := by rfl) : PA X (.Name x pos :: es) (tA (fm X vs0) (aS i r)) := (pa_cons (pv i hN hv hd hcd) hr hs).imp imp_aS
end
instance : DecidableEq Kd := fun a b => by cases a <;> cases b <;> first | exact isTrue rfl | exact isFalse (fun h => nomatch h)
mutual
def D.beq : D → D → Bool
  | .non, .non => true
  | .bl a, .bl b => a == b
  | .int a, .int b => a == b
  | .str a, .str b => decide (a = b)
  | .tup xs, .tup ys => beqL xs ys
  | .lst o xs, .lst p ys => o == p && beqL xs ys
  | .dic o k a b, .dic o' k' a' b' => o == o' && decide (k = k') && beqL a a' && beqL b b'
  | .obj o c f a, .obj o' c' f' a' => o == o' && decide (c = c') && decide (f = f') && beqL a a'
  | .scr a, .scr b => decide (a = b)
  | .exn c f a, .exn c' f' a' => decide (c = c') && decide (f = f') && beqL a a'
  | .ptr a, .ptr b => decide (a = b)
  | .lat a xs, .lat b ys => decide (a = b) && beqL xs ys
  | .dlk a x y, .dlk b x' y' => decide (a = b) && (beqL x x' && beqL y y')
  | _, _ => false
def beqL : List D → List D → Bool
  | [], [] => true
  | x :: xs, y :: ys => x.beq y && beqL xs ys
  | _, _ => false
end
mutual
theorem beq_iff : ∀ a b : D, D.beq a b = true ↔ a = b
  | .non, b => by cases b <;> simp [D.beq]
  | .bl _, b => by cases b <;> simp [D.beq]
  | .int _, b => by cases b <;> simp [D.beq]
  | .str _, b => by cases b <;> simp [D.beq]
  | .tup xs, b => by
    cases b with
    | tup ys => simp [D.beq, beqL_iff xs ys]
    | _ => simp [D.beq]
  | .lst o xs, b => by
    cases b with
    | lst p ys => simp [D.beq, beqL_iff xs ys]
    | _ => simp [D.beq]
  | .dic o k x y, b => by
    cases b with
    | dic o' k' x' y' => simp [D.beq, beqL_iff x x', beqL_iff y y', and_assoc]
    | _ => simp [D.beq]
  | .obj o c f x, b => by
    cases b with
    | obj o' c' f' x' => simp [D.beq, beqL_iff x x', and_assoc]
    | _ => simp [D.beq]
  | .scr _, b => by cases b <;> simp [D.beq]
  | .exn c f x, b => by
    cases b with
    | exn c' f' x' => simp [D.beq, beqL_iff x x', and_assoc]
    | _ => simp [D.beq]
  | .ptr _, b => by cases b <;> simp [D.beq]
  | .lat a xs, b => by
    cases b with
    | lat b ys => simp [D.beq, beqL_iff xs ys]
    | _ => simp [D.beq]
  | .dlk a x y, b => by
    cases b with
    | dlk b x' y' => simp [D.beq, beqL_iff x x', beqL_iff y y']
    | _ => simp [D.beq]
theorem beqL_iff : ∀ a b : List D, beqL a b = true ↔ a = b
  | [], b => by cases b <;> simp [beqL]
  | x :: xs, b => by
    cases b with
    | nil => simp [beqL]
    | cons y ys => simp [beqL, beq_iff x y, beqL_iff xs ys]
end
instance : DecidableEq D := fun a b => decidable_of_iff _ (beq_iff a b)
/-- the lent values taken out of their slots -/
def takeA : List Arg → DEnv → Option (List D × DEnv)
  | [], ρ => some ([], ρ)
  | .e d :: as, ρ => match takeA as ρ with
    | some (ds, ρ') => some (d :: ds, ρ')
    | none => none
  | .s i :: as, ρ => match ρ.getD i none with
    | some d => match takeA as (ρ.set i none) with
      | some (ds, ρ') => some (d :: ds, ρ')
      | none => none
    | none => none
  | .t i k es :: as, ρ => match ρ.getD i none with
    | some d => if d = .tup es then (match es[k]? with
      | some e => match takeA as (ρ.set i none) with
        | some (ds, ρ') => some (e :: ds, ρ')
        | none => none
      | none => none) else none
    | none => none
/-- .. given back -/
def putA : List Arg → List D → DEnv → Option DEnv
  | [], [], ρ => some ρ
  | .e _ :: as, _ :: ds, ρ => putA as ds ρ
  | .s i :: as, d :: ds, ρ => putA as ds (ρ.set i (some d))
  | .t i k es :: as, d :: ds, ρ => putA as ds (ρ.set i (some (.tup (es.set k d))))
  | _, _, _ => none
def callA (m : FnM) (as : List Arg) (ρ : DEnv) : Option (D × DEnv) := match takeA as ρ with
  | some (ds, ρ2) => match m ds with
    | some (d, ds') => match putA as ds' ρ2 with
      | some ρ3 => some (d, ρ3)
      | none => none
    | none => none
  | none => none
def eCall (m : FnM) (a : AM) : EM := fun ρ => match a ρ with
  | some (as, ρ1) => callA m as ρ1
  | none => none
def spD (K : PySem.W.Frag) (mg : MG) (m : FnM) : Sp := fun vs H Q _ => ∃ ds ts d ds', vs.length = ds.length ∧ Sim K mg H (vals vs ds ++ ts) ∧ m ds = some (d, ds') ∧
  ∀ v H', Sim K mg H' (.v v d :: (vals vs ds' ++ ts)) → Q v H'
section
variable {F : Fm} {σ : L2.St} {H H' : Hp} {m : FnM}
/-- what stays behind of rows whose parts are lent -/
inductive LoR (σ : L2.St) : List V → List Arg → List Rt → Prop
  | nil : LoR σ [] [] []
  | e {v : V} {d : D} {vs : List V} {as : List Arg} {lo : List Rt} : LoR σ vs as lo → LoR σ (v :: vs) (.e d :: as) lo
  | s {v : V} {i : Nat} {vs : List V} {as : List Arg} {lo : List Rt} : σ[i]? = some (some v) → LoR σ vs as lo → LoR σ (v :: vs) (.s i :: as) lo
  | t {v : V} {i k : Nat} {a : Addr} {xs : List V} {ds : List D} {vs : List V} {as : List Arg} {lo : List Rt} : σ[i]? = some (some (.ref a)) → xs[k]? = some v → xs.length = ds.length → LoR σ vs as lo → LoR σ (v :: vs) (.t i k ds :: as) (.t a xs :: (vals (xs.eraseIdx k) (ds.eraseIdx k) ++ lo))
theorem vals_pick : ∀ {xs : List V} {ds : List D} {k : Nat} {v : V} {d : D}, xs[k]? = some v → ds[k]? = some d → xs.length = ds.length → (vals xs ds).Perm (.v v d :: vals (xs.eraseIdx k) (ds.eraseIdx k))
  | [], _, _, _, _, h, _, _ => by simp at h
  | _ :: _, [], _, _, _, _, h, _ => by simp at h
  | x :: xs, y :: ds, 0, v, d, h, h', _ => by
    simp at h h'; subst h h'
    exact List.Perm.refl _
  | x :: xs, y :: ds, k + 1, v, d, h, h', hl => by
    have ih := vals_pick (xs := xs) (ds := ds) (k := k) (by simpa using h) (by simpa using h') (by simpa using hl)
    exact (List.Perm.cons _ ih).trans (.swap _ _ _)
theorem perm_swap3 {α : Type} (A B C : List α) : (A ++ (B ++ C)).Perm (B ++ (A ++ C)) := by
  rw [← List.append_assoc, ← List.append_assoc]
  exact List.Perm.append_right _ List.perm_append_comm
theorem perm_lend {α : Type} (x y : α) (A B C D E : List α) : (A ++ (B ++ (C ++ (x :: (y :: (D ++ E)))))).Perm (x :: (A ++ (B ++ ((y :: (D ++ C)) ++ E)))) := by
  have h1 : (C ++ (x :: (y :: (D ++ E)))).Perm (x :: ((y :: (D ++ C)) ++ E)) := by
    refine List.perm_middle.trans (List.Perm.cons _ ?_)
    refine List.perm_middle.trans (List.Perm.cons _ ?_)
    show (C ++ (D ++ E)).Perm ((D ++ C) ++ E)
    rw [← List.append_assoc]
    exact List.Perm.append_right _ List.perm_append_comm
  refine (List.Perm.append_left _ (List.Perm.append_left _ h1)).trans ?_
  refine (List.Perm.append_left _ List.perm_middle).trans ?_
  exact List.perm_middle
theorem take_sim : ∀ {as : List Arg} {ρ ρ2 : DEnv} {ds : List D} {vs : List V} {tm ts : List Rt}, ArgsR σ vs as tm → takeA as ρ = some (ds, ρ2) → Sim F.K F.mg H (tm ++ (slotR σ ρ ++ ts)) →
    ∃ lo, LoR σ vs as lo ∧ vs.length = ds.length ∧ ρ2.length = ρ.length ∧ (∀ (i : Nat) d, ρ2[i]? = some (some d) → ρ[i]? = some (some d)) ∧ Sim F.K F.mg H (vals vs ds ++ (slotR σ ρ2 ++ (lo ++ ts)))
  | [], ρ, ρ2, ds, _, _, ts, .nil, h, s => by
    cases h
    exact ⟨[], .nil, rfl, rfl, fun _ _ h => h, s⟩
  | .e d :: as, ρ, ρ2, ds, _, _, ts, .e (v := v) ar, h, s => by
    simp only [takeA] at h
    split at h
    · rename_i ds' ρ' h'
      cases h
      have s1 := s.perm (rs' := _ ++ (slotR σ ρ ++ (.v v d :: ts))) (by
        refine List.Perm.trans (List.Perm.symm (List.perm_middle)) ?_
        exact List.Perm.append_left _ (List.perm_middle).symm)
      obtain ⟨lo, lr, e1, e2, e3, e4⟩ := take_sim ar h' s1
      refine ⟨lo, .e lr, by rw [List.length_cons, List.length_cons, e1], e2, e3, e4.perm ?_⟩
      show (vals _ _ ++ (slotR σ _ ++ (lo ++ (.v v d :: ts)))).Perm (.v v d :: (vals _ _ ++ (slotR σ _ ++ (lo ++ ts))))
      refine List.Perm.trans (List.Perm.append_left _ (List.Perm.append_left _ List.perm_middle)) ?_
      refine List.Perm.trans (List.Perm.append_left _ List.perm_middle) ?_
      exact List.perm_middle
    · cases h
  | .s i :: as, ρ, ρ2, ds, _, tm, ts, .s (v := v) hv ar, h, s => by
    simp only [takeA] at h
    split at h
    · rename_i d hd
      split at h
      · rename_i ds' ρ' h'
        cases h
        have s1 := s.perm (rs' := tm ++ (slotR σ (ρ.set i none) ++ (.v v d :: ts))) (List.Perm.append_left _ ((List.Perm.append_right _ (slotR_out hv (getD_some hd))).trans (List.perm_middle).symm))
        obtain ⟨lo, lr, e1, e2, e3, e4⟩ := take_sim ar h' s1
        refine ⟨lo, .s hv lr, by rw [List.length_cons, List.length_cons, e1], by rw [e2, List.length_set], fun j d' q => ?_, e4.perm ?_⟩
        · have q1 := e3 j d' q
          by_cases hj : i = j
          · subst hj
            by_cases hl : i < ρ.length
            · rw [List.getElem?_set_self hl] at q1; cases q1
            · rw [List.getElem?_eq_none (by simpa using hl)] at q1; cases q1
          · rwa [List.getElem?_set_ne hj] at q1
        · show (vals _ _ ++ (slotR σ _ ++ (lo ++ (.v v d :: ts)))).Perm (.v v d :: (vals _ _ ++ (slotR σ _ ++ (lo ++ ts))))
          refine List.Perm.trans (List.Perm.append_left _ (List.Perm.append_left _ List.perm_middle)) ?_
          refine List.Perm.trans (List.Perm.append_left _ List.perm_middle) ?_
          exact List.perm_middle
      · cases h
    · cases h
  | .t i k es :: as, ρ, ρ2, ds, _, _, ts, .t (v := v) (a := a) (xs := xs) (tm := tm) hv hk ar, h, s => by
    simp only [takeA] at h
    split at h
    · rename_i d hd
      split at h
      · rename_i he
        subst he
        split at h
        · rename_i e hek
          split at h
          · rename_i ds' ρ' h'
            cases h
            have s1 : Sim F.K F.mg H (.v (.ref a) (.tup es) :: (.t a xs :: (tm ++ (slotR σ (ρ.set i none) ++ ts)))) := s.perm (by
              show (Rt.t a xs :: (tm ++ (slotR σ ρ ++ ts))).Perm _
              refine List.Perm.trans (List.Perm.cons _ (List.Perm.append_left _ (List.Perm.append_right _ (slotR_out hv (getD_some hd))))) ?_
              refine List.Perm.trans (List.Perm.cons _ List.perm_middle) (.swap _ _ _))
            obtain ⟨a', xs', e0, hl, hc, s2⟩ := s1.unT'
            cases e0
            have hc2 : H a = some (.tup xs) := by
              obtain ⟨Hs, fp, sb, o, _⟩ := s1.tail
              cases o with
              | t z _ => exact sb.tup z
            have ex : xs' = xs := by rw [hc] at hc2; cases hc2; rfl
            subst ex
            have s3 : Sim F.K F.mg H (tm ++ (slotR σ (ρ.set i none) ++ (.v v e :: (.t a xs' :: (vals (xs'.eraseIdx k) (es.eraseIdx k) ++ ts))))) := (s2.perm (rs' := .t a xs' :: (tm ++ (slotR σ (ρ.set i none) ++ (.v v e :: (.t a xs' :: (vals (xs'.eraseIdx k) (es.eraseIdx k) ++ ts)))))) (by
              refine List.Perm.cons _ ?_
              refine List.Perm.trans (List.Perm.append_right _ (vals_pick hk hek hl)) ?_
              show (Rt.v v e :: (vals (xs'.eraseIdx k) (es.eraseIdx k) ++ (.t a xs' :: (tm ++ (slotR σ (ρ.set i none) ++ ts))))).Perm _
              have p1 : (tm ++ (slotR σ (ρ.set i none) ++ (Rt.v v e :: (.t a xs' :: (vals (xs'.eraseIdx k) (es.eraseIdx k) ++ ts))))).Perm (.v v e :: (tm ++ (slotR σ (ρ.set i none) ++ (.t a xs' :: (vals (xs'.eraseIdx k) (es.eraseIdx k) ++ ts))))) := (List.Perm.append_left _ List.perm_middle).trans List.perm_middle
              refine List.Perm.trans (List.Perm.cons _ ?_) p1.symm
              have p2 : (tm ++ (slotR σ (ρ.set i none) ++ (Rt.t a xs' :: (vals (xs'.eraseIdx k) (es.eraseIdx k) ++ ts)))).Perm (.t a xs' :: (tm ++ (slotR σ (ρ.set i none) ++ (vals (xs'.eraseIdx k) (es.eraseIdx k) ++ ts)))) := (List.Perm.append_left _ List.perm_middle).trans List.perm_middle
              refine List.Perm.trans (List.perm_middle.trans (List.Perm.cons _ ?_)) p2.symm
              have p3 : (slotR σ (ρ.set i none) ++ (vals (xs'.eraseIdx k) (es.eraseIdx k) ++ ts)).Perm (vals (xs'.eraseIdx k) (es.eraseIdx k) ++ (slotR σ (ρ.set i none) ++ ts)) := by
                rw [← List.append_assoc, ← List.append_assoc]
                exact List.Perm.append_right _ List.perm_append_comm
              refine List.Perm.trans ?_ (List.Perm.append_left _ p3.symm)
              exact perm_swap3 _ _ _)).tail
            obtain ⟨lo, lr, e1, e2, e3, e4⟩ := take_sim ar h' s3
            refine ⟨.t a xs' :: (vals (xs'.eraseIdx k) (es.eraseIdx k) ++ lo), .t hv hk hl lr, by rw [List.length_cons, List.length_cons, e1], by rw [e2, List.length_set], fun j d' q => ?_, e4.perm (perm_lend _ _ _ _ _ _ _)⟩
            have q1 := e3 j d' q
            by_cases hj : i = j
            · subst hj
              by_cases hl : i < ρ.length
              · rw [List.getElem?_set_self hl] at q1; cases q1
              · rw [List.getElem?_eq_none (by simpa using hl)] at q1; cases q1
            · rwa [List.getElem?_set_ne hj] at q1
          · cases h
        · cases h
      · cases h
    · cases h
theorem put_slot {i : Nat} {v : V} {d' : D} {ρ : DEnv} {A ts : List Rt} (hv : σ[i]? = some (some v)) (hi : i < ρ.length) (s0 : Sim F.K F.mg H (.v v d' :: (A ++ (slotR σ ρ ++ ts)))) : Sim F.K F.mg H (A ++ (slotR σ (ρ.set i (some d')) ++ ts)) := by
  obtain ⟨xs, p⟩ := slotR_forget σ ρ i
  have s1 : Sim F.K F.mg H (xs ++ (A ++ ((.v v d' :: slotR σ (ρ.set i none)) ++ ts))) := s0.perm (by
    refine List.Perm.trans (List.Perm.cons _ (List.Perm.append_left _ (List.Perm.append_right _ p))) ?_
    rw [List.append_assoc]
    refine List.Perm.trans (List.Perm.symm (List.perm_middle)) ?_
    refine List.Perm.trans (List.Perm.append_left _ (List.perm_middle).symm) ?_
    rw [← List.append_assoc, ← List.append_assoc]
    refine List.Perm.trans (List.Perm.append_right _ List.perm_append_comm) ?_
    simp [List.append_assoc])
  exact s1.drop.perm (List.Perm.append_left _ (List.Perm.append_right _ (slotR_same hv hi).symm))
theorem eraseIdx_set {α : Type} : ∀ (l : List α) (k : Nat) (x : α), (l.set k x).eraseIdx k = l.eraseIdx k
  | [], _, _ => rfl
  | _ :: _, 0, _ => rfl
  | a :: l, k + 1, x => by simp [eraseIdx_set l k x]
theorem put_sim : ∀ {as : List Arg} {ρ ρ3 : DEnv} {ds : List D} {vs : List V} {lo ts : List Rt}, LoR σ vs as lo → putA as ds ρ = some ρ3 → σ.length = ρ.length → (∀ (i : Nat) d, ρ[i]? = some (some d) → ∃ v, σ[i]? = some (some v)) → Sim F.K F.mg H (vals vs ds ++ (slotR σ ρ ++ (lo ++ ts))) →
    ρ3.length = ρ.length ∧ (∀ (i : Nat) d, ρ3[i]? = some (some d) → ∃ v, σ[i]? = some (some v)) ∧ Sim F.K F.mg H (slotR σ ρ3 ++ ts)
  | [], ρ, ρ3, ds, _, _, ts, .nil, h, hl, hf, s => by
    cases ds with
    | nil => simp only [putA] at h; cases h; exact ⟨rfl, hf, s⟩
    | cons => simp [putA] at h
  | .e d :: as, ρ, ρ3, ds, _, _, ts, .e (v := v) ar, h, hl, hf, s => by
    cases ds with
    | nil => simp [putA] at h
    | cons d' ds =>
      simp only [putA] at h
      exact put_sim ar h hl hf s.tail
  | .s i :: as, ρ, ρ3, ds, _, lo, ts, .s (v := v) (vs := vs) hv ar, h, hl, hf, s => by
    cases ds with
    | nil => simp [putA] at h
    | cons d' ds =>
      simp only [putA] at h
      have hi : i < ρ.length := by rw [← hl]; exact (List.getElem?_eq_some_iff.mp hv).1
      have s2 := put_slot (A := vals vs ds) (ts := lo ++ ts) hv hi s
      obtain ⟨e1, e2, e3⟩ := put_sim ar h (by rw [List.length_set]; exact hl) (fun j d q => by
        by_cases hj : i = j
        · subst hj; exact ⟨v, hv⟩
        · rw [List.getElem?_set_ne hj] at q; exact hf j d q) s2
      exact ⟨by rw [e1, List.length_set], e2, e3⟩
  | .t i k es :: as, ρ, ρ3, ds, _, _, ts, .t (v := v) (a := a) (xs := xs) (vs := vs) (lo := lo) hv hk hx ar, h, hl, hf, s => by
    cases ds with
    | nil => simp [putA] at h
    | cons d' ds =>
      simp only [putA] at h
      have hi : i < ρ.length := by rw [← hl]; exact (List.getElem?_eq_some_iff.mp hv).1
      have hke : k < es.length := by rw [← hx]; exact (List.getElem?_eq_some_iff.mp hk).1
      have s1 : Sim F.K F.mg H (.t a xs :: (vals xs (es.set k d') ++ (vals vs ds ++ (slotR σ ρ ++ (lo ++ ts))))) := s.perm (by
        have p1 := vals_pick (xs := xs) (ds := es.set k d') (k := k) (v := v) (d := d') hk (List.getElem?_set_self hke) (by rw [List.length_set]; exact hx)
        rw [eraseIdx_set] at p1
        refine List.Perm.trans ?_ (List.Perm.cons _ (List.Perm.append_right _ p1.symm))
        show (Rt.v v d' :: (vals vs ds ++ (slotR σ ρ ++ ((.t a xs :: (vals (xs.eraseIdx k) (es.eraseIdx k) ++ lo)) ++ ts)))).Perm (.t a xs :: (.v v d' :: (vals (xs.eraseIdx k) (es.eraseIdx k) ++ (vals vs ds ++ (slotR σ ρ ++ (lo ++ ts))))))
        refine List.Perm.trans (List.Perm.cons _ ?_) (.swap _ _ _)
        refine List.Perm.trans (List.Perm.append_left _ List.perm_middle) (List.perm_middle.trans (List.Perm.cons _ ?_))
        show (vals vs ds ++ (slotR σ ρ ++ ((vals (xs.eraseIdx k) (es.eraseIdx k) ++ lo) ++ ts))).Perm _
        rw [List.append_assoc (vals (xs.eraseIdx k) (es.eraseIdx k)) lo ts]
        have p2 : (slotR σ ρ ++ (vals (xs.eraseIdx k) (es.eraseIdx k) ++ (lo ++ ts))).Perm (vals (xs.eraseIdx k) (es.eraseIdx k) ++ (slotR σ ρ ++ (lo ++ ts))) := by
          exact perm_swap3 _ _ _
        refine List.Perm.trans (List.Perm.append_left _ p2) ?_
        exact perm_swap3 _ _ _)
      have s2 := put_slot (A := vals vs ds) (ts := lo ++ ts) hv hi (s1.foT (by rw [List.length_set]; exact hx))
      obtain ⟨e1, e2, e3⟩ := put_sim ar h (by rw [List.length_set]; exact hl) (fun j d q => by
        by_cases hj : i = j
        · subst hj; exact ⟨_, hv⟩
        · rw [List.getElem?_set_ne hj] at q; exact hf j d q) s2
      exact ⟨by rw [e1, List.length_set], e2, e3⟩
theorem callA_ok {as : List Arg} {ρ ρ3 : DEnv} {d : D} {vs : List V} {tm ts : List Rt} {Q : VK} {E : XK} (ar : ArgsR σ vs as tm) (h : callA m as ρ = some (d, ρ3)) (a : At F σ H ρ (tm ++ ts)) (k : ∀ v H', At F σ H' ρ3 (.v v d :: ts) → Q v H') :
    spD F.K F.mg m vs H Q E := by
  unfold callA at h
  split at h
  · rename_i ds ρ2 ht
    split at h
    · rename_i d' ds' hm
      split at h
      · rename_i ρ3' hp
        cases h
        have s0 := a.sim.perm (rs' := tm ++ (slotR σ ρ ++ ts)) (by
          rw [← List.append_assoc, ← List.append_assoc]
          exact List.Perm.append_right _ List.perm_append_comm)
        obtain ⟨lo, lr, e1, e2, e3, s1⟩ := take_sim ar ht s0
        refine ⟨ds, slotR σ ρ2 ++ (lo ++ ts), d, ds', e1, s1, hm, fun v H' s2 => k v H' ?_⟩
        have s3 := s2.perm (rs' := vals vs ds' ++ (slotR σ ρ2 ++ (lo ++ (.v v d :: ts)))) (by
          refine List.Perm.trans (List.perm_middle).symm ?_
          refine List.Perm.append_left _ (List.perm_middle.symm.trans ?_)
          exact List.Perm.append_left _ (List.perm_middle).symm)
        obtain ⟨f1, f2, f3⟩ := put_sim lr hp (by rw [e2, a.lenR]; exact a.lenS) (fun i d q => a.fit i d (e3 i d q)) s3
        exact ⟨a.lenS, by rw [f1, e2]; exact a.lenR, f2, a.par, f3⟩
      · cases h
    · cases h
  · cases h
end
section
variable {X : Cx} {vs0 : List V} {F : Fm} {CX : CXT} {k : Nat} {f : Addr} {fd : FuncData} {ps : List Str} {m : FnM} {E : XK} {x : Str} {p pos : Pos} {e : Expr} {es : List Expr} {am : AM}
theorem imp_call : ∀ σ H Q, tD F (eCall m am) σ H Q → tCall (spD F.K F.mg m) [] E (tA F am) σ H Q := fun σ H Q ⟨ρ, ts, d, ρ', a, q, k⟩ => by
  unfold eCall at q
  split at q
  · rename_i as ρ1 ha
    refine ⟨ρ, ts, as, ρ1, a, ha, fun vs H1 tm ar a1 => ?_⟩
    show spD F.K F.mg m (vs ++ []) H1 Q E
    rw [List.append_nil]
    exact callA_ok ar q a1 k
  · cases q
theorem e_call (G : FnOk X.prog X.w X.K X.mg X.base CX0 k f fd ps (spD X.K ⟨X.mg, X.w⟩ m)) (hr : Room k X.A) (hm : X.mg x = some (.ref f)) (hk : PySem.W.keepIn X.K (.ref f) = true) (hb : Binds X.K fd ps [])
    (ha : PA X (e :: es) (tA (fm X vs0) am)) (hg : Gl X x := by rfl) (hdb : (x == ("__debug__" : Str)) = false := by decide) (he : starEach (e :: es) X.env = (false, eval e X.env) :: starEach es X.env := by rfl) (hpl : (backTo pos (starEach es X.env)).any (·.1) = false := by rfl) :
    PE X (.Call (.Name x p) (e :: es) [] pos) (tD (fm X vs0) (eCall m am)) := (pe_call G hr hg hm hk hb .nil pass0 ha hdb he hpl).imp imp_call
end

/-! ### a def by its mirror -/
def outs : Nat → DEnv → Option (List D)
  | 0, _ => some []
  | n + 1, some d :: ρ => match outs n ρ with
    | some ds => some (d :: ds)
    | none => none
  | _ + 1, _ => none
/-- na parameters, the first np of them never stored to; n slots -/
def fnM (na np n : Nat) (body : SM) : FnM := fun ds => if ds.length = na ∧ (ds.drop np).all D.stable = true then
    match body (ds.map some ++ List.replicate (n - na) none) with
    | some (.rt d, ρ') => match outs np ρ' with
      | some os => some (d, os ++ ds.drop np)
      | none => none
    | some (.nx, ρ') => match outs np ρ' with
      | some os => some (.non, os ++ ds.drop np)
      | none => none
    | _ => none
  else none
theorem outs_ok : ∀ {n : Nat} {ρ : DEnv} {os : List D}, outs n ρ = some os → os.length = n ∧ ∀ (i : Nat) (d : D), os[i]? = some d → ρ[i]? = some (some d)
  | 0, ρ, os, h => by simp only [outs] at h; cases h; exact ⟨rfl, fun i d q => by simp at q⟩
  | n + 1, [], os, h => by simp [outs] at h
  | n + 1, none :: ρ, os, h => by simp [outs] at h
  | n + 1, some d :: ρ, os, h => by
    simp only [outs] at h
    split at h
    · rename_i ds hd
      cases h
      obtain ⟨h1, h2⟩ := outs_ok hd
      refine ⟨by rw [List.length_cons, h1], fun i d' q => ?_⟩
      cases i with
      | zero => simpa using q
      | succ i => simpa using h2 i d' (by simpa using q)
    · cases h
theorem slotR_start : ∀ (vs : List V) (ds : List D) (m : Nat), vs.length = ds.length → slotR (vs.map some ++ List.replicate m none) (ds.map some ++ List.replicate m none) = vals vs ds
  | [], [], m, _ => by
    induction m with
    | zero => rfl
    | succ m ih => simpa [List.replicate_succ, slotR, vals] using ih
  | v :: vs, d :: ds, m, h => by
    have ih := slotR_start vs ds m (by simpa using h)
    simp only [List.map_cons, List.cons_append, slotR, ih]
    rfl
  | [], _ :: _, _, h => by cases h
  | _ :: _, [], _, h => by cases h
theorem vals_append : ∀ {xs xs' : List V} {ds ds' : List D}, xs.length = ds.length → vals (xs ++ xs') (ds ++ ds') = vals xs ds ++ vals xs' ds'
  | [], _, [], _, _ => rfl
  | x :: xs, xs', d :: ds, ds', h => by
    have ih := vals_append (xs := xs) (xs' := xs') (ds := ds) (ds' := ds') (by simpa using h)
    show Rt.v x d :: vals (xs ++ xs') (ds ++ ds') = Rt.v x d :: (vals xs ds ++ vals xs' ds')
    rw [ih]
  | [], _, _ :: _, _, h => by cases h
  | _ :: _, _, [], _, h => by cases h
/-- stable roots twice -/
theorem Sim.dups {K : PySem.W.Frag} {mg : MG} {H : Hp} : ∀ {xs : List V} {ds : List D} {rs : List Rt}, xs.length = ds.length → ds.all D.stable = true → Sim K mg H (vals xs ds ++ rs) → Sim K mg H (vals xs ds ++ (vals xs ds ++ rs))
  | [], [], rs, _, _, h => h
  | x :: xs, d :: ds, rs, hl, hs, h => by
    rw [List.all_cons, Bool.and_eq_true] at hs
    have h1 : Sim K mg H (.v x d :: (vals xs ds ++ rs)) := h
    have h2 := (h1.dup hs.1).perm (rs' := vals xs ds ++ (.v x d :: .v x d :: rs)) (by
      refine List.Perm.trans (List.Perm.cons _ (List.perm_middle).symm) ?_
      exact (List.perm_middle).symm)
    have h3 := Sim.dups (by simpa using hl) hs.2 h2
    refine h3.perm ?_
    show (vals xs ds ++ (vals xs ds ++ (.v x d :: .v x d :: rs))).Perm (.v x d :: (vals xs ds ++ (.v x d :: (vals xs ds ++ rs))))
    refine List.Perm.trans (List.Perm.append_left _ (List.Perm.trans List.perm_middle (List.Perm.cons _ List.perm_middle))) ?_
    refine List.Perm.trans List.perm_middle (List.Perm.cons _ ?_)
    exact List.Perm.refl _
  | [], _ :: _, _, h, _, _ => by cases h
  | _ :: _, [], _, h, _, _ => by cases h
/-- the params' roots out of the slots -/
theorem outs_sim {K : PySem.W.Frag} {mg : MG} {H : Hp} : ∀ {n : Nat} {σ : L2.St} {ρ : DEnv} {os : List D} {vs : List V} {ts : List Rt}, outs n ρ = some os → vs.length = n → (∀ (i : Nat) (v : V), vs[i]? = some v → σ[i]? = some (some v)) → Sim K mg H (slotR σ ρ ++ ts) → Sim K mg H (vals vs os ++ ts)
  | 0, σ, ρ, os, vs, ts, h, hl, hp, s => by
    simp only [outs] at h
    cases h
    have e : vs = [] := List.length_eq_zero_iff.mp hl
    subst e
    exact s.drop
  | n + 1, σ, [], os, vs, ts, h, hl, hp, s => by simp [outs] at h
  | n + 1, σ, none :: ρ, os, vs, ts, h, hl, hp, s => by simp [outs] at h
  | n + 1, [], some d :: ρ, os, vs, ts, h, hl, hp, s => by
    cases vs with
    | nil => cases hl
    | cons v vs => have := hp 0 v (by simp); simp at this
  | n + 1, x :: σ, some d :: ρ, os, vs, ts, h, hl, hp, s => by
    cases vs with
    | nil => cases hl
    | cons v vs =>
      have e := hp 0 v (by simp)
      simp at e
      subst e
      simp only [outs] at h
      split at h
      · rename_i ds hd
        cases h
        have s1 : Sim K mg H (.v v d :: (slotR σ ρ ++ ts)) := s
        have s2 := s1.perm (rs' := slotR σ ρ ++ (.v v d :: ts)) (List.perm_middle).symm
        have s3 := outs_sim hd (by simpa using hl) (fun i v' q => by simpa using hp (i + 1) v' (by simpa using q)) s2
        exact s3.perm List.perm_middle
      · cases h
theorem fn_in {K : PySem.W.Frag} {mg : MG} {na np : Nat} {N : List Str} {body : SM} {vs : List V} {H : Hp} {Q : VK} {E : XK} (hn : na ≤ N.length) (hp : np ≤ na) (h : spD K mg (fnM na np N.length body) vs H Q E) :
    tS (fmk K mg (vs.take np) N.length) body { nx := fun _ H' => Q .non H', rt := Q } (start N vs) H := by
  obtain ⟨ds, ts, d, ds', hl, s, hm, k⟩ := h
  unfold fnM at hm
  split at hm
  · rename_i hc
    obtain ⟨hc1, hc2⟩ := hc
    have hlv : vs.length = na := hl.trans hc1
    have hlt : (vs.take np).length = np := by rw [List.length_take]; omega
    have e1 : vals vs ds = vals (vs.take np) (ds.take np) ++ vals (vs.drop np) (ds.drop np) := by
      rw [← vals_append (by rw [List.length_take, List.length_take]; omega), List.take_append_drop, List.take_append_drop]
    have s1 : Sim K mg H (vals vs ds ++ (vals (vs.drop np) (ds.drop np) ++ ts)) := by
      rw [e1] at s ⊢
      rw [List.append_assoc] at s ⊢
      have s2 := s.perm (rs' := vals (vs.drop np) (ds.drop np) ++ (vals (vs.take np) (ds.take np) ++ ts)) (by
        rw [← List.append_assoc, ← List.append_assoc]; exact List.Perm.append_right _ List.perm_append_comm)
      have s3 := Sim.dups (by rw [List.length_drop, List.length_drop]; omega) hc2 s2
      refine s3.perm ?_
      generalize vals (vs.drop np) (ds.drop np) = C
      generalize vals (vs.take np) (ds.take np) = B
      have q : ((C ++ C) ++ B).Perm (B ++ (C ++ C)) := List.perm_append_comm
      have q2 := List.Perm.append_right ts q
      simpa [List.append_assoc] using q2
    have a : At (fmk K mg (vs.take np) N.length) (start N vs) H (ds.map some ++ List.replicate (N.length - na) none) (vals (vs.drop np) (ds.drop np) ++ ts) := by
      refine ⟨?_, ?_, fun i d' q => ?_, fun i v q => ?_, ?_⟩
      · show (vs.map some ++ List.replicate (N.length - vs.length) none).length = N.length
        rw [List.length_append, List.length_map, List.length_replicate]; omega
      · show (ds.map some ++ List.replicate (N.length - na) none).length = N.length
        rw [List.length_append, List.length_map, List.length_replicate]; omega
      · by_cases hi : i < ds.length
        · refine ⟨vs[i]'(by omega), ?_⟩
          show (vs.map some ++ List.replicate (N.length - vs.length) none)[i]? = _
          rw [List.getElem?_append_left (by rw [List.length_map]; omega)]
          simp [show i < vs.length by omega]
        · rw [List.getElem?_append_right (by rw [List.length_map]; omega), List.getElem?_replicate] at q
          split at q
          · cases q
          · cases q
      · have hi : i < np := by rw [← hlt]; exact (List.getElem?_eq_some_iff.mp q).1
        show (vs.map some ++ List.replicate (N.length - vs.length) none)[i]? = _
        have q' : (vs.take np)[i]? = some v := q
        rw [List.getElem?_take_of_lt hi] at q'
        rw [List.getElem?_append_left (by rw [List.length_map]; omega), List.getElem?_map, q']
        rfl
      · show Sim K mg H (slotR (vs.map some ++ List.replicate (N.length - vs.length) none) (ds.map some ++ List.replicate (N.length - na) none) ++ _)
        rw [hlv, slotR_start vs ds _ hl]
        exact s1
    have fin : ∀ {v : V} {d : D} {σ' : L2.St} {H' : Hp} {ρ' : DEnv} {os : List D}, outs np ρ' = some os → At (fmk K mg (vs.take np) N.length) σ' H' ρ' (.v v d :: (vals (vs.drop np) (ds.drop np) ++ ts)) → Sim K mg H' (.v v d :: (vals vs (os ++ ds.drop np) ++ ts)) := fun {v d σ' H' ρ' os} ho a' => by
      have q := outs_sim ho hlt a'.par a'.sim
      have e2 : vals vs (os ++ ds.drop np) = vals (vs.take np) os ++ vals (vs.drop np) (ds.drop np) := by
        rw [← vals_append (by rw [hlt, (outs_ok ho).1]), List.take_append_drop]
      rw [e2, List.append_assoc]
      exact q.perm List.perm_middle
    split at hm
    · rename_i d0 ρ' hb
      split at hm
      · rename_i os ho
        cases hm
        exact ⟨_, _, .rt d, ρ', a, hb, fun v σ' H' a' => k v H' (fin ho a')⟩
      · cases hm
    · rename_i ρ' hb
      split at hm
      · rename_i os ho
        cases hm
        exact ⟨_, _, .nx, ρ', a, hb, fun σ' H' a' => k .non H' (fin ho (a'.mk' mk_non))⟩
      · cases hm
    · cases hm
  · cases hm
theorem fn_len {K : PySem.W.Frag} {mg : MG} {na np n : Nat} {body : SM} {vs : List V} {H : Hp} {Q : VK} {E : XK} (h : spD K mg (fnM na np n body) vs H Q E) : vs.length = na := by
  obtain ⟨ds, ts, d, ds', hl, s, hm, k⟩ := h
  unfold fnM at hm
  split at hm
  · rename_i hc; exact hl.trans hc.1
  · cases hm
end Dl

set_option Elab.async false
set_option linter.all false
set_option maxRecDepth 100000
set_option maxHeartbeats 1000000
/-! DL3: operators over data, len, subscripts, slices, displays. -/
namespace Dl
open PySem PySem.Spec PyProof.Rows L2

theorem OpR.or {X : Cx} {f : Value → Value → Sem Value} {r r' : R2} (h : OpR X f r) (h' : OpR X f r') : OpR X f (fun x y H Q => r x y H Q ∨ r' x y H Q) := by
  intro pins s σ H x y v u Q I rx ry q
  rcases q with q | q
  · exact h pins s σ H x y v u Q I rx ry q
  · exact h' pins s σ H x y v u Q I rx ry q

section
variable {K : PySem.W.Frag} {mg : MG} {H : Hp} {v : V}
theorem Rp.int_inv {i : Int} (h : Rp K mg H v (.int i)) : v = .int i := by cases h; rfl
theorem Rp.str_inv {s : Str} (h : Rp K mg H v (.str s)) : v = .str s := by cases h; rfl
theorem Rp.non_inv (h : Rp K mg H v .non) : v = .non := by cases h; rfl
theorem Rp.lst_inv {o : Bool} {ds : List D} (h : Rp K mg H v (.lst o ds)) : ∃ a xs, v = .ref a ∧ H a = some (.lst xs) ∧ RpL K mg H xs ds := by
  cases h with
  | lst e l => exact ⟨_, _, rfl, e, l⟩
theorem Rp.tup_inv {ds : List D} (h : Rp K mg H v (.tup ds)) : ∃ a xs, v = .ref a ∧ H a = some (.tup xs) ∧ RpL K mg H xs ds := by
  cases h with
  | tup e l => exact ⟨_, _, rfl, e, l⟩
theorem Rp.dk_inv {o : Bool} {ks ds : List D} (h : Rp K mg H v (.dic o .k ks ds)) : ∃ a kvs, v = .ref a ∧ Rd H a (.dK kvs) ∧ ks = kvs.map (fun p => kyD p.1) ∧ RpL K mg H (kvs.map (·.2)) ds := by
  cases h with
  | dk e q l => exact ⟨_, _, rfl, e, q, l⟩
theorem Rp.dt_inv {o : Bool} {ks ds : List D} (h : Rp K mg H v (.dic o .t ks ds)) : ∃ a kvs, v = .ref a ∧ Rd H a (.dT kvs) ∧ ks = kvs.map (fun p => ktD p.1) ∧ RpL K mg H (kvs.map (·.2)) ds := by
  cases h with
  | dt e q l => exact ⟨_, _, rfl, e, q, l⟩
theorem RpL.append : ∀ {xs ys : List V} {ds es : List D}, RpL K mg H xs ds → RpL K mg H ys es → RpL K mg H (xs ++ ys) (ds ++ es)
  | _, _, _, _, .nil, h => h
  | _, _, _, _, .cons o l, h => .cons o (RpL.append l h)
theorem RpL.take : ∀ {xs : List V} {ds : List D} (n : Nat), RpL K mg H xs ds → RpL K mg H (xs.take n) (ds.take n)
  | _, _, 0, _ => .nil
  | _, _, _ + 1, .nil => .nil
  | _, _, n + 1, .cons o l => .cons o (RpL.take n l)
theorem RpL.drop : ∀ {xs : List V} {ds : List D} (n : Nat), RpL K mg H xs ds → RpL K mg H (xs.drop n) (ds.drop n)
  | _, _, 0, h => h
  | _, _, _ + 1, .nil => .nil
  | _, _, n + 1, .cons o l => RpL.drop n l
theorem RpL.at_ : ∀ {xs : List V} {ds : List D} {i : Nat} {d : D}, RpL K mg H xs ds → ds[i]? = some d → ∃ x, xs[i]? = some x ∧ Rp K mg H x d
  | _, _, _, _, .nil, h => by simp at h
  | _, _, 0, _, .cons o l, h => by simp at h; subst h; exact ⟨_, rfl, o⟩
  | _, _, i + 1, _, .cons o l, h => by
    obtain ⟨x, h1, h2⟩ := RpL.at_ (i := i) l (by simpa using h)
    exact ⟨x, by simpa using h1, h2⟩
end
section
variable {K : PySem.W.Frag} {mg : MG} {H H' : Hp} {v : V} {d : D}
theorem mk_imm (r : Rp K mg H v d) (hi : d.imm = true) : Mk K mg H H v d := fun rs s => s.imm r hi
theorem mk_lst {xs : List V} {ds : List D} {p : Addr} (r : RpL K mg H xs ds) (hi : immL ds = true) (hp : H p = none) : Mk K mg H (upd H p (.lst xs)) (.ref p) (.lst true ds) := fun rs s => by
  have s1 := (s.imms r hi).alloc (o := .lst xs) hp
  exact Sim.foL s1 r.length
theorem mk_tup {xs : List V} {ds : List D} {p : Addr} (r : RpL K mg H xs ds) (hi : immL ds = true) (hp : H p = none) : Mk K mg H (upd H p (.tup xs)) (.ref p) (.tup ds) := fun rs s =>
  (s.imms r hi).newT r.length hp
theorem same_upd {p : Addr} {o : HO} (hp : H p = none) : Same H (upd H p o) := fun b u e => by rw [upd_ne (ne_of_none e hp)]; exact e
end

/-! ### numbers -/
/-- a number of less than k + 1 bits (told so that no big literal is ever compared) -/
def lg (k : Nat) (i : Int) : Bool := decide (i.natAbs.log2 < k)
theorem lg_lt {k : Nat} {i : Int} (h : lg k i = true) (hk : 0 < k) : i.natAbs < 2 ^ k := by
  have h' := of_decide_eq_true h
  by_cases h0 : i.natAbs = 0
  · rw [h0]; exact Nat.pow_pos (by decide)
  · exact (Nat.log2_lt h0).mp h'
theorem lg_of {k : Nat} {i : Int} (h : i.natAbs < 2 ^ k) (hk : 0 < k) : lg k i = true := by
  refine decide_eq_true ?_
  by_cases h0 : i.natAbs = 0
  · rw [h0]; simpa using hk
  · exact (Nat.log2_lt h0).mpr h
theorem lg60 {i : Int} (h : lg 60 i = true) : -1152921504606846976 < i ∧ i < 1152921504606846976 := by
  have := lg_lt h (by decide)
  omega
def opSub : D → D → Option D
  | .int i, .int j => some (.int (i - j))
  | _, _ => none
def opMul : D → D → Option D
  | .int i, .int j => if lg 62 i = true ∨ lg 62 j = true then some (.int (i * j)) else none
  | _, _ => none
def opFdiv : D → D → Option D
  | .int i, .int j => if 0 < j ∧ lg 30 j = true then some (.int (i / j)) else none
  | _, _ => none
def opMod : D → D → Option D
  | .int i, .int j => if 0 < j then some (.int (i % j)) else none
  | _, _ => none
def opPow : D → D → Option D
  | .int i, .int j => if 0 ≤ j ∧ lg 19 j = true ∧ lg 62 i = true then some (.int (i ^ j.toNat)) else none
  | _, _ => none
def opNeg : D → Option D
  | .int i => some (.int (-i))
  | _ => none
def opLt : D → D → Option D
  | .int i, .int j => some (.bl (decide (i < j)))
  | _, _ => none
def opLe : D → D → Option D
  | .int i, .int j => some (.bl (decide (i ≤ j)))
  | _, _ => none
def opGt : D → D → Option D
  | .int i, .int j => some (.bl (decide (j < i)))
  | _, _ => none
def opGe : D → D → Option D
  | .int i, .int j => some (.bl (decide (j ≤ i)))
  | _, _ => none
section
variable {K : PySem.W.Frag} {mg : MG}
theorem r_int0 {g : Int → Int → V} {gd : Int → Int → D} {op : D → D → Option D} (hm : ∀ i j H, Mk K mg H H (g i j) (gd i j)) (h : ∀ x y d, op x y = some d → ∃ i j, x = .int i ∧ y = .int j ∧ d = gd i j) : R2D K mg (rI0 g) op := by
  intro x y H dx dy d Q rx ry e k
  obtain ⟨i, j, rfl, rfl, rfl⟩ := h _ _ _ e
  obtain rfl := rx.int_inv
  obtain rfl := ry.int_inv
  exact ⟨i, j, rfl, rfl, k _ H (Same.refl H) (hm i j H)⟩
theorem r_intC {C : Int → Int → Prop} {g : Int → Int → V} {gd : Int → Int → D} {op : D → D → Option D} (hm : ∀ i j H, Mk K mg H H (g i j) (gd i j)) (h : ∀ x y d, op x y = some d → ∃ i j, x = .int i ∧ y = .int j ∧ C i j ∧ d = gd i j) : R2D K mg (rI C g) op := by
  intro x y H dx dy d Q rx ry e k
  obtain ⟨i, j, rfl, rfl, hc, rfl⟩ := h _ _ _ e
  obtain rfl := rx.int_inv
  obtain rfl := ry.int_inv
  exact ⟨i, j, rfl, rfl, hc, k _ H (Same.refl H) (hm i j H)⟩
theorem r_sub : R2D K mg (rI0 fun i j => .int (i - j)) opSub := r_int0 (gd := fun i j => .int (i - j)) (fun _ _ _ => mk_int _) fun x y d e => by
  cases x <;> cases y <;> simp [opSub] at e ⊢; exact e.symm
theorem r_lt : R2D K mg (rI0 fun i j => .bl (decide (i < j))) opLt := r_int0 (gd := fun i j => .bl (decide (i < j))) (fun _ _ _ => mk_bl _) fun x y d e => by
  cases x <;> cases y <;> simp [opLt] at e ⊢; exact e.symm
theorem r_le : R2D K mg (rI0 fun i j => .bl (decide (i ≤ j))) opLe := r_int0 (gd := fun i j => .bl (decide (i ≤ j))) (fun _ _ _ => mk_bl _) fun x y d e => by
  cases x <;> cases y <;> simp [opLe] at e ⊢; exact e.symm
theorem r_gt : R2D K mg (rI0 fun i j => .bl (decide (j < i))) opGt := r_int0 (gd := fun i j => .bl (decide (j < i))) (fun _ _ _ => mk_bl _) fun x y d e => by
  cases x <;> cases y <;> simp [opGt] at e ⊢; exact e.symm
theorem r_ge : R2D K mg (rI0 fun i j => .bl (decide (j ≤ i))) opGe := r_int0 (gd := fun i j => .bl (decide (j ≤ i))) (fun _ _ _ => mk_bl _) fun x y d e => by
  cases x <;> cases y <;> simp [opGe] at e ⊢; exact e.symm
theorem cMul_of {i j : Int} (h : lg 62 i = true ∨ lg 62 j = true) : CMul i j := by
  unfold CMul
  rcases h with h | h
  · have := lg_lt h (by decide); left; omega
  · have := lg_lt h (by decide); right; omega
theorem cDiv_of {i j : Int} (h : 0 < j ∧ lg 30 j = true) : CDiv i j := by
  have := lg_lt h.2 (by decide)
  exact ⟨h.1, by omega⟩
theorem cPow_of {i j : Int} (h : 0 ≤ j ∧ lg 19 j = true ∧ lg 62 i = true) : CPow i j := by
  have h1 := lg_lt h.2.1 (by decide)
  have h2 := lg_lt h.2.2 (by decide)
  exact ⟨h.1, by omega, by omega⟩
theorem r_mul : R2D K mg (rI CMul fun i j => .int (i * j)) opMul := r_intC (gd := fun i j => .int (i * j)) (fun _ _ _ => mk_int _) fun x y d e => by
  cases x <;> cases y <;> simp only [opMul, reduceCtorEq] at e
  split at e
  · rename_i h; cases e; exact ⟨_, _, rfl, rfl, cMul_of h, rfl⟩
  · cases e
theorem r_fdiv : R2D K mg (rI CDiv fun i j => .int (i / j)) opFdiv := r_intC (gd := fun i j => .int (i / j)) (fun _ _ _ => mk_int _) fun x y d e => by
  cases x <;> cases y <;> simp only [opFdiv, reduceCtorEq] at e
  split at e
  · rename_i h; cases e; exact ⟨_, _, rfl, rfl, cDiv_of h, rfl⟩
  · cases e
theorem r_mod : R2D K mg (rI (fun _ j => 0 < j) fun i j => .int (i % j)) opMod := r_intC (gd := fun i j => .int (i % j)) (fun _ _ _ => mk_int _) fun x y d e => by
  cases x <;> cases y <;> simp only [opMod, reduceCtorEq] at e
  split at e
  · rename_i h; cases e; exact ⟨_, _, rfl, rfl, h, rfl⟩
  · cases e
theorem r_pow : R2D K mg (rI CPow fun i j => .int (i ^ j.toNat)) opPow := r_intC (gd := fun i j => .int (i ^ j.toNat)) (fun _ _ _ => mk_int _) fun x y d e => by
  cases x <;> cases y <;> simp only [opPow, reduceCtorEq] at e
  split at e
  · rename_i h; cases e; exact ⟨_, _, rfl, rfl, cPow_of h, rfl⟩
  · cases e
theorem r_neg : R1D K mg (rU fun i => .int (-i)) opNeg := by
  intro x H dx d Q rx e k
  cases dx <;> simp only [opNeg, reduceCtorEq] at e
  cases e
  obtain rfl := rx.int_inv
  exact ⟨_, rfl, k _ H (Same.refl H) (mk_int _)⟩

/-! ### + of numbers, texts, lists, tuples -/
def opAdd : D → D → Option D
  | .int i, .int j => some (.int (i + j))
  | .str a, .str b => if a.length + b.length ≤ sizeLine then some (.str (a ++ b)) else none
  | .lst _ xs, .lst _ ys => if xs.length + ys.length ≤ sizeLine ∧ immL xs = true ∧ immL ys = true then some (.lst true (xs ++ ys)) else none
  | .tup xs, .tup ys => if xs.length + ys.length ≤ sizeLine ∧ immL xs = true ∧ immL ys = true then some (.tup (xs ++ ys)) else none
  | _, _ => none
theorem immL_append : ∀ (xs ys : List D), immL (xs ++ ys) = (immL xs && immL ys)
  | [], ys => by simp [immL]
  | x :: xs, ys => by rw [List.cons_append, immL, immL, immL_append xs ys, Bool.and_assoc]
theorem immL_app {xs ys : List D} (h : immL xs = true) (h' : immL ys = true) : immL (xs ++ ys) = true := by rw [immL_append, h, h']; rfl
def rAddS : R2 := fun x y H Q => ∃ i j, x = .str i ∧ y = .str j ∧ i.length + j.length ≤ sizeLine ∧ Q (.str (i ++ j)) H
def rAddD (K : PySem.W.Frag) : R2 := fun x y H Q => rI0 (fun i j => .int (i + j)) x y H Q ∨ (rAddS x y H Q ∨ (rCat x y H Q ∨ rCatA K x y H Q))
theorem op_addD {X : Cx} : OpR X (binaryOp .Add) (rAddD X.K) := OpR.or op_add (OpR.or op_add_str (OpR.or op_cat op_catA))
theorem r_add : R2D K mg (rAddD K) opAdd := by
  intro x y H dx dy d Q rx ry e k
  cases dx <;> cases dy <;> simp only [opAdd, reduceCtorEq] at e
  · cases e
    obtain rfl := rx.int_inv
    obtain rfl := ry.int_inv
    exact .inl ⟨_, _, rfl, rfl, k _ H (Same.refl H) (mk_int _)⟩
  · split at e
    · rename_i h
      cases e
      obtain rfl := rx.str_inv
      obtain rfl := ry.str_inv
      exact .inr (.inl ⟨_, _, rfl, rfl, h, k _ H (Same.refl H) (mk_str _)⟩)
    · cases e
  · split at e
    · rename_i h
      cases e
      obtain ⟨a, xs, rfl, ha, la⟩ := rx.tup_inv
      obtain ⟨b, ys, rfl, hb, lb⟩ := ry.tup_inv
      have e1 := la.length
      have e2 := lb.length
      have im := immL_app h.2.1 h.2.2
      refine .inr (.inr (.inr ⟨a, b, xs, ys, rfl, rfl, SqT.of ha, SqT.of hb, by omega, fun q => ?_, fun q1 q2 => ?_, fun _ _ p hp => k _ _ (same_upd hp) (mk_tup (la.append lb) im hp)⟩))
      · subst q
        cases la
        exact k _ H (Same.refl H) (mk_imm ry (by simpa [D.imm] using h.2.2))
      · subst q2
        cases lb
        rw [List.append_nil] at k
        exact k _ H (Same.refl H) (mk_imm rx (by simpa [D.imm] using h.2.1))
    · cases e
  · split at e
    · rename_i h
      cases e
      obtain ⟨a, xs, rfl, ha, la⟩ := rx.lst_inv
      obtain ⟨b, ys, rfl, hb, lb⟩ := ry.lst_inv
      have e1 := la.length
      have e2 := lb.length
      have im := immL_app h.2.1 h.2.2
      exact .inr (.inr (.inl ⟨a, b, xs, ys, rfl, rfl, ha, hb, by omega, fun p hp => k _ _ (same_upd hp) (mk_lst (la.append lb) im hp)⟩))
    · cases e

/-! ### ==, != -/
def D.sv : D → Option V
  | .non => some .non
  | .bl b => some (.bl b)
  | .int i => some (.int i)
  | .str s => some (.str s)
  | _ => none
mutual
def D.py : D → PyData
  | .non => .none
  | .bl b => .bool b
  | .int i => .int i
  | .str s => .str s
  | .tup xs => .tuple (pyL xs)
  | .lst _ xs => .list (pyL xs)
  | .dic _ _ _ _ => .none
  | .obj _ _ _ _ => .none
  | .scr _ => .none
  | .exn _ _ _ => .none
  | .ptr _ => .none
  | .lat _ _ => .none
  | .dlk _ _ _ => .none
def pyL : List D → List PyData
  | [] => []
  | d :: ds => d.py :: pyL ds
end
mutual
def D.dat : D → Bool
  | .non => true
  | .bl _ => true
  | .int _ => true
  | .str _ => true
  | .tup xs => datL xs
  | .lst _ xs => datL xs
  | .dic _ _ _ _ => false
  | .obj _ _ _ _ => false
  | .scr _ => false
  | .exn _ _ _ => false
  | .ptr _ => false
  | .lat _ _ => false
  | .dlk _ _ _ => false
def datL : List D → Bool
  | [] => true
  | d :: ds => d.dat && datL ds
end
mutual
theorem Rp.dp {H : Hp} : ∀ {v : V} {d : D}, Rp K mg H v d → d.dat = true → Dp K H v d.py
  | _, _, .non, _ => by rw [D.py]; exact .non
  | _, _, .bl b, _ => by rw [D.py]; exact .bl b
  | _, _, .int i, _ => by rw [D.py]; exact .int i
  | _, _, .str x, _ => by rw [D.py]; exact .str x
  | _, _, .tup z l, h => by rw [D.py]; exact .tup (SqT.of z) (RpL.dp l (by simpa [D.dat] using h))
  | _, _, .lst z l, h => by rw [D.py]; exact .lst (SqL.of z) (RpL.dp l (by simpa [D.dat] using h))
  | _, _, .dk _ _ _, h => by simp [D.dat] at h
  | _, _, .dt _ _ _, h => by simp [D.dat] at h
  | _, _, .obj _ _ _ _, h => by simp [D.dat] at h
  | _, _, .scr _, h => by simp [D.dat] at h
  | _, _, .exn _ _ _ _ _, h => by simp [D.dat] at h
  | _, _, .ptr _, h => by simp [D.dat] at h
  | _, _, .lat _ _, h => by simp [D.dat] at h
  | _, _, .dlk _ _ _ _, h => by simp [D.dat] at h
theorem RpL.dp {H : Hp} : ∀ {vs : List V} {ds : List D}, RpL K mg H vs ds → datL ds = true → DpAll K H vs (pyL ds)
  | _, _, .nil, _ => by rw [pyL]; exact .nil
  | _, _, .cons o l, h => by
    simp only [datL, Bool.and_eq_true] at h
    rw [pyL]
    exact .cons (Rp.dp o h.1) (RpL.dp l h.2)
end
/-- what may be compared -/
def D.cmp (d : D) : Bool := d.dat && SeqAt.shaped d.py
def eqB (x y : D) : Option Bool := match x.sv, y.sv with
  | some a, some b => if scal a b = true then some (decide (a = b)) else if x.cmp = true ∧ y.cmp = true then some (PyData.eqv x.py y.py) else none
  | _, _ => if x.cmp = true ∧ y.cmp = true then some (PyData.eqv x.py y.py) else none
def opEq (x y : D) : Option D := match eqB x y with
  | some b => some (.bl b)
  | none => none
def opNe (x y : D) : Option D := match eqB x y with
  | some b => some (.bl (!b))
  | none => none
theorem Rp.sv {H : Hp} {v : V} {d : D} {w : V} (h : Rp K mg H v d) (e : d.sv = some w) : v = w := by
  cases h <;> simp [D.sv] at e <;> exact e
theorem eqB_cases {x y : D} {b : Bool} (h : eqB x y = some b) : (∃ a c, x.sv = some a ∧ y.sv = some c ∧ scal a c = true ∧ b = decide (a = c)) ∨ (x.cmp = true ∧ y.cmp = true ∧ b = PyData.eqv x.py y.py) := by
  unfold eqB at h
  split at h
  · rename_i a c ha hc
    split at h
    · rename_i hs
      cases h
      exact .inl ⟨a, c, ha, hc, hs, rfl⟩
    · split at h
      · rename_i hq; cases h; exact .inr ⟨hq.1, hq.2, rfl⟩
      · cases h
  · split at h
    · rename_i hq; cases h; exact .inr ⟨hq.1, hq.2, rfl⟩
    · cases h
theorem cmp_dp {H : Hp} {v : V} {d : D} (r : Rp K mg H v d) (h : d.cmp = true) : Dp K H v d.py ∧ SeqAt.shaped d.py = true := by
  unfold D.cmp at h
  rw [Bool.and_eq_true] at h
  exact ⟨r.dp h.1, h.2⟩
theorem r_eq : R2D K mg (fun x y H Q => rEq x y H Q ∨ rEqD K x y H Q) opEq := by
  intro x y H dx dy d Q rx ry e k
  unfold opEq at e
  split at e
  · rename_i b hb
    cases e
    rcases eqB_cases hb with ⟨a, c, ha, hc, hs, rfl⟩ | ⟨h1, h2, rfl⟩
    · obtain rfl := rx.sv ha
      obtain rfl := ry.sv hc
      exact .inl ⟨hs, k _ H (Same.refl H) (mk_bl _)⟩
    · exact .inr ⟨_, _, (cmp_dp rx h1).1, (cmp_dp ry h2).1, (cmp_dp rx h1).2, (cmp_dp ry h2).2, k _ H (Same.refl H) (mk_bl _)⟩
  · cases e
theorem r_ne : R2D K mg (fun x y H Q => rNe x y H Q ∨ rNeD K x y H Q) opNe := by
  intro x y H dx dy d Q rx ry e k
  unfold opNe at e
  split at e
  · rename_i b hb
    cases e
    rcases eqB_cases hb with ⟨a, c, ha, hc, hs, rfl⟩ | ⟨h1, h2, rfl⟩
    · obtain rfl := rx.sv ha
      obtain rfl := ry.sv hc
      exact .inl ⟨hs, k _ H (Same.refl H) (mk_bl _)⟩
    · exact .inr ⟨_, _, (cmp_dp rx h1).1, (cmp_dp ry h2).1, (cmp_dp rx h1).2, (cmp_dp ry h2).2, k _ H (Same.refl H) (mk_bl _)⟩
  · cases e
theorem op_eqA {X : Cx} (hu : X.A.units + 64 < cLine) : OpR X (compareOp .Eq) (fun x y H Q => rEq x y H Q ∨ rEqD X.K x y H Q) := OpR.or op_eq (op_eqD hu)
theorem op_neA {X : Cx} (hu : X.A.units + 64 < cLine) : OpR X (compareOp .NotEq) (fun x y H Q => rNe x y H Q ∨ rNeD X.K x y H Q) := OpR.or op_ne (op_neD hu)
/-- is None, is not None -/
def opIsN : D → D → Option D
  | x, .non => some (.bl (match x with | .non => true | _ => false))
  | _, _ => none
def opNotN : D → D → Option D
  | x, .non => some (.bl (match x with | .non => false | _ => true))
  | _, _ => none
theorem r_isN : R2D K mg (fun x y H Q => y = .non ∧ Q (.bl (decide (x = .non))) H) opIsN := by
  intro x y H dx dy d Q rx ry e k
  cases dy <;> simp only [opIsN, reduceCtorEq] at e
  cases e
  refine ⟨ry.non_inv, ?_⟩
  cases rx <;> exact k _ H (Same.refl H) (mk_bl _)
theorem r_notN : R2D K mg (fun x y H Q => y = .non ∧ Q (.bl (!decide (x = .non))) H) opNotN := by
  intro x y H dx dy d Q rx ry e k
  cases dy <;> simp only [opNotN, reduceCtorEq] at e
  cases e
  refine ⟨ry.non_inv, ?_⟩
  cases rx <;> exact k _ H (Same.refl H) (mk_bl _)
end
end Dl

set_option Elab.async false
set_option linter.all false
set_option maxRecDepth 100000
set_option maxHeartbeats 1000000
/-! DL4: equality of data, dicts read, subscripts, in, len, slices, displays, built-ins by one or two values. -/
namespace Dl
open PySem PySem.Spec PyProof.Rows L2

/-! ### dicts read -/
def lookD : List D → List D → D → Option D
  | k :: ks, v :: vs, q => if k = q then some v else lookD ks vs q
  | _, _, _ => none
def D.key : D → Option Key
  | .int i => some (.inl i)
  | .str s => some (.inr s)
  | _ => none
def keysL : List D → Option (List Key)
  | [] => some []
  | d :: ds => match d.key, keysL ds with
    | some k, some ks => some (k :: ks)
    | _, _ => none
/-- a key of a dict of that sort -/
def keyOk (kd : Kd) (d : D) : Bool := match kd with
  | .k => d.key.isSome
  | .t => match d with
    | .tup ds => (keysL ds).isSome
    | _ => false
  | .n => false
theorem key_kyD {d : D} {k : Key} (h : d.key = some k) : d = kyD k := by
  cases d <;> simp [D.key] at h <;> subst h <;> rfl
theorem keysL_kyD : ∀ {ds : List D} {l : List Key}, keysL ds = some l → ds = l.map kyD
  | [], l, h => by simp [keysL] at h; subst h; rfl
  | d :: ds, l, h => by
    simp only [keysL] at h
    split at h
    · rename_i k ks hk hks
      cases h
      rw [key_kyD hk, keysL_kyD hks]; rfl
    · cases h
theorem kyD_inj {a b : Key} (h : kyD a = kyD b) : a = b := by
  cases a <;> cases b <;> simp [kyD] at h <;> simp [h]
theorem kyDs_inj : ∀ {a b : List Key}, a.map kyD = b.map kyD → a = b
  | [], [], _ => rfl
  | [], _ :: _, h => by simp at h
  | _ :: _, [], h => by simp at h
  | x :: a, y :: b, h => by
    simp only [List.map_cons, List.cons.injEq] at h
    rw [kyD_inj h.1, kyDs_inj h.2]
theorem ktD_inj {a b : List Key} (h : ktD a = ktD b) : a = b := by
  simp only [ktD, D.tup.injEq] at h
  exact kyDs_inj h
section
variable {K : PySem.W.Frag} {mg : MG} {H : Hp}
theorem Rp.ky {v : V} {k : Key} (h : Rp K mg H v (kyD k)) : v = kV k := by
  cases k with
  | inl i => exact Rp.int_inv h
  | inr s => exact Rp.str_inv h
theorem RpL.kys : ∀ {xs : List V} {l : List Key}, RpL K mg H xs (l.map kyD) → xs = l.map kV
  | _, [], h => by cases h; rfl
  | _, k :: l, h => by
    cases h with
    | cons o r => rw [o.ky, RpL.kys r]; rfl
theorem Rp.kt {v : V} {l : List Key} (h : Rp K mg H v (ktD l)) : ∃ b, v = .ref b ∧ H b = some (.tup (l.map kV)) := by
  obtain ⟨a, xs, e, h1, h2⟩ := Rp.tup_inv h
  rw [h2.kys] at h1
  exact ⟨a, e, h1⟩
/-- what a look-up over data tells of the look-up over values -/
theorem look_val {κ : Type} [DecidableEq κ] {f : κ → D} (hf : ∀ a b, f a = f b → a = b) : ∀ {kvs : List (κ × V)} {ds : List D} {k : κ}, kvs.length = ds.length →
    (match lookD (kvs.map fun p => f p.1) ds (f k) with
      | some d => ∃ (i : Nat) (z : V), valV kvs k = some z ∧ (kvs.map (·.2))[i]? = some z ∧ ds[i]? = some d
      | none => valV kvs k = none)
  | [], ds, k, _ => by simp [lookD, valV]
  | p :: kvs, [], k, h => by simp at h
  | p :: kvs, d :: ds, k, h => by
    have ih := look_val (f := f) hf (kvs := kvs) (ds := ds) (k := k) (by simpa using h)
    simp only [List.map_cons, lookD]
    by_cases e : p.1 = k
    · rw [if_pos (by rw [e])]
      exact ⟨0, p.2, valV_pos e, rfl, rfl⟩
    · rw [if_neg (fun z => e (hf _ _ z))]
      cases q : lookD (kvs.map fun p => f p.1) ds (f k) with
      | none => rw [q] at ih; rw [valV_neg e]; exact ih
      | some d' =>
        rw [q] at ih
        obtain ⟨i, z, h1, h2, h3⟩ := ih
        exact ⟨i + 1, z, by rw [valV_neg e]; exact h1, by simpa using h2, by simpa using h3⟩
theorem look_k {kvs : List (Key × V)} {ds : List D} {k : Key} (hl : kvs.length = ds.length) : (match lookD (kvs.map fun p => kyD p.1) ds (kyD k) with
      | some d => ∃ (i : Nat) (z : V), valV kvs k = some z ∧ (kvs.map (·.2))[i]? = some z ∧ ds[i]? = some d
      | none => valV kvs k = none) := look_val (f := kyD) (fun _ _ => kyD_inj) hl
theorem look_t {kvs : List (List Key × V)} {ds : List D} {k : List Key} (hl : kvs.length = ds.length) : (match lookD (kvs.map fun p => ktD p.1) ds (ktD k) with
      | some d => ∃ (i : Nat) (z : V), valV kvs k = some z ∧ (kvs.map (·.2))[i]? = some z ∧ ds[i]? = some d
      | none => valV kvs k = none) := look_val (f := ktD) (fun _ _ => ktD_inj) hl
/-- a dict and a key of its sort -/
theorem dget {x y : V} {o : Bool} {kd : Kd} {ks ds : List D} {q : D} (rx : Rp K mg H x (.dic o kd ks ds)) (ry : Rp K mg H y q) (hq : keyOk kd q = true) :
    ∃ a r, x = .ref a ∧ DGet H a y r ∧ (match lookD ks ds q with
      | some d => ∃ z, r = some z ∧ Sub H x (.dic o kd ks ds) z d
      | none => r = none) := by
  cases kd with
  | k =>
    obtain ⟨a, kvs, rfl, hr, rfl, hl⟩ := rx.dk_inv
    have hq' : q.key.isSome = true := hq
    obtain ⟨k, hk⟩ := Option.isSome_iff_exists.mp hq'
    have e := key_kyD hk
    subst e
    have ey := ry.ky
    subst ey
    have lk := look_k (kvs := kvs) (ds := ds) (k := k) (by simpa using hl.length)
    refine ⟨a, valV kvs k, rfl, .inl ⟨kvs, k, hr, rfl, rfl⟩, ?_⟩
    cases q : lookD (kvs.map fun p => kyD p.1) ds (kyD k) with
    | none => rw [q] at lk; exact lk
    | some d =>
      rw [q] at lk
      obtain ⟨i, z, h1, h2, h3⟩ := lk
      exact ⟨z, h1, .dk hr h2 h3 (.refl _ _)⟩
  | t =>
    obtain ⟨a, kvs, rfl, hr, rfl, hl⟩ := rx.dt_inv
    cases q with
    | tup qs =>
      have hq' : (keysL qs).isSome = true := hq
      obtain ⟨k, hk⟩ := Option.isSome_iff_exists.mp hq'
      have e := keysL_kyD hk
      subst e
      obtain ⟨b, rfl, hb⟩ := Rp.kt (l := k) ry
      have lk := look_t (kvs := kvs) (ds := ds) (k := k) (by simpa using hl.length)
      refine ⟨a, valV kvs k, rfl, .inr ⟨kvs, k, b, hr, rfl, hb, rfl⟩, ?_⟩
      show (match lookD (kvs.map fun p => ktD p.1) ds (ktD k) with | some d => _ | none => _)
      cases q : lookD (kvs.map fun p => ktD p.1) ds (ktD k) with
      | none => rw [q] at lk; exact lk
      | some d =>
        rw [q] at lk
        obtain ⟨i, z, h1, h2, h3⟩ := lk
        exact ⟨z, h1, .dt hr h2 h3 (.refl _ _)⟩
    | _ => simp [keyOk] at hq
  | n => simp [keyOk] at hq
end

/-! ### a part of a value -/
def R2A (K : PySem.W.Frag) (mg : MG) (r : R2) (op : D → D → Option D) : Prop :=
  ∀ (x y : V) (H : Hp) (dx dy d : D) (Q : VK), Rp K mg H x dx → Rp K mg H y dy → op dx dy = some d → (∀ z, (Sub H x dx z d ∨ (Rp K mg H z d ∧ d.imm = true)) → Q z H) → r x y H Q
/-- .. as a value of its own -/
def eIx (op : D → D → Option D) (a b : EM) : EM := fun ρ => match a ρ with
  | some (x, ρ1) => match b ρ1 with
    | some (y, ρ2) => match op x y with
      | some d => if d.stable = true then some (d, ρ2) else none
      | none => none
    | none => none
  | none => none
def eIxP (op : D → D → Option D) (a : EM) (b : PM) : EM := fun ρ => match a ρ with
  | some (x, ρ1) => match b ρ1 with
    | some y => match op x y with
      | some d => if d.stable = true then some (d, ρ1) else none
      | none => none
    | none => none
  | none => none
section
variable {F : Fm} {r : R2} {op : D → D → Option D} {fa fb : PM} {ea eb : EM}
theorem imp_ixP (hr : R2A F.K F.mg r op) : ∀ σ H Q, tP F (pOp2 op fa fb) σ H Q → tOp r (tP F fa) (tP F fb) σ H Q := fun σ H Q ⟨ρ, ts, d, a, e, k⟩ => by
  unfold pOp2 at e
  split at e
  · rename_i x y ex ey
    refine ⟨ρ, ts, x, a, ex, fun v H1 g1 rx cx => ⟨ρ, ts, y, a.grow g1, ey, fun w H2 g2 ry _ => ?_⟩⟩
    refine hr v w H2 x y d Q (rx.grow g2) ry e fun z hz => ?_
    rcases hz with q | ⟨rz, hi⟩
    · exact k z H2 (g1.trans g2) (Rp.sub q (rx.grow g2)) fun H3 g3 v1 d1 q1 hs => cx H3 (g2.trans g3) v1 d1 ((q.grow g3).trans q1) hs
    · exact k z H2 (g1.trans g2) rz (Cj.of (((a.grow g1).grow g2).mk' (mk_imm rz hi)))
  · cases e
theorem imp_ixE (hr : R2A F.K F.mg r op) : ∀ σ H Q, tD F (eIx op ea eb) σ H Q → tOp r (tD F ea) (tD F eb) σ H Q := fun σ H Q ⟨ρ, ts, d, ρ', a, e, k⟩ => by
  unfold eIx at e
  split at e
  · rename_i x ρ1 ex
    split at e
    · rename_i y ρ2 ey
      split at e
      · rename_i d' ed
        split at e
        · rename_i hst
          cases e
          refine ⟨ρ, ts, x, ρ1, a, ex, fun v H1 a1 => ⟨ρ1, _, y, _, a1, ey, fun w H2 a2 => ?_⟩⟩
          have s2 : Sim F.K F.mg H2 (.v w y :: .v v x :: (ts ++ slotR σ _)) := a2.front
          refine hr v w H2 x y d Q s2.tail.rp s2.rp ed fun z hz => k z H2 ?_
          rcases hz with q | ⟨rz, hi⟩
          · have s3 := (s2.tail.sub q hst).perm (.swap _ _ _)
            exact a2.of_front s3.tail
          · exact (a2.of_front s2.tail.tail).mk' (mk_imm rz hi)
        · cases e
      · cases e
    · cases e
  · cases e
theorem imp_ixEP (hr : R2A F.K F.mg r op) : ∀ σ H Q, tD F (eIxP op ea fb) σ H Q → tOp r (tD F ea) (tP F fb) σ H Q := fun σ H Q ⟨ρ, ts, d, ρ', a, e, k⟩ => by
  unfold eIxP at e
  split at e
  · rename_i x ρ1 ex
    split at e
    · rename_i y ey
      split at e
      · rename_i d' ed
        split at e
        · rename_i hst
          cases e
          refine ⟨ρ, ts, x, _, a, ex, fun v H1 a1 => ⟨_, _, y, a1, ey, fun w H2 g2 ry _ => ?_⟩⟩
          have s2 : Sim F.K F.mg H2 (.v v x :: (ts ++ slotR σ _)) := (a1.grow g2).front
          refine hr v w H2 x y d Q s2.rp ry ed fun z hz => k z H2 ?_
          rcases hz with q | ⟨rz, hi⟩
          · have s3 := (s2.sub q hst).perm (.swap _ _ _)
            exact (a1.grow g2).of_front s3.tail
          · exact ((a1.grow g2).of_front s2.tail).mk' (mk_imm rz hi)
        · cases e
      · cases e
    · cases e
  · cases e
/-- the left one a name: it is looked at behind the right one -/
theorem imp_ixV {i : Nat} (hr : R2A F.K F.mg r op) : ∀ σ H Q, tD F (eOpV op i eb) σ H Q → tOp r (tVar i) (tD F eb) σ H Q := fun σ H Q ⟨ρ, ts, d, ρ', a, e, k⟩ => by
  unfold eOpV at e
  split at e
  · rename_i d0 h0
    split at e
    · rename_i y ρ1 ey
      split at e
      · rename_i x ex
        split at e
        · rename_i d' ed
          split at e
          · rename_i hst
            cases e
            obtain ⟨v, hv⟩ := a.fit i d0 (getD_some h0)
            refine ⟨v, hv, ρ, ts, y, _, a, ey, fun w H2 a2 => ?_⟩
            obtain ⟨v', hv', s⟩ := a2.slot (getD_some ex)
            rw [hv] at hv'; cases hv'
            have ry : Rp F.K F.mg H2 w y := (a2.front).rp
            refine hr v w H2 x y d Q s.rp ry ed fun z hz => k z H2 ?_
            rcases hz with q | ⟨rz, hi⟩
            · have s3 := s.sub q hst
              have s4 : Sim F.K F.mg H2 (slotR σ ρ' ++ (.v z d :: .v w y :: ts)) := s3.perm (by
                refine List.Perm.trans ?_ List.perm_middle.symm
                refine List.Perm.cons _ ?_
                exact ((slotR_out hv (getD_some ex)).symm.append_right _))
              exact (a2.temps (s4.perm (List.Perm.append_left _ (List.Perm.swap _ _ _)))).tail
            · exact a2.tail.mk' (mk_imm rz hi)
          · cases e
        · cases e
      · cases e
    · cases e
  · cases e
end

/-! ### subscripts -/
def atD (ds : List D) (i : Int) : Option D := atI ds i
def opIx : D → D → Option D
  | .lst _ xs, .int i => atD xs i
  | .tup xs, .int i => atD xs i
  | .str s, .int i => if s.length ≤ sizeLine then (atI s.cps.toList i).map fun c => .str ⟨#[c]⟩ else none
  | .scr ns, .int i => (atI ns i).map .int
  | .dic _ kd ks vs, q => if keyOk kd q = true then lookD ks vs q else none
  | _, _ => none
def rIxDc : R2 := fun x y H Q => ∃ a v, x = .ref a ∧ DGet H a y (some v) ∧ Q v H
theorem ix_dict {X : Cx} (hu : X.A.units + 1 < cLine) : IxR X rIxDc := by
  intro value slice pins s σ H x y v u Q I rx ry h hs
  obtain ⟨a, w, rfl, g, q⟩ := h
  obtain rfl : v = Value.ref a := rx
  exact tail_any (dict_typeIs I g) PySem.F.slot_dict_getitem.lookup (d_getItem hu I g ry fun w' s3 I3 rw' => ⟨w, H, I3, rw', q⟩) hs
def rIxAll (K : PySem.W.Frag) : R2 := fun x y H Q => rIx K x y H Q ∨ rIxDc x y H Q
theorem ix_all {X : Cx} (hu : X.A.units + 1 < cLine) : IxR X (rIxAll X.K) := IxR.or ix_seq (ix_dict hu)
section
variable {K : PySem.W.Frag} {mg : MG}
theorem atI_rpL {H : Hp} {xs : List V} {ds : List D} {i : Int} {d : D} (l : RpL K mg H xs ds) (e : atI ds i = some d) : ∃ (j : Nat) (x : V), atI xs i = some x ∧ xs[j]? = some x ∧ ds[j]? = some d := by
  unfold atI at e ⊢
  rw [l.length]
  cases q : ixN ds.length i with
  | none => rw [q] at e; cases e
  | some j =>
    rw [q] at e
    have e' : ds[j]? = some d := e
    obtain ⟨x, h1, _⟩ := l.at_ e'
    exact ⟨j, x, h1, h1, e'⟩
theorem atI_map {α β : Type} {f : α → β} {xs : List α} {i : Int} : atI (xs.map f) i = (atI xs i).map f := by
  unfold atI
  rw [List.length_map]
  cases ixN xs.length i with
  | none => rfl
  | some j => simp
theorem r_ix : R2A K mg (rIxAll K) opIx := by
  intro x y H dx dy d Q rx ry e k
  cases dx with
  | lst o xs =>
    cases dy <;> simp only [opIx, reduceCtorEq] at e
    obtain rfl := ry.int_inv
    obtain ⟨a, vs, rfl, ha, l⟩ := rx.lst_inv
    obtain ⟨j, z, h1, h2, h3⟩ := atI_rpL l e
    exact .inl (.inl ⟨a, vs, _, z, rfl, rfl, SqL.of ha, h1, k z (.inl (.lst ha h2 h3 (.refl _ _)))⟩)
  | tup xs =>
    cases dy <;> simp only [opIx, reduceCtorEq] at e
    obtain rfl := ry.int_inv
    obtain ⟨a, vs, rfl, ha, l⟩ := rx.tup_inv
    obtain ⟨j, z, h1, h2, h3⟩ := atI_rpL l e
    exact .inl (.inr (.inl ⟨a, vs, _, z, rfl, rfl, SqT.of ha, h1, k z (.inl (.tup ha h2 h3 (.refl _ _)))⟩))
  | str s =>
    cases dy <;> simp only [opIx, reduceCtorEq] at e
    obtain rfl := ry.int_inv
    obtain rfl := rx.str_inv
    split at e
    · rename_i hz
      obtain ⟨c, hc, rfl⟩ := Option.map_eq_some_iff.mp e
      exact .inl (.inr (.inr ⟨s, _, c, rfl, rfl, hz, hc, k _ (.inr ⟨.str _, by simp [D.imm]⟩)⟩))
    · cases e
  | scr ns =>
    cases dy <;> simp only [opIx, reduceCtorEq] at e
    obtain rfl := ry.int_inv
    obtain ⟨n, hn, rfl⟩ := Option.map_eq_some_iff.mp e
    cases rx with
    | scr hs => exact .inl (.inl ⟨_, _, _, .int n, rfl, rfl, hs, by rw [atI_map, hn]; rfl, k _ (.inr ⟨.int _, by simp [D.imm]⟩)⟩)
  | dic o kd ks vs =>
    simp only [opIx] at e
    split at e
    · rename_i hq
      obtain ⟨a, rr, hx, g, lk⟩ := dget rx ry hq
      rw [e] at lk
      obtain ⟨z, rfl, sb⟩ := lk
      exact .inr ⟨a, z, hx, g, k z (.inl sb)⟩
    · cases e
  | _ => simp [opIx] at e
end
section
variable {X : Cx} {vs0 : List V} {pos : Pos} {a b : Expr} {fa fb : PM} {ea eb : EM}
theorem p_ix (hu : X.A.units + 1 < cLine) (ha : PE X a (tP (fm X vs0) fa)) (hb : PE X b (tP (fm X vs0) fb)) (hs : PlainIx b := by exact fun _ _ => rfl) : PE X (.Subscript a b pos) (tP (fm X vs0) (pOp2 opIx fa fb)) := (pe_ix (ix_all hu) ha hb hs).imp (imp_ixP r_ix)
theorem e_ix (hu : X.A.units + 1 < cLine) (ha : PE X a (tD (fm X vs0) ea)) (hb : PE X b (tD (fm X vs0) eb)) (hs : PlainIx b := by exact fun _ _ => rfl) : PE X (.Subscript a b pos) (tD (fm X vs0) (eIx opIx ea eb)) := (pe_ix (ix_all hu) ha hb hs).imp (imp_ixE r_ix)
theorem e_ixP (hu : X.A.units + 1 < cLine) (ha : PE X a (tD (fm X vs0) ea)) (hb : PE X b (tP (fm X vs0) fb)) (hs : PlainIx b := by exact fun _ _ => rfl) : PE X (.Subscript a b pos) (tD (fm X vs0) (eIxP opIx ea fb)) := (pe_ix (ix_all hu) ha hb hs).imp (imp_ixEP r_ix)
theorem e_ixV {x : Str} {p : Pos} (i : Nat) (hu : X.A.units + 1 < cLine) (hb : PE X b (tD (fm X vs0) eb)) (hs : PlainIx b := by exact fun _ _ => rfl) (hN : X.N[i]? = some x := by rfl) (hv : Vis X.env.scope x := by first | exact Or.inl rfl | exact Or.inr (Or.inl rfl) | exact Or.inr (Or.inr rfl)) (hd : (x == ("__debug__" : Str)) = false := by decide)
    (hcd : (x == ("__classdict__" : Str)) = false := by decide) : PE X (.Subscript (.Name x p) b pos) (tD (fm X vs0) (eOpV opIx i eb)) := (pe_ix (ix_all hu) (pv i hN hv hd hcd) hb hs).imp (imp_ixV r_ix)
end

/-! ### in, not in -/
def svL : List D → Option (List V)
  | [] => some []
  | d :: ds => match d.sv, svL ds with
    | some v, some vs => some (v :: vs)
    | _, _ => none
def inSeq (x : D) (ys : List D) : Option Bool := match x.sv, svL ys with
  | some a, some bs => some (inV a bs)
  | _, _ => if x.cmp = true ∧ (D.lst false ys).cmp = true then some ((pyL ys).any fun z => PyData.eqv z x.py) else none
def inB (x y : D) : Option Bool := match y with
  | .str t => match x with
    | .str s => match s.cps.toList with
      | [c] => some (decide (c ∈ t.cps.toList))
      | _ => none
    | _ => none
  | .lst _ ys => inSeq x ys
  | .tup ys => match x.sv, svL ys with
    | some a, some bs => some (inV a bs)
    | _, _ => none
  | .dic _ kd ks vs => if keyOk kd x = true then some (lookD ks vs x).isSome else none
  | _ => none
def opIn (x y : D) : Option D := match inB x y with
  | some b => some (.bl b)
  | none => none
def opNi (x y : D) : Option D := match inB x y with
  | some b => some (.bl (!b))
  | none => none
def rInSg (n : Bool) : R2 := fun x y H Q => ∃ (c : Nat) (z : Str), x = .str ⟨#[c]⟩ ∧ y = .str z ∧ Q (.bl (if n = true then !decide (c ∈ z.cps.toList) else decide (c ∈ z.cps.toList))) H
def rInDc (n : Bool) : R2 := fun y x H Q => ∃ a o, x = .ref a ∧ DGet H a y o ∧ Q (.bl (if n = true then !o.isSome else o.isSome)) H
def rInAll (K : PySem.W.Frag) : R2 := fun x y H Q => rInSg false x y H Q ∨ (rIn K false x y H Q ∨ (rInD K x y H Q ∨ rInDc false x y H Q))
def rNiAll (K : PySem.W.Frag) : R2 := fun x y H Q => rInSg true x y H Q ∨ (rIn K true x y H Q ∨ (rNotInD K x y H Q ∨ rInDc true x y H Q))
section
variable {X : Cx}
theorem op_inDc (hu : X.A.units + 1 < cLine) : OpR X (compareOp .In) (rInDc false) := by
  intro pins s σ H x y v u Q I rx ry h
  obtain ⟨a, o, rfl, g, q⟩ := h
  obtain rfl : u = Value.ref a := ry
  exact d_in hu I g rx fun s3 I3 => ⟨.bl o.isSome, H, I3, rfl, q⟩
theorem op_niDc (hu : X.A.units + 1 < cLine) : OpR X (compareOp .NotIn) (rInDc true) := by
  intro pins s σ H x y v u Q I rx ry h
  obtain ⟨a, o, rfl, g, q⟩ := h
  obtain rfl : u = Value.ref a := ry
  exact d_notIn hu I g rx fun s3 I3 => ⟨.bl (!o.isSome), H, I3, rfl, q⟩
theorem op_inAll (hu : X.A.units + 65 < cLine) : OpR X (compareOp .In) (rInAll X.K) := OpR.or op_in_sign (OpR.or op_in_seq (OpR.or (op_inD hu) (op_inDc (by omega))))
theorem op_niAll (hu : X.A.units + 65 < cLine) : OpR X (compareOp .NotIn) (rNiAll X.K) := OpR.or op_notIn_sign (OpR.or op_notIn_seq (OpR.or (op_notInD hu) (op_niDc (by omega))))
end
section
variable {K : PySem.W.Frag} {mg : MG}
theorem RpL.sv {H : Hp} : ∀ {xs : List V} {ds : List D} {ws : List V}, RpL K mg H xs ds → svL ds = some ws → xs = ws
  | _, [], ws, h, e => by cases h; simp [svL] at e; exact e.symm ▸ rfl
  | _, d :: ds, ws, h, e => by
    cases h with
    | cons o l =>
      simp only [svL] at e
      split at e
      · rename_i v vs hv hvs
        cases e
        rw [Rp.sv o hv, RpL.sv l hvs]
      · cases e
theorem sv_flat {d : D} {v : V} (h : d.sv = some v) : flatV v = true := by cases d <;> simp [D.sv] at h <;> subst h <;> rfl
theorem svL_flat : ∀ {ds : List D} {vs : List V}, svL ds = some vs → vs.all flatV = true
  | [], vs, h => by simp [svL] at h; subst h; rfl
  | d :: ds, vs, h => by
    simp only [svL] at h
    split at h
    · rename_i v ws hv hws
      cases h
      rw [List.all_cons, sv_flat hv, svL_flat hws]; rfl
    · cases h
/-- what `in` tells, either way -/
theorem in_cases {H : Hp} {x y : V} {dx dy : D} {b : Bool} (rx : Rp K mg H x dx) (ry : Rp K mg H y dy) (e : inB dx dy = some b) :
    (∃ (c : Nat) (z : Str), x = .str ⟨#[c]⟩ ∧ y = .str z ∧ b = decide (c ∈ z.cps.toList)) ∨
    (∃ p xs, y = .ref p ∧ (SqL K H p xs ∨ SqT K H p xs) ∧ flatV x = true ∧ xs.all flatV = true ∧ b = inV x xs) ∨
    (∃ d ds, Dp K H x d ∧ Dp K H y (.list ds) ∧ SeqAt.shaped d = true ∧ SeqAt.shaped (.list ds) = true ∧ b = ds.any fun z => PyData.eqv z d) ∨
    (∃ a o, y = .ref a ∧ DGet H a x o ∧ b = o.isSome) := by
  cases dy with
  | str t =>
    simp only [inB] at e
    cases dx with
    | str s =>
      simp only at e
      split at e
      · rename_i c hc
        cases e
        obtain rfl := rx.str_inv
        obtain rfl := ry.str_inv
        refine .inl ⟨c, t, ?_, rfl, rfl⟩
        have : s.cps = #[c] := by
          have := congrArg List.toArray hc
          simpa using this
        cases s
        simp only at this
        rw [this]
      · cases e
    | _ => simp at e
  | lst o ys =>
    obtain ⟨a, xs, rfl, ha, l⟩ := ry.lst_inv
    simp only [inB, inSeq] at e
    split at e
    · rename_i v ws hv hws
      cases e
      obtain rfl := rx.sv hv
      have ew := l.sv hws
      subst ew
      exact .inr (.inl ⟨a, xs, rfl, .inl (SqL.of ha), sv_flat hv, svL_flat hws, rfl⟩)
    · split at e
      · rename_i hc
        cases e
        have c1 := cmp_dp rx hc.1
        have ry' : Rp K mg H (.ref a) (.lst false ys) := .lst ha l
        have c2 := cmp_dp ry' hc.2
        rw [D.py] at c2
        exact .inr (.inr (.inl ⟨_, _, c1.1, c2.1, c1.2, c2.2, rfl⟩))
      · cases e
  | tup ys =>
    obtain ⟨a, xs, rfl, ha, l⟩ := ry.tup_inv
    simp only [inB] at e
    split at e
    · rename_i v ws hv hws
      cases e
      obtain rfl := rx.sv hv
      have ew := l.sv hws
      subst ew
      exact .inr (.inl ⟨a, xs, rfl, .inr (SqT.of ha), sv_flat hv, svL_flat hws, rfl⟩)
    · cases e
  | dic o kd ks vs =>
    simp only [inB] at e
    split at e
    · rename_i hq
      cases e
      obtain ⟨a, rr, hy, g, lk⟩ := dget ry rx hq
      refine .inr (.inr (.inr ⟨a, rr, hy, g, ?_⟩))
      cases q : lookD ks vs dx with
      | none => rw [q] at lk; rw [show rr = none from lk]; rfl
      | some d => rw [q] at lk; obtain ⟨z, rfl, _⟩ := lk; rfl
    · cases e
  | _ => simp [inB] at e
theorem r_in : R2D K mg (rInAll K) opIn := by
  intro x y H dx dy d Q rx ry e k
  unfold opIn at e
  split at e
  · rename_i b hb
    cases e
    have fin := k (.bl b) H (Same.refl H) (mk_bl _)
    rcases in_cases rx ry hb with ⟨c, z, h1, h2, rfl⟩ | ⟨p, xs, h1, h2, h3, h4, rfl⟩ | ⟨d, ds, h1, h2, h3, h4, rfl⟩ | ⟨a, o, h1, h2, rfl⟩
    · exact .inl ⟨c, z, h1, h2, fin⟩
    · exact .inr (.inl ⟨p, xs, h1, h2, h3, h4, fin⟩)
    · exact .inr (.inr (.inl ⟨d, ds, h1, h2, h3, h4, fin⟩))
    · exact .inr (.inr (.inr ⟨a, o, h1, h2, fin⟩))
  · cases e
theorem r_ni : R2D K mg (rNiAll K) opNi := by
  intro x y H dx dy d Q rx ry e k
  unfold opNi at e
  split at e
  · rename_i b hb
    cases e
    have fin := k (.bl (!b)) H (Same.refl H) (mk_bl _)
    rcases in_cases rx ry hb with ⟨c, z, h1, h2, rfl⟩ | ⟨p, xs, h1, h2, h3, h4, rfl⟩ | ⟨d, ds, h1, h2, h3, h4, rfl⟩ | ⟨a, o, h1, h2, rfl⟩
    · exact .inl ⟨c, z, h1, h2, fin⟩
    · exact .inr (.inl ⟨p, xs, h1, h2, h3, h4, fin⟩)
    · exact .inr (.inr (.inl ⟨d, ds, h1, h2, h3, h4, fin⟩))
    · exact .inr (.inr (.inr ⟨a, o, h1, h2, fin⟩))
  · cases e
end

/-! ### slices -/
def cutA {α : Type} (xs : List α) (lo hi : Option Int) : List α := (xs.drop (HT.sIx xs.length 0 lo)).take (HT.sIx xs.length xs.length hi - HT.sIx xs.length 0 lo)
def opSl (x : D) (lo hi : Option Int) : Option D := match x with
  | .lst _ xs => if immL xs = true then some (.lst true (cutA xs lo hi)) else none
  | .tup xs => if immL xs = true then some (.tup (cutA xs lo hi)) else none
  | .str s => if s.length ≤ sizeLine then some (.str (cutS s lo hi)) else none
  | _ => none
def rSlAll (K : PySem.W.Frag) : V → Option Int → Option Int → Hp → VK → Prop := fun x lo hi H Q => rSlL K x lo hi H Q ∨ (rSlA K x lo hi H Q ∨ rSlS x lo hi H Q)
theorem sl_all {X : Cx} : SlR X (rSlAll X.K) := SlR.or sl_list (SlR.or sl_tupA sl_str)
theorem immL_take : ∀ (n : Nat) (xs : List D), immL xs = true → immL (xs.take n) = true
  | 0, xs, _ => by simp [immL]
  | n + 1, [], h => by simp [immL]
  | n + 1, x :: xs, h => by
    simp only [immL, Bool.and_eq_true] at h
    simp only [List.take_succ_cons, immL, h.1, immL_take n xs h.2, Bool.and_self]
theorem immL_drop : ∀ (n : Nat) (xs : List D), immL xs = true → immL (xs.drop n) = true
  | 0, xs, h => h
  | n + 1, [], h => by simp [immL]
  | n + 1, x :: xs, h => by
    simp only [immL, Bool.and_eq_true] at h
    exact immL_drop n xs h.2
/-- a slice's part -/
def pPart : Option PM → DEnv → Option (Option Int)
  | none, _ => some none
  | some f, ρ => match f ρ with
    | some (.int i) => some (some i)
    | _ => none
def pSl (a : PM) (lo hi : Option PM) : PM := fun ρ => match a ρ, pPart lo ρ, pPart hi ρ with
  | some x, some l, some h => opSl x l h
  | _, _, _ => none
/-- .. a value of its own -/
def ePO (a : PM) : EM := fun ρ => match a ρ with
  | some d => some (d, ρ)
  | none => none
section
variable {K : PySem.W.Frag} {mg : MG}
theorem r_sl {x : V} {H : Hp} {dx d : D} {lo hi : Option Int} {Q : VK} (rx : Rp K mg H x dx) (e : opSl dx lo hi = some d) (k : ∀ z H', Same H H' → Mk K mg H H' z d → Q z H') : rSlAll K x lo hi H Q := by
  cases dx with
  | lst o xs =>
    simp only [opSl] at e
    split at e
    · rename_i hi'
      cases e
      obtain ⟨a, vs, rfl, ha, l⟩ := rx.lst_inv
      refine .inl ⟨a, vs, rfl, SqL.of ha, fun p hp => k _ _ (same_upd hp) (mk_lst ?_ ?_ hp)⟩
      · unfold cutV cutA
        rw [l.length]
        exact (l.drop _).take _
      · exact immL_take _ _ (immL_drop _ _ hi')
    · cases e
  | tup xs =>
    simp only [opSl] at e
    split at e
    · rename_i hi'
      cases e
      obtain ⟨a, vs, rfl, ha, l⟩ := rx.tup_inv
      refine .inr (.inl ⟨a, vs, rfl, SqT.of ha, fun hw => ?_, fun _ p hp => k _ _ (same_upd hp) (mk_tup ?_ ?_ hp)⟩)
      · have : cutA xs lo hi = xs := by
          unfold cutA
          rw [l.length] at hw
          rw [hw.1, hw.2]
          simp
        rw [this] at k
        exact k _ H (Same.refl H) (mk_imm rx (by simpa [D.imm] using hi'))
      · unfold cutV cutA
        rw [l.length]
        exact (l.drop _).take _
      · exact immL_take _ _ (immL_drop _ _ hi')
    · cases e
  | str s =>
    simp only [opSl] at e
    split at e
    · rename_i hz
      cases e
      obtain rfl := rx.str_inv
      exact .inr (.inr ⟨s, rfl, hz, k _ H (Same.refl H) (mk_str _)⟩)
    · cases e
  | _ => simp [opSl] at e
end
/-- the judgement of a slice's part -/
def tO (F : Fm) (f : Option PM) : TO := fun σ H Q => ∃ ρ ts o, At F σ H ρ ts ∧ pPart f ρ = some o ∧ ∀ H', Same H H' → Q o H'
section
variable {X : Cx} {vs0 : List V} {pos p2 : Pos} {F : Fm} {fa fb : PM} {flo fhi : Option PM} {a : Expr} {lo hi : Option Expr}
theorem o_none : PO X none (tO (fm X vs0) none) := ⟨fun pins s σ H Q I ⟨ρ, ts, o, at', e, k⟩ => by
  cases e
  exact po_none.run pins s σ H Q I (k H (Same.refl H))⟩
theorem o_some {e : Expr} (h : PE X e (tP (fm X vs0) fa)) : PO X (some e) (tO (fm X vs0) (some fa)) := ⟨fun pins s σ H Q I ⟨ρ, ts, o, at', e', k⟩ => by
  refine (po_some h).run pins s σ H Q I ?_
  simp only [pPart] at e'
  split at e'
  · rename_i i hi
    cases e'
    exact ⟨ρ, ts, _, at', hi, fun v H' g r _ => ⟨i, r.int_inv, k H' g⟩⟩
  · cases e'⟩
theorem p_sl (ha : PE X a (tP (fm X vs0) fa)) (hl : PO X lo (tO (fm X vs0) flo)) (hh : PO X hi (tO (fm X vs0) fhi)) : PE X (.Subscript a (.Slice lo hi none p2) pos) (tP (fm X vs0) (pSl fa flo fhi)) :=
  (pe_slice sl_all ha hl hh).imp fun σ H Q ⟨ρ, ts, d, at', e, k⟩ => by
    unfold pSl at e
    split at e
    · rename_i x l h ex el eh
      refine ⟨ρ, ts, x, at', ex, fun v H1 g1 rx _ => ⟨ρ, ts, l, at'.grow g1, el, fun H2 g2 => ⟨ρ, ts, h, (at'.grow g1).grow g2, eh, fun H3 g3 => ?_⟩⟩⟩
      exact r_sl ((rx.grow g2).grow g3) e fun z H4 g4 m => k z H4 (g1.trans (g2.trans (g3.trans g4))) (Sim.rp (m [] Sim.nil)) (Cj.of ((((at'.grow g1).grow g2).grow g3).mk' m))
    · cases e
theorem e_sl (ha : PE X a (tP (fm X vs0) fa)) (hl : PO X lo (tO (fm X vs0) flo)) (hh : PO X hi (tO (fm X vs0) fhi)) : PE X (.Subscript a (.Slice lo hi none p2) pos) (tD (fm X vs0) (ePO (pSl fa flo fhi))) :=
  (pe_slice sl_all ha hl hh).imp fun σ H Q ⟨ρ, ts, d, ρ', at', e, k⟩ => by
    unfold ePO at e
    split at e
    · rename_i d' e'
      cases e
      unfold pSl at e'
      split at e'
      · rename_i x l h ex el eh
        refine ⟨ρ, ts, x, at', ex, fun v H1 g1 rx _ => ⟨ρ, ts, l, at'.grow g1, el, fun H2 g2 => ⟨ρ, ts, h, (at'.grow g1).grow g2, eh, fun H3 g3 => ?_⟩⟩⟩
        exact r_sl ((rx.grow g2).grow g3) e' fun z H4 g4 m => k z H4 ((((at'.grow g1).grow g2).grow g3).mk' m)
      · cases e'
    · cases e
end

/-! ### displays -/
def valsA : List Arg → Option (List D)
  | [] => some []
  | .e d :: as => match valsA as with
    | some ds => some (d :: ds)
    | none => none
  | .s _ :: _ => none
  | .t _ _ _ :: _ => none
theorem argsR_vals {σ : L2.St} : ∀ {vs : List V} {as : List Arg} {tm : List Rt} {ds : List D}, ArgsR σ vs as tm → valsA as = some ds → vs.length = ds.length ∧ tm = vals vs ds
  | _, _, _, ds, .nil, h => by simp [valsA] at h; subst h; exact ⟨rfl, rfl⟩
  | _, _, _, ds, .e ar, h => by
    simp only [valsA] at h
    split at h
    · rename_i ds' h'
      cases h
      obtain ⟨h1, h2⟩ := argsR_vals ar h'
      subst h2
      exact ⟨by rw [List.length_cons, List.length_cons, h1], rfl⟩
    · cases h
  | _, _, _, ds, .s _ _, h => by simp [valsA] at h
  | _, _, _, ds, .t _ _ _, h => by simp [valsA] at h
def eTup (a : AM) : EM := fun ρ => match a ρ with
  | some (as, ρ1) => match valsA as with
    | some ds => if ds.length ≤ 1000 then some (.tup ds, ρ1) else none
    | none => none
  | none => none
def eLst (a : AM) : EM := fun ρ => match a ρ with
  | some (as, ρ1) => match valsA as with
    | some ds => if ds.length ≤ 1000 then some (.lst true ds, ρ1) else none
    | none => none
  | none => none
section
variable {X : Cx} {vs0 : List V} {pos : Pos} {F : Fm} {am : AM}
theorem At.newT {σ : L2.St} {H : Hp} {ρ : DEnv} {ts : List Rt} {xs : List V} {ds : List D} {p : Addr} (a : At F σ H ρ (vals xs ds ++ ts)) (hl : xs.length = ds.length) (hp : H p = none) : At F σ (upd H p (.tup xs)) ρ (.v (.ref p) (.tup ds) :: ts) := by
  have s : Sim F.K F.mg H (vals xs ds ++ (ts ++ slotR σ ρ)) := by have := a.front; rwa [List.append_assoc] at this
  exact a.of_front (s.newT hl hp)
theorem At.newL {σ : L2.St} {H : Hp} {ρ : DEnv} {ts : List Rt} {xs : List V} {ds : List D} {p : Addr} (a : At F σ H ρ (vals xs ds ++ ts)) (hl : xs.length = ds.length) (hp : H p = none) : At F σ (upd H p (.lst xs)) ρ (.v (.ref p) (.lst true ds) :: ts) := by
  have s : Sim F.K F.mg H (vals xs ds ++ (ts ++ slotR σ ρ)) := by have := a.front; rwa [List.append_assoc] at this
  exact a.of_front ((s.alloc (o := .lst xs) hp).foL hl)
theorem small_line {n : Nat} (h : n ≤ 1000) : n ≤ sizeLine := Nat.le_trans h (by rw [sizeLine_eq]; decide)
theorem e_tup {es : List Expr} {x1} (h : PA X es (tA (fm X vs0) am)) : PE X (.Tuple es x1 pos) (tD (fm X vs0) (eTup am)) := (pe_tup h).imp fun σ H Q ⟨ρ, ts, d, ρ', a, e, k⟩ => by
  unfold eTup at e
  split at e
  · rename_i as ρ1 ha
    split at e
    · rename_i ds hv
      split at e
      · rename_i hz
        cases e
        refine ⟨ρ, ts, as, _, a, ha, fun vs H1 tm ar a1 => ?_⟩
        obtain ⟨h1, rfl⟩ := argsR_vals ar hv
        exact ⟨by rw [h1]; exact small_line hz, fun p hp => k _ _ (a1.newT h1 hp)⟩
      · cases e
    · cases e
  · cases e
theorem e_lst {es : List Expr} (h : PA X es (tA (fm X vs0) am)) : PE X (.List es pos) (tD (fm X vs0) (eLst am)) := (pe_lst h).imp fun σ H Q ⟨ρ, ts, d, ρ', a, e, k⟩ => by
  unfold eLst at e
  split at e
  · rename_i as ρ1 ha
    split at e
    · rename_i ds hv
      split at e
      · rename_i hz
        cases e
        refine ⟨ρ, ts, as, _, a, ha, fun vs H1 tm ar a1 => ?_⟩
        obtain ⟨h1, rfl⟩ := argsR_vals ar hv
        exact ⟨by rw [h1]; exact small_line hz, fun p hp => k _ _ (a1.newL h1 hp)⟩
      · cases e
    · cases e
  · cases e
/-- {} -/
def eDicN (kd : Kd) : EM := fun ρ => some (.dic true kd [] [], ρ)
theorem e_dicK : PE X (.Dict [] [] pos) (tD (fm X vs0) (eDicN .k)) := pe_dnewK.imp fun σ H Q ⟨ρ, ts, d, ρ', a, e, k⟩ p hp => by
  cases e
  exact k _ _ (a.of_front ((a.front.alloc (o := .dK []) hp).foDk (kvs := []) (ds := []) rfl rfl))
end
end Dl

set_option Elab.async false
set_option linter.all false
set_option maxRecDepth 100000
set_option maxHeartbeats 1000000
/-! DL5: targets, for, while, comprehensions, stores into lists and dicts. -/
namespace Dl
open PySem PySem.Spec PyProof.Rows L2

/-! ### targets of several names -/
section
variable {X : Cx} {vs0 : List V} {W : WX} {pos : Pos} {F : Fm}
def gNs : List Nat → TGs
  | [] => gNil
  | i :: is => gCons (gName i) (gNs is)
def setV : L2.St → List Nat → List V → L2.St
  | σ, i :: is, x :: xs => setV (σ.set i (some x)) is xs
  | σ, _, _ => σ
theorem gNs_ok : ∀ {is : List Nat} {xs : List V} {σ : L2.St} {H : Hp} {Q : L2.St → Hp → Prop}, xs.length = is.length → Q (setV σ is xs) H → gNs is xs σ H Q
  | [], [], σ, H, Q, _, q => ⟨rfl, q⟩
  | i :: is, x :: xs, σ, H, Q, h, q => ⟨x, xs, rfl, gNs_ok (is := is) (xs := xs) (by simpa using h) q⟩
  | [], _ :: _, _, _, _, h, _ => by cases h
  | _ :: _, [], _, _, _, h, _ => by cases h
theorem At.stores : ∀ {is : List Nat} {xs : List V} {ds : List D} {σ : L2.St} {H : Hp} {ρ ρ' : DEnv} {ts : List Rt}, gT is ds ρ = some ρ' → xs.length = ds.length → (∀ i ∈ is, F.vs0.length ≤ i ∧ i < F.n) → At F σ H ρ (vals xs ds ++ ts) → xs.length = is.length ∧ At F (setV σ is xs) H ρ' ts
  | [], [], [], σ, H, ρ, ρ', ts, h, hl, hi, a => by simp only [gT] at h; cases h; exact ⟨rfl, a⟩
  | [], x :: xs, d :: ds, σ, H, ρ, ρ', ts, h, hl, hi, a => by simp [gT] at h
  | i :: is, [], [], σ, H, ρ, ρ', ts, h, hl, hi, a => by simp [gT] at h
  | i :: is, x :: xs, d :: ds, σ, H, ρ, ρ', ts, h, hl, hi, a => by
    simp only [gT] at h
    have hi0 := hi i List.mem_cons_self
    have a1 : At F σ H ρ (.v x d :: (vals xs ds ++ ts)) := a
    obtain ⟨h1, h2⟩ := At.stores h (by simpa using hl) (fun j hj => hi j (List.mem_cons_of_mem _ hj)) (a1.store hi0.1 hi0.2)
    exact ⟨by rw [List.length_cons, List.length_cons, h1], h2⟩
  | _, [], _ :: _, _, _, _, _, _, _, hl, _, _ => by cases hl
  | _, _ :: _, [], _, _, _, _, _, _, hl, _, _ => by cases hl
theorem imp_gTu {is : List Nat} (hi : ∀ i ∈ is, F.vs0.length ≤ i ∧ i < F.n) : ∀ v σ H Q, tG F (gTu is) v σ H Q → gTup F.K is.length (gNs is) v σ H Q := fun v σ H Q ⟨ρ, ts, d, ρ', a, q, k⟩ => by
  unfold gTu at q
  split at q
  · rename_i ds
    have s := a.front
    obtain ⟨b, xs, rfl, hl, hb, s'⟩ := Sim.unT s
    have a1 : At F σ H ρ (vals xs ds ++ ts) := a.of_front (by rw [List.append_assoc]; exact s')
    obtain ⟨h1, h2⟩ := At.stores q hl hi a1
    exact ⟨b, xs, rfl, SqT.of hb, h1, gNs_ok h1 (k _ H h2)⟩
  · cases q
theorem g_tup {es : List Expr} {kk : Nat} (is : List Nat) (hi : ∀ i ∈ is, vs0.length ≤ i ∧ i < X.N.length) (hc : X.calm = true) (h : PGs X es (gNs is)) (hn : (assignEach es X.env).length = is.length := by rfl) (hst : (assignEach es X.env).findIdx? (·.1) = none := by rfl) :
    PG X (.Tuple es kk pos) (tG (fm X vs0) (gTu is)) := (pg_tup hc h hn hst).imp (imp_gTu (F := fm X vs0) hi)
theorem gs_nil : PGs X [] (gNs []) := pgs_nil
theorem gs_cons {x : Str} {es : List Expr} {is : List Nat} (i : Nat) (hN : X.N.Nodup) (h2 : PGs X es (gNs is)) (hi : X.N[i]? = some x := by rfl) (hx : Loc X.env.scope x := by first | exact Or.inl rfl | exact Or.inr rfl) (hf : X.fn x = true ∨ X.env.scope.names.lookup x = some .local := by first | exact .inl rfl | exact .inr rfl | assumption)
    (hs : (assignEach (.Name x pos :: es) X.env).map (·.2) = assign (.Name x pos) X.env :: (assignEach es X.env).map (·.2) := by rfl) : PGs X (.Name x pos :: es) (gNs (i :: is)) := pgs_cons (pg_name hN hi hx hf) h2 hs
theorem s_asg {tg ex : Expr} {e : EM} {g : GM} (he : PE X ex (tD (fm X vs0) e)) (hg : PG X tg (tG (fm X vs0) g)) (hs : swapsWithSole [tg] ex pos.line X.env = pure false := by rfl) (hw : swappedStores [tg] ex X.env = pure none := by rfl)
    (h1 : (assignEach [tg] X.env).map (·.2) = [assign tg X.env] := by rfl) : PS X (.Assign [tg] ex pos) (tS (fmW X vs0 W) (sAsg e g)) := (ps_asg he hg hs hw h1).imp imp_asg
end

/-! ### loops over data -/
def forL (g : GM) (body : SM) : List D → DEnv → Option (Fl × DEnv)
  | [], ρ => some (.nx, ρ)
  | d :: ds, ρ => match g d ρ with
    | some ρ1 => match body ρ1 with
      | some (.nx, ρ2) => forL g body ds ρ2
      | some (.ct, ρ2) => forL g body ds ρ2
      | some (.bk, ρ2) => some (.nx, ρ2)
      | some (.rt d, ρ2) => some (.rt d, ρ2)
      | some (.xc x, ρ2) => some (.xc x, ρ2)
      | none => none
    | none => none
def itemsD : D → Option (List D)
  | .lst _ xs => some xs
  | .tup xs => some xs
  | _ => none
/-- for .. in a list or tuple, which is frozen -/
def sFor (it : EM) (g : GM) (body : SM) : SM := fun ρ => match it ρ with
  | some (d, ρ1) => match itemsD d.frz with
    | some ds => forL g body ds ρ1
    | none => none
  | none => none
def rangeD (lo : Int) (n : Nat) : List D := (List.range n).map fun (k : Nat) => D.int (lo + (k : Int))
def okR (i : Int) : Bool := lg 60 i
def sForR1 (it : EM) (g : GM) (body : SM) : SM := fun ρ => match it ρ with
  | some (.int j, ρ1) => if okR j = true then forL g body (rangeD 0 j.toNat) ρ1 else none
  | _ => none
def sForR2 (a b : EM) (g : GM) (body : SM) : SM := fun ρ => match a ρ with
  | some (.int i, ρ1) => match b ρ1 with
    | some (.int j, ρ2) => if okR i = true ∧ okR j = true then forL g body (rangeD i (j - i).toNat) ρ2 else none
    | _ => none
  | _ => none

section
variable {X : Cx} {tg : Expr}
/-- a list or a tuple walked -/
def iSeq (K : PySem.W.Frag) (tl : TE) : TI := fun σ H R => tl σ H fun x H1 => ∃ a, x = .ref a ∧ (((∃ xs, SqL K H1 a xs) ∧ R (Itl K a) H1) ∨ ((∃ xs, SqT K H1 a xs) ∧ R (Itt K a) H1))
theorem pi_seq {l : Expr} {tl : TE} (hl : PE X l tl) : PI X tg l (iSeq X.K tl) := by
  refine ⟨fun pins s σ H R I h => ?_⟩
  refine thn (hl.run pins s σ H _ I h) fun v s1 ⟨x, H1, I1, r1, q1⟩ => ?_
  obtain ⟨a, e, q1⟩ := q1
  subst e
  cases r1
  rcases q1 with ⟨⟨xs, hq⟩, q⟩ | ⟨⟨xs, hq⟩, q⟩
  · obtain ⟨its, rv, p, hz⟩ := I1.list hq
    refine wpAny_pyIter_list p.isList ?_
    refine ⟨s1.heap.objs.size, [s1.heap.objs.size], _, _, H1, rfl, I1.kept (t' := s1.toks) fun b o e => Heap.get?_push_of_some _ e, turn_list a _, ⟨_, Heap.get?_push_size _ rfl, rfl, rfl⟩, fun b hb => ?_, q⟩
    have e : b = s1.heap.objs.size := by simpa using hb
    subst e
    exact I1.fpOk (Nat.le_refl _) (I1.hok.fresh (Nat.le_refl _))
  · obtain ⟨its, rv, p, hz⟩ := I1.tuple hq
    refine wpAny_pyIter_tuple (show s1.heap.IsTuple a its.toArray from p) ?_
    refine ⟨s1.heap.objs.size, [s1.heap.objs.size], _, _, H1, rfl, I1.kept (t' := s1.toks) fun b o e => Heap.get?_push_of_some _ e, turn_tuple a _, ⟨_, Heap.get?_push_size _ rfl, rfl, rfl⟩, fun b hb => ?_, q⟩
    have e : b = s1.heap.objs.size := by simpa using hb
    subst e
    exact I1.fpOk (Nat.le_refl _) (I1.hok.fresh (Nat.le_refl _))
end
section
variable {F : Fm} {g : GM} {body : SM} {gt : TG}
theorem At.drop2 {σ : L2.St} {H : Hp} {ρ : DEnv} {ts : List Rt} {r q : Rt} (a : At F σ H ρ (r :: q :: ts)) : At F σ H ρ (r :: ts) := (a.perm (.swap _ _ _)).tail
theorem forL_one {d : D} {ds : List D} {ρ : DEnv} {fl : Fl} {ρ' : DEnv} (h : forL g body (d :: ds) ρ = some (fl, ρ')) : ∃ ρ1 fl2 ρ2, g d ρ = some ρ1 ∧ body ρ1 = some (fl2, ρ2) ∧
    (match fl2 with | .nx => forL g body ds ρ2 = some (fl, ρ') | .ct => forL g body ds ρ2 = some (fl, ρ') | .bk => fl = .nx ∧ ρ' = ρ2 | .rt d => fl = .rt d ∧ ρ' = ρ2 | .xc x => fl = .xc x ∧ ρ' = ρ2) := by
  simp only [forL] at h
  split at h
  · rename_i ρ1 hg
    split at h
    · rename_i ρ2 hb; exact ⟨ρ1, _, ρ2, hg, hb, h⟩
    · rename_i ρ2 hb; exact ⟨ρ1, _, ρ2, hg, hb, h⟩
    · rename_i ρ2 hb; cases h; exact ⟨ρ1, _, _, hg, hb, rfl, rfl⟩
    · rename_i d' ρ2 hb; cases h; exact ⟨ρ1, _, _, hg, hb, rfl, rfl⟩
    · rename_i d' ρ2 hb; cases h; exact ⟨ρ1, _, _, hg, hb, rfl, rfl⟩
    · cases h
  · cases h
/-- a turn, over an item that is a root -/
theorem for_turn {D' : Ends} {σ : L2.St} {H : Hp} {ρ : DEnv} {x : V} {d : D} {ds : List D} {ts : List Rt} {fl : Fl} {ρ' : DEnv} {Pv : L2.St → Hp → Prop} (hg : ∀ v σ H Q, tG F g v σ H Q → gt v σ H Q) (h : forL g body (d :: ds) ρ = some (fl, ρ')) (a : At F σ H ρ (.v x d :: ts)) (k : Fin F ts D' fl ρ')
    (hp : ∀ σ H ρ, At F σ H ρ ts → forL g body ds ρ = some (fl, ρ') → Pv σ H) : gt x σ H fun σ2 H2 => tS F body { D' with nx := Pv, ct := Pv, bk := D'.nx } σ2 H2 := by
  obtain ⟨ρ1, fl2, ρ2, h1, h2, h3⟩ := forL_one h
  refine hg x σ H _ ⟨ρ, ts, d, ρ1, a, h1, fun σ' H' a' => ⟨ρ1, ts, fl2, ρ2, a', h2, ?_⟩⟩
  cases fl2 with
  | nx => exact fun σ3 H3 a3 => hp σ3 H3 _ a3 h3
  | ct => exact fun σ3 H3 a3 => hp σ3 H3 _ a3 h3
  | bk => obtain ⟨rfl, rfl⟩ := h3; exact fun σ3 H3 a3 => k σ3 H3 a3
  | rt d' => obtain ⟨rfl, rfl⟩ := h3; exact fun v σ3 H3 a3 => k v σ3 H3 a3
  | xc x => obtain ⟨rfl, rfl⟩ := h3; exact fun cls d σ3 H3 a3 => k cls d σ3 H3 a3
theorem fin_drop {D' : Ends} {r : Rt} {ts : List Rt} {fl : Fl} {ρ' : DEnv} (k : Fin F ts D' fl ρ') : Fin F (r :: ts) D' fl ρ' := by
  cases fl with
  | nx => exact fun σ H a => k σ H a.tail
  | bk => exact fun σ H a => k σ H a.tail
  | ct => exact fun σ H a => k σ H a.tail
  | rt d => exact fun v σ H a => k v σ H a.drop2
  | xc x => exact fun cls d σ H a => k cls d σ H a.tail
/-- any walk of n turns -/
theorem for_any {J : It} {n : Nat} {gt : TG} {tb : TS} {D' : Ends} {σ : L2.St} {H : Hp} (Pv : Nat → L2.St → Hp → Prop) (h0 : Pv 0 σ H) (hgo : ∀ i σ H, i < n → Pv i σ H → J.go i H) (hst : ∀ σ H, Pv n σ H → J.stop n H)
    (hs : ∀ i x σ H H', i < n → Pv i σ H → J.yld i H x H' → gt x σ H' fun σ2 H2 => tb { D' with nx := Pv (i + 1), ct := Pv (i + 1), bk := D'.nx } σ2 H2) (hd : ∀ σ H, Pv n σ H → D'.nx σ H) :
    ∃ W : Nat → Nat → L2.St → Hp → Prop, (∃ m, W 0 m σ H) ∧ ∀ i m σ H, W i m σ H →
      (J.stop i H ∧ D'.nx σ H) ∨ (J.go i H ∧ ∃ N : L2.St → Hp → Prop, (∀ σ' H', N σ' H' → ∃ m', m' < m ∧ W (i + 1) m' σ' H') ∧ ∀ x H', J.yld i H x H' → gt x σ H' fun σ2 H2 => tb { D' with nx := N, ct := N, bk := D'.nx } σ2 H2) := by
  refine ⟨fun i m σ H => m = n - i ∧ i ≤ n ∧ Pv i σ H, ⟨n, by simp, Nat.zero_le _, h0⟩, ?_⟩
  rintro i m σ H ⟨rfl, hi, p⟩
  by_cases hlt : i < n
  · exact .inr ⟨hgo i σ H hlt p, Pv (i + 1), fun σ' H' p' => ⟨n - (i + 1), by omega, rfl, hlt, p'⟩, fun x H' y => hs i x σ H H' hlt p y⟩
  · have e : i = n := by omega
    subst e
    exact .inl ⟨hst σ H p, hd σ H p⟩
/-- what a stable list or tuple yields -/
theorem seq_root {σ : L2.St} {H : Hp} {ρ : DEnv} {ts : List Rt} {v : V} {e : D} {ds : List D} (hd : itemsD e = some ds) (a : At F σ H ρ (.v v e :: ts)) :
    ∃ a0 vs, v = .ref a0 ∧ vs.length = ds.length ∧ ((H a0 = some (.lst vs) ∧ ∃ o, e = .lst o ds) ∨ (H a0 = some (.tup vs) ∧ e = .tup ds)) := by
  have r := (a.front).rp
  cases e with
  | lst o xs =>
    simp only [itemsD, Option.some.injEq] at hd
    subst hd
    obtain ⟨a0, vs, rfl, ha, l⟩ := r.lst_inv
    exact ⟨a0, vs, rfl, l.length, .inl ⟨ha, o, rfl⟩⟩
  | tup xs =>
    simp only [itemsD, Option.some.injEq] at hd
    subst hd
    obtain ⟨a0, vs, rfl, ha, l⟩ := r.tup_inv
    exact ⟨a0, vs, rfl, l.length, .inr ⟨ha, rfl⟩⟩
  | _ => simp [itemsD] at hd
theorem items_stable {e : D} {ds : List D} (hd : itemsD e = some ds) (hst : e.stable = true) : ∀ d ∈ ds, d.stable = true := by
  cases e with
  | lst o xs =>
    simp only [itemsD, Option.some.injEq] at hd
    subst hd
    simp only [D.stable, Bool.and_eq_true] at hst
    rw [stableL_all] at hst
    exact List.all_eq_true.mp hst.2
  | tup xs =>
    simp only [itemsD, Option.some.injEq] at hd
    subst hd
    simp only [D.stable] at hst
    rw [stableL_all] at hst
    exact List.all_eq_true.mp hst
  | _ => simp [itemsD] at hd
theorem At.item {σ : L2.St} {H : Hp} {ρ : DEnv} {ts : List Rt} {v z : V} {e dz : D} (b : At F σ H ρ (.v v e :: ts)) (sb : Sub H v e z dz) (hs : dz.stable = true) : At F σ H ρ (.v z dz :: .v v e :: ts) := b.of_front (by have := b.front; exact this.sub sb hs)
/-- the item that a walked list or tuple yields is a root -/
theorem yld_l {σ : L2.St} {H H' : Hp} {ρ : DEnv} {ts : List Rt} {a0 : Addr} {e : D} {ds : List D} {i : Nat} {x : V} (hd : itemsD e = some ds) (hst : e.stable = true) (a : At F σ H ρ (.v (.ref a0) e :: ts)) (hi : i < ds.length) (hl : ∃ o, e = .lst o ds) (y : (Itl F.K a0).yld i H x H') :
    H' = H ∧ At F σ H ρ (.v x ds[i] :: .v (.ref a0) e :: ts) := by
  obtain ⟨e1, e2⟩ := y
  obtain ⟨o, rfl⟩ := hl
  obtain ⟨b, vs, e0, hv, l⟩ := Rp.lst_inv ((a.front).rp)
  cases e0
  exact ⟨e1, a.item (.lst hv (e2 vs (SqL.of hv)) (List.getElem?_eq_getElem hi) (.refl _ _)) (items_stable hd hst _ (List.getElem_mem hi))⟩
theorem yld_t {σ : L2.St} {H H' : Hp} {ρ : DEnv} {ts : List Rt} {a0 : Addr} {e : D} {ds : List D} {i : Nat} {x : V} (hd : itemsD e = some ds) (hst : e.stable = true) (a : At F σ H ρ (.v (.ref a0) e :: ts)) (hi : i < ds.length) (hl : e = .tup ds) (y : (Itt F.K a0).yld i H x H') :
    H' = H ∧ At F σ H ρ (.v x ds[i] :: .v (.ref a0) e :: ts) := by
  obtain ⟨e1, e2⟩ := y
  subst hl
  obtain ⟨b, vs, e0, hv, l⟩ := Rp.tup_inv ((a.front).rp)
  cases e0
  exact ⟨e1, a.item (.tup hv (e2 vs (SqT.of hv)) (List.getElem?_eq_getElem hi) (.refl _ _)) (items_stable hd hst _ (List.getElem_mem hi))⟩
theorem go_l {σ : L2.St} {H : Hp} {ρ : DEnv} {ts : List Rt} {a0 : Addr} {e : D} {ds : List D} (a : At F σ H ρ (.v (.ref a0) e :: ts)) (hl : ∃ o, e = .lst o ds) : (∀ i, i < ds.length → (Itl F.K a0).go i H) ∧ (Itl F.K a0).stop ds.length H := by
  obtain ⟨o, rfl⟩ := hl
  obtain ⟨b, vs, e0, hv, l⟩ := Rp.lst_inv ((a.front).rp)
  cases e0
  exact ⟨fun i hi => ⟨vs, vs[i]'(by rw [l.length]; exact hi), SqL.of hv, List.getElem?_eq_getElem _⟩, ⟨vs, SqL.of hv, by rw [l.length]; exact Nat.le_refl _⟩⟩
theorem go_t {σ : L2.St} {H : Hp} {ρ : DEnv} {ts : List Rt} {a0 : Addr} {e : D} {ds : List D} (a : At F σ H ρ (.v (.ref a0) e :: ts)) (hl : e = .tup ds) : (∀ i, i < ds.length → (Itt F.K a0).go i H) ∧ (Itt F.K a0).stop ds.length H := by
  subst hl
  obtain ⟨b, vs, e0, hv, l⟩ := Rp.tup_inv ((a.front).rp)
  cases e0
  exact ⟨fun i hi => ⟨vs, vs[i]'(by rw [l.length]; exact hi), SqT.of hv, List.getElem?_eq_getElem _⟩, ⟨vs, SqT.of hv, by rw [l.length]; exact Nat.le_refl _⟩⟩
theorem forL_nil {ρ ρ' : DEnv} {fl : Fl} (h : forL g body [] ρ = some (fl, ρ')) : fl = .nx ∧ ρ' = ρ := by simp only [forL] at h; cases h; exact ⟨rfl, rfl⟩
theorem imp_for {it : EM} (hg : ∀ v σ H Q, tG F g v σ H Q → gt v σ H Q) : ∀ D' σ H, tS F (sFor it g body) D' σ H → tFor (iSeq F.K (tD F it)) gt (tS F body) D' σ H := fun D' σ H ⟨ρ, ts, fl, ρ', a, q, k⟩ => by
  unfold sFor at q
  split at q
  · rename_i d ρ1 he
    split at q
    · rename_i ds hd
      refine ⟨ρ, ts, d, ρ1, a, he, fun v H1 a1 => ?_⟩
      have a2 : At F σ H1 ρ1 (.v v d.frz :: ts) := a1.of_front (by have := a1.front; exact this.frz)
      have hst := D.stable_frz d
      generalize d.frz = e at hd a2 hst
      have kk := fin_drop (r := .v v e) k
      obtain ⟨a0, vs, rfl, hl, hk⟩ := seq_root hd a2
      have fin : ∀ σ H, (∃ ρ, At F σ H ρ (.v (.ref a0) e :: ts) ∧ forL g body (ds.drop ds.length) ρ = some (fl, ρ')) → D'.nx σ H := fun σ H ⟨ρ2, b, hf⟩ => by
        rw [List.drop_length] at hf
        obtain ⟨rfl, rfl⟩ := forL_nil hf
        exact kk σ H b
      refine ⟨a0, rfl, ?_⟩
      rcases hk with ⟨hv, hk⟩ | ⟨hv, hk⟩
      · refine .inl ⟨⟨vs, SqL.of hv⟩, for_any (n := ds.length) (fun i σ H => ∃ ρ, At F σ H ρ (.v (.ref a0) e :: ts) ∧ forL g body (ds.drop i) ρ = some (fl, ρ')) ⟨ρ1, a2, q⟩ (fun i σ H hi ⟨_, b, _⟩ => (go_l b hk).1 i hi) (fun σ H ⟨_, b, _⟩ => (go_l b hk).2) ?_ fin⟩
        rintro i x σ H H' hi ⟨ρ2, b, hf⟩ y
        obtain ⟨rfl, b1⟩ := yld_l hd hst b hi hk y
        rw [List.drop_eq_getElem_cons hi] at hf
        exact for_turn hg hf b1 kk fun σ' H' ρ3 b3 hf3 => ⟨ρ3, b3, hf3⟩
      · refine .inr ⟨⟨vs, SqT.of hv⟩, for_any (n := ds.length) (fun i σ H => ∃ ρ, At F σ H ρ (.v (.ref a0) e :: ts) ∧ forL g body (ds.drop i) ρ = some (fl, ρ')) ⟨ρ1, a2, q⟩ (fun i σ H hi ⟨_, b, _⟩ => (go_t b hk).1 i hi) (fun σ H ⟨_, b, _⟩ => (go_t b hk).2) ?_ fin⟩
        rintro i x σ H H' hi ⟨ρ2, b, hf⟩ y
        obtain ⟨rfl, b1⟩ := yld_t hd hst b hi hk y
        rw [List.drop_eq_getElem_cons hi] at hf
        exact for_turn hg hf b1 kk fun σ' H' ρ3 b3 hf3 => ⟨ρ3, b3, hf3⟩
    · cases q
  · cases q
theorem rangeD_len (lo : Int) (n : Nat) : (rangeD lo n).length = n := by simp [rangeD]
theorem rangeD_get (lo : Int) (n i : Nat) (h : i < (rangeD lo n).length) : (rangeD lo n)[i] = .int (lo + (i : Int)) := by simp [rangeD]
/-- the turns over a range -/
theorem range_turns {D' : Ends} {σ : L2.St} {H : Hp} {ρ : DEnv} {ts : List Rt} {fl : Fl} {ρ' : DEnv} {lo : Int} {n : Nat} (hg : ∀ v σ H Q, tG F g v σ H Q → gt v σ H Q) (a : At F σ H ρ ts) (q : forL g body (rangeD lo n) ρ = some (fl, ρ')) (k : Fin F ts D' fl ρ') :
    ∃ W : Nat → Nat → L2.St → Hp → Prop, (∃ m, W 0 m σ H) ∧ ∀ i m σ H, W i m σ H →
      ((Itr lo n).stop i H ∧ D'.nx σ H) ∨ ((Itr lo n).go i H ∧ ∃ N : L2.St → Hp → Prop, (∀ σ' H', N σ' H' → ∃ m', m' < m ∧ W (i + 1) m' σ' H') ∧ ∀ x H', (Itr lo n).yld i H x H' → gt x σ H' fun σ2 H2 => tS F body { D' with nx := N, ct := N, bk := D'.nx } σ2 H2) := by
  refine for_any (n := n) (fun i σ H => ∃ ρ, At F σ H ρ ts ∧ forL g body ((rangeD lo n).drop i) ρ = some (fl, ρ')) ⟨ρ, a, q⟩ (fun i σ H hi _ => hi) (fun σ H _ => Nat.le_refl n) ?_ ?_
  · rintro i x σ H H' hi ⟨ρ2, b, hf⟩ ⟨rfl, rfl⟩
    have hi' : i < (rangeD lo n).length := by rw [rangeD_len]; exact hi
    rw [List.drop_eq_getElem_cons hi', rangeD_get lo n i hi'] at hf
    exact for_turn hg hf (b.mk' (mk_int _)) k fun σ' H' ρ3 b3 hf3 => ⟨ρ3, b3, hf3⟩
  · rintro σ H ⟨ρ2, b, hf⟩
    rw [List.drop_of_length_le (by rw [rangeD_len]; exact Nat.le_refl _)] at hf
    obtain ⟨rfl, rfl⟩ := forL_nil hf
    exact k σ H b
theorem okR_of {i : Int} (h : okR i = true) : -(2 ^ 62) ≤ i ∧ i < 2 ^ 62 := by have := lg60 h; omega
theorem imp_for1 {it : EM} (hg : ∀ v σ H Q, tG F g v σ H Q → gt v σ H Q) : ∀ D' σ H, tS F (sForR1 it g body) D' σ H → tFor (iRng1 (tCons (tD F it) tNil)) gt (tS F body) D' σ H := fun D' σ H ⟨ρ, ts, fl, ρ', a, q, k⟩ => by
  unfold sForR1 at q
  split at q
  · rename_i j ρ1 he
    split at q
    · rename_i hj
      refine ⟨ρ, ts, _, ρ1, a, he, fun v H1 a1 => ⟨j, ?_, (okR_of hj).1, (okR_of hj).2, range_turns hg a1.tail q k⟩⟩
      rw [Rp.int_inv ((a1.front).rp)]
    · cases q
  · cases q
theorem imp_for2 {ea eb : EM} (hg : ∀ v σ H Q, tG F g v σ H Q → gt v σ H Q) : ∀ D' σ H, tS F (sForR2 ea eb g body) D' σ H → tFor (iRng2 (tCons (tD F ea) (tCons (tD F eb) tNil))) gt (tS F body) D' σ H := fun D' σ H ⟨ρ, ts, fl, ρ', a, q, k⟩ => by
  unfold sForR2 at q
  split at q
  · rename_i i ρ1 he
    split at q
    · rename_i j ρ2 he2
      split at q
      · rename_i hj
        refine ⟨ρ, ts, _, ρ1, a, he, fun v H1 a1 => ⟨ρ1, _, _, ρ2, a1, he2, fun w H2 a2 => ?_⟩⟩
        have s2 : Sim F.K F.mg H2 (.v w (.int j) :: .v v (.int i) :: (ts ++ slotR σ ρ2)) := a2.front
        refine ⟨i, j, ?_, ⟨(okR_of hj.1).1, (okR_of hj.1).2, (okR_of hj.2).1, (okR_of hj.2).2⟩, range_turns hg (a2.of_front s2.tail.tail) q k⟩
        rw [Rp.int_inv s2.rp, Rp.int_inv s2.tail.rp]
      · cases q
    · cases q
  · cases q
end
section
variable {X : Cx} {vs0 : List V} {W : WX} {pos : Pos} {g : GM} {body : SM} {tg : Expr} {bs : List Stmt}
theorem s_for {l : Expr} {it : EM} (hc : X.calm = true) (hp : PassesOwn (model X.prog X.w) X.A X.env X.xe) (hl : PE X l (tD (fm X vs0) it)) (hg : PG X tg (tG (fm X vs0) g)) (hb : PSs X bs (tS (fmW X vs0 W) body)) (hs : ∀ x, foldedSetIterable l X.env x = pure x := by intro _; rfl) :
    PS X (.For tg l bs [] pos) (tS (fmW X vs0 W) (sFor it g body)) := (ps_for hp hc (pi_seq hl) hg hb hs).imp (imp_for fun _ _ _ _ h => h)
theorem s_for1 {a : Expr} {p pos' : Pos} {it : EM} (hc : X.calm = true) (hp : PassesOwn (model X.prog X.w) X.A X.env X.xe) (hm : X.mg "range" = none) (ha : PE X a (tD (fm X vs0) it)) (hg : PG X tg (tG (fm X vs0) g)) (hb : PSs X bs (tS (fmW X vs0 W) body)) (hgl : Gl X "range" := by rfl)
    (hs : starEach [a] X.env = [(false, eval a X.env)] := by rfl) (hf : ∀ x, foldedSetIterable (.Call (.Name "range" p) [a] [] pos') X.env x = pure x := by intro _; rfl) : PS X (.For tg (.Call (.Name "range" p) [a] [] pos') bs [] pos) (tS (fmW X vs0 W) (sForR1 it g body)) :=
  (ps_for hp hc (pi_range1 hgl hm (pa_cons ha pa_nil (by rw [hs]; rfl)) hs) hg hb hf).imp (imp_for1 fun _ _ _ _ h => h)
theorem s_for2 {a b : Expr} {p pos' : Pos} {ea eb : EM} (hc : X.calm = true) (hp : PassesOwn (model X.prog X.w) X.A X.env X.xe) (hm : X.mg "range" = none) (ha : PE X a (tD (fm X vs0) ea)) (hb' : PE X b (tD (fm X vs0) eb)) (hg : PG X tg (tG (fm X vs0) g)) (hb : PSs X bs (tS (fmW X vs0 W) body)) (hgl : Gl X "range" := by rfl)
    (hs : starEach [a, b] X.env = [(false, eval a X.env), (false, eval b X.env)] := by rfl) (hs2 : starEach [b] X.env = [(false, eval b X.env)] := by rfl) (hf : ∀ x, foldedSetIterable (.Call (.Name "range" p) [a, b] [] pos') X.env x = pure x := by intro _; rfl) :
    PS X (.For tg (.Call (.Name "range" p) [a, b] [] pos') bs [] pos) (tS (fmW X vs0 W) (sForR2 ea eb g body)) :=
  (ps_for hp hc (pi_range2 hgl hm (pa_cons ha (pa_cons hb' pa_nil (by rw [hs2]; rfl)) (by rw [hs, hs2])) hs hs2) hg hb hf).imp (imp_for2 fun _ _ _ _ h => h)
end

/-! ### while -/
def whileN (c : BM) (body : SM) : Nat → DEnv → Option (Fl × DEnv)
  | 0, _ => none
  | n + 1, ρ => match c ρ with
    | some (true, ρ1) => match body ρ1 with
      | some (.nx, ρ2) => whileN c body n ρ2
      | some (.ct, ρ2) => whileN c body n ρ2
      | some (.bk, ρ2) => some (.nx, ρ2)
      | some (.rt d, ρ2) => some (.rt d, ρ2)
      | some (.xc x, ρ2) => some (.xc x, ρ2)
      | none => none
    | some (false, ρ1) => some (.nx, ρ1)
    | none => none
theorem whileN_mono {c : BM} {body : SM} : ∀ {n m : Nat} {ρ : DEnv} {r : Fl × DEnv}, n ≤ m → whileN c body n ρ = some r → whileN c body m ρ = some r
  | 0, _, _, _, _, h => by simp [whileN] at h
  | n + 1, 0, _, _, hl, _ => by omega
  | n + 1, m + 1, ρ, r, hl, h => by
    simp only [whileN] at h ⊢
    cases hc : c ρ with
    | none => rw [hc] at h; cases h
    | some p =>
      obtain ⟨b, ρ1⟩ := p
      rw [hc] at h
      cases b with
      | false => exact h
      | true =>
        simp only at h ⊢
        cases hb : body ρ1 with
        | none => rw [hb] at h; cases h
        | some p2 =>
          obtain ⟨f2, ρ2⟩ := p2
          rw [hb] at h
          cases f2 with
          | nx => exact whileN_mono (by omega) h
          | ct => exact whileN_mono (by omega) h
          | bk => exact h
          | rt d => exact h
          | xc d => exact h
open Classical in
noncomputable def sWhile (c : BM) (body : SM) : SM := fun ρ => if h : ∃ r n, whileN c body n ρ = some r then some (Classical.choose h) else none
theorem sWhile_of {c : BM} {body : SM} {n : Nat} {ρ : DEnv} {r : Fl × DEnv} (h : whileN c body n ρ = some r) : sWhile c body ρ = some r := by
  have ex : ∃ r n, whileN c body n ρ = some r := ⟨r, n, h⟩
  unfold sWhile
  rw [dif_pos ex]
  obtain ⟨m, hm⟩ := Classical.choose_spec ex
  have h1 := whileN_mono (Nat.le_max_left n m) h
  have h2 := whileN_mono (Nat.le_max_right n m) hm
  exact h2.symm.trans h1
theorem of_sWhile {c : BM} {body : SM} {ρ : DEnv} {r : Fl × DEnv} (h : sWhile c body ρ = some r) : ∃ n, whileN c body n ρ = some r := by
  unfold sWhile at h
  split at h
  · rename_i ex
    obtain ⟨m, hm⟩ := Classical.choose_spec ex
    cases h
    exact ⟨m, hm⟩
  · cases h
theorem imp_while {F : Fm} {c : BM} {body : SM} : ∀ D' σ H, tS F (sWhile c body) D' σ H → tWhile (tT F c) (tS F body) D' σ H := fun D' σ H ⟨ρ, ts, fl, ρ', a, q, k⟩ => by
  obtain ⟨n0, h0⟩ := of_sWhile q
  refine ⟨fun n σ H => ∃ ρ, At F σ H ρ ts ∧ whileN c body n ρ = some (fl, ρ'), ⟨n0, ρ, a, h0⟩, ?_⟩
  rintro n σ1 H1 ⟨ρ1, a1, h1⟩
  cases n with
  | zero => simp [whileN] at h1
  | succ n =>
    simp only [whileN] at h1
    split at h1
    · rename_i ρ2 hc
      refine ⟨ρ1, ts, true, ρ2, a1, hc, fun H2 a2 => iteT ⟨fun σ H => ∃ ρ, At F σ H ρ ts ∧ whileN c body n ρ = some (fl, ρ'), fun σ' H' p => ⟨n, Nat.lt_succ_self n, p⟩, ?_⟩⟩
      split at h1
      · rename_i ρ3 hb; exact ⟨ρ2, ts, _, ρ3, a2, hb, fun σ' H' a' => ⟨ρ3, a', h1⟩⟩
      · rename_i ρ3 hb; exact ⟨ρ2, ts, _, ρ3, a2, hb, fun σ' H' a' => ⟨ρ3, a', h1⟩⟩
      · rename_i ρ3 hb; cases h1; exact ⟨ρ2, ts, _, _, a2, hb, k⟩
      · rename_i d ρ3 hb; cases h1; exact ⟨ρ2, ts, _, _, a2, hb, k⟩
      · rename_i d ρ3 hb; cases h1; exact ⟨ρ2, ts, _, _, a2, hb, k⟩
      · cases h1
    · rename_i ρ2 hc
      cases h1
      exact ⟨ρ1, ts, false, _, a1, hc, fun H2 a2 => iteF (k _ H2 a2)⟩
    · cases h1
theorem s_while {X : Cx} {vs0 : List V} {W : WX} {pos : Pos} {c : Expr} {bs : List Stmt} {cm : BM} {body : SM} (hp : PassesOwn (model X.prog X.w) X.A X.env X.xe) (hc : PT X c (tT (fm X vs0) cm)) (hb : PSs X bs (tS (fmW X vs0 W) body)) : PS X (.While c bs [] pos) (tS (fmW X vs0 W) (sWhile cm body)) := (ps_while hp hc hb).imp imp_while
end Dl

set_option Elab.async false
set_option linter.all false
set_option maxRecDepth 100000
set_option maxHeartbeats 1000000
/-! DL6: comprehensions. -/
namespace Dl
open PySem PySem.Spec PyProof.Rows L2

def wipeD (ρ : DEnv) : List Nat → DEnv
  | [] => ρ
  | v :: vs => (wipeD ρ vs).set v none
def bYes : BM := fun ρ => some (true, ρ)
/-- the block's turns: the items made, the frame behind -/
def compL (g : GM) (t : BM) (e : EM) (vs : List Nat) : List D → DEnv → Option (List D × DEnv)
  | [], ρ => some ([], ρ)
  | d :: ds, ρ => match g d ρ with
    | some ρ1 => match t ρ1 with
      | some (true, ρ2) => match e ρ2 with
        | some (y, ρ3) => match compL g t e vs ds (wipeD ρ3 vs) with
          | some (ys, ρ4) => some (y :: ys, ρ4)
          | none => none
        | none => none
      | some (false, ρ2) => compL g t e vs ds (wipeD ρ2 vs)
      | none => none
    | none => none
def compE (g : GM) (t : BM) (e : EM) (vs : List Nat) (ds : List D) (ρ : DEnv) : Option (D × DEnv) :=
  if ds.length ≤ sizeLine then match compL g t e vs ds (wipeD ρ vs) with
    | some (ys, ρ2) => some (.lst true ys, ρ2)
    | none => none
  else none
def eComp (it : EM) (g : GM) (t : BM) (e : EM) (vs : List Nat) : EM := fun ρ => match it ρ with
  | some (d, ρ1) => match itemsD d.frz with
    | some ds => compE g t e vs ds ρ1
    | none => none
  | none => none
def eCompR1 (it : EM) (g : GM) (t : BM) (e : EM) (vs : List Nat) : EM := fun ρ => match it ρ with
  | some (.int j, ρ1) => if okR j = true then compE g t e vs (rangeD 0 j.toNat) ρ1 else none
  | _ => none
section
variable {F : Fm} {g : GM} {t : BM} {e : EM} {vs : List Nat} {gt : TG}
theorem wipeD_length (ρ : DEnv) : ∀ vs : List Nat, (wipeD ρ vs).length = ρ.length
  | [] => rfl
  | v :: vs => by unfold wipeD; rw [List.length_set, wipeD_length ρ vs]
theorem wipeD_get {ρ : DEnv} {i : Nat} {d : D} : ∀ {vs : List Nat}, (wipeD ρ vs)[i]? = some (some d) → ρ[i]? = some (some d) ∧ i ∉ vs
  | [], h => ⟨h, by simp⟩
  | v :: vs, h => by
    unfold wipeD at h
    by_cases hi : v = i
    · subst hi
      by_cases hv : v < (wipeD ρ vs).length
      · rw [List.getElem?_set_self hv] at h; cases h
      · rw [List.getElem?_eq_none (by simpa using hv)] at h; cases h
    · rw [List.getElem?_set_ne hi] at h
      obtain ⟨h1, h2⟩ := wipeD_get h
      exact ⟨h1, by simp only [List.mem_cons, not_or]; exact ⟨fun e => hi e.symm, h2⟩⟩
theorem wipe_get {σ : L2.St} {i : Nat} : ∀ {vs : List Nat}, i ∉ vs → (wipe σ vs)[i]? = σ[i]?
  | [], _ => rfl
  | v :: vs, h => by
    simp only [List.mem_cons, not_or] at h
    unfold wipe
    rw [List.getElem?_set_ne (fun e => h.1 e.symm), wipe_get h.2]
theorem slotR_agree : ∀ {σ σ' : L2.St} {ρ : DEnv}, σ.length = σ'.length → (∀ (i : Nat) (d : D), ρ[i]? = some (some d) → σ[i]? = σ'[i]?) → slotR σ ρ = slotR σ' ρ
  | [], [], _, _, _ => rfl
  | x :: σ, y :: σ', [], _, _ => by cases x <;> cases y <;> rfl
  | x :: σ, y :: σ', none :: ρ, hl, h => by
    have ih := slotR_agree (σ := σ) (σ' := σ') (ρ := ρ) (by simpa using hl) fun i d q => by simpa using h (i + 1) d (by simpa using q)
    rw [slotR_none, slotR_none, ih]
  | x :: σ, y :: σ', some d :: ρ, hl, h => by
    have ih := slotR_agree (σ := σ) (σ' := σ') (ρ := ρ) (by simpa using hl) fun i d q => by simpa using h (i + 1) d (by simpa using q)
    have e := h 0 d rfl
    simp at e
    subst e
    cases x <;> simp [slotR, ih]
  | [], _ :: _, _, h, _ => by cases h
  | _ :: _, [], _, h, _ => by cases h
theorem slotR_wipe (σ : L2.St) (ρ : DEnv) : ∀ vs : List Nat, ∃ xs, (slotR σ ρ).Perm (xs ++ slotR σ (wipeD ρ vs))
  | [] => ⟨[], by simp [wipeD]⟩
  | v :: vs => by
    obtain ⟨xs, h⟩ := slotR_wipe σ ρ vs
    obtain ⟨ys, h2⟩ := slotR_forget σ (wipeD ρ vs) v
    exact ⟨xs ++ ys, by rw [List.append_assoc]; exact h.trans (h2.append_left _)⟩
theorem At.wiped {σ : L2.St} {H : Hp} {ρ : DEnv} {ts : List Rt} (a : At F σ H ρ ts) (hv : ∀ i ∈ vs, F.vs0.length ≤ i) : At F (wipe σ vs) H (wipeD ρ vs) ts := by
  have ag : slotR (wipe σ vs) (wipeD ρ vs) = slotR σ (wipeD ρ vs) := slotR_agree (wipe_length σ vs) fun i d h => wipe_get (wipeD_get h).2
  refine ⟨by rw [wipe_length]; exact a.lenS, by rw [wipeD_length]; exact a.lenR, fun i d h => ?_, fun i v h => ?_, ?_⟩
  · obtain ⟨h1, h2⟩ := wipeD_get h
    obtain ⟨v, e⟩ := a.fit i d h1
    exact ⟨v, (wipe_get h2).trans e⟩
  · have hi : i ∉ vs := fun hm => by
      have := hv i hm
      have := (List.getElem?_eq_some_iff.mp h).1
      omega
    rw [wipe_get hi]
    exact a.par i v h
  · rw [ag]
    obtain ⟨xs, p⟩ := slotR_wipe σ ρ vs
    exact Sim.drop (xs := xs) (a.sim.perm (by rw [← List.append_assoc]; exact p.append_right _))
theorem At.unwiped {σ : L2.St} {H : Hp} {ρ : DEnv} {ts : List Rt} (hl : σ.length = F.n) (hp : ∀ (i : Nat) (v : V), F.vs0[i]? = some v → σ[i]? = some (some v)) (a : At F (wipe σ vs) H ρ ts) : At F σ H ρ ts := by
  refine ⟨hl, a.lenR, fun i d h => ?_, hp, ?_⟩
  · obtain ⟨v, e⟩ := a.fit i d h
    exact ⟨v, (wipe_some e).1⟩
  · rw [slotR_agree (σ' := wipe σ vs) (wipe_length σ vs).symm fun i d h => ?_]
    · exact a.sim
    · obtain ⟨v, e⟩ := a.fit i d h
      rw [e, (wipe_some e).1]
theorem wipe_set {σ : L2.St} {i : Nat} {y : Option V} : ∀ {vs : List Nat}, i ∈ vs → wipe (σ.set i y) vs = wipe σ vs
  | [], h => by cases h
  | v :: vs, h => by
    unfold wipe
    by_cases hm : i ∈ vs
    · rw [wipe_set hm]
    · have e : i = v := by rcases List.mem_cons.mp h with e | e; exact e; exact absurd e hm
      subst e
      have : ∀ vs : List Nat, i ∉ vs → wipe (σ.set i y) vs = (wipe σ vs).set i y := by
        intro vs
        induction vs with
        | nil => intro _; rfl
        | cons w ws ih =>
          intro hn
          simp only [List.mem_cons, not_or] at hn
          unfold wipe
          rw [ih hn.2, List.set_comm _ _ (Ne.symm hn.1)]
      rw [this vs hm, List.set_set]
theorem wipe_wipe (σ : L2.St) : ∀ vs : List Nat, wipe (wipe σ vs) vs = wipe σ vs := fun vs => by
  have : ∀ (ws : List Nat), (∀ i ∈ ws, i ∈ vs) → wipe (wipe σ ws) vs = wipe σ vs := by
    intro ws
    induction ws with
    | nil => intro _; rfl
    | cons w ws ih =>
      intro h
      show wipe ((wipe σ ws).set w none) vs = _
      rw [wipe_set (h w List.mem_cons_self), ih fun i hi => h i (List.mem_cons_of_mem _ hi)]
  exact this vs fun _ h => h
/-- what a target of a comprehension must bear -/
def GtOk (F : Fm) (g : GM) (gt : TG) (vs : List Nat) : Prop := ∀ (x : V) (d : D) (σ : L2.St) (H : Hp) (ρ ρ1 : DEnv) (ts : List Rt) (Q : L2.St → Hp → Prop), At F σ H ρ (.v x d :: ts) → g d ρ = some ρ1 → (∀ σ2, At F σ2 H ρ1 ts → wipe σ2 vs = wipe σ vs → Q σ2 H) → gt x σ H Q
theorem gt_name {i : Nat} (hp : F.vs0.length ≤ i) (hi : i < F.n) (hm : i ∈ vs) : GtOk F (gN i) (gName i) vs := fun x d σ H ρ ρ1 ts Q a q k => by
  cases q
  exact k _ (a.store hp hi) (wipe_set hm)
/-- the turns of a comprehension's block -/
theorem comp_turns {J : It} {σ : L2.St} {H1 : Hp} {ρ : DEnv} {ts : List Rt} {ds : List D} {ys : List D} {ρ' : DEnv} {D0 : Addr} {Qd : Hp → Prop} (hgt : GtOk F g gt vs) (hv : ∀ i ∈ vs, F.vs0.length ≤ i) (a : At F σ H1 ρ ts) (hD : H1 D0 = none)
    (hz : ds.length ≤ sizeLine) (q : compL g t e vs ds (wipeD ρ vs) = some (ys, ρ'))
    (hgo : ∀ i σ H ρ ts', i < ds.length → At F σ H ρ (.v (.ref D0) (.lst true ts') :: ts) → J.go i H) (hst : ∀ σ H ρ ts', At F σ H ρ (.v (.ref D0) (.lst true ts') :: ts) → J.stop ds.length H)
    (hy : ∀ i x σ H H' ρ zs (hi : i < ds.length), At F σ H ρ (.v (.ref D0) (.lst true zs) :: ts) → J.yld i H x H' → H' = H ∧ At F σ H ρ (.v x ds[i] :: .v (.ref D0) (.lst true zs) :: ts))
    (hd : ∀ H, At F σ H ρ' (.v (.ref D0) (.lst true ys) :: ts) → Qd H) :
    ∃ W : Nat → Nat → Hp → Prop, (∃ m, W 0 m (upd H1 D0 (.lst []))) ∧ ∀ i m H, W i m H → (J.stop i H ∧ Qd H) ∨ (J.go i H ∧ ∃ Nx : Hp → Prop, (∀ H', Nx H' → ∃ m', m' < m ∧ W (i + 1) m' H') ∧ ∀ x H', J.yld i H x H' → gt x (wipe σ vs) H' fun σ2 H2 => wipe σ2 vs = wipe σ vs ∧ tT F t σ2 H2 fun b H3 =>
      if b = true then tD F e σ2 H3 fun y H4 => ∃ acc, H4 D0 = some (.lst acc) ∧ acc.length < sizeLine ∧ Nx (upd H4 D0 (.lst (acc ++ [y]))) else Nx H3) := by
  refine ⟨fun i m H => m = ds.length - i ∧ i ≤ ds.length ∧ ∃ ρ zs rest, At F (wipe σ vs) H ρ (.v (.ref D0) (.lst true zs) :: ts) ∧ compL g t e vs (ds.drop i) ρ = some (rest, ρ') ∧ zs ++ rest = ys ∧ zs.length ≤ i, ⟨ds.length, by simp, Nat.zero_le _, wipeD ρ vs, [], ys, ?_, q, rfl, Nat.le_refl _⟩, ?_⟩
  · exact (a.wiped hv).newL (xs := []) (ds := []) rfl hD
  rintro i m H ⟨rfl, hi, ρ1, zs, rest, b, hc, hr, hzl⟩
  by_cases hlt : i < ds.length
  · refine .inr ⟨hgo i _ H ρ1 zs hlt b, fun H => ∃ ρ zs rest, At F (wipe σ vs) H ρ (.v (.ref D0) (.lst true zs) :: ts) ∧ compL g t e vs (ds.drop (i + 1)) ρ = some (rest, ρ') ∧ zs ++ rest = ys ∧ zs.length ≤ i + 1, fun H' p => ⟨ds.length - (i + 1), by omega, rfl, hlt, p⟩, fun x H' y => ?_⟩
    obtain ⟨rfl, b1⟩ := hy i x _ H H' ρ1 zs hlt b y
    rw [List.drop_eq_getElem_cons hlt] at hc
    simp only [compL] at hc
    split at hc
    · rename_i ρ2 hg
      refine hgt x _ _ _ _ ρ2 _ _ b1 hg fun σ2 b2 hw => ⟨by rw [hw, wipe_wipe], ?_⟩
      have hw2 : wipe σ2 vs = wipe σ vs := by rw [hw, wipe_wipe]
      split at hc
      · rename_i ρ3 ht
        refine ⟨ρ2, _, true, ρ3, b2, ht, fun H3 b3 => iteT ?_⟩
        split at hc
        · rename_i y' ρ4 he
          split at hc
          · rename_i ys' ρ5 h5
            cases hc
            refine ⟨ρ3, _, y', ρ4, b3, he, fun v H4 b4 => ?_⟩
            have s4 : Sim F.K F.mg H4 (.v (.ref D0) (.lst true zs) :: .v v y' :: (ts ++ slotR σ2 ρ4)) := (b4.front).perm (.swap _ _ _)
            obtain ⟨a0, acc, e0, hl, s5⟩ := s4.unL
            cases e0
            refine ⟨acc, s5.cell, by omega, wipeD ρ4 vs, zs ++ [y'], ys', ?_, h5, by rw [List.append_assoc]; exact hr, by rw [List.length_append, List.length_singleton]; omega⟩
            have s6 := s5.write (o' := .lst (acc ++ [v]))
            have s7 : Sim F.K F.mg (upd H4 D0 (.lst (acc ++ [v]))) (.c D0 (.lst (acc ++ [v])) :: vals (acc ++ [v]) (zs ++ [y']) ++ (ts ++ slotR σ2 ρ4)) := s6.perm (by
              rw [vals_append hl]
              show (Rt.c D0 _ :: (vals acc zs ++ (.v v y' :: (ts ++ slotR σ2 ρ4)))).Perm (Rt.c D0 _ :: (vals acc zs ++ [.v v y']) ++ (ts ++ slotR σ2 ρ4))
              simp)
            have s8 := s7.foL (by rw [List.length_append, List.length_append, hl]; rfl)
            have b5 : At F σ2 (upd H4 D0 (.lst (acc ++ [v]))) ρ4 (.v (.ref D0) (.lst true (zs ++ [y'])) :: ts) := b4.of_front s8
            have b6 := b5.wiped hv
            rw [hw2] at b6
            exact b6
          · cases hc
        · cases hc
      · rename_i ρ3 ht
        refine ⟨ρ2, _, false, ρ3, b2, ht, fun H3 b3 => iteF ?_⟩
        have b6 := b3.wiped hv
        rw [hw2] at b6
        exact ⟨wipeD ρ3 vs, zs, rest, b6, hc, hr, by omega⟩
      · cases hc
    · cases hc
  · have e : i = ds.length := by omega
    subst e
    rw [List.drop_length] at hc
    simp only [compL] at hc
    cases hc
    rw [List.append_nil] at hr
    subst hr
    exact .inl ⟨hst _ H ρ' zs b, hd H (At.unwiped a.lenS a.par b)⟩
theorem compE_some {ds : List D} {ρ ρ' : DEnv} {d : D} (h : compE g t e vs ds ρ = some (d, ρ')) : ds.length ≤ sizeLine ∧ ∃ ys, d = .lst true ys ∧ compL g t e vs ds (wipeD ρ vs) = some (ys, ρ') := by
  unfold compE at h
  split at h
  · rename_i hz
    split at h
    · rename_i ys ρ2 hc; cases h; exact ⟨hz, ys, rfl, hc⟩
    · cases h
  · cases h
/-- behind the new list a root stays as it was -/
theorem At.snd {σ : L2.St} {H : Hp} {ρ : DEnv} {ts : List Rt} {r : Rt} {q : Rt} (a : At F σ H ρ (r :: q :: ts)) : At F σ H ρ (q :: r :: ts) := a.perm (.swap _ _ _)
theorem imp_comp {it : EM} (hgt : GtOk F g gt vs) (hv : ∀ i ∈ vs, F.vs0.length ≤ i) : ∀ σ H Q, tD F (eComp it g t e vs) σ H Q → tLc (iSeq F.K (tD F it)) gt (tT F t) (tD F e) vs σ H Q := fun σ H Q ⟨ρ, ts, d, ρ', a, q, k⟩ => by
  unfold eComp at q
  split at q
  · rename_i d0 ρ1 he
    split at q
    · rename_i ds hd
      obtain ⟨hz, ys, rfl, hc⟩ := compE_some q
      refine ⟨ρ, ts, d0, ρ1, a, he, fun v H1 a1 => ?_⟩
      have a2 : At F σ H1 ρ1 (.v v d0.frz :: ts) := a1.of_front (by have := a1.front; exact this.frz)
      have hst := D.stable_frz d0
      generalize d0.frz = e0 at hd a2 hst
      obtain ⟨a0, us, rfl, hl, hk⟩ := seq_root hd a2
      refine ⟨a0, rfl, ?_⟩
      rcases hk with ⟨hu, hk⟩ | ⟨hu, hk⟩
      · refine .inl ⟨⟨us, SqL.of hu⟩, fun D0 hD0 => ?_⟩
        refine comp_turns hgt hv a2 hD0 hz hc (fun i σ H ρ zs hi b => (go_l b.snd hk).1 i hi) (fun σ H ρ zs b => (go_l b.snd hk).2) (fun i x σ H H' ρ zs hi b y => ?_) (fun H b => k _ H b.drop2)
        obtain ⟨e1, b1⟩ := yld_l hd hst b.snd hi hk y
        exact ⟨e1, b1.perm (List.Perm.cons _ (.swap _ _ _))⟩
      · refine .inr ⟨⟨us, SqT.of hu⟩, fun D0 hD0 => ?_⟩
        refine comp_turns hgt hv a2 hD0 hz hc (fun i σ H ρ zs hi b => (go_t b.snd hk).1 i hi) (fun σ H ρ zs b => (go_t b.snd hk).2) (fun i x σ H H' ρ zs hi b y => ?_) (fun H b => k _ H b.drop2)
        obtain ⟨e1, b1⟩ := yld_t hd hst b.snd hi hk y
        exact ⟨e1, b1.perm (List.Perm.cons _ (.swap _ _ _))⟩
    · cases q
  · cases q
theorem range_comp {σ : L2.St} {H1 : Hp} {ρ : DEnv} {ts : List Rt} {lo : Int} {n : Nat} {d : D} {ρ' : DEnv} {D0 : Addr} {Q : VK} (hgt : GtOk F g gt vs) (hv : ∀ i ∈ vs, F.vs0.length ≤ i) (a : At F σ H1 ρ ts) (hD : H1 D0 = none) (q : compE g t e vs (rangeD lo n) ρ = some (d, ρ')) (k : ∀ v H', At F σ H' ρ' (.v v d :: ts) → Q v H') :
    ∃ W : Nat → Nat → Hp → Prop, (∃ m, W 0 m (upd H1 D0 (.lst []))) ∧ ∀ i m H, W i m H → ((Itr lo n).stop i H ∧ Q (.ref D0) H) ∨ ((Itr lo n).go i H ∧ ∃ Nx : Hp → Prop, (∀ H', Nx H' → ∃ m', m' < m ∧ W (i + 1) m' H') ∧ ∀ x H', (Itr lo n).yld i H x H' → gt x (wipe σ vs) H' fun σ2 H2 => wipe σ2 vs = wipe σ vs ∧ tT F t σ2 H2 fun b H3 =>
      if b = true then tD F e σ2 H3 fun y H4 => ∃ acc, H4 D0 = some (.lst acc) ∧ acc.length < sizeLine ∧ Nx (upd H4 D0 (.lst (acc ++ [y]))) else Nx H3) := by
  obtain ⟨hz, ys, rfl, hc⟩ := compE_some q
  have hn := rangeD_len lo n
  refine comp_turns (J := Itr lo n) hgt hv a hD hz hc (fun i σ H ρ zs hi b => by rw [hn] at hi; exact hi) (fun σ H ρ zs b => by rw [hn]; exact Nat.le_refl n) (fun i x σ H H' ρ zs hi b y => ?_) (fun H b => k _ H b)
  obtain ⟨e1, e2⟩ := y
  refine ⟨e1, ?_⟩
  rw [rangeD_get lo n i hi, e2]
  exact b.mk' (mk_int _)
theorem imp_comp1 {it : EM} (hgt : GtOk F g gt vs) (hv : ∀ i ∈ vs, F.vs0.length ≤ i) : ∀ σ H Q, tD F (eCompR1 it g t e vs) σ H Q → tLc (iRng1 (tCons (tD F it) tNil)) gt (tT F t) (tD F e) vs σ H Q := fun σ H Q ⟨ρ, ts, d, ρ', a, q, k⟩ => by
  unfold eCompR1 at q
  split at q
  · rename_i j ρ1 he
    split at q
    · rename_i hj
      refine ⟨ρ, ts, _, ρ1, a, he, fun v H1 a1 => ⟨j, ?_, (okR_of hj).1, (okR_of hj).2, fun D0 hD0 => range_comp hgt hv a1.tail hD0 q k⟩⟩
      rw [Rp.int_inv ((a1.front).rp)]
    · cases q
  · cases q
theorem imp_yes : ∀ σ H Q, tT F bYes σ H Q → tYes σ H Q := fun σ H Q ⟨ρ, ts, b, ρ', a, q, k⟩ => by cases q; exact k H a
end
theorem _root_.L2.PTs.imp {X : Cx} {ifs : List Expr} {t t' : TT} (h : PTs X ifs t) (k : ∀ σ H Q, t' σ H Q → t σ H Q) : PTs X ifs t' := ⟨fun pins s σ H Q I q => h.run pins s σ H Q I (k _ _ _ q)⟩
section
variable {X : Cx} {vs0 : List V} {W : WX} {pos : Pos} {g : GM} {t : BM} {e : EM} {tg elt : Expr} {ifs : List Expr} {scope : Scope} {own : List (Str × Nat)} {gt : TG}
theorem ts_nil : PTs X [] (tT (fm X vs0) bYes) := pts_nil.imp imp_yes
theorem ts_one {c : Expr} {b : BM} (h : PT X c (tT (fm X vs0) b)) : PTs X [c] (tT (fm X vs0) b) := pts_one h
theorem gt_n (i : Nat) {vs : List Nat} (hp : vs0.length ≤ i) (hi : i < X.N.length) (hm : i ∈ vs) : GtOk (fm X vs0) (gN i) (gName i) vs := gt_name (F := fm X vs0) hp hi hm
theorem e_comp {l : Expr} {it : EM} (hc : X.calm = true) (hN : X.N.Nodup) (hl : PE X l (tD (fm X vs0) it)) (ok : BlkOk X.N X.env.scope scope own) (hgt : GtOk (fm X vs0) g gt (own.map (·.2))) (hv : ∀ i ∈ own.map (·.2), vs0.length ≤ i)
    (hg : ∀ (s : Shared) (H : Hp) (C : Addr) (cl : List (Str × Addr)) (fp : List Addr), PG (X.blk s H scope (compEnvC scope cl C X.env) fp) tg gt) (ht : ∀ (s : Shared) (H : Hp) (C : Addr) (cl : List (Str × Addr)) (fp : List Addr), PTs (X.blk s H scope (compEnvC scope cl C X.env) fp) ifs (tT (fm X vs0) t))
    (he : ∀ (s : Shared) (H : Hp) (C : Addr) (cl : List (Str × Addr)) (fp : List Addr), PE (X.blk s H scope (compEnvC scope cl C X.env) fp) elt (tD (fm X vs0) e)) (hs : ∀ x, foldedSetIterable l X.env x = pure x := by intro _; rfl) :
    PE X (.ListComp elt [⟨tg, l, ifs, 0⟩] scope pos) (tD (fm X vs0) (eComp it g t e (own.map (·.2)))) := (pe_lc hc hN (pi_seq hl) ok hg ht he hs).imp (imp_comp (F := fm X vs0) hgt hv)
theorem e_comp1 {a : Expr} {p pos' : Pos} {it : EM} (hc : X.calm = true) (hN : X.N.Nodup) (hm : X.mg "range" = none) (ha : PE X a (tD (fm X vs0) it)) (ok : BlkOk X.N X.env.scope scope own) (hgt : GtOk (fm X vs0) g gt (own.map (·.2))) (hv : ∀ i ∈ own.map (·.2), vs0.length ≤ i)
    (hg : ∀ (s : Shared) (H : Hp) (C : Addr) (cl : List (Str × Addr)) (fp : List Addr), PG (X.blk s H scope (compEnvC scope cl C X.env) fp) tg gt) (ht : ∀ (s : Shared) (H : Hp) (C : Addr) (cl : List (Str × Addr)) (fp : List Addr), PTs (X.blk s H scope (compEnvC scope cl C X.env) fp) ifs (tT (fm X vs0) t))
    (he : ∀ (s : Shared) (H : Hp) (C : Addr) (cl : List (Str × Addr)) (fp : List Addr), PE (X.blk s H scope (compEnvC scope cl C X.env) fp) elt (tD (fm X vs0) e)) (hgl : Gl X "range" := by rfl) (hs : starEach [a] X.env = [(false, eval a X.env)] := by rfl) (hf : ∀ x, foldedSetIterable (.Call (.Name "range" p) [a] [] pos') X.env x = pure x := by intro _; rfl) :
    PE X (.ListComp elt [⟨tg, .Call (.Name "range" p) [a] [] pos', ifs, 0⟩] scope pos) (tD (fm X vs0) (eCompR1 it g t e (own.map (·.2)))) :=
  (pe_lc hc hN (pi_range1 hgl hm (pa_cons ha pa_nil (by rw [hs]; rfl)) hs) ok hg ht he hf).imp (imp_comp1 (F := fm X vs0) hgt hv)
/-- name = [..] on one line -/
theorem imp_setLc {te : TE} {f : EM} {i : Nat} (hp : vs0.length ≤ i) (hi : i < X.N.length) (h : ∀ σ H Q, tD (fm X vs0) f σ H Q → te σ H Q) : ∀ D' σ H, tS (fmW X vs0 W) (sAsg f (gN i)) D' σ H → tAsg te (gName i) D' σ H := fun D' σ H q => by
  obtain ⟨ρ, ts, d, ρ', a, q, k⟩ := imp_asg (F := fmW X vs0 W) D' σ H q
  exact h σ H _ ⟨ρ, ts, d, ρ', a, q, fun v H' a' => imp_gN (F := fm X vs0) hp hi v σ H' D'.nx (k v H' a')⟩
theorem s_comp {y : Str} {py spos : Pos} {l : Expr} {it : EM} (i : Nat) (hp : vs0.length ≤ i) (hc : X.calm = true) (hN : X.N.Nodup) (hl : PE X l (tD (fm X vs0) it)) (ok : BlkOk X.N X.env.scope scope own) (hgt : GtOk (fm X vs0) g gt (own.map (·.2))) (hv : ∀ i ∈ own.map (·.2), vs0.length ≤ i)
    (hg : ∀ (s : Shared) (H : Hp) (C : Addr) (cl : List (Str × Addr)) (fp : List Addr), PG (X.blk s H scope (compEnvC scope cl C X.env) fp) tg gt) (ht : ∀ (s : Shared) (H : Hp) (C : Addr) (cl : List (Str × Addr)) (fp : List Addr), PTs (X.blk s H scope (compEnvC scope cl C X.env) fp) ifs (tT (fm X vs0) t))
    (he : ∀ (s : Shared) (H : Hp) (C : Addr) (cl : List (Str × Addr)) (fp : List Addr), PE (X.blk s H scope (compEnvC scope cl C X.env) fp) elt (tD (fm X vs0) e)) (hsw : swapsWith (.ListComp elt [⟨tg, l, ifs, 0⟩] scope pos) (some (.Name y py)) spos.line X.env = pure true) (hy : X.N[i]? = some y := by rfl) (hyl : X.env.scope.names.lookup y = some .local := by rfl)
    (hs : ∀ x, foldedSetIterable l X.env x = pure x := by intro _; rfl) : PS X (.Assign [.Name y py] (.ListComp elt [⟨tg, l, ifs, 0⟩] scope pos) spos) (tS (fmW X vs0 W) (sAsg (eComp it g t e (own.map (·.2))) (gN i))) :=
  (ps_setLc hc hN hy hyl hsw (pi_seq hl) ok hg ht he hs).imp (imp_setLc hp (List.getElem?_eq_some_iff.mp hy).1 (imp_comp (F := fm X vs0) hgt hv))
theorem s_comp1 {y : Str} {py spos : Pos} {a : Expr} {p pos' : Pos} {it : EM} (i : Nat) (hp : vs0.length ≤ i) (hc : X.calm = true) (hN : X.N.Nodup) (hm : X.mg "range" = none) (ha : PE X a (tD (fm X vs0) it)) (ok : BlkOk X.N X.env.scope scope own) (hgt : GtOk (fm X vs0) g gt (own.map (·.2))) (hv : ∀ i ∈ own.map (·.2), vs0.length ≤ i)
    (hg : ∀ (s : Shared) (H : Hp) (C : Addr) (cl : List (Str × Addr)) (fp : List Addr), PG (X.blk s H scope (compEnvC scope cl C X.env) fp) tg gt) (ht : ∀ (s : Shared) (H : Hp) (C : Addr) (cl : List (Str × Addr)) (fp : List Addr), PTs (X.blk s H scope (compEnvC scope cl C X.env) fp) ifs (tT (fm X vs0) t))
    (he : ∀ (s : Shared) (H : Hp) (C : Addr) (cl : List (Str × Addr)) (fp : List Addr), PE (X.blk s H scope (compEnvC scope cl C X.env) fp) elt (tD (fm X vs0) e)) (hsw : swapsWith (.ListComp elt [⟨tg, .Call (.Name "range" p) [a] [] pos', ifs, 0⟩] scope pos) (some (.Name y py)) spos.line X.env = pure true) (hy : X.N[i]? = some y := by rfl) (hyl : X.env.scope.names.lookup y = some .local := by rfl)
    (hgl : Gl X "range" := by rfl) (hs : starEach [a] X.env = [(false, eval a X.env)] := by rfl) (hf : ∀ x, foldedSetIterable (.Call (.Name "range" p) [a] [] pos') X.env x = pure x := by intro _; rfl) :
    PS X (.Assign [.Name y py] (.ListComp elt [⟨tg, .Call (.Name "range" p) [a] [] pos', ifs, 0⟩] scope pos) spos) (tS (fmW X vs0 W) (sAsg (eCompR1 it g t e (own.map (·.2))) (gN i))) :=
  (ps_setLc hc hN hy hyl hsw (pi_range1 hgl hm (pa_cons ha pa_nil (by rw [hs]; rfl)) hs) ok hg ht he hf).imp (imp_setLc hp (List.getElem?_eq_some_iff.mp hy).1 (imp_comp1 (F := fm X vs0) hgt hv))
end
end Dl

set_option Elab.async false
set_option linter.all false
set_option maxRecDepth 100000
set_option maxHeartbeats 1000000
/-! DL7: calls of built-ins. -/
namespace Dl
open PySem PySem.Spec PyProof.Rows L2

def pAll : List PM → DEnv → Option (List D)
  | [], _ => some []
  | f :: r, ρ => match f ρ, pAll r ρ with
    | some d, some ds => some (d :: ds)
    | _, _ => none
def tAP (F : Fm) (fs : List PM) : TA := fun σ H Q => ∃ ρ ts ds, At F σ H ρ ts ∧ pAll fs ρ = some ds ∧ ∀ vs H', Same H H' → RpL F.K F.mg H' vs ds → Q vs H'
def RnD (K : PySem.W.Frag) (mg : MG) (r : List V → Hp → VK → Prop) (op : List D → Option D) : Prop :=
  ∀ (vs : List V) (H : Hp) (ds : List D) (d : D) (Q : VK), RpL K mg H vs ds → op ds = some d → (∀ z H', Same H H' → Mk K mg H H' z d → Q z H') → r vs H Q
/-- a built-in of values read alone -/
def pBi (op : List D → Option D) (fs : List PM) : PM := fun ρ => match pAll fs ρ with
  | some ds => op ds
  | none => none
/-- .. its value new (perhaps owned) -/
def eBiP (op : List D → Option D) (fs : List PM) : EM := fun ρ => match pBi op fs ρ with
  | some d => some (d, ρ)
  | none => none
/-- a built-in of values reckoned -/
def eBi (op : List D → Option D) (am : AM) : EM := fun ρ => match am ρ with
  | some (as, ρ1) => match takeA as ρ1 with
    | some (ds, _) => match op ds with
      | some d => some (d, ρ1)
      | none => none
    | none => none
  | none => none
section
variable {X : Cx} {F : Fm} {vs0 : List V} {f : PM} {fs : List PM} {am : AM} {r r' : List V → Hp → VK → Prop} {op : List D → Option D} {e : Expr} {es : List Expr} {pos p : Pos} {K : PySem.W.Frag} {mg : MG}
theorem ap_nil : PA X [] (tAP (fm X vs0) []) := pa_nil.imp fun σ H Q ⟨ρ, ts, ds, a, q, k⟩ => by
  cases q
  exact k _ H (Same.refl H) .nil
theorem imp_ap : ∀ σ H Q, tAP F (f :: fs) σ H Q → tCons (tP F f) (tAP F fs) σ H Q := fun σ H Q ⟨ρ, ts, ds, a, q, k⟩ => by
  unfold pAll at q
  split at q
  · rename_i d ds' e1 e2
    cases q
    refine ⟨ρ, ts, d, a, e1, fun v H1 g1 rv _ => ⟨ρ, ts, ds', a.grow g1, e2, fun vs H2 g2 rs => k _ H2 (g1.trans g2) (.cons (rv.grow g2) rs)⟩⟩
  · cases q
theorem ap_cons (ha : PE X e (tP (fm X vs0) f)) (hr : PA X es (tAP (fm X vs0) fs)) (hs : starEach (e :: es) X.env = (false, eval e X.env) :: starEach es X.env := by rfl) : PA X (e :: es) (tAP (fm X vs0) (f :: fs)) := (pa_cons ha hr hs).imp imp_ap
theorem imp_bi (hr : RnD F.K F.mg r op) : ∀ σ H Q, tP F (pBi op fs) σ H Q → tCB r (tAP F fs) σ H Q := fun σ H Q ⟨ρ, ts, d, a, q, k⟩ => by
  unfold pBi at q
  split at q
  · rename_i ds e1
    refine ⟨ρ, ts, ds, a, e1, fun vs H1 g1 rs => ?_⟩
    refine hr vs H1 ds d Q rs q fun z H2 g2 m => ?_
    have a2 := (a.grow g1).mk' m
    exact k z H2 (g1.trans g2) (a2.front).rp (Cj.of a2)
  · cases q
theorem imp_biP (hr : RnD F.K F.mg r op) : ∀ σ H Q, tD F (eBiP op fs) σ H Q → tCB r (tAP F fs) σ H Q := fun σ H Q ⟨ρ, ts, d, ρ', a, q, k⟩ => by
  unfold eBiP pBi at q
  split at q
  · rename_i d' e0
    cases q
    split at e0
    · rename_i ds e1
      refine ⟨ρ, ts, ds, a, e1, fun vs H1 g1 rs => ?_⟩
      refine hr vs H1 ds d Q rs e0 fun z H2 g2 m => ?_
      exact k z H2 ((a.grow g1).mk' m)
    · cases e0
  · cases q
theorem vals_rpL {H : Hp} : ∀ {vs : List V} {ds : List D} {rs : List Rt}, vs.length = ds.length → Sim K mg H (vals vs ds ++ rs) → RpL K mg H vs ds
  | [], [], _, _, _ => .nil
  | v :: vs, d :: ds, rs, hl, s => .cons (Sim.rp (rs := vals vs ds ++ rs) s) (vals_rpL (rs := rs) (by simpa using hl) (Sim.tail (r := .v v d) (rs := vals vs ds ++ rs) s))
theorem imp_biE (hr : RnD F.K F.mg r op) : ∀ σ H Q, tD F (eBi op am) σ H Q → tCB r (tA F am) σ H Q := fun σ H Q ⟨ρ, ts, d, ρ', a, q, k⟩ => by
  unfold eBi at q
  split at q
  · rename_i as ρ1 e1
    split at q
    · rename_i ds ρ2 e2
      split at q
      · rename_i d' e3
        cases q
        refine ⟨ρ, ts, as, _, a, e1, fun vs H1 tm ar a1 => ?_⟩
        obtain ⟨lo, _, t⟩ := take_sim ar e2 (a1.front.perm (by rw [List.append_assoc]; exact (List.perm_append_comm (l₁ := ts)).append_left tm))
        refine hr vs H1 ds d Q (vals_rpL t.1 t.2.2.2) e3 fun z H2 g2 m => ?_
        exact k z H2 ((a1.of_front (ts' := ts) (by exact Sim.drop (xs := tm) (by rw [← List.append_assoc]; exact a1.front))).mk' m)
      · cases q
    · cases q
  · cases q
end
end Dl

set_option Elab.async false
set_option linter.all false
set_option maxRecDepth 100000
set_option maxHeartbeats 1000000
/-! DL8: the built-ins one by one. -/
namespace Dl
open PySem PySem.Spec PyProof.Rows L2

def intsL : List D → Option (List Int)
  | [] => some []
  | .int i :: ds => match intsL ds with
    | some l => some (i :: l)
    | none => none
  | _ :: _ => none
def blsL : List D → Option (List Bool)
  | [] => some []
  | .bl i :: ds => match blsL ds with
    | some l => some (i :: l)
    | none => none
  | _ :: _ => none
def strsL : List D → Option (List Str)
  | [] => some []
  | .str i :: ds => match strsL ds with
    | some l => some (i :: l)
    | none => none
  | _ :: _ => none
section
variable {K : PySem.W.Frag} {mg : MG} {H : Hp}
theorem RpL.ints : ∀ {xs : List V} {ds : List D} {l : List Int}, RpL K mg H xs ds → intsL ds = some l → xs = l.map V.int
  | _, [], l, .nil, e => by simp only [intsL] at e; cases e; rfl
  | _, d :: ds, l, .cons (v := v) h t, e => by
    cases d <;> simp only [intsL, reduceCtorEq] at e
    split at e
    · rename_i l' e'
      cases e
      obtain rfl := h.int_inv
      rw [RpL.ints t e', List.map_cons]
    · cases e
theorem RpL.bls : ∀ {xs : List V} {ds : List D} {l : List Bool}, RpL K mg H xs ds → blsL ds = some l → xs = l.map V.bl
  | _, [], l, .nil, e => by simp only [blsL] at e; cases e; rfl
  | _, d :: ds, l, .cons (v := v) h t, e => by
    cases d <;> simp only [blsL, reduceCtorEq] at e
    split at e
    · rename_i l' e'
      cases e
      obtain rfl := h.bl_inv
      rw [RpL.bls t e', List.map_cons]
    · cases e
theorem RpL.strs : ∀ {xs : List V} {ds : List D} {l : List Str}, RpL K mg H xs ds → strsL ds = some l → xs = l.map V.str
  | _, [], l, .nil, e => by simp only [strsL] at e; cases e; rfl
  | _, d :: ds, l, .cons (v := v) h t, e => by
    cases d <;> simp only [strsL, reduceCtorEq] at e
    split at e
    · rename_i l' e'
      cases e
      obtain rfl := h.str_inv
      rw [RpL.strs t e', List.map_cons]
    · cases e
theorem imm_strs : ∀ (l : List Str), immL (l.map D.str) = true
  | [] => by simp [immL]
  | x :: l => by rw [List.map_cons, immL, imm_strs l]; simp [D.imm]
theorem RpL.one {vs : List V} {d : D} (h : RpL K mg H vs [d]) : ∃ v, vs = [v] ∧ Rp K mg H v d := by
  cases h with
  | cons a b => cases b; exact ⟨_, rfl, a⟩
theorem RpL.two {vs : List V} {d d' : D} (h : RpL K mg H vs [d, d']) : ∃ v w, vs = [v, w] ∧ Rp K mg H v d ∧ Rp K mg H w d' := by
  cases h with
  | cons a b => cases b with
    | cons b c => cases c; exact ⟨_, _, rfl, a, b⟩
end

/-! ### len -/
def opLen : List D → Option D
  | [.lst _ ds] => some (.int ds.length)
  | [.tup ds] => some (.int ds.length)
  | [.scr ns] => some (.int ns.length)
  | [.str s] => if s.length ≤ 16777216 then some (.int s.length) else none
  | [.dic _ .k ks _] => some (.int ks.length)
  | [.dic _ .t ks _] => some (.int ks.length)
  | _ => none
def rLenR : List V → Hp → VK → Prop := fun xs H Q => ∃ a, xs = [V.ref a] ∧ ((∃ kvs, Rd H a (.dK kvs) ∧ Q (.int kvs.length) H) ∨ ∃ kvs, Rd H a (.dT kvs) ∧ Q (.int kvs.length) H)
theorem c_lenR {X : Cx} : CallR X (.builtin "len") rLenR := by
  intro pins s σ H xs us Q I r h
  obtain ⟨a, rfl, h⟩ := h
  obtain ⟨u, rfl, rx⟩ := vals1 r
  obtain rfl : u = .ref a := rx
  rcases h with ⟨kvs, hd, q⟩ | ⟨kvs, hd, q⟩
  · exact d_len I hd fun t s' I' => ⟨.int kvs.length, H, I', ⟨t, rfl⟩, q⟩
  · obtain ⟨z, hd, ys, rel, dd⟩ := dt_rd I.hok hd
    have hl : kvs.length = ys.length := Paired.length rel
    refine call_len_dictH hd dd (by rw [← hl]; rw [sizeLine_eq] at z; omega) ?_
    rw [← hl]
    exact ⟨.int ((kvs.length : Nat) : Int), H, I.tok _, ⟨_, rfl⟩, q⟩
def rLenD (K : PySem.W.Frag) : List V → Hp → VK → Prop := fun xs H Q => (∃ x n, xs = [x] ∧ LenV K x H n ∧ Q (.int n) H) ∨ rLenR xs H Q
theorem c_len {X : Cx} : CallR X (.builtin "len") (rLenD X.K) := CallR.or call_len c_lenR
section
variable {K : PySem.W.Frag} {mg : MG} {H : Hp}
theorem r_len : RnD K mg (rLenD K) opLen := by
  intro vs H ds d Q rs e k
  unfold opLen at e
  split at e
  · cases e
    obtain ⟨v, rfl, r⟩ := rs.one
    obtain ⟨a, xs, rfl, ha, l⟩ := r.lst_inv
    exact .inl ⟨_, _, rfl, .inl ⟨xs, SqL.of ha, l.length.symm⟩, k _ H (Same.refl H) (mk_int _)⟩
  · cases e
    obtain ⟨v, rfl, r⟩ := rs.one
    obtain ⟨a, xs, rfl, ha, l⟩ := r.tup_inv
    exact .inl ⟨_, _, rfl, .inr ⟨xs, SqT.of ha, l.length.symm⟩, k _ H (Same.refl H) (mk_int _)⟩
  · rename_i ns
    cases e
    obtain ⟨v, rfl, r⟩ := rs.one
    cases r with
    | scr hs => exact .inl ⟨_, _, rfl, .inl ⟨_, hs, by rw [List.length_map]⟩, k _ H (Same.refl H) (mk_int _)⟩
  · split at e
    · rename_i hl
      cases e
      obtain ⟨v, rfl, r⟩ := rs.one
      obtain rfl := r.str_inv
      exact .inl ⟨_, _, rfl, ⟨by rw [sizeLine_eq]; exact hl, rfl⟩, k _ H (Same.refl H) (mk_int _)⟩
    · cases e
  · rename_i o ks ws
    cases e
    obtain ⟨v, rfl, r⟩ := rs.one
    obtain ⟨a, kvs, rfl, hr, rfl, l⟩ := r.dk_inv
    refine .inr ⟨a, rfl, .inl ⟨kvs, hr, ?_⟩⟩
    have := k (.int kvs.length) H (Same.refl H)
    rw [List.length_map] at this
    exact this (mk_int _)
  · rename_i o ks ws
    cases e
    obtain ⟨v, rfl, r⟩ := rs.one
    obtain ⟨a, kvs, rfl, hr, rfl, l⟩ := r.dt_inv
    refine .inr ⟨a, rfl, .inr ⟨kvs, hr, ?_⟩⟩
    have := k (.int kvs.length) H (Same.refl H)
    rw [List.length_map] at this
    exact this (mk_int _)
  · cases e
end

/-! ### min, max, sum, all, any -/
def maxL : List Int → Option Int
  | [] => none
  | i :: l => some (l.foldl max i)
def minL : List Int → Option Int
  | [] => none
  | i :: l => some (l.foldl min i)
theorem foldl_max : ∀ (l : List Int) (i : Int), (l.foldl max i = i ∨ l.foldl max i ∈ l) ∧ i ≤ l.foldl max i ∧ ∀ y ∈ l, y ≤ l.foldl max i
  | [], i => ⟨.inl rfl, by simp, by simp⟩
  | a :: l, i => by
    obtain ⟨h1, h2, h3⟩ := foldl_max l (max i a)
    simp only [List.foldl_cons, List.mem_cons]
    refine ⟨?_, by omega, fun y hy => ?_⟩
    · rcases h1 with h1 | h1
      · rw [h1]
        by_cases h : i ≤ a
        · exact .inr (.inl (by omega))
        · exact .inl (by omega)
      · exact .inr (.inr h1)
    · rcases hy with rfl | hy
      · omega
      · exact h3 y hy
theorem foldl_min : ∀ (l : List Int) (i : Int), (l.foldl min i = i ∨ l.foldl min i ∈ l) ∧ l.foldl min i ≤ i ∧ ∀ y ∈ l, l.foldl min i ≤ y
  | [], i => ⟨.inl rfl, by simp, by simp⟩
  | a :: l, i => by
    obtain ⟨h1, h2, h3⟩ := foldl_min l (min i a)
    simp only [List.foldl_cons, List.mem_cons]
    refine ⟨?_, by omega, fun y hy => ?_⟩
    · rcases h1 with h1 | h1
      · rw [h1]
        by_cases h : i ≤ a
        · exact .inl (by omega)
        · exact .inr (.inl (by omega))
      · exact .inr (.inr h1)
    · rcases hy with rfl | hy
      · omega
      · exact h3 y hy
theorem maxL_ok {l : List Int} {m : Int} (h : maxL l = some m) : 0 < l.length ∧ m ∈ l ∧ ∀ y ∈ l, y ≤ m := by
  cases l with
  | nil => cases h
  | cons i l =>
    simp only [maxL, Option.some.injEq] at h
    obtain ⟨h1, h2, h3⟩ := foldl_max l i
    subst h
    refine ⟨by simp, ?_, fun y hy => ?_⟩
    · rcases h1 with h1 | h1
      · rw [h1]; simp
      · simp [h1]
    · rcases List.mem_cons.mp hy with rfl | hy
      · exact h2
      · exact h3 y hy
theorem minL_ok {l : List Int} {m : Int} (h : minL l = some m) : 0 < l.length ∧ m ∈ l ∧ ∀ y ∈ l, m ≤ y := by
  cases l with
  | nil => cases h
  | cons i l =>
    simp only [minL, Option.some.injEq] at h
    obtain ⟨h1, h2, h3⟩ := foldl_min l i
    subst h
    refine ⟨by simp, ?_, fun y hy => ?_⟩
    · rcases h1 with h1 | h1
      · rw [h1]; simp
      · simp [h1]
    · rcases List.mem_cons.mp hy with rfl | hy
      · exact h2
      · exact h3 y hy
def opMax : List D → Option D
  | [.int i, .int j] => some (.int (if j > i then j else i))
  | [.lst _ ds] => match intsL ds with
    | some l => (maxL l).map D.int
    | none => none
  | _ => none
def opMin : List D → Option D
  | [.int i, .int j] => some (.int (if j < i then j else i))
  | [.lst _ ds] => match intsL ds with
    | some l => (minL l).map D.int
    | none => none
  | _ => none
def opAll : List D → Option D
  | [.lst _ ds] => match blsL ds with
    | some l => some (.bl (l.all id))
    | none => none
  | _ => none
def rMax2 : List V → Hp → VK → Prop := fun xs H Q => ∃ i j, xs = [V.int i, V.int j] ∧ Q (.int (if j > i then j else i)) H
def rMin2 : List V → Hp → VK → Prop := fun xs H Q => ∃ i j, xs = [V.int i, V.int j] ∧ Q (.int (if j < i then j else i)) H
def rMaxA (K : PySem.W.Frag) : List V → Hp → VK → Prop := fun xs H Q => rMax2 xs H Q ∨ rMax K xs H Q
def rMinA (K : PySem.W.Frag) : List V → Hp → VK → Prop := fun xs H Q => rMin2 xs H Q ∨ rMin K xs H Q
theorem c_max {X : Cx} (hc : X.calm = true) : CallR X (.builtin "max") (rMaxA X.K) := CallR.or (call_max2 hc) (cr_max hc)
theorem c_min {X : Cx} (hc : X.calm = true) : CallR X (.builtin "min") (rMinA X.K) := CallR.or (call_min2 hc) (cr_min hc)
section
variable {K : PySem.W.Frag} {mg : MG} {H : Hp}
theorem r_max : RnD K mg (rMaxA K) opMax := by
  intro vs H ds d Q rs e k
  unfold opMax at e
  split at e
  · cases e
    obtain ⟨v, w, rfl, r1, r2⟩ := rs.two
    obtain rfl := r1.int_inv
    obtain rfl := r2.int_inv
    exact .inl ⟨_, _, rfl, k _ H (Same.refl H) (mk_int _)⟩
  · rename_i o ds'
    split at e
    · rename_i l hl
      obtain ⟨v, rfl, r⟩ := rs.one
      obtain ⟨a, xs, rfl, ha, rl⟩ := r.lst_inv
      obtain ⟨m, hm, rfl⟩ := Option.map_eq_some_iff.mp e
      obtain rfl := rl.ints hl
      obtain ⟨h1, h2, h3⟩ := maxL_ok hm
      refine .inr ⟨a, l, rfl, SqL.of ha, h1, fun m' h4 h5 => ?_⟩
      obtain rfl : m' = m := Int.le_antisymm (h3 _ h4) (h5 _ h2)
      exact k _ H (Same.refl H) (mk_int _)
    · cases e
  · cases e
theorem r_min : RnD K mg (rMinA K) opMin := by
  intro vs H ds d Q rs e k
  unfold opMin at e
  split at e
  · cases e
    obtain ⟨v, w, rfl, r1, r2⟩ := rs.two
    obtain rfl := r1.int_inv
    obtain rfl := r2.int_inv
    exact .inl ⟨_, _, rfl, k _ H (Same.refl H) (mk_int _)⟩
  · rename_i o ds'
    split at e
    · rename_i l hl
      obtain ⟨v, rfl, r⟩ := rs.one
      obtain ⟨a, xs, rfl, ha, rl⟩ := r.lst_inv
      obtain ⟨m, hm, rfl⟩ := Option.map_eq_some_iff.mp e
      obtain rfl := rl.ints hl
      obtain ⟨h1, h2, h3⟩ := minL_ok hm
      refine .inr ⟨a, l, rfl, SqL.of ha, h1, fun m' h4 h5 => ?_⟩
      obtain rfl : m' = m := Int.le_antisymm (h5 _ h2) (h3 _ h4)
      exact k _ H (Same.refl H) (mk_int _)
    · cases e
  · cases e
theorem r_all : RnD K mg (rAll K) opAll := by
  intro vs H ds d Q rs e k
  unfold opAll at e
  split at e
  · split at e
    · rename_i l hl
      cases e
      obtain ⟨v, rfl, r⟩ := rs.one
      obtain ⟨a, xs, rfl, ha, rl⟩ := r.lst_inv
      obtain rfl := rl.bls hl
      exact ⟨a, l, rfl, SqL.of ha, k _ H (Same.refl H) (mk_bl _)⟩
    · cases e
  · cases e
end

/-! ### tuple, list, int, str -/
def opTuple : List D → Option D
  | [.lst _ ds] => if immL ds = true then some (.tup ds) else none
  | [.tup ds] => if immL ds = true then some (.tup ds) else none
  | _ => none
def opList : List D → Option D
  | [.lst _ ds] => if immL ds = true then some (.lst true ds) else none
  | [.tup ds] => if immL ds = true then some (.lst true ds) else none
  | [.dic _ .k ks _] => if immL ks = true then some (.lst true ks) else none
  | [.dic _ .t ks _] => if immL ks = true then some (.lst true ks) else none
  | _ => none
def opInt : List D → Option D
  | [.int i] => some (.int i)
  | [.bl b] => some (.int (if b then 1 else 0))
  | [.str s] => match PySem.intText? s with
    | some n => if s.length ≤ 640 then some (.int n) else none
    | none => none
  | _ => none
def opStr : List D → Option D
  | [.int i] => if i.natAbs.log2 < 1920 then some (.str (toString i)) else none
  | [.str s] => some (.str s)
  | _ => none
def rTupleA (K : PySem.W.Frag) : List V → Hp → VK → Prop := fun xs H Q => ∃ p ys, xs = [V.ref p] ∧ ((SqL K H p ys ∧ ∀ l, H l = none → Q (.ref l) (upd H l (.tup ys))) ∨ (SqT K H p ys ∧ Q (.ref p) H))
theorem c_tuple {X : Cx} : CallR X (.type "tuple") (rTupleA X.K) := call_tuple_of
def rListQ (K : PySem.W.Frag) : List V → Hp → VK → Prop := fun xs H Q => ∃ p ys, xs = [V.ref p] ∧ (SqL K H p ys ∨ SqT K H p ys) ∧ ∀ l, H l = none → Q (.ref l) (upd H l (.lst ys))
def rListK : List V → Hp → VK → Prop := fun xs H Q => ∃ (a : Addr) (kvs : List (Key × V)), xs = [V.ref a] ∧ Rd H a (.dK kvs) ∧ ∀ p, H p = none → Q (.ref p) (upd H p (.lst (kvs.map fun kv => kV kv.1)))
def rListT : List V → Hp → VK → Prop := fun xs H Q => ∃ d kvs, xs = [V.ref d] ∧ Rd H d (.dT kvs) ∧ ∀ p bs, H p = none → IsKeys H kvs bs → Q (.ref p) (upd H p (.lst (bs.map V.ref)))
def rListA (K : PySem.W.Frag) : List V → Hp → VK → Prop := fun xs H Q => rListQ K xs H Q ∨ (rListK xs H Q ∨ rListT xs H Q)
theorem c_list {X : Cx} (hc : X.calm = true) : CallR X (.type "list") (rListA X.K) := CallR.or call_list_of (CallR.or (call_listD hc) (call_list_dT hc))
def rInt1 : List V → Hp → VK → Prop := fun xs H Q => (∃ i, xs = [V.int i] ∧ Q (.int i) H) ∨ ∃ k, xs = [V.bl k] ∧ Q (.int (if k then 1 else 0)) H
def rIntS : List V → Hp → VK → Prop := fun xs H Q => ∃ a n, xs = [V.str a] ∧ PySem.intText? a = some n ∧ a.length ≤ 640 ∧ Q (.int n) H
def rIntA : List V → Hp → VK → Prop := fun xs H Q => rInt1 xs H Q ∨ rIntS xs H Q
theorem c_int {X : Cx} : CallR X (.type "int") rIntA := CallR.or call_int1 call_int_str
def rStrI : List V → Hp → VK → Prop := fun xs H Q => ∃ i, xs = [V.int i] ∧ i.natAbs.log2 < 1920 ∧ Q (.str (toString i)) H
def rStrS : List V → Hp → VK → Prop := fun xs H Q => ∃ a, xs = [V.str a] ∧ Q (.str a) H
def rStrA : List V → Hp → VK → Prop := fun xs H Q => rStrI xs H Q ∨ rStrS xs H Q
theorem c_str {X : Cx} : CallR X (.type "str") rStrA := CallR.or call_str_int SkE.call_str_str
section
variable {K : PySem.W.Frag} {mg : MG} {H : Hp}
theorem r_tuple : RnD K mg (rTupleA K) opTuple := by
  intro vs H ds d Q rs e k
  unfold opTuple at e
  split at e
  · split at e
    · rename_i hi
      cases e
      obtain ⟨v, rfl, r⟩ := rs.one
      obtain ⟨a, xs, rfl, ha, rl⟩ := r.lst_inv
      exact ⟨a, xs, rfl, .inl ⟨SqL.of ha, fun p hp => k _ _ (same_upd hp) (mk_tup rl hi hp)⟩⟩
    · cases e
  · split at e
    · rename_i hi
      cases e
      obtain ⟨v, rfl, r⟩ := rs.one
      obtain ⟨a, xs, rfl, ha, rl⟩ := r.tup_inv
      exact ⟨a, xs, rfl, .inr ⟨SqT.of ha, k _ H (Same.refl H) (mk_imm r (by simpa [D.imm] using hi))⟩⟩
    · cases e
  · cases e
theorem isKeys_rp {H : Hp} : ∀ {kvs : List (List Key × V)} {bs : List Addr}, IsKeys H kvs bs → RpL K mg H (bs.map V.ref) (kvs.map fun p => ktD p.1)
  | _, _, .nil => .nil
  | _, _, .cons h t => .cons (.tup h (rp_kys _)) (isKeys_rp t)
where rp_kys : ∀ (l : List Key), RpL K mg H (l.map kV) (l.map kyD)
  | [] => .nil
  | .inl i :: l => .cons (.int i) (rp_kys l)
  | .inr s :: l => .cons (.str s) (rp_kys l)
theorem rp_kys {H : Hp} : ∀ (kvs : List (Key × V)), RpL K mg H (kvs.map fun kv => kV kv.1) (kvs.map fun p => kyD p.1)
  | [] => .nil
  | (.inl i, _) :: l => .cons (.int i) (rp_kys l)
  | (.inr s, _) :: l => .cons (.str s) (rp_kys l)
theorem r_list : RnD K mg (rListA K) opList := by
  intro vs H ds d Q rs e k
  unfold opList at e
  split at e
  · split at e
    · rename_i hi
      cases e
      obtain ⟨v, rfl, r⟩ := rs.one
      obtain ⟨a, xs, rfl, ha, rl⟩ := r.lst_inv
      exact .inl ⟨a, xs, rfl, .inl (SqL.of ha), fun p hp => k _ _ (same_upd hp) (mk_lst rl hi hp)⟩
    · cases e
  · split at e
    · rename_i hi
      cases e
      obtain ⟨v, rfl, r⟩ := rs.one
      obtain ⟨a, xs, rfl, ha, rl⟩ := r.tup_inv
      exact .inl ⟨a, xs, rfl, .inr (SqT.of ha), fun p hp => k _ _ (same_upd hp) (mk_lst rl hi hp)⟩
    · cases e
  · rename_i o ks ws
    split at e
    · rename_i hi
      cases e
      obtain ⟨v, rfl, r⟩ := rs.one
      obtain ⟨a, kvs, rfl, hr, rfl, l⟩ := r.dk_inv
      exact .inr (.inl ⟨a, kvs, rfl, hr, fun p hp => k _ _ (same_upd hp) (mk_lst (rp_kys kvs) hi hp)⟩)
    · cases e
  · rename_i o ks ws
    split at e
    · rename_i hi
      cases e
      obtain ⟨v, rfl, r⟩ := rs.one
      obtain ⟨a, kvs, rfl, hr, rfl, l⟩ := r.dt_inv
      exact .inr (.inr ⟨a, kvs, rfl, hr, fun p bs hp hb => k _ _ (same_upd hp) (mk_lst (isKeys_rp hb) hi hp)⟩)
    · cases e
  · cases e
theorem r_int : RnD K mg rIntA opInt := by
  intro vs H ds d Q rs e k
  unfold opInt at e
  split at e
  · cases e
    obtain ⟨v, rfl, r⟩ := rs.one
    obtain rfl := r.int_inv
    exact .inl (.inl ⟨_, rfl, k _ H (Same.refl H) (mk_int _)⟩)
  · cases e
    obtain ⟨v, rfl, r⟩ := rs.one
    obtain rfl := r.bl_inv
    exact .inl (.inr ⟨_, rfl, k _ H (Same.refl H) (mk_int _)⟩)
  · split at e
    · rename_i n hn
      split at e
      · rename_i hl
        cases e
        obtain ⟨v, rfl, r⟩ := rs.one
        obtain rfl := r.str_inv
        exact .inr ⟨_, _, rfl, hn, hl, k _ H (Same.refl H) (mk_int _)⟩
      · cases e
    · cases e
  · cases e
theorem r_str : RnD K mg rStrA opStr := by
  intro vs H ds d Q rs e k
  unfold opStr at e
  split at e
  · split at e
    · rename_i hl
      cases e
      obtain ⟨v, rfl, r⟩ := rs.one
      obtain rfl := r.int_inv
      exact .inl ⟨_, rfl, hl, k _ H (Same.refl H) (mk_str _)⟩
    · cases e
  · cases e
    obtain ⟨v, rfl, r⟩ := rs.one
    obtain rfl := r.str_inv
    exact .inr ⟨_, rfl, k _ H (Same.refl H) (mk_str _)⟩
  · cases e
end
end Dl

set_option Elab.async false
set_option linter.all false
set_option maxRecDepth 100000
set_option maxHeartbeats 1000000
/-! DL9: *, chains, .. if .. else .., isinstance, steps of a slice, dict(..), sorted(..). -/
namespace Dl
open PySem PySem.Spec PyProof.Rows L2

/-! ### * of ints, texts, lists, tuples -/
def opMulA : D → D → Option D
  | .int i, .int j => opMul (.int i) (.int j)
  | .str s, .int n => if lg 9 n = true ∧ s.length ≤ 1000 then some (.str (Txt.mul s n)) else none
  | .lst _ ds, .int n => if immL ds = true ∧ lg 9 n = true ∧ ds.length ≤ 1000 then some (.lst true (List.replicate n.toNat ds).flatten) else none
  | .tup ds, .int n => if immL ds = true ∧ 2 ≤ n ∧ n ≤ 1000 ∧ ds ≠ [] ∧ ds.length ≤ 1000 then some (.tup (List.replicate n.toNat ds).flatten) else none
  | _, _ => none
def rMulS : R2 := fun x y H Q => ∃ s n, x = .str s ∧ y = .int n ∧ MulOk s n ∧ Q (.str (Txt.mul s n)) H
theorem op_muls {X : Cx} : OpR X (binaryOp .Mult) rMulS := by
  intro pins s σ H x y v u Q I rx ry h
  obtain ⟨z, n, rfl, rfl, hm, q⟩ := h
  obtain ⟨t, rfl⟩ := rx
  obtain ⟨t', rfl⟩ := ry
  exact SB.mul hm fun t' k => ⟨.str _, H, I.tok _, ⟨_, rfl⟩, q⟩
def rMulA (K : PySem.W.Frag) : R2 := fun x y H Q => rI CMul (fun i j => .int (i * j)) x y H Q ∨ (rMulS x y H Q ∨ (rRep x y H Q ∨ rRepT K x y H Q))
theorem op_mulA {X : Cx} : OpR X (binaryOp .Mult) (rMulA X.K) := OpR.or op_mul (OpR.or op_muls (OpR.or op_rep op_repT))
theorem mulOk_small {s : Str} {n : Int} (h1 : n ≤ 1000) (h2 : s.length ≤ 1000) (h3 : -(2 ^ 63) ≤ n) : MulOk s n := by
  refine ⟨?_, fun h4 _ => ?_, fun h4 _ => ?_⟩
  · simp only [Bool.or_eq_false_iff, decide_eq_false_iff_not]
    omega
  · have : (1000 : Int) ≤ (2 ^ 63 - 1) / n := by
      apply Int.le_ediv_of_mul_le (by omega)
      have : (1000 : Int) * n ≤ 1000 * 1000 := by omega
      omega
    omega
  · have h5 : s.length * n.toNat ≤ 1000 * 1000 := Nat.mul_le_mul h2 (by omega)
    unfold Builtin.Str.tooLong
    rw [decide_eq_false_iff_not]
    have := sizeLine_eq
    omega
section
variable {K : PySem.W.Frag} {mg : MG} {H : Hp}
theorem RpL.rep {xs : List V} {ds : List D} (h : RpL K mg H xs ds) : ∀ n, RpL K mg H (List.replicate n xs).flatten (List.replicate n ds).flatten
  | 0 => .nil
  | n + 1 => by
    rw [List.replicate_succ, List.replicate_succ, List.flatten_cons, List.flatten_cons]
    exact RpL.append h (RpL.rep h n)
theorem immL_rep {ds : List D} (h : immL ds = true) : ∀ n, immL (List.replicate n ds).flatten = true
  | 0 => by simp [immL]
  | n + 1 => by
    rw [List.replicate_succ, List.flatten_cons]
    exact immL_app h (immL_rep h n)
theorem r_mulA : R2D K mg (rMulA K) opMulA := by
  intro x y H dx dy d Q rx ry e k
  cases dx <;> cases dy <;> simp only [opMulA, reduceCtorEq] at e
  · exact .inl (r_mul x y H _ _ d Q rx ry e k)
  · split at e
    · rename_i h
      cases e
      obtain rfl := rx.str_inv
      obtain rfl := ry.int_inv
      have := lg_lt h.1 (by decide)
      exact .inr (.inl ⟨_, _, rfl, rfl, mulOk_small (by omega) h.2 (by omega), k _ H (Same.refl H) (mk_str _)⟩)
    · cases e
  · split at e
    · rename_i h
      cases e
      obtain ⟨a, xs, rfl, ha, l⟩ := rx.tup_inv
      obtain rfl := ry.int_inv
      have hl := l.length
      refine .inr (.inr (.inr ⟨a, _, xs, rfl, rfl, SqT.of ha, ?_, h.2.1, h.2.2.1, by omega, fun p hp => k _ _ (same_upd hp) (mk_tup (l.rep _) (immL_rep h.1 _) hp)⟩))
      intro q
      subst q
      exact h.2.2.2.1 (List.eq_nil_of_length_eq_zero hl.symm)
    · cases e
  · split at e
    · rename_i h
      cases e
      obtain ⟨a, xs, rfl, ha, l⟩ := rx.lst_inv
      obtain rfl := ry.int_inv
      have hl := l.length
      have hlg := lg_lt h.2.1 (by decide)
      refine .inr (.inr (.inl ⟨a, _, xs, rfl, rfl, ha, by omega, by omega, ?_, fun p hp => k _ _ (same_upd hp) (mk_lst (l.rep _) (immL_rep h.1 _) hp)⟩))
      rw [sizeLine_eq]
      exact Nat.le_trans (Nat.mul_le_mul (by omega : xs.length ≤ 1000) (Int.toNat_le.mpr (by omega) : _ ≤ 1000)) (by decide)
    · cases e
end

/-! ### a < b < c -/
def pCh (op op' : D → D → Option D) (a b c : PM) : PM := fun ρ => match a ρ, b ρ with
  | some x, some y => match op x y with
    | some (.bl true) => match c ρ with
      | some z => op' y z
      | none => none
    | some (.bl false) => some (.bl false)
    | _ => none
  | _, _ => none
section
variable {X : Cx} {F : Fm} {vs0 : List V} {r r' : R2} {op op' : D → D → Option D} {fa fb fc : PM} {ea eb : EM} {b1 : BM} {a b c : Expr} {pos : Pos} {o1 o2 : CmpOp}
theorem imp_ch (hr : R2D F.K F.mg r op) (hr' : R2D F.K F.mg r' op') : ∀ σ H Q, tP F (pCh op op' fa fb fc) σ H Q → tChain r r' (tP F fa) (tP F fb) (tP F fc) σ H Q := fun σ H Q ⟨ρ, ts, d, a, e, k⟩ => by
  unfold pCh at e
  split at e
  · rename_i x y ex ey
    refine ⟨ρ, ts, x, a, ex, fun v H1 g1 rx cx => ⟨ρ, ts, y, a.grow g1, ey, fun w H2 g2 ry cy => ?_⟩⟩
    split at e
    · rename_i eo
      split at e
      · rename_i z ez
        refine hr v w H2 x y _ _ (rx.grow g2) ry eo fun z1 H3 g3 m3 => ?_
        have a3 := ((a.grow g1).grow g2).mk' m3
        have e1 : z1 = .bl true := (a3.front.rp).bl_inv
        refine ⟨true, e1, ?_⟩
        rw [if_pos rfl]
        refine ⟨ρ, ts, z, ((a.grow g1).grow g2).grow g3, ez, fun w2 H4 g4 rz cz => ?_⟩
        refine hr' w w2 H4 y z d Q ((ry.grow g3).grow g4) rz e fun z2 H5 g5 m5 => ?_
        have a5 := ((((a.grow g1).grow g2).grow g3).grow g4).mk' m5
        exact k z2 H5 ((((g1.trans g2).trans g3).trans g4).trans g5) a5.front.rp (Cj.of a5)
      · cases e
    · rename_i eo
      cases e
      refine hr v w H2 x y _ _ (rx.grow g2) ry eo fun z1 H3 g3 m3 => ?_
      have a3 := ((a.grow g1).grow g2).mk' m3
      have e1 : z1 = .bl false := (a3.front.rp).bl_inv
      refine ⟨false, e1, ?_⟩
      rw [if_neg (by simp)]
      exact k (.bl false) H3 ((g1.trans g2).trans g3) (.bl false) (Cj.of (by rw [← e1]; exact a3))
    · cases e
  · cases e
theorem p_ch (ho : OpR X (compareOp o1) r) (ho' : OpR X (compareOp o2) r') (hr : R2D X.K ⟨X.mg, X.w⟩ r op) (hr' : R2D X.K ⟨X.mg, X.w⟩ r' op') (ha : PE X a (tP (fm X vs0) fa)) (hb : PE X b (tP (fm X vs0) fb)) (hc : PE X c (tP (fm X vs0) fc))
    (hm : lastMarks [o1, o2] [b, c] = false := by with_unfolding_all rfl) : PE X (.Compare a [o1, o2] [b, c] pos) (tP (fm X vs0) (pCh op op' fa fb fc)) := (pe_chain ho ho' ha hb hc hm).imp (imp_ch hr hr')

/-! ### a if c else b -/
def eIf (c : BM) (a b : EM) : EM := fun ρ => match c ρ with
  | some (true, ρ1) => a ρ1
  | some (false, ρ1) => b ρ1
  | none => none
end

/-! ### isinstance(x, T), T built in -/
def tyD : D → Option String
  | .non => some "NoneType"
  | .bl _ => some "bool"
  | .int _ => some "int"
  | .str _ => some "str"
  | .tup _ => some "tuple"
  | .lst _ _ => some "list"
  | .dic _ .k _ _ => some "dict"
  | _ => none
def opIsi (T : String) : D → Option D := fun d => match tyD d with
  | some t => (kitB t T).map D.bl
  | none => none
def pIsi (T : String) (a : PM) : PM := pOp1 (opIsi T) a
section
variable {X : Cx} {F : Fm} {vs0 : List V} {fa : PM} {a : Expr} {T : String} {K : PySem.W.Frag} {mg : MG} {H : Hp}
theorem tyD_ok {v : V} {d : D} {t : String} (r : Rp K mg H v d) (e : tyD d = some t) : TyX K H v (.type t) := by
  cases r with
  | non => cases e; exact .base .non
  | bl b => cases e; exact .base (.bl _)
  | int i => cases e; exact .base (.int _)
  | str s => cases e; exact .base (.str _)
  | tup h l => cases e; exact .base (.tup h)
  | lst h l => cases e; exact .base (.lst h)
  | dk h _ _ =>
    cases e
    rcases h with h | ⟨o, h⟩
    · exact .base (.dK h)
    · exact .fDict h
  | dt _ _ _ => cases e
  | dn _ _ _ _ => cases e
  | obj _ _ _ _ => cases e
  | scr _ => cases e
  | exn _ _ _ _ _ => cases e
  | ptr _ => cases e
  | lat _ _ => cases e
  | dlk _ _ _ _ => cases e
theorem imp_isi : ∀ σ H Q, tP F (pIsi T fa) σ H Q → tCB (rIsi F.K) (tCons (tP F fa) (tCons (tC (.ty T)) tNil)) σ H Q := fun σ H Q ⟨ρ, ts, d, a, e, k⟩ => by
  unfold pIsi pOp1 at e
  split at e
  · rename_i x ex
    refine ⟨ρ, ts, x, a, ex, fun v H1 g1 rx cx => ?_⟩
    unfold opIsi at e
    split at e
    · rename_i t et
      obtain ⟨b, hb, rfl⟩ := Option.map_eq_some_iff.mp e
      exact ⟨v, _, _, _, b, rfl, .ty T, tyD_ok rx et, kit_ty hb, k _ H1 g1 (.bl b) (Cj.of ((a.grow g1).mk' (mk_bl b)))⟩
    · cases e
  · cases e
end

/-! ### x[::1], x[::-1] of tuples -/
def opStp (x y : D) : Option D := match x, y with
  | .tup ds, .int i => if immL ds = true then (if i = 1 then some (.tup ds) else if i = -1 then some (.tup ds.reverse) else none) else none
  | _, _ => none
end Dl

set_option Elab.async false
set_option linter.all false
set_option maxRecDepth 100000
set_option maxHeartbeats 1000000
/-! DL10: t[::1], t[::-1]; isinstance; dict(pairs); sorted(list). -/
namespace Dl
open PySem PySem.Spec PyProof.Rows L2

section
variable {prog : Program} {w : World} {A : Around} {E : Value → Shared → Prop} {s : Shared}
theorem rev_pick (xs : Array Value) : ((List.range xs.size).filterMap fun (m : Nat) => xs[(((xs.size : Int) - 1) + (m : Int) * (-1)).toNat]?).toArray = xs.toList.reverse.toArray := by
  congr 1
  obtain ⟨l⟩ := xs
  simp only [List.size_toArray]
  have key : ∀ n, n ≤ l.length → (List.range n).filterMap (fun (m : Nat) => (l.toArray)[(((l.length : Int) - 1) + (m : Int) * (-1)).toNat]?) = (l.drop (l.length - n)).reverse := by
    intro n
    induction n with
    | zero => intro _; simp
    | succ n ih =>
      intro hn
      rw [List.range_succ, List.filterMap_append, ih (by omega)]
      have e1 : (((l.length : Int) - 1) + (n : Int) * (-1)).toNat = l.length - (n + 1) := by omega
      have e2 : l.drop (l.length - (n + 1)) = l[l.length - (n + 1)]'(by omega) :: l.drop (l.length - n) := by
        rw [List.drop_eq_getElem_cons (by omega)]
        congr 2
        omega
      rw [e2, List.reverse_cons]
      congr 1
      rw [List.filterMap_cons, e1]
      have e3 : (l.toArray)[l.length - (n + 1)]? = some (l[l.length - (n + 1)]'(by omega)) := by
        rw [List.getElem?_toArray, List.getElem?_eq_getElem (by omega)]
      rw [e3]
      rfl
  have := key l.length (Nat.le_refl _)
  rw [Nat.sub_self, List.drop_zero] at this
  exact this
theorem stp_applied {sl : Addr} {u : Tok} {i : Int} {n : Nat} {Q : Int × Int × Nat → Shared → Prop} (hs : s.heap.IsSliceOf sl .none .none (.int i u)) (hi : i ≠ 0)
    (h : Q ((Builtin.Slice.sliceAdjust none none i (n : Int)).1, i, Builtin.Slice.slicePlaces (Builtin.Slice.sliceAdjust none none i (n : Int)).1 (Builtin.Slice.sliceAdjust none none i (n : Int)).2 i) s) :
    wpAny (model prog w) A (Builtin.Slice.sliceApplied (.ref sl) (pure (n : Int))) Q E s := by
  obtain ⟨os, hos, hcs, hds⟩ := id hs
  unfold Builtin.Slice.sliceApplied Builtin.Slice.sliceFields
  refine wpAny_bind (wpAny_bind (wpAny_field hos hds (x := .none) rfl (wpAny_bind (wpAny_field hos hds (x := .none) rfl (wpAny_bind (wpAny_field hos hds (x := .int i u) rfl (wpAny_pure ?_)))))))
  refine wpAny_bind (slicePart_int ?_)
  show wpAny _ _ (if (i == 0) = true then _ else _) _ _ s
  rw [if_neg (by simpa using hi)]
  refine wpAny_bind (slicePart_none (wpAny_bind (slicePart_none (wpAny_bind (wpAny_pure ?_)))))
  exact wpAny_pure h
theorem adj_one (n : Nat) : Builtin.Slice.sliceAdjust none none 1 (n : Int) = (0, (n : Int)) := by
  unfold Builtin.Slice.sliceAdjust
  simp
theorem adj_neg (n : Nat) : Builtin.Slice.sliceAdjust none none (-1) (n : Int) = ((n : Int) - 1, -1) := by
  unfold Builtin.Slice.sliceAdjust
  simp
theorem pl_one (n : Nat) : Builtin.Slice.slicePlaces 0 (n : Int) 1 = n := by
  unfold Builtin.Slice.slicePlaces
  have h1 : (1 : Int) > 0 := by omega
  simp only [h1, if_true, Int.ediv_one]
  split <;> omega
theorem pl_neg (n : Nat) : Builtin.Slice.slicePlaces ((n : Int) - 1) (-1) (-1) = n := by
  unfold Builtin.Slice.slicePlaces
  have h1 : ¬ ((-1 : Int) > 0) := by omega
  have h2 : -(-1 : Int) = 1 := by omega
  simp only [h1, if_false, h2, Int.ediv_one]
  split <;> omega
theorem getItem_stp {t sl : Addr} {items : Array Value} {i : Int} {u : Tok} {Q : Value → Shared → Prop} (ht : IsTup s.heap t items) (hs : s.heap.IsSliceOf sl .none .none (.int i u))
    (h : (i = 1 ∧ Q (.ref t) s) ∨ (i = -1 ∧ Q (.ref s.heap.objs.size) { s with heap := s.heap.push { cls := .type "tuple", data := .seq items.toList.reverse.toArray } }))
    (hsz : items.size ≤ sizeLine) : wpAny (model prog w) A (getItem (.ref t) (.ref sl)) Q E s := by
  have hz : sizeOk (.seq items.toList.reverse.toArray) := by
    show items.toList.reverse.toArray.size ≤ sizeLine
    rw [List.size_toArray, List.length_reverse, Array.length_toList]
    exact hsz
  obtain ⟨os, hos, hcs, hds⟩ := id hs
  have hTs : s.TypeIs (.ref sl) "slice" := ⟨os, hos, hcs⟩
  unfold getItem
  try with_reducible refine wpAny_holding ?_
  first | refine wpAny_bind (wpAny_pure ?_) | skip
  refine wpAny_bind (wpAny_sequenceKey ht.typeIs (by decide) ?_)
  refine wpAny_bind (wpAny_callSpecial?_slot (name := Str.ofString "__getitem__") ht.typeIs PyProof.Rows.slot_tuple_getitem
    (wpAny_call_entry PyProof.Rows.slot_tuple_getitem ht.typeIs entry_tuple_getitem ?_ (args_tuple_getitem _ _)))
  show wpAny _ _ (Builtin.Tuple.tupleItemsOf (.ref t) >>= _) _ _ s
  refine wpAny_bind (tupleItemsOf_ ht ?_)
  refine wpAny_bind (wpAny_typeOf hTs ?_)
  rw [if_pos (by decide)]
  rcases h with ⟨rfl, h⟩ | ⟨rfl, h⟩
  · refine wpAny_bind (stp_applied hs (by decide) ?_)
    rw [adj_one]
    simp only [pl_one]
    show wpAny _ _ (if ((0 : Int) == 0 && (1 : Int) == 1 && items.size == items.size) = true then _ else _) _ _ s
    rw [if_pos (by simp)]
    refine wpAny_bind ?_
    show wpAny _ _ (typeOf (.ref t) >>= fun T => pure (T == .type "tuple")) _ _ s
    refine wpAny_bind (wpAny_typeOf ht.typeIs (wpAny_pure ?_))
    first
      | rw [if_pos (by decide)]
      | simp only [beq_self_eq_true, if_true]
    first
      | exact wpAny_bind (wpAny_rule (wpAny_pure ⟨_, rfl, wpAny_pure h⟩))
      | exact wpAny_bind (wpAny_rule (wpAny_bind (wpAny_pure (wpAny_pure ⟨_, rfl, wpAny_pure h⟩))))
  · refine wpAny_bind (stp_applied hs (by decide) ?_)
    rw [adj_neg]
    simp only [pl_neg]
    have hno : ¬ ((((items.size : Int) - 1) == 0 && (-1 : Int) == 1 && items.size == items.size) = true) := by simp
    show wpAny _ _ (if (((items.size : Int) - 1) == 0 && (-1 : Int) == 1 && items.size == items.size) = true then _ else _) _ _ s
    rw [if_neg hno, rev_pick]
    first
      | exact wpAny_bind (m := Builtin.Tuple.tupleExact _) (wpAny_newObj_type (wpAny_pure ⟨_, rfl, wpAny_pure h⟩) hz)
      | exact wpAny_bind (m := Builtin.Tuple.tupleExact _) (wpAny_newObj_type (wpAny_bind (wpAny_pure (wpAny_pure ⟨_, rfl, wpAny_pure h⟩))) hz)
      | exact wpAny_bind (wpAny_bind (m := Builtin.Tuple.tupleExact _) (wpAny_newObj_type (wpAny_pure (wpAny_pure ⟨_, rfl, wpAny_pure h⟩)) hz))
      | exact wpAny_bind (wpAny_bind (m := Builtin.Tuple.tupleExact _) (wpAny_newObj_type (wpAny_pure ⟨_, rfl, wpAny_pure h⟩) hz))
end
def rStp (K : PySem.W.Frag) : R2 := fun x y H Q => ∃ a xs i, x = .ref a ∧ y = .int i ∧ SqT K H a xs ∧ ((i = 1 ∧ Q (.ref a) H) ∨ (i = -1 ∧ ∀ p, H p = none → Q (.ref p) (upd H p (.tup xs.reverse))))
theorem pe_stp {X : Cx} {e st : Expr} {te ts : TE} {p3 pos : Pos} (he : PE X e te) (hs : PE X st ts) : PE X (.Subscript e (.Slice none none (some st) p3) pos) (tOp (rStp X.K) te ts) := by
  refine ⟨fun pins s σ H Q I h => ?_⟩
  refine Subscript_ (thn (he.run pins s σ H _ I h) fun v s1 ⟨x, H1, I1, r1, q1⟩ => ?_)
  have hst : PO X (some st) (tPart ts) := po_some hs
  refine wpAny_Slice (thn (po_none.run pins s1 σ H1 (fun o H2 => o = none ∧ H2 = H1) I1 ⟨rfl, rfl⟩) fun vl s2 ⟨l, H2, I2, pl, el, e2⟩ => ?_)
  subst el e2
  refine thn (po_none.run pins s2 σ H2 (fun o H3 => o = none ∧ H3 = H2) I2 ⟨rfl, rfl⟩) fun vu s3 ⟨u, H3, I3, pu, eu, e3⟩ => ?_
  subst eu e3
  cases pl
  cases pu
  rw [evalPart_some]
  refine thn (hs.run pins s3 σ H3 _ I3 q1) fun vs s4 ⟨y, H4, I4, ps, q4⟩ => ?_
  obtain ⟨a, xs, i, rfl, rfl, hx, q⟩ := q4
  obtain ⟨tk, rfl⟩ := ps
  cases r1
  have I5 : Inv X pins σ H4 { s4 with heap := s4.heap.push { cls := .type "slice", data := .fields #[.none, .none, .int i tk] } } := I4.kept (t' := s4.toks) fun b ob q => Heap.get?_push_of_some _ q
  obtain ⟨its, r, ht, hz⟩ := I5.tuple hx
  have hlen := r.length
  show wpAny (model X.prog X.w) X.A (subscriptTail e (.Slice none none (some st) p3) (.ref a) (.ref s4.heap.objs.size)) (EP X pins σ Q) X.xe { s4 with heap := s4.heap.push { cls := .type "slice", data := .fields #[.none, .none, .int i tk] } }
  refine tail_any (ops := [.ref a, .ref s4.heap.objs.size]) ht.typeIs (PyProof.Rows.slot_tuple_getitem.lookup) ?_ (by with_unfolding_all rfl)
  refine getItem_stp ht (Heap.IsSliceOf.new _ _ _ _) ?_ (by rw [List.size_toArray]; omega)
  rcases q with ⟨e1, q⟩ | ⟨e1, q⟩
  · exact .inl ⟨e1, .ref a, H4, I5, rfl, q⟩
  · refine .inr ⟨e1, .ref _, _, I5.laid (t' := s4.toks) (o := .tup xs.reverse) (fun b ob q => Heap.get?_push_of_some _ q) (Nat.le_refl _) ?_, rfl, q _ (I5.hok.fresh (Nat.le_refl _))⟩
    exact ⟨by rw [List.length_reverse]; exact hz, _, r.reverse, IsTup.new _ _⟩
section
variable {K : PySem.W.Frag} {mg : MG} {H : Hp}
theorem RpL.reverse {xs : List V} {ds : List D} (h : RpL K mg H xs ds) : RpL K mg H xs.reverse ds.reverse := by
  induction xs generalizing ds with
  | nil => cases h; exact .nil
  | cons x xs ih =>
    cases h with
    | cons a b =>
      rw [List.reverse_cons, List.reverse_cons]
      exact (ih b).append (.cons a .nil)
theorem immL_reverse : ∀ {ds : List D}, immL ds = true → immL ds.reverse = true := fun {ds} h => by
  rw [immL_all] at h ⊢
  rw [List.all_reverse]
  exact h
theorem r_stp : R2D K mg (rStp K) opStp := by
  intro x y H dx dy d Q rx ry e k
  cases dx <;> cases dy <;> simp only [opStp, reduceCtorEq] at e
  split at e
  · rename_i hi
    obtain ⟨a, xs, rfl, ha, l⟩ := rx.tup_inv
    obtain rfl := ry.int_inv
    split at e
    · rename_i h1
      cases e
      exact ⟨a, xs, _, rfl, rfl, SqT.of ha, .inl ⟨h1, k _ H (Same.refl H) (mk_imm rx (by simpa [D.imm] using hi))⟩⟩
    · split at e
      · rename_i h1
        cases e
        exact ⟨a, xs, _, rfl, rfl, SqT.of ha, .inr ⟨h1, fun p hp => k _ _ (same_upd hp) (mk_tup l.reverse (immL_reverse hi) hp)⟩⟩
      · cases e
  · cases e
end
section
variable {X : Cx} {vs0 : List V} {fa fb : PM} {ea eb : EM} {a b : Expr} {p3 pos p p1 p2 : Pos} {T : String}
theorem e_stp (ha : PE X a (tD (fm X vs0) ea)) (hb : PE X b (tD (fm X vs0) eb)) : PE X (.Subscript a (.Slice none none (some b) p3) pos) (tD (fm X vs0) (eOp2 opStp ea eb)) := (pe_stp ha hb).imp (imp_e2 r_stp)
/-- isinstance(x, T) -/
theorem p_isi (hm : X.mg "isinstance" = none) (ha : PE X a (tP (fm X vs0) fa)) (hb : PE X b (tC (.ty T))) (hg : Gl X "isinstance" := by rfl)
    (he : starEach (a :: [b]) X.env = (false, eval a X.env) :: starEach [b] X.env := by rfl) (he2 : starEach (b :: []) X.env = (false, eval b X.env) :: starEach [] X.env := by rfl) (hpl : (backTo pos (starEach [b] X.env)).any (·.1) = false := by rfl) :
    PE X (.Call (.Name "isinstance" p) [a, b] [] pos) (tP (fm X vs0) (pIsi T fa)) :=
  (pe_callB call_isi hg hm (by rfl) (pa_cons ha (pa_cons hb pa_nil he2) he) (by decide) (by decide) he hpl).imp imp_isi
end
end Dl

set_option Elab.async false
set_option linter.all false
set_option maxRecDepth 100000
set_option maxHeartbeats 1000000
/-! DL11: places (a slot, a part of it), methods that change what stands there. -/
namespace Dl
open PySem PySem.Spec PyProof.Rows L2

/-! ### a method that changes its receiver -/
def RmD (K : PySem.W.Frag) (mg : MG) (r : V → List V → Hp → VK → Prop) (op : D → List D → Option (D × D)) : Prop :=
  ∀ (x : V) (d : D) (vs : List V) (ds : List D) (d' res : D) (H : Hp) (Q : VK) (rs : List Rt), Sim K mg H (.v x d :: (vals vs ds ++ rs)) → vs.length = ds.length → op d ds = some (d', res) →
    (∀ z H', Sim K mg H' (.v z res :: .v x d' :: rs) → Q z H') → r x vs H Q
/-- what type a receiver must be of -/
def TyR (K : PySem.W.Frag) (mg : MG) (T : String) (op : D → List D → Option (D × D)) : Prop := ∀ (x : V) (d : D) (ds : List D) (q : D × D) (H : Hp) (rs : List Rt), Sim K mg H (.v x d :: rs) → op d ds = some q → tyV K T x H
/-- slot i, arguments reckoned and given away -/
def eMt (op : D → List D → Option (D × D)) (i : Nat) (am : AM) : EM := fun ρ => match ρ.getD i none with
  | some d0 => match am ρ with
    | some (as, ρ1) => match valsA as with
      | some ds => match ρ1.getD i none with
        | some d => match op d ds with
          | some (d', res) => if (op d0 ds).isSome = true then some (res, ρ1.set i (some d')) else none
          | none => none
        | none => none
      | none => none
    | none => none
  | none => none
/-- slot i, no arguments -/
def eMt0 (op : D → List D → Option (D × D)) (i : Nat) : EM := fun ρ => match ρ.getD i none with
  | some d => match op d [] with
    | some (d', res) => some (res, ρ.set i (some d'))
    | none => none
  | none => none
section
variable {X : Cx} {F : Fm} {vs0 : List V} {op : D → List D → Option (D × D)} {r : V → List V → Hp → VK → Prop} {T : String} {am : AM} {i : Nat} {K : PySem.W.Frag} {mg : MG}
theorem imp_mt (hr : RmD F.K F.mg r op) (ht : TyR F.K F.mg T op) : ∀ σ H Q, tD F (eMt op i am) σ H Q → tBM F.K T r (tVar i) (tA F am) σ H Q := fun σ H Q ⟨ρ, ts, d, ρ', a, e, k⟩ => by
  unfold eMt at e
  split at e
  · rename_i d0 e0
    split at e
    · rename_i as ρ1 e1
      split at e
      · rename_i ds e2
        split at e
        · rename_i dd e3
          split at e
          · rename_i d' re e4
            split at e
            · rename_i e5
              cases e
              obtain ⟨v, hv, s0⟩ := a.slot (getD_some e0)
              obtain ⟨q0, e5⟩ := Option.isSome_iff_exists.mp e5
              refine ⟨v, hv, ht v d0 ds q0 H _ s0 e5, ρ, ts, as, ρ1, a, e1, fun vs H1 tm ar a1 => ?_⟩
              obtain ⟨hl, rfl⟩ := argsR_vals ar e2
              obtain ⟨v', hv', s1⟩ := a1.slot (getD_some e3)
              rw [hv] at hv'
              cases hv'
              refine hr v dd vs ds d' _ H1 Q (slotR σ (ρ1.set i none) ++ ts) (s1.perm (List.Perm.cons _ ?_)) hl e4 fun z H2 s2 => k z H2 ?_
              · rw [← List.append_assoc, ← List.append_assoc]
                exact List.Perm.append_right _ List.perm_append_comm
              · exact a1.back hv (s2.perm (by
                  refine List.Perm.trans (List.Perm.swap _ _ _) (List.Perm.cons _ ?_)
                  exact (List.perm_middle).symm))
            · cases e
          · cases e
        · cases e
      · cases e
    · cases e
  · cases e
end

/-! ### list methods -/
def mAppend : D → List D → Option (D × D)
  | .lst true ds, [d] => if ds.length < 10000 then some (.lst true (ds ++ [d]), .non) else none
  | _, _ => none
section
variable {K : PySem.W.Frag} {mg : MG}
theorem tyV_lst {H : Hp} {x : V} {o : Bool} {ds : List D} (r : Rp K mg H x (.lst o ds)) : tyV K "list" x H := by
  obtain ⟨a, xs, rfl, ha, l⟩ := r.lst_inv
  exact .inl ⟨rfl, xs, SqL.of ha⟩
theorem ty_append : TyR K mg "list" mAppend := fun x d ds q H rs s e => by
  have r := s.rp
  unfold mAppend at e; split at e
  · exact tyV_lst r
  · cases e
theorem line_of {n : Nat} (h : n < 10001) : n ≤ sizeLine := by rw [sizeLine_eq]; omega
theorem Sim.non {H : Hp} {rs : List Rt} (s : Sim K mg H rs) : Sim K mg H (.v .non .non :: rs) := mk_non rs s
theorem Sim.unL' {H : Hp} {x : V} {ds : List D} {rs : List Rt} (s : Sim K mg H (.v x (.lst true ds) :: rs)) : ∃ a xs, x = .ref a ∧ xs.length = ds.length ∧ H a = some (.lst xs) ∧ Sim K mg H (.c a (.lst xs) :: (vals xs ds ++ rs)) := by
  obtain ⟨a, xs, h1, h2, h3⟩ := s.unL
  exact ⟨a, xs, h1, h2, Sim.cell (rs := vals xs ds ++ rs) h3, h3⟩
theorem Sim.setL {H : Hp} {a : Addr} {xs ys : List V} {es : List D} {r0 r1 r2 : List Rt} (s : Sim K mg H (.c a (.lst xs) :: r1)) (p : r1.Perm (r0 ++ (vals ys es ++ r2))) (hl : ys.length = es.length) :
    Sim K mg (upd H a (.lst ys)) (.v (.ref a) (.lst true es) :: r2) := by
  have s2 := s.write (o' := .lst ys)
  have s3 : Sim K mg (upd H a (.lst ys)) (r0 ++ (.c a (.lst ys) :: (vals ys es ++ r2))) := s2.perm (List.Perm.trans (List.Perm.cons _ p) (List.perm_middle).symm)
  exact Sim.foL (xs := ys) (ds := es) (rs := r2) s3.drop hl
theorem rm_append : RmD K mg rAppend mAppend := fun x d vs ds d' res H Q rs s hl e k => by
  unfold mAppend at e
  split at e
  · rename_i es y
    split at e
    · rename_i hz
      cases e
      obtain ⟨a, xs, rfl, hx, hc, s1⟩ := s.unL'
      obtain ⟨w, rfl⟩ : ∃ w, vs = [w] := List.length_eq_one_iff.mp hl
      refine ⟨a, xs, w, rfl, rfl, hc, by have := line_of (n := xs.length + 1) (by omega); omega, k _ _ (Sim.non (s1.setL (r0 := []) ?_ (by simp [hx])))⟩
      rw [vals_append hx, List.append_assoc]
      exact List.Perm.refl _
    · cases e
  · cases e
theorem vals_erase : ∀ {xs : List V} {ds : List D} {k : Nat} {x : V} {d : D}, xs.length = ds.length → xs[k]? = some x → ds[k]? = some d → (vals xs ds).Perm (.v x d :: vals (xs.eraseIdx k) (ds.eraseIdx k))
  | x0 :: xs, d0 :: ds, 0, x, d, hl, h1, h2 => by
    simp at h1 h2
    subst h1 h2
    exact List.Perm.refl _
  | x0 :: xs, d0 :: ds, k + 1, x, d, hl, h1, h2 => by
    simp at h1 h2
    refine List.Perm.trans (List.Perm.cons (Rt.v x0 d0) (vals_erase (by simpa using hl) h1 h2)) ?_
    exact List.Perm.swap _ _ _
  | [], d0 :: ds, k, x, d, hl, h1, h2 => by cases hl
  | [], [], k, x, d, hl, h1, h2 => by simp at h1
  | x0 :: xs, [], k, x, d, hl, h1, h2 => by cases hl
end
end Dl

set_option Elab.async false
set_option linter.all false
set_option maxRecDepth 100000
set_option maxHeartbeats 1000000
/-! DL12: places within a slot's value (lists, dicts, objects), stores. -/
namespace Dl
open PySem PySem.Spec PyProof.Rows L2

inductive PStep where
  | fld (c : Str) (f : Str)
  | ix (k : D)
def D.subs : D → List D
  | .lst _ ds => ds
  | .tup ds => ds
  | .dic _ _ _ vs => vs
  | .obj _ _ _ vs => vs
  | _ => []
def D.withSubs : D → List D → D
  | .lst o _, es => .lst o es
  | .tup _, es => .tup es
  | .dic o kd ks _, es => .dic o kd ks es
  | .obj o c fs _, es => .obj o c fs es
  | d, _ => d
def posS : PStep → D → Option Nat
  | .ix k, .lst true ds => match k with
    | .int i => ixN ds.length i
    | _ => none
  | .ix k, .tup ds => match k with
    | .int i => ixN ds.length i
    | _ => none
  | .ix k, .dic true kd ks _ => if keyOk kd k = true then ks.findIdx? (fun q => decide (q = k)) else none
  | .fld c f, .obj true c' fs _ => if c' = c then fs.findIdx? (fun q => decide (q = f)) else none
  | _, _ => none
def getS (s : PStep) (d : D) : Option D := match posS s d with
  | some j => d.subs[j]?
  | none => none
def putS (s : PStep) (d d1 : D) : Option D := match posS s d with
  | some j => some (d.withSubs (d.subs.set j d1))
  | none => none
def getP : List PStep → D → Option D
  | [], d => some d
  | s :: p, d => match getS s d with
    | some d1 => getP p d1
    | none => none
def putP : List PStep → D → D → Option D
  | [], _, d1 => some d1
  | s :: p, d, d1 => match getS s d with
    | some d2 => match putP p d2 d1 with
      | some d3 => putS s d d3
      | none => none
    | none => none
def partsO : HO → List V
  | .lst xs => xs
  | .tup xs => xs
  | .dK kvs => kvs.map (·.2)
  | .dT kvs => kvs.map (·.2)
  | .ins _ _ fvs => fvs.map (·.2)
  | _ => []
def StepTo (H : Hp) (v : V) (d : D) (s : PStep) (z : V) : Prop := ∃ a o j, v = .ref a ∧ H a = some o ∧ posS s d = some j ∧ (partsO o)[j]? = some z
def PathTo (H : Hp) : V → D → List PStep → V → Prop
  | v, _, [], z => z = v
  | v, d, s :: p, z => ∃ z1 d1, StepTo H v d s z1 ∧ getS s d = some d1 ∧ PathTo H z1 d1 p z
section
variable {K : PySem.W.Frag} {mg : MG} {H H' : Hp}
theorem StepTo.grow {v z : V} {d : D} {s : PStep} (h : StepTo H v d s z) (g : Same H H') : StepTo H' v d s z := by
  obtain ⟨a, o, j, h1, h2, h3, h4⟩ := h
  exact ⟨a, o, j, h1, g a o h2, h3, h4⟩
theorem PathTo.grow (g : Same H H') : ∀ {p : List PStep} {v z : V} {d : D}, PathTo H v d p z → PathTo H' v d p z
  | [], _, _, _, h => h
  | s :: p, v, z, d, ⟨z1, d1, h1, h2, h3⟩ => ⟨z1, d1, h1.grow g, h2, PathTo.grow g h3⟩
theorem unfold_sub {v : V} {d : D} {s : PStep} {j : Nat} {rs : List Rt} (h : Sim K mg H (.v v d :: rs)) (hp : posS s d = some j) : ∃ a o r, v = .ref a ∧ (partsO o).length = d.subs.length ∧ H a = some o ∧ Sim K mg H (r :: (vals (partsO o) d.subs ++ rs)) ∧
    ∀ H' es rs2, es.length = (partsO o).length → Sim K mg H' (r :: (vals (partsO o) es ++ rs2)) → Sim K mg H' (.v v (d.withSubs es) :: rs2) := by
  cases d with
  | lst o ds =>
    cases o with
    | false => cases s <;> simp [posS] at hp
    | true =>
      obtain ⟨a, xs, rfl, h1, h2, h3⟩ := h.unL'
      exact ⟨a, .lst xs, _, rfl, h1, h2, h3, fun H' es rs2 hl s2 => Sim.foL s2 hl.symm⟩
  | tup ds =>
    obtain ⟨a, xs, rfl, h1, h2, h3⟩ := h.unT'
    exact ⟨a, .tup xs, _, rfl, h1, h2, h3, fun H' es rs2 hl s2 => Sim.foT s2 hl.symm⟩
  | dic o kd ks vs =>
    cases o with
    | false => cases s <;> simp [posS] at hp
    | true =>
      cases kd with
      | k =>
        obtain ⟨a, kvs, rfl, h1, h2, h3⟩ := h.unDk
        exact ⟨a, .dK kvs, _, rfl, by show (List.map _ _).length = _; rw [List.length_map]; exact h2, Sim.cell (rs := vals (kvs.map (·.2)) vs ++ rs) h3, h3, fun H' es rs2 hl s2 => Sim.foDk s2 h1 (by have q : es.length = (List.map _ _).length := hl; rw [List.length_map] at q; exact q.symm)⟩
      | t =>
        obtain ⟨a, kvs, rfl, h1, h2, h3⟩ := h.unDt
        exact ⟨a, .dT kvs, _, rfl, by show (List.map _ _).length = _; rw [List.length_map]; exact h2, Sim.cell (rs := vals (kvs.map (·.2)) vs ++ rs) h3, h3, fun H' es rs2 hl s2 => Sim.foDt s2 h1 (by have q : es.length = (List.map _ _).length := hl; rw [List.length_map] at q; exact q.symm)⟩
      | n => cases s <;> simp [posS, keyOk] at hp
  | obj o c fs vs =>
    cases o with
    | false => cases s <;> simp [posS] at hp
    | true =>
      obtain ⟨a, dx, C, fvs, rfl, h0, h1, h2, h3⟩ := h.unO
      exact ⟨a, .ins C dx fvs, _, rfl, by show (List.map _ _).length = _; rw [List.length_map]; exact h2, Sim.cell (rs := vals (fvs.map (·.2)) vs ++ rs) h3, h3, fun H' es rs2 hl s2 => Sim.foO s2 h0 h1 (by have q : es.length = (List.map _ _).length := hl; rw [List.length_map] at q; exact q.symm)⟩
  | _ => cases s <;> simp [posS] at hp
theorem focus1 {v z : V} {d d1 : D} {s : PStep} {rs : List Rt} (h : Sim K mg H (.v v d :: rs)) (st : StepTo H v d s z) (hg : getS s d = some d1) : ∃ cs, Sim K mg H (.v z d1 :: (cs ++ rs)) ∧
    ∀ H' d1' d' rs2, putS s d d1' = some d' → Sim K mg H' (.v z d1' :: (cs ++ rs2)) → Sim K mg H' (.v v d' :: rs2) := by
  obtain ⟨a, o, j, h1, h2, h3, h4⟩ := st
  obtain ⟨a', o', r0, h5, h6, h7, h8, h9⟩ := unfold_sub h h3
  rw [h1] at h5
  cases h5
  rw [h2] at h7
  cases h7
  unfold getS at hg
  rw [h3] at hg
  have hj : j < d.subs.length := (List.getElem?_eq_some_iff.mp hg).1
  refine ⟨r0 :: vals ((partsO o).eraseIdx j) (d.subs.eraseIdx j), h8.perm ?_, fun H' d1' d' rs2 hp s2 => ?_⟩
  · refine List.Perm.trans (List.Perm.cons _ (List.Perm.append_right _ (vals_erase h6 h4 hg))) ?_
    exact List.Perm.swap _ _ _
  · unfold putS at hp
    rw [h3] at hp
    cases hp
    refine h9 H' (d.subs.set j d1') rs2 (by rw [List.length_set, h6]) (s2.perm ?_)
    have e1 := vals_erase (xs := partsO o) (ds := d.subs.set j d1') (k := j) (x := z) (d := d1') (by rw [List.length_set, h6]) h4 (List.getElem?_set_self hj)
    rw [List.eraseIdx_set_eq] at e1
    refine List.Perm.symm (List.Perm.trans (List.Perm.cons _ (List.Perm.append_right _ e1)) ?_)
    exact List.Perm.swap _ _ _
theorem focus : ∀ {p : List PStep} {v z : V} {d d1 : D} {rs : List Rt}, Sim K mg H (.v v d :: rs) → PathTo H v d p z → getP p d = some d1 → ∃ cs, Sim K mg H (.v z d1 :: (cs ++ rs)) ∧
    ∀ H' d1' d' rs2, putP p d d1' = some d' → Sim K mg H' (.v z d1' :: (cs ++ rs2)) → Sim K mg H' (.v v d' :: rs2)
  | [], v, z, d, d1, rs, h, hp, hg => by
    cases hp
    cases hg
    exact ⟨[], h, fun H' d1' d' r0 hq s2 => by cases hq; exact s2⟩
  | s :: p, v, z, d, d1, rs, h, ⟨z1, d2, h1, h2, h3⟩, hg => by
    simp only [getP, h2] at hg
    obtain ⟨r1, f1, f2⟩ := focus1 h h1 h2
    obtain ⟨r2, g1, g2⟩ := focus f1 h3 hg
    refine ⟨r2 ++ r1, by rw [List.append_assoc]; exact g1, fun H' d1' d' rs2 hq s2 => ?_⟩
    simp only [putP, h2] at hq
    split at hq
    · rename_i d3 hq3
      exact f2 H' d3 d' rs2 hq (g2 H' d1' d3 _ hq3 (by rw [List.append_assoc] at s2; exact s2))
    · cases hq
end

/-! ### the expression of a place -/
abbrev LM := DEnv → Option (Nat × List PStep)
def tL (F : Fm) (f : LM) : TE := fun σ H Q => ∃ ρ ts i p d0 d1, At F σ H ρ ts ∧ f ρ = some (i, p) ∧ ρ.getD i none = some d0 ∧ getP p d0 = some d1 ∧ ∀ v z H', Same H H' → σ[i]? = some (some v) → PathTo H' v d0 p z → Q z H'
def lVar (i : Nat) : LM := fun _ => some (i, [])
def lIx (l : LM) (k : PM) : LM := fun ρ => match l ρ with
  | some (i, p) => match k ρ with
    | some q => some (i, p ++ [.ix q])
    | none => none
  | none => none
def lFld (l : LM) (c f : Str) : LM := fun ρ => match l ρ with
  | some (i, p) => some (i, p ++ [.fld c f])
  | none => none
theorem PathTo.append {H : Hp} : ∀ {p q : List PStep} {v z1 z : V} {d d1 : D}, PathTo H v d p z1 → getP p d = some d1 → PathTo H z1 d1 q z → PathTo H v d (p ++ q) z
  | [], q, v, z1, z, d, d1, h, e, h' => by cases h; cases e; exact h'
  | s :: p, q, v, z1, z, d, d1, ⟨z2, d2, h1, h2, h3⟩, e, h' => by
    simp only [getP, h2] at e
    exact ⟨z2, d2, h1, h2, PathTo.append h3 e h'⟩
section
variable {X : Cx} {F : Fm} {vs0 : List V} {fl : LM} {fa fk : PM} {i : Nat}
theorem imp_lVar : ∀ σ H Q, tL F (lVar i) σ H Q → tVar i σ H Q := fun σ H Q ⟨ρ, ts, j, p, d0, d1, a, e, e0, e1, k⟩ => by
  cases e
  obtain ⟨v, hv, _⟩ := a.slot (getD_some e0)
  exact ⟨v, hv, k v v H (Same.refl H) hv rfl⟩
theorem l_var (i : Nat) {x : Str} {p : Pos} (hN : X.N[i]? = some x := by rfl) (hv : Vis X.env.scope x := by first | exact Or.inl rfl | exact Or.inr (Or.inl rfl) | exact Or.inr (Or.inr rfl)) (hd : (x == ("__debug__" : Str)) = false := by decide) (hcd : (x == ("__classdict__" : Str)) = false := by decide) : PE X (.Name x p) (tL (fm X vs0) (lVar i)) :=
  (pe_var hN hv hd hcd).imp imp_lVar
end
end Dl

set_option Elab.async false
set_option linter.all false
set_option maxRecDepth 100000
set_option maxHeartbeats 1000000
/-! DL13: stores into places, methods on places, attributes. -/
namespace Dl
open PySem PySem.Spec PyProof.Rows L2

/-! ### x[k] = v -/
def opPut (d k v : D) : Option D := match d with
  | .lst true ds => match k with
    | .int i => match ixN ds.length i with
      | some j => some (.lst true (ds.set j v))
      | none => none
    | _ => none
  | .dic true kd ks vs => if keyOk kd k = true ∧ ks.length < 10000 ∧ ks.length = vs.length then
      (if k ∈ ks then
        (if v.stable = true then some (.dic true kd ks (List.zipWith (fun q u => if q = k then v else u) ks vs))
        else match ks.findIdx? (fun q => decide (q = k)) with
          | some j => if (ks.eraseIdx j).all (fun q => decide (q ≠ k)) = true then some (.dic true kd ks (vs.set j v)) else none
          | none => none)
      else some (.dic true kd (ks ++ [k]) (vs ++ [v])))
    else none
  | _ => none
section
variable {K : PySem.W.Frag} {mg : MG} {H H' : Hp}
/-- a dict's keys and values, as one list of parts -/
theorem putK_vals {κ : Type} [DecidableEq κ] {f : κ → D} (hf : ∀ a b, f a = f b → a = b) {kvs : List (κ × V)} {vs : List D} {k : κ} {w : V} {v : D} {a : Addr} {o : HO} {rs : List Rt} (hl : kvs.length = vs.length)
    (s : Sim K mg H (.c a o :: (vals (kvs.map (·.2)) vs ++ (.v w v :: rs)))) :
    (¬ f k ∈ kvs.map (fun p => f p.1) → (putK kvs k w).map (fun p => f p.1) = kvs.map (fun p => f p.1) ++ [f k] ∧ (putK kvs k w).length = (vs ++ [v]).length ∧ Sim K mg H (.c a o :: (vals ((putK kvs k w).map (·.2)) (vs ++ [v]) ++ rs))) ∧
    (f k ∈ kvs.map (fun p => f p.1) → (putK kvs k w).map (fun p => f p.1) = kvs.map (fun p => f p.1) ∧ (v.stable = true →
      (putK kvs k w).length = (List.zipWith (fun q u => if q = f k then v else u) (kvs.map fun p => f p.1) vs).length ∧ Sim K mg H (.c a o :: (vals ((putK kvs k w).map (·.2)) (List.zipWith (fun q u => if q = f k then v else u) (kvs.map fun p => f p.1) vs) ++ rs))) ∧
      ∀ j, (kvs.map fun p => f p.1).findIdx? (fun q => decide (q = f k)) = some j → ((kvs.map fun p => f p.1).eraseIdx j).all (fun q => decide (q ≠ f k)) = true →
        (putK kvs k w).length = (vs.set j v).length ∧ Sim K mg H (.c a o :: (vals ((putK kvs k w).map (·.2)) (vs.set j v) ++ rs))) := by
  have hany : (kvs.any fun kv => decide (kv.1 = k)) = true ↔ f k ∈ kvs.map (fun p => f p.1) := by
    rw [List.any_eq_true, List.mem_map]
    constructor
    · rintro ⟨p, hp, e⟩
      exact ⟨p, hp, by rw [of_decide_eq_true e]⟩
    · rintro ⟨p, hp, e⟩
      exact ⟨p, hp, decide_eq_true (hf _ _ e)⟩
  constructor
  · intro hn
    have hn' : ¬ (kvs.any fun kv => decide (kv.1 = k)) = true := fun q => hn (hany.mp q)
    unfold putK
    rw [if_neg hn']
    refine ⟨by simp, by simp [hl], ?_⟩
    rw [List.map_append, vals_append (by simpa using hl), List.append_assoc]
    exact s
  · intro hm
    unfold putK
    rw [if_pos (hany.mpr hm)]
    refine ⟨?_, fun hst => ⟨by simp [hl], ?_⟩, fun j hj hu => ⟨by simp [hl], ?_⟩⟩
    · rw [List.map_map]
      apply List.map_congr_left
      intro p hp
      simp only [Function.comp]
      split <;> rfl
    · have key : ∀ (kvs : List (κ × V)) (vs : List D) (pre : List Rt), kvs.length = vs.length → Sim K mg H (pre ++ (vals (kvs.map (·.2)) vs ++ (.v w v :: rs))) →
          Sim K mg H (pre ++ (vals ((kvs.map fun kv => if kv.1 = k then (kv.1, w) else kv).map (·.2)) (List.zipWith (fun q u => if q = f k then v else u) (kvs.map fun p => f p.1) vs) ++ (.v w v :: rs))) := by
        intro kvs
        induction kvs with
        | nil =>
          intro vs pre hl s
          cases vs with
          | nil => exact s
          | cons _ _ => cases hl
        | cons p kvs ih =>
          intro vs pre hl s
          cases vs with
          | nil => cases hl
          | cons u vs =>
            have hl' : kvs.length = vs.length := by simpa using hl
            have s1 : Sim K mg H ((pre ++ [.v p.2 u]) ++ (vals (kvs.map (·.2)) vs ++ (.v w v :: rs))) := by
              rw [List.append_assoc]
              exact s
            have s2 := ih vs _ hl' s1
            rw [List.append_assoc] at s2
            by_cases e : p.1 = k
            · have e' : f p.1 = f k := by rw [e]
              show Sim K mg H (pre ++ (vals (((p :: kvs).map fun kv => if kv.1 = k then (kv.1, w) else kv).map (·.2)) (List.zipWith _ (f p.1 :: _) (u :: vs)) ++ _))
              rw [List.map_cons, List.map_cons, if_pos e, List.zipWith_cons_cons, if_pos e']
              -- a copy of w in place of the old part
              have s3 : Sim K mg H (.v w v :: (pre ++ (vals ((kvs.map fun kv => if kv.1 = k then (kv.1, w) else kv).map (·.2)) (List.zipWith (fun q u => if q = f k then v else u) (kvs.map fun p => f p.1) vs) ++ rs))) := by
                refine Sim.tail (r := .v p.2 u) (s2.perm ?_)
                refine List.Perm.trans List.perm_middle (List.Perm.cons _ ?_)
                refine List.Perm.trans (List.Perm.append_left _ List.perm_middle) ?_
                exact List.perm_middle
              have s4 := s3.dup hst
              refine s4.perm (List.Perm.symm ?_)
              refine List.Perm.trans List.perm_middle (List.Perm.cons _ ?_)
              refine List.Perm.trans (List.Perm.append_left _ List.perm_middle) ?_
              exact List.perm_middle
            · have e' : ¬ f p.1 = f k := fun q => e (hf _ _ q)
              show Sim K mg H (pre ++ (vals (((p :: kvs).map fun kv => if kv.1 = k then (kv.1, w) else kv).map (·.2)) (List.zipWith _ (f p.1 :: _) (u :: vs)) ++ _))
              rw [List.map_cons, List.map_cons, if_neg e, List.zipWith_cons_cons, if_neg e']
              exact s2
      have s1 := key kvs vs [.c a o] hl s
      have s2 : Sim K mg H (.v w v :: (.c a o :: (vals ((kvs.map fun kv => if kv.1 = k then (kv.1, w) else kv).map (·.2)) (List.zipWith (fun q u => if q = f k then v else u) (kvs.map fun p => f p.1) vs) ++ rs))) := s1.perm (by
        refine List.Perm.trans (List.Perm.cons _ List.perm_middle) ?_
        exact List.Perm.swap _ _ _)
      exact s2.tail
    · -- one place alone
      have key : ∀ (kvs : List (κ × V)) (j : Nat), (kvs.map fun p => f p.1).findIdx? (fun q => decide (q = f k)) = some j → ((kvs.map fun p => f p.1).eraseIdx j).all (fun q => decide (q ≠ f k)) = true →
          (kvs.map fun kv => if kv.1 = k then (kv.1, w) else kv).map (·.2) = (kvs.map (·.2)).set j w := by
        intro kvs
        induction kvs with
        | nil => intro j hj _; simp at hj
        | cons p kvs ih =>
          intro j hj hu
          rw [List.map_cons, List.findIdx?_cons] at hj
          by_cases e : p.1 = k
          · have e' : f p.1 = f k := by rw [e]
            simp only [e', decide_true] at hj
            cases hj
            rw [List.map_cons, List.eraseIdx_cons_zero] at hu
            rw [List.map_cons, List.map_cons, if_pos e, List.map_cons, List.set_cons_zero]
            congr 1
            rw [List.map_map]
            apply List.map_congr_left
            intro q hq
            have := List.all_eq_true.mp hu (f q.1) (List.mem_map.mpr ⟨q, hq, rfl⟩)
            have e2 : ¬ q.1 = k := fun z => by simp [z] at this
            simp only [Function.comp, if_neg e2]
          · have e' : ¬ f p.1 = f k := fun q => e (hf _ _ q)
            simp only [e', decide_false, Bool.false_eq_true, if_false, Option.map_eq_some_iff] at hj
            obtain ⟨j', h', rfl⟩ := hj
            rw [List.map_cons, List.eraseIdx_cons_succ, List.all_cons, Bool.and_eq_true] at hu
            rw [List.map_cons, List.map_cons, if_neg e, List.map_cons, List.set_cons_succ, ih j' h' hu.2]
      rw [key kvs j hj hu]
      have hjl : j < kvs.length := by
        obtain ⟨h1, _⟩ := List.findIdx?_eq_some_iff_getElem.mp hj
        simpa using h1
      have e1 : (kvs.map (·.2))[j]? = some ((kvs.map (·.2))[j]'(by simpa using hjl)) := List.getElem?_eq_getElem (by simpa using hjl)
      have e2 : vs[j]? = some (vs[j]'(by omega)) := List.getElem?_eq_getElem (by omega)
      have p1 := vals_erase (xs := kvs.map (·.2)) (ds := vs) (by simpa using hl) e1 e2
      have p2 := vals_erase (xs := (kvs.map (·.2)).set j w) (ds := vs.set j v) (k := j) (x := w) (d := v) (by simpa using hl) (List.getElem?_set_self (by simpa using hjl)) (List.getElem?_set_self (by omega))
      rw [List.eraseIdx_set_eq, List.eraseIdx_set_eq] at p2
      have s1 : Sim K mg H (.v ((kvs.map (·.2))[j]'(by simpa using hjl)) (vs[j]'(by omega)) :: (.c a o :: (vals ((kvs.map (·.2)).set j w) (vs.set j v) ++ rs))) := s.perm (by
        refine List.Perm.trans (List.Perm.cons _ (List.Perm.append_right _ p1)) ?_
        refine List.Perm.trans (List.Perm.swap _ _ _) (List.Perm.cons _ (List.Perm.cons _ ?_))
        refine List.Perm.trans List.perm_middle ?_
        exact (List.Perm.append_right rs p2).symm)
      exact s1.tail
end
end Dl

set_option Elab.async false
set_option linter.all false
set_option maxRecDepth 100000
set_option maxHeartbeats 1000000
/-! DL14: stores into places, methods on places, attributes. -/
namespace Dl
open PySem PySem.Spec PyProof.Rows L2

section
variable {X : Cx} {F : Fm} {vs0 : List V} {K : PySem.W.Frag} {mg : MG} {H H' : Hp}
def rPut : V → V → V → Hp → (Hp → Prop) → Prop := fun o i v H Q => rSetL o i v H Q ∨ rSetD o i v H Q
theorem set_put (hu : X.A.units + 1 < cLine) : PSet X rPut := by
  intro pins s σ H o i v ov iv u Q I ro ri rv h
  rcases h with h | h
  · exact set_list pins s σ H o i v ov iv u Q I ro ri rv h
  · exact set_dict hu pins s σ H o i v ov iv u Q I ro ri rv h
theorem Sim.setDk {a : Addr} {o : HO} {kvs : List (Key × V)} {ks es : List D} {r2 : List Rt} (s : Sim K mg H (.c a o :: (vals (kvs.map (·.2)) es ++ r2))) (hk : ks = kvs.map (fun p => kyD p.1)) (hl : kvs.length = es.length) :
    Sim K mg (upd H a (.dK kvs)) (.v (.ref a) (.dic true .k ks es) :: r2) := Sim.foDk (s.write (o' := .dK kvs)) hk hl
theorem Sim.setDt {a : Addr} {o : HO} {kvs : List (List Key × V)} {ks es : List D} {r2 : List Rt} (s : Sim K mg H (.c a o :: (vals (kvs.map (·.2)) es ++ r2))) (hk : ks = kvs.map (fun p => ktD p.1)) (hl : kvs.length = es.length) :
    Sim K mg (upd H a (.dT kvs)) (.v (.ref a) (.dic true .t ks es) :: r2) := Sim.foDt (s.write (o' := .dT kvs)) hk hl
theorem put_ok {z y w : V} {d q v d' : D} {rs : List Rt} {Q : Hp → Prop} (s : Sim K mg H (.v z d :: .v w v :: rs)) (ry : Rp K mg H y q) (e : opPut d q v = some d') (k : ∀ H', Sim K mg H' (.v z d' :: rs) → Q H') : rPut z y w H Q := by
  unfold opPut at e
  split at e
  · rename_i ds
    split at e
    · split at e
      · rename_i j hj
        cases e
        obtain rfl := ry.int_inv
        obtain ⟨a, xs, rfl, hx, hc, s1⟩ := s.unL'
        refine .inl ⟨a, xs, _, j, rfl, rfl, hc, by rw [hx]; exact hj, k _ ?_⟩
        have hjl : j < ds.length := by
          unfold ixN at hj
          split at hj
          · split at hj
            · cases hj; omega
            · cases hj
          · split at hj
            · cases hj; omega
            · cases hj
        have e1 : xs[j]? = some (xs[j]'(by omega)) := List.getElem?_eq_getElem (by omega)
        have e2 : ds[j]? = some (ds[j]'hjl) := List.getElem?_eq_getElem hjl
        have p1 := vals_erase hx e1 e2
        have p2 := vals_erase (xs := xs.set j w) (ds := ds.set j v) (k := j) (x := w) (d := v) (by simpa using hx) (List.getElem?_set_self (by omega)) (List.getElem?_set_self hjl)
        rw [List.eraseIdx_set_eq, List.eraseIdx_set_eq] at p2
        refine s1.setL (r0 := [.v (xs[j]'(by omega)) (ds[j]'hjl)]) ?_ (by simpa using hx)
        refine List.Perm.trans (List.Perm.append_right _ p1) ?_
        show (Rt.v _ _ :: (vals (xs.eraseIdx j) (ds.eraseIdx j) ++ (.v w v :: rs))).Perm (Rt.v _ _ :: _)
        refine List.Perm.cons _ ?_
        refine List.Perm.trans List.perm_middle ?_
        exact (List.Perm.append_right rs p2).symm
      · cases e
    · cases e
  · rename_i kd ks vs
    split at e
    · rename_i hk
      obtain ⟨h1, h2, h3⟩ := hk
      cases kd with
      | n => simp [keyOk] at h1
      | k =>
        unfold keyOk at h1
        obtain ⟨key, ek⟩ := Option.isSome_iff_exists.mp h1
        have e0 := key_kyD ek
        subst e0
        have ey := ry.ky
        subst ey
        obtain ⟨a, kvs, rfl, rfl, hl, s1⟩ := s.unDk
        have hc := Sim.cell (rs := vals (kvs.map (·.2)) vs ++ (.v w v :: rs)) s1
        obtain ⟨g1, g2⟩ := putK_vals (f := kyD) (fun _ _ h => kyD_inj h) (k := key) hl s1
        have hz : kvs.length < sizeLine := by rw [sizeLine_eq]; rw [List.length_map] at h2; omega
        refine .inr ⟨a, _, rfl, .k hc hz, k _ ?_⟩
        split at e
        · rename_i hm
          obtain ⟨g3, g4, g5⟩ := g2 hm
          split at e
          · rename_i hst
            cases e
            exact Sim.setDk (g4 hst).2 g3.symm (g4 hst).1
          · split at e
            · rename_i j hj
              split at e
              · rename_i hu
                cases e
                exact Sim.setDk (g5 j hj hu).2 g3.symm (g5 j hj hu).1
              · cases e
            · cases e
        · rename_i hm
          cases e
          obtain ⟨g3, g4, g5⟩ := g1 hm
          exact Sim.setDk g5 g3.symm g4
      | t =>
        unfold keyOk at h1
        cases q <;> simp only [reduceCtorEq, Bool.false_eq_true] at h1
        rename_i qs
        obtain ⟨key, ek⟩ := Option.isSome_iff_exists.mp h1
        have e0 := keysL_kyD ek
        subst e0
        obtain ⟨b, rfl, hb⟩ := Rp.kt (l := key) ry
        obtain ⟨a, kvs, rfl, rfl, hl, s1⟩ := s.unDt
        have hc := Sim.cell (rs := vals (kvs.map (·.2)) vs ++ (.v w v :: rs)) s1
        obtain ⟨g1, g2⟩ := putK_vals (f := ktD) (fun _ _ h => ktD_inj h) (k := key) hl s1
        have hz : kvs.length < sizeLine := by rw [sizeLine_eq]; rw [List.length_map] at h2; omega
        refine .inr ⟨a, _, rfl, .t hc hb hz, k _ ?_⟩
        split at e
        · rename_i hm
          obtain ⟨g3, g4, g5⟩ := g2 hm
          split at e
          · rename_i hst
            cases e
            exact Sim.setDt (g4 hst).2 g3.symm (g4 hst).1
          · split at e
            · rename_i j hj
              split at e
              · rename_i hu
                cases e
                exact Sim.setDt (g5 j hj hu).2 g3.symm (g5 j hj hu).1
              · cases e
            · cases e
        · rename_i hm
          cases e
          obtain ⟨g3, g4, g5⟩ := g1 hm
          exact Sim.setDt g5 g3.symm g4
    · cases e
  · cases e

/-- the target x[k], x a place -/
def gSt (l : LM) (k : PM) : GM := fun v ρ => match l ρ, k ρ with
  | some (i, p), some q => match ρ.getD i none with
    | some d0 => match getP p d0 with
      | some d1 => match opPut d1 q v with
        | some d1' => match putP p d0 d1' with
          | some d0' => some (ρ.set i (some d0'))
          | none => none
        | none => none
      | none => none
    | none => none
  | _, _ => none
variable {fl : LM} {fk : PM} {a b : Expr} {pos : Pos}
theorem imp_gSt : ∀ v σ H Q, tG F (gSt fl fk) v σ H Q → gSub (tL F fl) (tP F fk) rPut v σ H Q := fun v σ H Q ⟨ρ, ts, d, ρ', a, e, k⟩ => by
  unfold gSt at e
  split at e
  · rename_i i p q el eq
    split at e
    · rename_i d0 e0
      split at e
      · rename_i d1 e1
        split at e
        · rename_i d1' e2
          split at e
          · rename_i d0' e3
            cases e
            refine ⟨ρ, _, i, p, d0, d1, a, el, e0, e1, fun x z H1 g1 hx pt => ⟨ρ, _, q, a.grow g1, eq, fun y H2 g2 ry _ => ?_⟩⟩
            have a2 := (a.grow g1).grow g2
            obtain ⟨x', hx', s2⟩ := a2.slot (getD_some e0)
            rw [hx] at hx'
            cases hx'
            obtain ⟨cs, s3, back⟩ := focus s2 (pt.grow g2) e1
            have s4 : Sim F.K F.mg H2 (.v z d1 :: .v v d :: (cs ++ (slotR σ (ρ.set i none) ++ ts))) := s3.perm (by
              refine List.Perm.cons _ ?_
              refine List.Perm.trans (List.Perm.append_left _ List.perm_middle) ?_
              exact List.perm_middle)
            refine put_ok s4 ry e2 fun H3 s5 => k σ H3 ?_
            have s6 := back H3 d1' d0' _ e3 s5
            exact At.back (At.tail a2) hx s6
          · cases e
        · cases e
      · cases e
    · cases e
  · cases e
theorem g_st (hu : X.A.units + 1 < cLine) (ha : PE X a (tL (fm X vs0) fl)) (hb : PE X b (tP (fm X vs0) fk))
    (hs : ∀ v, assign (.Subscript a b pos) X.env v = (do
      let ov ← holding [v] (eval a X.env)
      let iv ← holding [v, ov] (eval b X.env)
      standAt pos
      holding [v, ov, iv] (setItem ov iv v)
      release [v, ov, iv] []) := by exact fun _ => rfl) : PG X (.Subscript a b pos) (tG (fm X vs0) (gSt fl fk)) := (pg_sub ha hb (set_put hu) hs).imp imp_gSt
end

/-! ### a method on a place: its arguments read alone, never to change -/
def eMtL (op : D → List D → Option (D × D)) (l : LM) (fs : List PM) : EM := fun ρ => match l ρ, pAll fs ρ with
  | some (i, p), some ds => match ρ.getD i none with
    | some d0 => match getP p d0 with
      | some d1 => match op d1 ds with
        | some (d1', res) => if immL ds = true then match putP p d0 d1' with
            | some d0' => some (res, ρ.set i (some d0'))
            | none => none
          else none
        | none => none
      | none => none
    | none => none
  | _, _ => none
section
variable {X : Cx} {F : Fm} {vs0 : List V} {op : D → List D → Option (D × D)} {r : V → List V → Hp → VK → Prop} {T : String} {fs : List PM} {fl : LM}
end
end Dl

set_option Elab.async false
set_option linter.all false
set_option maxRecDepth 100000
set_option maxHeartbeats 1000000
/-! DL15: dict(pairs), update, clear, displays of dicts. -/
namespace Dl
open PySem PySem.Spec PyProof.Rows L2

section
variable {K : PySem.W.Frag} {mg : MG} {H H' : Hp}
end

/-! ### d.update(e), d.clear() -/
section
variable {K : PySem.W.Frag} {mg : MG}
end

/-! ### dict([(k, v), ..]) -/
section
variable {K : PySem.W.Frag} {mg : MG}
end
end Dl

set_option Elab.async false
set_option linter.all false
set_option maxRecDepth 100000
set_option maxHeartbeats 1000000
/-! DL16: and, or, not as values; a call by its name; a def by its mirror. -/
namespace Dl
open PySem PySem.Spec PyProof.Rows L2

theorem h65_of {k : Nat} {A : Around} (r : Room k A) : A.units + 65 < cLine := by have := r.un; omega
theorem h64_of {k : Nat} {A : Around} (r : Room k A) : A.units + 64 < cLine := by have := r.un; omega
theorem h1_of {k : Nat} {A : Around} (r : Room k A) : A.units + 1 < cLine := by have := r.un; omega

/-! ### and, or, not as values -/
def eAndV (a b : EM) : EM := fun ρ => match a ρ with
  | some (.bl true, ρ1) => b ρ1
  | some (.bl false, ρ1) => some (.bl false, ρ1)
  | _ => none
def eOrV (a b : EM) : EM := fun ρ => match a ρ with
  | some (.bl true, ρ1) => some (.bl true, ρ1)
  | some (.bl false, ρ1) => b ρ1
  | _ => none
def pAndV (a b : PM) : PM := fun ρ => match a ρ with
  | some (.bl true) => b ρ
  | some (.bl false) => some (.bl false)
  | _ => none
def pOrV (a b : PM) : PM := fun ρ => match a ρ with
  | some (.bl true) => some (.bl true)
  | some (.bl false) => b ρ
  | _ => none
def eNotV (a : EM) : EM := fun ρ => match a ρ with
  | some (.bl c, ρ1) => some (.bl (!c), ρ1)
  | _ => none
def pNotV (a : PM) : PM := fun ρ => match a ρ with
  | some (.bl c) => some (.bl (!c))
  | _ => none
section
variable {X : Cx} {F : Fm} {vs0 : List V} {ea eb : EM} {fa fb : PM}
theorem bl_at {σ : L2.St} {H : Hp} {ρ : DEnv} {ts : List Rt} {v : V} {b : Bool} (a : At F σ H ρ (.v v (.bl b) :: ts)) : At F σ H ρ (.v (.bl b) (.bl b) :: ts) := by
  have e := (a.front.rp).bl_inv
  subst e
  exact a
theorem imp_eAndV : ∀ σ H Q, tD F (eAndV ea eb) σ H Q → tAndV (tD F ea) (tD F eb) σ H Q := fun σ H Q ⟨ρ, ts, d, ρ', a, e, k⟩ => by
  unfold eAndV at e
  split at e
  · rename_i ρ1 e1
    exact ⟨ρ, ts, _, ρ1, a, e1, fun v H1 a1 => ⟨true, (a1.front.rp).bl_inv, by rw [if_pos rfl]; exact ⟨ρ1, ts, d, ρ', a1.tail, e, k⟩⟩⟩
  · rename_i ρ1 e1
    cases e
    exact ⟨ρ, ts, _, _, a, e1, fun v H1 a1 => ⟨false, (a1.front.rp).bl_inv, by rw [if_neg (by simp)]; exact k _ H1 (bl_at a1)⟩⟩
  · cases e
theorem imp_pAndV : ∀ σ H Q, tP F (pAndV fa fb) σ H Q → tAndV (tP F fa) (tP F fb) σ H Q := fun σ H Q ⟨ρ, ts, d, a, e, k⟩ => by
  unfold pAndV at e
  split at e
  · rename_i e1
    exact ⟨ρ, ts, _, a, e1, fun v H1 g1 r1 c1 => ⟨true, r1.bl_inv, by rw [if_pos rfl]; exact ⟨ρ, ts, d, a.grow g1, e, fun v2 H2 g2 r2 c2 => k v2 H2 (g1.trans g2) r2 c2⟩⟩⟩
  · rename_i e1
    cases e
    exact ⟨ρ, ts, _, a, e1, fun v H1 g1 r1 c1 => ⟨false, r1.bl_inv, by rw [if_neg (by simp)]; exact k _ H1 g1 (.bl false) (Cj.of ((a.grow g1).mk' (mk_bl false)))⟩⟩
  · cases e
theorem imp_pNotV : ∀ σ H Q, tP F (pNotV fa) σ H Q → tNotV (tP F fa) σ H Q := fun σ H Q ⟨ρ, ts, d, a, e, k⟩ => by
  unfold pNotV at e
  split at e
  · rename_i c e1
    cases e
    exact ⟨ρ, ts, _, a, e1, fun v H1 g1 r1 c1 => ⟨c, r1.bl_inv, k _ H1 g1 (.bl _) (Cj.of ((a.grow g1).mk' (mk_bl _)))⟩⟩
  · cases e
end

/-! ### a call of a def, by its name -/
structure Cl (P : Program) (w : World) (K : PySem.W.Frag) (mg : Str → Option Value) (base : Heap) (k : Nat) (x : Str) (m : FnM) : Prop where
  ex : ∃ (f : Addr) (fd : FuncData) (ps : List Str), FnOk P w K mg base CX0 k f fd ps (spD K ⟨mg, w⟩ m) ∧ mg x = some (.ref f) ∧ PySem.W.keepIn K (.ref f) = true ∧ Binds K fd ps []
theorem e_callC {X : Cx} {vs0 : List V} {k j : Nat} {x : Str} {m : FnM} {am : AM} {e : Expr} {es : List Expr} {p pos : Pos} (c : Cl X.prog X.w X.K X.mg X.base k x m) (hr : Room j X.A) (hk : k ≤ j)
    (ha : PA X (e :: es) (tA (fm X vs0) am)) (hg : Gl X x := by rfl) (hdb : (x == ("__debug__" : Str)) = false := by decide) (he : starEach (e :: es) X.env = (false, eval e X.env) :: starEach es X.env := by rfl) (hpl : (backTo pos (starEach es X.env)).any (·.1) = false := by rfl) :
    PE X (.Call (.Name x p) (e :: es) [] pos) (tD (fm X vs0) (eCall m am)) := by
  obtain ⟨f, fd, ps, G, hm, hkp, hb⟩ := c.ex
  exact e_call G (hr.mono hk) hm hkp hb ha hg hdb he hpl
/-- a def of the top, by its mirror -/
theorem cl_of {P : Program} {w : World} {K : PySem.W.Frag} {mg : Str → Option Value} {base : Heap} {x : Str} {st : Stmt} {f : Addr} {fd : FuncData} {N ps : List Str} {k na np : Nat} {body : SM} (F : Fun K x x st f fd) (hm : mg x = some (.ref f)) (hkp : PySem.W.keepIn K (.ref f) = true) (b : Binds K fd ps []) (S : FnScope N ps (defScope st))
    (hps : ps.length = na) (hn : na ≤ N.length) (hp : np ≤ na)
    (hbody : ∀ (cdv : Value) (A : Around) (outer : List Env) (s : Shared) (H : Hp) (E : XK) (vs0 : List V), Room k (A.deeper (envOfC x (defScope st) s.heap.objs.size f cdv)) → (∀ i, np ≤ i → vs0.length ≤ i) → vs0.length = np →
      PSs (cxOf CX0 P w K mg base N x (defScope st) f cdv A outer s H E).nox (defBody st) (tS (fmk K ⟨mg, w⟩ vs0 N.length) body)) : Cl P w K mg base (k + 1) x (fnM na np N.length body) :=
  ⟨f, fd, ps, F.ok S (fun vs H Q E h => by rw [hps]; exact fn_len h) fun cdv A outer s H vs Q E hr h =>
    ⟨_, PSs.nox (hbody cdv A outer s H E (vs.take np) hr (fun i hi => by rw [List.length_take]; omega) (by rw [List.length_take, fn_len h]; omega)), fn_in hn hp h⟩, hm, hkp, b⟩
end Dl

set_option Elab.async false
set_option linter.all false
set_option maxRecDepth 100000
set_option maxHeartbeats 1000000
/-! DL17: a name's value looked at behind the other operand; constants of the module. -/
namespace Dl
open PySem PySem.Spec PyProof.Rows L2

/-- name op E, the value new -/
def eOpN (op : D → D → Option D) (i : Nat) (b : EM) : EM := fun ρ => match ρ.getD i none with
  | some _ => match b ρ with
    | some (y, ρ1) => match ρ1.getD i none with
      | some x => match op x y with
        | some d => some (d, ρ1)
        | none => none
      | none => none
    | none => none
  | none => none
section
variable {X : Cx} {F : Fm} {vs0 : List V} {r : R2} {op : D → D → Option D} {eb : EM} {i : Nat}
theorem imp_opN (hr : R2D F.K F.mg r op) : ∀ σ H Q, tD F (eOpN op i eb) σ H Q → tOp r (tVar i) (tD F eb) σ H Q := fun σ H Q ⟨ρ, ts, d, ρ', a, e, k⟩ => by
  unfold eOpN at e
  split at e
  · rename_i d0 e0
    split at e
    · rename_i y ρ1 e1
      split at e
      · rename_i x e2
        split at e
        · rename_i d' e3
          cases e
          obtain ⟨v, hv, _⟩ := a.slot (getD_some e0)
          refine ⟨v, hv, ρ, ts, y, _, a, e1, fun w H1 a1 => ?_⟩
          obtain ⟨v', hv', s1⟩ := a1.slot (getD_some e2)
          rw [hv] at hv'
          cases hv'
          refine hr v w H1 x y d Q s1.rp (a1.front.rp) e3 fun z H2 g2 m => k z H2 ?_
          exact (At.tail a1).mk' m
        · cases e
      · cases e
    · cases e
  · cases e
/-- tests of comparisons -/
theorem imp_bPt {f : PM} {t : TE} (k : ∀ σ H Q, tP F f σ H Q → t σ H Q) : ∀ σ H Q, tT F (bP f) σ H Q → tTest t σ H Q := fun σ H Q h => k σ H _ (imp_bP σ H Q h)
theorem imp_bVt {f : EM} {t : TE} (k : ∀ σ H Q, tD F f σ H Q → t σ H Q) : ∀ σ H Q, tT F (bV f) σ H Q → tTest t σ H Q := fun σ H Q h => k σ H _ (imp_bV σ H Q h)
/-- a constant of the module -/
theorem p_globI {x : Str} {p : Pos} {n : Int} (hm : ∃ t, X.mg x = some (.int n t)) (hg : Gl X x := by rfl) (hd : (x == ("__debug__" : Str)) = false := by decide) : PE X (.Name x p) (tP (fm X vs0) (pC (.int n))) := by
  obtain ⟨t, hm⟩ := hm
  exact (pe_glob hg hm (v := .int n) ⟨t, rfl⟩ hd).imp (imp_c fun _ => mk_int n)
theorem p_globS {x : Str} {p : Pos} {n : Str} (hm : ∃ t, X.mg x = some (.str n t)) (hg : Gl X x := by rfl) (hd : (x == ("__debug__" : Str)) = false := by decide) : PE X (.Name x p) (tP (fm X vs0) (pC (.str n))) := by
  obtain ⟨t, hm⟩ := hm
  exact (pe_glob hg hm (v := .str n) ⟨t, rfl⟩ hd).imp (imp_c fun _ => mk_str n)
theorem blk_ok {N : List Str} {sc scope : Scope} {own : List (Str × Nat)} (h : (decide (scope.kind = .function) && scope.names.all (fun y => decide (scope.names.lookup y.1 = some y.2)) && own.all (fun p => decide (N[p.2]? = some p.1)) &&
    scope.names.all (fun y => !decide (y.2 = .free) || (decide (sc.names.lookup y.1 = some .cell) || decide (sc.names.lookup y.1 = some .free))) && scope.names.all (fun y => !(decide (y.2 = .local) || decide (y.2 = .cell)) || (decide (y.1 ∈ own.map (·.1)) || !decide (y.1 ∈ N)))) = true) : BlkOk N sc scope own := by
  simp only [Bool.and_eq_true, List.all_eq_true, decide_eq_true_eq, Bool.or_eq_true, Bool.not_eq_true', decide_eq_false_iff_not] at h
  obtain ⟨⟨⟨⟨h1, h2⟩, h3⟩, h4⟩, h5⟩ := h
  refine ⟨h1, h2, h3, fun y hy hf => ?_, fun y hy hf => ?_⟩
  · rcases h4 y hy with q | q
    · exact absurd hf q
    · exact q
  · rcases h5 y hy with q | q
    · exact absurd hf (by simpa using q)
    · exact q
end
end Dl

set_option Elab.async false
set_option linter.all false
set_option maxRecDepth 100000
set_option maxHeartbeats 1000000
/-! DL18: loops over reversed(..), enumerate(..). -/
namespace Dl
open PySem PySem.Spec PyProof.Rows L2 RT

def enumD : Nat → List D → List D
  | _, [] => []
  | k, d :: ds => .tup [.int k, d] :: enumD (k + 1) ds
theorem enumD_len : ∀ (ds : List D) (k : Nat), (enumD k ds).length = ds.length
  | [], _ => rfl
  | d :: ds, k => by rw [enumD, List.length_cons, enumD_len ds, List.length_cons]
theorem enumD_get : ∀ (ds : List D) (k i : Nat) (h : i < (enumD k ds).length) (h' : i < ds.length), (enumD k ds)[i] = .tup [.int ((k + i : Nat) : Int), ds[i]]
  | d :: ds, k, 0, _, _ => rfl
  | d :: ds, k, i + 1, h, h' => by
    simp only [enumD, List.getElem_cons_succ]
    rw [enumD_get ds (k + 1) i (by simpa [enumD] using h) (by simpa using h')]
    congr 3
    omega
def sForE (it : EM) (g : GM) (body : SM) : SM := fun ρ => match it ρ with
  | some (d, ρ1) => match d.frz with
    | .lst _ ds => forL g body (enumD 0 ds) ρ1
    | _ => none
  | none => none
section
variable {F : Fm} {g : GM} {body : SM} {gt : TG}
end
section
variable {X : Cx} {vs0 : List V} {W : WX} {pos : Pos} {g : GM} {body : SM} {tg : Expr} {bs : List Stmt}
end
end Dl

set_option Elab.async false
set_option linter.all false
set_option maxRecDepth 100000
set_option maxHeartbeats 1000000
/-! DL19: loops over enumerate(list); displays of dicts with text or number keys. -/
namespace Dl
open PySem PySem.Spec PyProof.Rows L2

section
variable {F : Fm} {g : GM} {body : SM} {gt : TG}
theorem imp_forE {it : EM} (hg : ∀ v σ H Q, tG F g v σ H Q → gt v σ H Q) : ∀ D' σ H, tS F (sForE it g body) D' σ H → tFor (iEnum F.K (tCons (tD F it) tNil)) gt (tS F body) D' σ H := fun D' σ H ⟨ρ, ts, fl, ρ', a, q, k⟩ => by
  unfold sForE at q
  split at q
  · rename_i d ρ1 he
    split at q
    · rename_i o ds hd
      refine ⟨ρ, ts, d, ρ1, a, he, fun v H1 a1 => ?_⟩
      have a2 : At F σ H1 ρ1 (.v v (.lst o ds) :: ts) := a1.of_front (by have := a1.front; rw [← hd]; exact this.frz)
      have hst : (D.lst o ds).stable = true := by rw [← hd]; exact D.stable_frz d
      have kk := fin_drop (r := .v v (.lst o ds)) k
      obtain ⟨a0, vs, rfl, hv, l⟩ := Rp.lst_inv ((a2.front).rp)
      have hl := l.length
      have hn := enumD_len ds 0
      have fin : ∀ σ H, (∃ ρ, At F σ H ρ (.v (.ref a0) (.lst o ds) :: ts) ∧ forL g body ((enumD 0 ds).drop ds.length) ρ = some (fl, ρ')) → D'.nx σ H := fun σ H ⟨ρ2, b, hf⟩ => by
        rw [List.drop_of_length_le (by omega)] at hf
        obtain ⟨rfl, rfl⟩ := forL_nil hf
        exact kk σ H b
      refine ⟨a0, vs, rfl, SqL.of hv, for_any (n := ds.length) (fun i σ H => ∃ ρ, At F σ H ρ (.v (.ref a0) (.lst o ds) :: ts) ∧ forL g body ((enumD 0 ds).drop i) ρ = some (fl, ρ')) ⟨ρ1, a2, q⟩ (fun i σ H hi ⟨_, b, _⟩ => ?_) (fun σ H ⟨_, b, _⟩ => ?_) ?_ fin⟩
      · obtain ⟨b0, ws, e0, hw, l⟩ := Rp.lst_inv ((b.front).rp)
        cases e0
        have hwl := l.length
        exact ⟨ws, ws[i]'(by omega), SqL.of hw, List.getElem?_eq_getElem _⟩
      · obtain ⟨b0, ws, e0, hw, l⟩ := Rp.lst_inv ((b.front).rp)
        cases e0
        exact ⟨ws, SqL.of hw, by rw [l.length]; exact Nat.le_refl _⟩
      · rintro i x σ H H' hi ⟨ρ2, b, hf⟩ ⟨T, z, rfl, hT, rfl, y⟩
        obtain ⟨b0, ws, e0, hw, l⟩ := Rp.lst_inv ((b.front).rp)
        cases e0
        have b1 : At F σ H ρ2 (.v z ds[i] :: .v (.ref a0) (.lst o ds) :: ts) := b.item (.lst hw (y ws (SqL.of hw)) (List.getElem?_eq_getElem hi) (.refl _ _)) (items_stable (e := .lst o ds) rfl hst _ (List.getElem_mem hi))
        have b2 : At F σ H ρ2 (vals [.int (i : Nat), z] [.int ((i : Nat) : Int), ds[i]] ++ (.v (.ref a0) (.lst o ds) :: ts)) := b1.mk' (mk_int _)
        have b3 := b2.newT rfl hT
        have hil : i < (enumD 0 ds).length := by omega
        rw [List.drop_eq_getElem_cons hil, enumD_get ds 0 i hil hi, Nat.zero_add] at hf
        exact for_turn hg hf b3 kk fun σ' H' ρ3 b3 hf3 => ⟨ρ3, b3, hf3⟩
    · cases q
  · cases q
end
section
variable {X : Cx} {vs0 : List V} {W : WX} {pos tpos : Pos} {g : GM} {body : SM} {elts : List Expr} {kk : Nat} {bs : List Stmt}
theorem s_forE {l : Expr} {p pos' : Pos} {it : EM} (hc : X.calm = true) (hp : PassesOwn (model X.prog X.w) X.A X.env X.xe) (hm : X.mg "enumerate" = none) (hl : PE X l (tD (fm X vs0) it)) (hg : PG X (.Tuple elts kk tpos) (tG (fm X vs0) g)) (hb : PSs X bs (tS (fmW X vs0 W) body)) (hgl : Gl X "enumerate" := by rfl)
    (hs : starEach [l] X.env = [(false, eval l X.env)] := by rfl) (hf : ∀ x, foldedSetIterable (.Call (.Name "enumerate" p) [l] [] pos') X.env x = pure x := by intro _; rfl) :
    PS X (.For (.Tuple elts kk tpos) (.Call (.Name "enumerate" p) [l] [] pos') bs [] pos) (tS (fmW X vs0 W) (sForE it g body)) :=
  (ps_for hp hc (pi_enum hgl hm (pa_cons hl pa_nil (by rw [hs]; rfl)) hs) hg hb hf).imp (imp_forE fun _ _ _ _ h => h)
end
end Dl

set_option Elab.async false
set_option linter.all false
set_option maxRecDepth 100000
set_option maxHeartbeats 1000000
/-! DL20: displays of dicts whose keys are texts or numbers, all different. -/
namespace Dl
open PySem PySem.Spec PyProof.Rows L2

def dispM : List (PM × EM) → DEnv → Option (List Key × List D × DEnv)
  | [], ρ => some ([], [], ρ)
  | (k, e) :: r, ρ => match k ρ with
    | some q => match q.key with
      | some key => match e ρ with
        | some (d, ρ1) => match dispM r ρ1 with
          | some (ks, ds, ρ2) => some (key :: ks, d :: ds, ρ2)
          | none => none
        | none => none
      | none => none
    | none => none
def eDisp (l : List (PM × EM)) : EM := fun ρ => match dispM l ρ with
  | some (ks, ds, ρ') => if ks.Nodup ∧ ks.length ≤ 15 then some (.dic true .k (ks.map kyD) ds, ρ') else none
  | none => none
section
variable {X : Cx} {F : Fm} {vs0 : List V}
theorem disp_pairs : ∀ {l : List (PM × EM)} {σ : L2.St} {H : Hp} {Q : List (V × V) → Hp → Prop} {ρ ρ' : DEnv} {ts : List Rt} {ks : List Key} {ds : List D}, At F σ H ρ ts → dispM l ρ = some (ks, ds, ρ') →
    (∀ ys H', ys.length = ds.length → ks.length = ds.length → At F σ H' ρ' (vals ys ds ++ ts) → Q ((ks.map kV).zip ys) H') → tPairs (l.map fun p => (tP F p.1, tD F p.2)) σ H Q
  | [], σ, H, Q, ρ, ρ', ts, ks, ds, a, e, k => by
    cases e
    exact k [] H rfl rfl a
  | (f, g) :: l, σ, H, Q, ρ, ρ', ts, ks, ds, a, e, k => by
    unfold dispM at e
    split at e
    · rename_i q e1
      split at e
      · rename_i key e2
        split at e
        · rename_i d ρ1 e3
          split at e
          · rename_i ks' ds' ρ2 e4
            cases e
            refine ⟨ρ, ts, q, a, e1, fun x H1 g1 rx _ => ⟨ρ, ts, d, ρ1, a.grow g1, e3, fun y H2 a2 => ?_⟩⟩
            have hx : x = kV key := by
              have := key_kyD e2
              subst this
              exact rx.ky
            subst hx
            refine disp_pairs (l := l) a2 e4 fun ys H3 h1 h2 a3 => ?_
            exact k (y :: ys) H3 (by simp [h1]) (by simp [h2]) (a3.perm (List.perm_middle))
          · cases e
        · cases e
      · cases e
    · cases e
theorem merge_nodup : ∀ {more kvs : List (Key × V)}, ((kvs ++ more).map (·.1)).Nodup → mergeK kvs more = kvs ++ more
  | [], kvs, _ => by simp [mergeK]
  | (k, v) :: more, kvs, h => by
    have hk : ¬ (kvs.any fun kv => decide (kv.1 = k)) = true := by
      intro q
      obtain ⟨p, hp, e⟩ := List.any_eq_true.mp q
      have e' := of_decide_eq_true e
      rw [List.map_append, List.nodup_append] at h
      exact h.2.2 p.1 (List.mem_map.mpr ⟨p, hp, rfl⟩) k (by simp) e'
    show mergeK (putK kvs k v) more = _
    have e : putK kvs k v = kvs ++ [(k, v)] := by unfold putK; rw [if_neg hk]
    rw [e, merge_nodup (by rw [List.append_assoc]; exact h), List.append_assoc]
    rfl
theorem imp_disp {l : List (PM × EM)} : ∀ σ H Q, tD F (eDisp l) σ H Q → tDisp (l.map fun p => (tP F p.1, tD F p.2)) σ H Q := fun σ H Q ⟨ρ, ts, d, ρ', a, e, k⟩ p hp => by
  unfold eDisp at e
  split at e
  · rename_i ks ds ρ2 e1
    split at e
    · rename_i hn
      cases e
      have a1 : At F σ (upd H p (.dK [])) ρ (.c p (.dK []) :: ts) := a.of_front (by have := a.front; exact this.alloc hp)
      refine disp_pairs a1 e1 fun ys H2 h1 h2 a2 => ?_
      have s2 : Sim F.K F.mg H2 (.c p (.dK []) :: (vals ys ds ++ (ts ++ slotR σ ρ'))) := a2.front.perm (by
        rw [List.append_assoc]
        exact List.perm_middle)
      have hm1 : (ks.zip ys).map (·.1) = ks := List.map_fst_zip (by omega)
      have hm2 : (ks.zip ys).map (·.2) = ys := List.map_snd_zip (by omega)
      have hmk : mergeK [] (ks.zip ys) = ks.zip ys := merge_nodup (by rw [List.nil_append, hm1]; exact hn.1)
      refine ⟨s2.cell, ks.zip ys, ?_, by rw [List.length_zip]; omega, k _ _ ?_⟩
      · rw [List.zip_map_left]
        apply List.map_congr_left
        intro q _
        rfl
      · rw [hmk]
        have s3 : Sim F.K F.mg (upd H2 p (.dK (ks.zip ys))) (.v (.ref p) (.dic true .k (ks.map kyD) ds) :: (ts ++ slotR σ ρ')) := by
          refine Sim.setDk (o := .dK []) ?_ ?_ (by rw [List.length_zip]; omega)
          · rw [hm2]; exact s2
          · rw [← hm1, List.map_map]
            all_goals first | rfl | (rw [hm1]; rfl)
        exact a2.of_front s3
    · cases e
  · cases e
theorem e_disp {pos : Pos} {keys : List (Option Expr)} {values : List Expr} {l : List (PM × EM)} (h : PPs X pos keys values (l.map fun p => (tP (fm X vs0) p.1, tD (fm X vs0) p.2))) (hall : keys.all (·.isSome) = true := by rfl) (hl : keys.length = values.length := by rfl) (h0 : keys ≠ [] := by exact fun h => nomatch h)
    (h15 : keys.length ≤ 15 := by decide) : PE X (.Dict keys values pos) (tD (fm X vs0) (eDisp l)) := (pe_disp h hall hl h0 h15).imp imp_disp
end
end Dl

set_option Elab.async false
set_option linter.all false
set_option maxRecDepth 100000
set_option maxHeartbeats 1000000
/-! DL21: repr of lists and tuples, where no repr stands above. -/
namespace Dl
open PySem PySem.Spec PyProof.Rows L2

def opRepr : List D → Option D
  | [d] => if d.dat = true ∧ d.py.showable = true ∧ d.py.hasDict = false ∧ d.py.depth ≤ 60 ∧ d.py.shown.length ≤ 16777216 then (match d with
    | .lst _ _ => some (.str d.py.shown)
    | .tup _ => some (.str d.py.shown)
    | .non => some (.str "None")
    | _ => none) else none
  | _ => none
def rRepr (K : PySem.W.Frag) : List V → Hp → VK → Prop := fun xs H Q => (∃ (a : Addr) (d : PyData), xs = [V.ref a] ∧ Dp K H (.ref a) d ∧ d.showable = true ∧ d.hasDict = false ∧ d.depth ≤ 60 ∧ d.shown.length ≤ 16777216 ∧ Q (.str d.shown) H) ∨ (xs = [.non] ∧ Q (.str "None") H)
theorem c_repr {X : Cx} (hg : X.A.guards = some []) (hu : X.A.units + 65 < cLine) : CallR X (.builtin "repr") (rRepr X.K) := by
  intro pins s σ H xs us Q I r h
  rcases h with ⟨a, d, rfl, hd, h1, h2, h3, h4, q⟩ | ⟨rfl, q⟩
  rotate_left
  · obtain ⟨u, rfl, ru⟩ := vals1 r
    obtain rfl : u = .none := ru
    exact P.repr_of_none ⟨.str "None", H, I.tok _, ⟨_, rfl⟩, q⟩
  obtain ⟨u, rfl, ru⟩ := vals1 r
  obtain ⟨as, rd⟩ := Dp.reads I d (.ref a) u hd ru
  obtain rfl : u = .ref a := ru
  refine repr_of_reads' rd h1 (fun z => by rw [h2] at z; cases z) hg (by omega) (fun b o e => e) (fun h' u tk hk => ?_) (by rw [sizeLine_eq]; exact h4)
  exact ⟨.str d.shown, H, I.kept (t' := tk) hk, ⟨u, rfl⟩, q⟩
section
variable {K : PySem.W.Frag} {mg : MG}
theorem r_repr : RnD K mg (rRepr K) opRepr := by
  intro vs H ds d Q rs e k
  unfold opRepr at e
  split at e
  · rename_i d0
    split at e
    · rename_i hc
      obtain ⟨v, rfl, r⟩ := rs.one
      have hd := r.dp hc.1
      split at e
      · rename_i o xs
        cases e
        obtain ⟨a, ys, rfl, ha, l⟩ := r.lst_inv
        exact .inl ⟨a, _, rfl, hd, hc.2.1, hc.2.2.1, hc.2.2.2.1, hc.2.2.2.2, k _ H (Same.refl H) (mk_str _)⟩
      · rename_i xs
        cases e
        obtain ⟨a, ys, rfl, ha, l⟩ := r.tup_inv
        exact .inl ⟨a, _, rfl, hd, hc.2.1, hc.2.2.1, hc.2.2.2.1, hc.2.2.2.2, k _ H (Same.refl H) (mk_str _)⟩
      · cases e
        cases r
        exact .inr ⟨rfl, k _ H (Same.refl H) (mk_str _)⟩
      · cases e
    · cases e
  · cases e
end
end Dl

set_option Elab.async false
set_option linter.all false
set_option maxRecDepth 100000
set_option maxHeartbeats 1000000
/-! DL22: sorted(list) of numbers, of texts. -/
namespace Dl
open PySem PySem.Spec PyProof.Rows L2

section
variable {K : PySem.W.Frag} {mg : MG}
end
end Dl

set_option Elab.async false
set_option linter.all false
set_option maxRecDepth 100000
set_option maxHeartbeats 2000000
/-! DL23: sorted(d.items()), keys texts, values numbers. -/
namespace Dl
open PySem PySem.Spec PySem.W PySem.Calls PyProof.Rows

section
variable {prog : Program} {w : World} {A : Around} {E : Value → Shared → Prop} {s : Shared}
end
end Dl

set_option Elab.async false
set_option linter.all false
set_option maxRecDepth 100000
set_option maxHeartbeats 2000000
/-! DL24: sorted(d.items()), keys texts, values numbers: the rule. -/
namespace Dl
open PySem PySem.Spec PyProof.Rows L2

end Dl

set_option Elab.async false
set_option linter.all false
set_option maxRecDepth 100000
set_option maxHeartbeats 2000000
/-! DL25: sorted(d.items()) by its mirror. -/
namespace Dl
open PySem PySem.Spec PyProof.Rows L2

section
variable {K : PySem.W.Frag} {mg : MG}
theorem Sim.fresh {H H' : Hp} {l : Addr} {o : HO} {rs : List Rt} (h : Sim K mg H rs) (g : Same H H') (hn : H l = none) (e : H' l = some o) (ht : tupish o = false) : Sim K mg H' (.c l o :: rs) := by
  obtain ⟨Hs, fp, s, ow, nd⟩ := h
  have h1 := ow.fpH
  have hl : Hs l = none := s.none hn
  refine ⟨Hs, l :: fp, fun a u q => ?_, .c e hl ht (ow.mono (fun _ _ q => q) fun a ha => ?_), List.nodup_cons.mpr ⟨fun z => ?_, nd⟩⟩
  · rcases s a u q with q1 | ⟨q1, ob, q2⟩
    · exact .inl (g a _ q1)
    · exact .inr ⟨q1, ob, g a _ q2⟩
  · obtain ⟨⟨u, hu, _⟩, _⟩ := h1 a ha
    exact ⟨by rw [hu, g a u hu], fun z => z⟩
  · obtain ⟨⟨u, hu, _⟩, _⟩ := h1 l z
    rw [hn] at hu
    cases hu
end
section
variable {X : Cx} {F : Fm} {vs0 : List V}
end
end Dl

set_option Elab.async false
set_option linter.all false
set_option maxRecDepth 100000
set_option maxHeartbeats 1000000
/-! DL26: loops over the keys of a dict in a slot, which is read-only from there. -/
namespace Dl
open PySem PySem.Spec PyProof.Rows L2

section
variable {F : Fm} {g : GM} {body : SM} {gt : TG}
theorem At.imm {σ : L2.St} {H : Hp} {ρ : DEnv} {ts : List Rt} {v : V} {d : D} (a : At F σ H ρ ts) (r : Rp F.K F.mg H v d) (hi : d.imm = true) : At F σ H ρ (.v v d :: ts) := a.of_front ((a.front).imm r hi)
end
section
variable {X : Cx} {vs0 : List V} {W : WX} {pos p : Pos} {g : GM} {body : SM} {tg : Expr} {bs : List Stmt}
end
end Dl

set_option Elab.async false
set_option linter.all false
set_option maxRecDepth 100000
set_option maxHeartbeats 1000000
/-! DL27: objects: attributes read and stored, methods, making. -/
namespace Dl
open PySem PySem.Spec PyProof.Rows L2

def lookF : List Str → List D → Str → Option D
  | k :: ks, v :: vs, q => if k = q then some v else lookF ks vs q
  | _, _, _ => none
def opFld (c f : Str) : D → Option D
  | .obj _ c' fs vs => if c' = c then lookF fs vs f else none
  | _ => none
def pFld (c f : Str) (a : PM) : PM := pOp1 (opFld c f) a
section
variable {F : Fm} {fa : PM} {fl : LM} {c f : Str}
end
section
variable {X : Cx} {vs0 : List V} {W : WX} {fa : PM} {fl : LM} {c f : Str} {e : Expr} {pos : Pos}
end

/-! ### o.f = value -/
def opSetF (c f : Str) (d v : D) : Option D := match d with
  | .obj true c' fs vs => if c' = c ∧ fs.length < 1000 ∧ fs.length = vs.length then
      (match fs.findIdx? (fun q => decide (q = f)) with
      | some j => some (.obj true c fs (vs.set j v))
      | none => some (.obj true c (fs ++ [f]) (vs ++ [v])))
    else none
  | _ => none
def sSetF (e : EM) (l : LM) (c f : Str) : SM := fun ρ => match e ρ with
  | some (v, ρ1) => match l ρ1 with
    | some (i, p) => match ρ1.getD i none with
      | some d0 => match getP p d0 with
        | some d1 => match opSetF c f d1 v with
          | some d1' => match putP p d0 d1' with
            | some d0' => some (.nx, ρ1.set i (some d0'))
            | none => none
          | none => none
        | none => none
      | none => none
    | none => none
  | none => none
section
variable {F : Fm} {fl : LM} {c f : Str} {e : EM}
end
section
variable {X : Cx} {vs0 : List V} {W : WX} {fl : LM} {c f : Str} {e : EM} {o value : Expr} {pos pos' : Pos}
end

/-! ### methods of one's own, making -/
structure ClM (P : Program) (w : World) (K : PySem.W.Frag) (mg : Str → Option Value) (base : Heap) (k : Nat) (c mn : Str) (m : FnM) : Prop where
  ex : ∃ (C f : Addr) (fd : FuncData) (ps : List Str), FnOk P w K mg base CX0 k f fd ps (spD K ⟨mg, w⟩ m) ∧ mg c = some (.ref C) ∧ Cls K C ∧ Meth K C mn f ∧ Binds K fd ps []
structure ClI (P : Program) (w : World) (K : PySem.W.Frag) (mg : Str → Option Value) (base : Heap) (k : Nat) (c : Str) (m : FnM) : Prop where
  ex : ∃ (C f : Addr) (fd : FuncData) (ps : List Str), FnOk P w K mg base CX0 k f fd ps (spD K ⟨mg, w⟩ m) ∧ mg c = some (.ref C) ∧ L2.Mk K C f ∧ Binds K fd ps []
section
variable {F : Fm} {m : FnM} {c mn : Str} {i : Nat} {am : AM} {C : Addr} {E : XK}
end
section
variable {X : Cx} {vs0 : List V} {W : WX} {k j : Nat} {c mn x : Str} {m : FnM} {am : AM} {e : Expr} {es : List Expr} {p apos pos : Pos} {pl : Sem Bool}
end
section
variable {F : Fm} {m : FnM} {c : Str} {am : AM} {C : Addr} {E : XK}
end
section
variable {X : Cx} {vs0 : List V} {W : WX} {k j : Nat} {c : Str} {m : FnM} {am : AM} {e : Expr} {es : List Expr} {p pos : Pos}
end
end Dl

set_option Elab.async false
set_option linter.all false
set_option maxRecDepth 100000
set_option maxHeartbeats 1000000
/-! DL28: d.pop(k), l.remove(text or number). -/
namespace Dl
open PySem PySem.Spec PyProof.Rows L2

section
variable {K : PySem.W.Frag} {mg : MG}
end

/-! ### l.remove(text) -/
section
variable {K : PySem.W.Frag} {mg : MG}
end
end Dl

set_option Elab.async false
set_option linter.all false
set_option maxRecDepth 100000
set_option maxHeartbeats 1000000
/-! DL29: tuples read alone; blocks over a list that stays owned (reading alone); a place frozen. -/
namespace Dl
open PySem PySem.Spec PyProof.Rows L2

def pTup (fs : List PM) : PM := fun ρ => match pAll fs ρ with
  | some ds => if immL ds = true ∧ ds.length ≤ 1000 then some (.tup ds) else none
  | none => none
section
variable {X : Cx} {vs0 : List V} {W : WX} {pos : Pos} {F : Fm} {fs : List PM}
theorem p_tup {es : List Expr} {x1} (h : PA X es (tAP (fm X vs0) fs)) : PE X (.Tuple es x1 pos) (tP (fm X vs0) (pTup fs)) := (pe_tup h).imp fun σ H Q ⟨ρ, ts, d, a, e, k⟩ => by
  unfold pTup at e
  split at e
  · rename_i ds ha
    split at e
    · rename_i hz
      cases e
      refine ⟨ρ, ts, ds, a, ha, fun vs H1 g1 rl => ⟨by rw [rl.length]; exact small_line hz.2, fun p hp => ?_⟩⟩
      have a1 : At (fm X vs0) σ H1 ρ (vals vs ds ++ ts) := (a.grow g1).of_front (by
        have := ((a.grow g1).front).imms rl hz.1
        rwa [← List.append_assoc] at this)
      have a2 := a1.newT rl.length hp
      have g2 := same_upd (o := .tup vs) hp
      exact k _ _ (g1.trans g2) (a2.front).rp (Cj.of a2)
    · cases e
  · cases e
end
section
variable {F : Fm} {g : GM} {gt : TG} {e : PM} {vs : List Nat}
end
section
variable {X : Cx} {vs0 : List V} {W : WX} {pos : Pos} {g : GM} {e : PM} {tg elt : Expr} {scope : Scope} {own : List (Str × Nat)} {gt : TG}
end

/-! ### a place frozen -/
def eFrL (l : LM) : EM := fun ρ => match l ρ with
  | some (i, p) => match ρ.getD i none with
    | some d0 => match getP p d0 with
      | some d1 => match putP p d0 d1.frz with
        | some d0' => some (d1.frz, ρ.set i (some d0'))
        | none => none
      | none => none
    | none => none
  | none => none
section
variable {F : Fm} {fl : LM}
end
end Dl

set_option Elab.async false
set_option linter.all false
set_option maxRecDepth 100000
set_option maxHeartbeats 1000000
/-! DL30: methods of texts, blocks over a text's signs, dicts of the module (text keys, numbers). -/
namespace Dl
open PySem PySem.Spec PyProof.Rows L2

/-! ### methods of texts -/
def RsD (K : PySem.W.Frag) (mg : MG) (r : V → List V → Hp → VK → Prop) (op : D → List D → Option D) : Prop :=
  ∀ (x : V) (vs : List V) (H : Hp) (d0 : D) (ds : List D) (d : D) (Q : VK), Rp K mg H x d0 → RpL K mg H vs ds → op d0 ds = some d → (∀ z H', Same H H' → Mk K mg H H' z d → Q z H') → r x vs H Q
/-- a text read alone, then arguments reckoned -/
def eSm (op : D → List D → Option D) (fo : PM) (am : AM) : EM := fun ρ => match fo ρ with
  | some (.str x) => match am ρ with
    | some (as, ρ1) => match valsA as with
      | some ds => match op (.str x) ds with
        | some d => some (d, ρ1)
        | none => none
      | none => none
    | none => none
  | _ => none
section
variable {F : Fm} {op : D → List D → Option D} {r : V → List V → Hp → VK → Prop} {fo : PM} {am : AM}
theorem imp_sm (hr : RsD F.K F.mg r op) : ∀ σ H Q, tD F (eSm op fo am) σ H Q → tBM F.K "str" r (tP F fo) (tA F am) σ H Q := fun σ H Q ⟨ρ, ts, d, ρ', a, q, k⟩ => by
  unfold eSm at q
  split at q
  · rename_i x ex
    split at q
    · rename_i as ρ1 ha
      split at q
      · rename_i ds hv
        split at q
        · rename_i d' ho
          cases q
          refine ⟨ρ, ts, _, a, ex, fun v H1 g1 rx _ => ?_⟩
          obtain rfl := rx.str_inv
          refine ⟨rfl, ρ, ts, as, _, a.grow g1, ha, fun vs H2 tm ar a2 => ?_⟩
          obtain ⟨hl, rfl⟩ := argsR_vals ar hv
          have rl := vals_rpL hl (a2.front.perm (by rw [List.append_assoc]))
          refine hr _ vs H2 _ ds d Q (.str x) rl ho fun z H3 g3 m => k z H3 ?_
          have a3 := a2.mk' m
          have s3 : Sim F.K F.mg H3 (.v z d :: (vals vs ds ++ (ts ++ slotR σ ρ'))) := by have := a3.front; simpa [List.append_assoc] using this
          exact a3.of_front ((s3.perm (List.perm_middle).symm).drop)
        · cases q
      · cases q
    · cases q
  · cases q
end
def rJoinS (K : PySem.W.Frag) : V → List V → Hp → VK → Prop := fun x xs H Q => ∃ a p, ∃ ys : List Str, x = .str a ∧ xs = [.ref p] ∧ (SqL K H p (ys.map V.str) ∨ SqT K H p (ys.map V.str)) ∧ (ys.map (·.length)).sum + ys.length * a.length ≤ 16777216 ∧ Q (.str (Txt.join a ys)) H
theorem mt_joinS {X : Cx} : MtR X "str.join" (rJoinS X.K) := mt_join
def rSplitS : V → List V → Hp → VK → Prop := fun x xs H Q => ∃ a b, x = .str a ∧ xs = [.str b] ∧ (b.length == 0) = false ∧ a.length + 2 ≤ sizeLine ∧ rNewStrs (Txt.split a b) H Q
theorem mt_splitS {X : Cx} : MtR X "str.split" rSplitS := mt_split
def mJoin : D → List D → Option D
  | .str a, [.lst _ ds] => match strsL ds with
    | some l => if (l.map (·.length)).sum + l.length * a.length ≤ 16777216 then some (.str (Txt.join a l)) else none
    | none => none
  | _, _ => none
def mSplit : D → List D → Option D
  | .str a, [.str b] => if (b.length == 0) = false ∧ a.length + 2 ≤ 100000 then some (.lst true ((Txt.split a b).map D.str)) else none
  | _, _ => none
section
variable {K : PySem.W.Frag} {mg : MG}
theorem strs_imm' : ∀ (l : List Str), immL (l.map D.str) = true
  | [] => rfl
  | x :: l => by rw [List.map_cons, immL, strs_imm' l]; rfl
theorem rpL_strs' {H : Hp} : ∀ l : List Str, RpL K mg H (l.map V.str) (l.map D.str)
  | [] => .nil
  | x :: l => .cons (.str x) (rpL_strs' l)
theorem rs_join : RsD K mg (rJoinS K) mJoin := by
  intro x vs H d0 ds d Q rx rl e k
  unfold mJoin at e
  split at e
  · rename_i a o es
    split at e
    · rename_i l hl
      split at e
      · rename_i hz
        cases e
        obtain rfl := rx.str_inv
        obtain ⟨v, rfl, r⟩ := rl.one
        obtain ⟨b, xs, rfl, hb, r2⟩ := r.lst_inv
        have hx := r2.strs hl
        subst hx
        exact ⟨a, b, l, rfl, rfl, .inl (SqL.of hb), hz, k _ H (Same.refl H) (mk_str _)⟩
      · cases e
    · cases e
  · cases e
theorem rs_split : RsD K mg rSplitS mSplit := by
  intro x vs H d0 ds d Q rx rl e k
  unfold mSplit at e
  split at e
  · rename_i a b
    split at e
    · rename_i hz
      cases e
      obtain rfl := rx.str_inv
      obtain ⟨v, rfl, r⟩ := rl.one
      obtain rfl := r.str_inv
      refine ⟨a, b, rfl, rfl, hz.1, by rw [sizeLine_eq]; omega, fun p hp => k _ _ (same_upd hp) (mk_lst (rpL_strs' _) (strs_imm' _) hp)⟩
    · cases e
  · cases e
end

/-! ### blocks over a text's signs -/
def charsD (x : Str) : List D := x.cps.toList.map fun c => D.str ⟨#[c]⟩
def eCompS (it : PM) (g : GM) (t : BM) (e : EM) (vs : List Nat) : EM := fun ρ => match it ρ with
  | some (.str x) => compE g t e vs (charsD x) ρ
  | _ => none
section
variable {F : Fm} {g : GM} {gt : TG} {t : BM} {e : EM} {vs : List Nat}
theorem imp_compS {it : PM} (hgt : GtOk F g gt vs) (hv : ∀ i ∈ vs, F.vs0.length ≤ i) : ∀ σ H Q, tD F (eCompS it g t e vs) σ H Q → tLc (iStr (tP F it)) gt (tT F t) (tD F e) vs σ H Q := fun σ H Q ⟨ρ, ts, d, ρ', a, q, k⟩ => by
  unfold eCompS at q
  split at q
  · rename_i x he
    obtain ⟨hz, ys, rfl, hc⟩ := compE_some q
    refine ⟨ρ, ts, _, a, he, fun v H1 g1 r1 _ => ?_⟩
    obtain rfl := r1.str_inv
    have hn : (charsD x).length = x.cps.size := by unfold charsD; rw [List.length_map, Array.length_toList]
    refine ⟨x, rfl, fun D0 hD0 => comp_turns (J := Its x) hgt hv (a.grow g1) hD0 hz hc (fun i σ H ρ zs hi b => by rw [hn] at hi; exact hi) (fun σ H ρ zs b => by rw [hn]; exact Nat.le_refl _) (fun i x' σ H H' ρ zs hi b y => ?_) (fun H b => k _ H b)⟩
    obtain ⟨e1, c, hc', rfl⟩ := y
    refine ⟨e1, ?_⟩
    have hq : (charsD x)[i] = .str ⟨#[c]⟩ := by
      have h1 : (charsD x)[i]? = some (.str ⟨#[c]⟩) := by
        unfold charsD
        rw [List.getElem?_map, Array.getElem?_toList, hc']
        rfl
      exact (List.getElem?_eq_some_iff.mp h1).2
    rw [hq]
    exact b.mk' (mk_str _)
  · cases q
end
section
variable {X : Cx} {vs0 : List V} {pos : Pos} {g : GM} {t : BM} {e : EM} {tg elt : Expr} {ifs : List Expr} {scope : Scope} {own : List (Str × Nat)} {gt : TG}
theorem e_compS {l : Expr} {it : PM} (hc : X.calm = true) (hN : X.N.Nodup) (hl : PE X l (tP (fm X vs0) it)) (ok : BlkOk X.N X.env.scope scope own) (hgt : GtOk (fm X vs0) g gt (own.map (·.2))) (hv : ∀ i ∈ own.map (·.2), vs0.length ≤ i)
    (hg : ∀ (s : Shared) (H : Hp) (C : Addr) (cl : List (Str × Addr)) (fp : List Addr), PG (X.blk s H scope (compEnvC scope cl C X.env) fp) tg gt) (ht : ∀ (s : Shared) (H : Hp) (C : Addr) (cl : List (Str × Addr)) (fp : List Addr), PTs (X.blk s H scope (compEnvC scope cl C X.env) fp) ifs (tT (fm X vs0) t))
    (he : ∀ (s : Shared) (H : Hp) (C : Addr) (cl : List (Str × Addr)) (fp : List Addr), PE (X.blk s H scope (compEnvC scope cl C X.env) fp) elt (tD (fm X vs0) e)) (hs : ∀ x, foldedSetIterable l X.env x = pure x := by intro _; rfl) :
    PE X (.ListComp elt [⟨tg, l, ifs, 0⟩] scope pos) (tD (fm X vs0) (eCompS it g t e (own.map (·.2)))) := (pe_lc hc hN (pi_str hl) ok hg ht he hs).imp (imp_compS (F := fm X vs0) hgt hv)
end

/-! ### dicts of the module: text keys, numbers -/
inductive EsAre : List DictEntry → List (Str × Int) → Prop
  | nil : EsAre [] []
  | cons {e : DictEntry} {x : Str} {v : Int} {t u : Tok} {r : List DictEntry} {l : List (Str × Int)} : e.key = .str x t → e.val = .int v u → EsAre r l → EsAre (e :: r) ((x, v) :: l)
structure GD (K : PySem.W.Frag) (w : World) (mg : Str → Option Value) (n : Str) (tab : List (Str × Int)) : Prop where
  ex : ∃ (d : Addr) (es : Array DictEntry) (k : Nat), mg n = some (.ref d) ∧ KDict K w d es k ∧ EsAre es.toList tab
theorem EsAre.find {z : Str} : ∀ {es : List DictEntry} {tab : List (Str × Int)}, EsAre es tab → (es.any (·.refKey) = false) ∧ ((es.find? (·.key.isStr z)).isSome = (tab.lookup z).isSome) ∧ ∀ v, tab.lookup z = some v → ∃ e u, es.find? (·.key.isStr z) = some e ∧ e.val = .int v u
  | _, _, .nil => ⟨rfl, rfl, fun v h => by cases h⟩
  | e :: es, (x, v) :: tab, .cons (t := t) (u := u) hk hv r => by
    obtain ⟨h1, h2, h3⟩ := EsAre.find (z := z) r
    have hq : e.key.isStr z = (z == x) := by
      rw [hk]
      show (x == z) = _
      rw [Bool.eq_iff_iff, beq_iff_eq, beq_iff_eq]
      exact ⟨Eq.symm, Eq.symm⟩
    refine ⟨?_, ?_, fun v' hv' => ?_⟩
    · rw [List.any_cons, h1, Bool.or_false]
      unfold DictEntry.refKey
      rw [hk]
    · rw [List.find?_cons, List.lookup_cons, hq]
      cases z == x
      · exact h2
      · rfl
    · rw [List.lookup_cons] at hv'
      rw [List.find?_cons, hq]
      cases hc : z == x with
      | false => rw [hc] at hv'; exact h3 v' hv'
      | true => rw [hc] at hv'; cases hv'; exact ⟨e, u, rfl, hv⟩
theorem GD.ns {K : PySem.W.Frag} {w : World} {d : Addr} {es : Array DictEntry} {k : Nat} {tab : List (Str × Int)} (D : KDict K w d es k) (h : EsAre es.toList tab) (z : Str) : ∃ r, PySem.W.nsIn K d z = some r ∧ r.isSome = (tab.lookup z).isSome ∧ ∀ v, tab.lookup z = some v → ∃ u, r = some (.int v u) := by
  obtain ⟨h1, h2, h3⟩ := h.find (z := z)
  unfold PySem.W.nsIn
  rw [D.at_]
  dsimp only
  cases hf : es.toList.find? (·.key.isStr z) with
  | none =>
    rw [hf] at h2
    refine ⟨none, by simp [h1], h2, fun v hv => ?_⟩
    rw [hv] at h2
    cases h2
  | some e =>
    rw [hf] at h2
    refine ⟨some e.val, rfl, h2, fun v hv => ?_⟩
    obtain ⟨e', u, q1, q2⟩ := h3 v hv
    rw [hf] at q1
    cases q1
    exact ⟨u, by rw [q2]⟩
def opGIn (neg : Bool) (tab : List (Str × Int)) : D → Option D
  | .str z => some (.bl (if neg then !(tab.lookup z).isSome else (tab.lookup z).isSome))
  | _ => none
def opGIx (tab : List (Str × Int)) : D → Option D
  | .str z => (tab.lookup z).map D.int
  | _ => none
def pGIn (neg : Bool) (tab : List (Str × Int)) (fa : PM) : PM := pOp1 (opGIn neg tab) fa
def pGIx (tab : List (Str × Int)) (fa : PM) : PM := pOp1 (opGIx tab) fa
section
variable {X : Cx} {vs0 : List V} {fa : PM} {n : Str} {tab : List (Str × Int)} {a : Expr} {p pos : Pos}
theorem pe_gd {d : Addr} (hm : X.mg n = some (.ref d)) (hg : Gl X n) (hd : (n == ("__debug__" : Str)) = false) : PE X (.Name n p) (tC (.ref d)) := pe_glob hg hm (v := .ref d) rfl hd
def rGIn (K : PySem.W.Frag) (d : Addr) (neg : Bool) : R2 := fun x y H Q => ∃ (z : Str) (r : Option Value), x = .str z ∧ y = .ref d ∧ PySem.W.nsIn K d z = some r ∧ Q (.bl (if neg then !r.isSome else r.isSome)) H
theorem imp_gin {F : Fm} {w : World} {d : Addr} {es : Array DictEntry} {k : Nat} {neg : Bool} (D : KDict F.K w d es k) (h : EsAre es.toList tab) : ∀ σ H Q, tP F (pGIn neg tab fa) σ H Q → tOp (rGIn F.K d neg) (tP F fa) (tC (.ref d)) σ H Q := fun σ H Q ⟨ρ, ts, d0, at', e, k⟩ => by
  unfold pGIn pOp1 at e
  split at e
  · rename_i x ex
    refine ⟨ρ, ts, x, at', ex, fun v H1 g1 rx cx => ?_⟩
    unfold opGIn at e
    split at e
    · rename_i z
      cases e
      obtain rfl := rx.str_inv
      obtain ⟨r, h1, h2, _⟩ := GD.ns D h z
      refine ⟨z, r, rfl, rfl, h1, ?_⟩
      rw [h2]
      exact k _ H1 g1 (.bl _) (Cj.of ((at'.grow g1).mk' (mk_bl _)))
    · cases e
  · cases e
theorem t_gni (G : GD X.K X.w X.mg n tab) (ha : PE X a (tP (fm X vs0) fa)) (hg : Gl X n := by rfl) (hd : (n == ("__debug__" : Str)) = false := by decide) (hm : behindInMarks .NotIn (.Name n p) = false := by rfl) : PT X (.Compare a [.NotIn] [.Name n p] pos) (tT (fm X vs0) (bP (pGIn true tab fa))) := by
  obtain ⟨d, es, k, h1, D, h⟩ := G.ex
  exact (pt_cmpR (op_notIn_kd D) ha (pe_gd h1 hg hd) hm).imp (imp_bPt (imp_gin (F := fm X vs0) D h))
theorem p_gix (G : GD X.K X.w X.mg n tab) (ha : PE X a (tP (fm X vs0) fa)) (hg : Gl X n := by rfl) (hd : (n == ("__debug__" : Str)) = false := by decide) (hs : PlainIx a := by exact fun _ _ => rfl) : PE X (.Subscript (.Name n p) a pos) (tP (fm X vs0) (pGIx tab fa)) := by
  obtain ⟨d, es, k, h1, D, h⟩ := G.ex
  refine (pe_ix ix_kdict (pe_gd h1 hg hd) ha hs).imp fun σ H Q ⟨ρ, ts, d0, at', e, k'⟩ => ?_
  unfold pGIx pOp1 at e
  split at e
  · rename_i x ex
    refine ⟨ρ, ts, x, at', ex, fun v H1 g1 rx cx => ?_⟩
    unfold opGIx at e
    split at e
    · rename_i z
      obtain ⟨v0, hv, rfl⟩ := Option.map_eq_some_iff.mp e
      obtain rfl := rx.str_inv
      obtain ⟨r, q1, q2, q3⟩ := GD.ns D h z
      obtain ⟨u, rfl⟩ := q3 v0 hv
      exact ⟨d, z, .int v0, rfl, rfl, ⟨es, k, _, D.at_, D.lit, q1, ⟨u, rfl⟩⟩, k' _ H1 g1 (.int v0) (Cj.of ((at'.grow g1).mk' (mk_int v0)))⟩
    · cases e
  · cases e
end
end Dl

set_option Elab.async false
set_option linter.all false
set_option maxRecDepth 100000
set_option maxHeartbeats 1000000
/-! DL31: defs that may raise: their mirrors, promises, calls; raise. -/
namespace Dl
open PySem PySem.Spec PyProof.Rows L2

/-! ### a def that may raise, by its mirror -/
inductive Rs where
  | v (d : D)
  | x (d : D)
abbrev FnX := List D → Option (Rs × List D)
def outX (np : Nat) (ds : List D) (r : Rs) (ρ : DEnv) : Option (Rs × List D) := match outs np ρ with
  | some os => some (r, os ++ ds.drop np)
  | none => none
def fnX (na np n : Nat) (body : SM) : FnX := fun ds => if ds.length = na ∧ (ds.drop np).all D.stable = true then
    match body (ds.map some ++ List.replicate (n - na) none) with
    | some (.rt d, ρ') => outX np ds (.v d) ρ'
    | some (.nx, ρ') => outX np ds (.v .non) ρ'
    | some (.xc x, ρ') => outX np ds (.x x) ρ'
    | _ => none
  else none
def EndX (K : PySem.W.Frag) (mg : MG) (Q : VK) (E : XK) (rs : List Rt) : Rs → Prop
  | .v d => ∀ v H', Sim K mg H' (.v v d :: rs) → Q v H'
  | .x x => ∀ cls d H', Sim K mg H' rs → Xin K mg H' cls d x → E cls d H'
def spX (K : PySem.W.Frag) (mg : MG) (m : FnX) : Sp := fun vs H Q E => ∃ ds ts r ds', vs.length = ds.length ∧ Sim K mg H (vals vs ds ++ ts) ∧ m ds = some (r, ds') ∧ EndX K mg Q E (vals vs ds' ++ ts) r
/-- what a def lets out, at its own slots -/
abbrev outW (E : XK) : WX := fun cls d _ H => E cls d H
theorem at_start {K : PySem.W.Frag} {mg : MG} {na np : Nat} {N : List Str} {vs : List V} {ds : List D} {ts : List Rt} {H : Hp} (hn : na ≤ N.length) (hp : np ≤ na) (hl : vs.length = ds.length) (s : Sim K mg H (vals vs ds ++ ts)) (hc1 : ds.length = na) (hc2 : (ds.drop np).all D.stable = true) :
    At (fmk K mg (vs.take np) N.length) (start N vs) H (ds.map some ++ List.replicate (N.length - na) none) (vals (vs.drop np) (ds.drop np) ++ ts) := by
  have hlv : vs.length = na := hl.trans hc1
  have e1 : vals vs ds = vals (vs.take np) (ds.take np) ++ vals (vs.drop np) (ds.drop np) := by
    rw [← vals_append (by rw [List.length_take, List.length_take]; omega), List.take_append_drop, List.take_append_drop]
  refine ⟨?_, ?_, fun i d' q => ?_, fun i v q => ?_, ?_⟩
  · show (vs.map some ++ List.replicate (N.length - vs.length) none).length = N.length
    simp only [List.length_append, List.length_map, List.length_replicate]; omega
  · show (ds.map some ++ List.replicate (N.length - na) none).length = N.length
    simp only [List.length_append, List.length_map, List.length_replicate]; omega
  · by_cases hi : i < ds.length
    · refine ⟨vs[i]'(by omega), ?_⟩
      show (vs.map some ++ List.replicate (N.length - vs.length) none)[i]? = _
      rw [List.getElem?_append_left (by rw [List.length_map]; omega)]
      simp [show i < vs.length by omega]
    · rw [List.getElem?_append_right (by rw [List.length_map]; omega), List.getElem?_replicate] at q
      split at q <;> cases q
  · have hi : i < np := by
      have := (List.getElem?_eq_some_iff.mp q).1
      rw [List.length_take] at this
      omega
    have q' : (vs.take np)[i]? = some v := q
    rw [List.getElem?_take_of_lt hi] at q'
    show (vs.map some ++ List.replicate (N.length - vs.length) none)[i]? = _
    rw [List.getElem?_append_left (by rw [List.length_map]; exact (List.getElem?_eq_some_iff.mp q').1), List.getElem?_map, q']
    rfl
  · show Sim K mg H (slotR (vs.map some ++ List.replicate (N.length - vs.length) none) (ds.map some ++ List.replicate (N.length - na) none) ++ _)
    rw [hlv, slotR_start vs ds _ hl]
    rw [e1] at s ⊢
    have s2 := s.perm (rs' := vals (vs.drop np) (ds.drop np) ++ (vals (vs.take np) (ds.take np) ++ ts)) (by
      rw [← List.append_assoc]; exact List.Perm.append_right _ List.perm_append_comm)
    have s3 := Sim.dups (by rw [List.length_drop, List.length_drop]; omega) hc2 s2
    refine s3.perm ?_
    generalize vals (vs.drop np) (ds.drop np) = C
    generalize vals (vs.take np) (ds.take np) = B
    have q2 := List.Perm.append_right ts (show ((C ++ C) ++ B).Perm (B ++ (C ++ C)) from List.perm_append_comm)
    simpa [List.append_assoc] using q2
theorem at_end {K : PySem.W.Frag} {mg : MG} {np n : Nat} {vs : List V} {ds : List D} {xs ts : List Rt} {σ : L2.St} {H : Hp} {ρ : DEnv} {os : List D} (hlt : (vs.take np).length = np) (ho : outs np ρ = some os)
    (a : At (fmk K mg (vs.take np) n) σ H ρ (xs ++ (vals (vs.drop np) (ds.drop np) ++ ts))) : Sim K mg H (xs ++ (vals vs (os ++ ds.drop np) ++ ts)) := by
  have q := outs_sim ho hlt a.par a.sim
  have e2 : vals vs (os ++ ds.drop np) = vals (vs.take np) os ++ vals (vs.drop np) (ds.drop np) := by
    rw [← vals_append (by rw [hlt, (outs_ok ho).1]), List.take_append_drop]
  rw [e2]
  refine q.perm ?_
  generalize vals (vs.take np) os = A
  generalize vals (vs.drop np) (ds.drop np) = B
  have q2 := List.Perm.append_right (B ++ ts) (show (A ++ xs).Perm (xs ++ A) from List.perm_append_comm)
  simpa [List.append_assoc] using q2
theorem outX_of {np : Nat} {ds ds' : List D} {r r' : Rs} {ρ : DEnv} (h : outX np ds r ρ = some (r', ds')) : ∃ os, outs np ρ = some os ∧ r' = r ∧ ds' = os ++ ds.drop np := by
  unfold outX at h
  split at h
  · rename_i os e; cases h; exact ⟨os, e, rfl, rfl⟩
  · cases h
theorem fnX_in {K : PySem.W.Frag} {mg : MG} {na np : Nat} {N : List Str} {body : SM} {vs : List V} {H : Hp} {Q : VK} {E : XK} (hn : na ≤ N.length) (hp : np ≤ na) (h : spX K mg (fnX na np N.length body) vs H Q E) :
    tS ⟨K, mg, vs.take np, N.length, outW E⟩ body { nx := fun _ H' => Q .non H', rt := Q } (start N vs) H := by
  obtain ⟨ds, ts, r, ds', hl, s, hm, k⟩ := h
  unfold fnX at hm
  split at hm
  · rename_i hc
    obtain ⟨hc1, hc2⟩ := hc
    have hlt : (vs.take np).length = np := by rw [List.length_take]; omega
    have a := at_start hn hp hl s hc1 hc2
    split at hm
    · rename_i d ρ' hb
      obtain ⟨os, ho, rfl, rfl⟩ := outX_of hm
      exact ⟨_, _, .rt d, ρ', a, hb, fun v σ' H' a' => k v H' (at_end (xs := [_]) hlt ho a')⟩
    · rename_i ρ' hb
      obtain ⟨os, ho, rfl, rfl⟩ := outX_of hm
      exact ⟨_, _, .nx, ρ', a, hb, fun σ' H' a' => k .non H' (at_end (xs := [_]) hlt ho (a'.mk' mk_non))⟩
    · rename_i x ρ' hb
      obtain ⟨os, ho, rfl, rfl⟩ := outX_of hm
      exact ⟨_, _, .xc x, ρ', a, hb, fun cls d σ' H' a' hx => k cls d H' (at_end (xs := []) hlt ho a') hx⟩
    · cases hm
  · cases hm
theorem fnX_len {K : PySem.W.Frag} {mg : MG} {na np n : Nat} {body : SM} {vs : List V} {H : Hp} {Q : VK} {E : XK} (h : spX K mg (fnX na np n body) vs H Q E) : vs.length = na := by
  obtain ⟨ds, ts, r, ds', hl, s, hm, k⟩ := h
  unfold fnX at hm
  split at hm
  · rename_i hc; exact hl.trans hc.1
  · cases hm
/-- a def of the top that may raise -/
structure ClX (P : Program) (w : World) (K : PySem.W.Frag) (mg : Str → Option Value) (base : Heap) (k : Nat) (x : Str) (m : FnX) : Prop where
  ex : ∃ (f : Addr) (fd : FuncData) (ps : List Str), FnOk P w K mg base (L2.CX P w) k f fd ps (spX K ⟨mg, w⟩ m) ∧ mg x = some (.ref f) ∧ PySem.W.keepIn K (.ref f) = true ∧ Binds K fd ps []
theorem clX_of {P : Program} {w : World} {K : PySem.W.Frag} {mg : Str → Option Value} {base : Heap} {x : Str} {st : Stmt} {f : Addr} {fd : FuncData} {N ps : List Str} {k na np : Nat} {body : SM} (F : Fun K x x st f fd) (hm : mg x = some (.ref f)) (hkp : PySem.W.keepIn K (.ref f) = true) (b : Binds K fd ps []) (S : FnScope N ps (defScope st))
    (hps : ps.length = na) (hn : na ≤ N.length) (hp : np ≤ na)
    (hbody : ∀ (cdv : Value) (A : Around) (outer : List Env) (s : Shared) (H : Hp) (E : XK) (vs0 : List V), Room k (A.deeper (envOfC x (defScope st) s.heap.objs.size f cdv)) → (∀ i, np ≤ i → vs0.length ≤ i) → vs0.length = np →
      Takes (cxOf (L2.CX P w) P w K mg base N x (defScope st) f cdv A outer s H E) (outW E) →
      PassesOwn (model P w) (cxOf (L2.CX P w) P w K mg base N x (defScope st) f cdv A outer s H E).A (cxOf (L2.CX P w) P w K mg base N x (defScope st) f cdv A outer s H E).env (cxOf (L2.CX P w) P w K mg base N x (defScope st) f cdv A outer s H E).xe →
      PSs (cxOf (L2.CX P w) P w K mg base N x (defScope st) f cdv A outer s H E) (defBody st) (tS ⟨K, ⟨mg, w⟩, vs0, N.length, outW E⟩ body)) : ClX P w K mg base (k + 1) x (fnX na np N.length body) :=
  ⟨f, fd, ps, F.okX S (fun vs H Q E h => by rw [hps]; exact fnX_len h) fun cdv A outer s H vs Q E hr h =>
    ⟨_, hbody cdv A outer s H E (vs.take np) hr (fun i hi => by rw [List.length_take]; omega) (by rw [List.length_take, fnX_len h]; omega) (takes_of rfl rfl rfl rfl) (passes_of rfl), fnX_in hn hp h⟩, hm, hkp, b⟩

/-! ### calls that may raise -/
def callX (m : FnX) (as : List Arg) (ρ : DEnv) : Option (Rs × DEnv) := match takeA as ρ with
  | some (ds, ρ2) => match m ds with
    | some (r, ds') => match putA as ds' ρ2 with
      | some ρ3 => some (r, ρ3)
      | none => none
    | none => none
  | none => none
section
variable {F : Fm} {σ : L2.St} {H : Hp} {m : FnX}
theorem callX_ok {as : List Arg} {ρ ρ3 : DEnv} {r : Rs} {vs : List V} {tm ts : List Rt} {Q : VK} {E : XK} (ar : ArgsR σ vs as tm) (h : callX m as ρ = some (r, ρ3)) (a : At F σ H ρ (tm ++ ts))
    (k : match r with | .v d => ∀ v H', At F σ H' ρ3 (.v v d :: ts) → Q v H' | .x x => ∀ cls d H', At F σ H' ρ3 ts → Xin F.K F.mg H' cls d x → E cls d H') : spX F.K F.mg m vs H Q E := by
  unfold callX at h
  split at h
  · rename_i ds ρ2 ht
    split at h
    · rename_i r' ds' hm
      split at h
      · rename_i ρ3' hp
        cases h
        have s0 := a.sim.perm (rs' := tm ++ (slotR σ ρ ++ ts)) (by
          rw [← List.append_assoc, ← List.append_assoc]
          exact List.Perm.append_right _ List.perm_append_comm)
        obtain ⟨lo, lr, e1, e2, e3, s1⟩ := take_sim ar ht s0
        refine ⟨ds, slotR σ ρ2 ++ (lo ++ ts), r, ds', e1, s1, hm, ?_⟩
        cases r with
        | v d =>
          intro v H' s2
          have s3 := s2.perm (rs' := vals vs ds' ++ (slotR σ ρ2 ++ (lo ++ (.v v d :: ts)))) (by
            refine List.Perm.trans (List.perm_middle).symm ?_
            refine List.Perm.append_left _ (List.perm_middle.symm.trans ?_)
            exact List.Perm.append_left _ (List.perm_middle).symm)
          obtain ⟨f1, f2, f3⟩ := put_sim lr hp (by rw [e2, a.lenR]; exact a.lenS) (fun i d q => a.fit i d (e3 i d q)) s3
          exact k v H' ⟨a.lenS, by rw [f1, e2]; exact a.lenR, f2, a.par, f3⟩
        | x x =>
          intro cls d H' s2 hx
          obtain ⟨f1, f2, f3⟩ := put_sim lr hp (by rw [e2, a.lenR]; exact a.lenS) (fun i d q => a.fit i d (e3 i d q)) s2
          exact k cls d H' ⟨a.lenS, by rw [f1, e2]; exact a.lenR, f2, a.par, f3⟩ hx
      · cases h
    · cases h
  · cases h
end
def sExpX (m : FnX) (a : AM) : SM := fun ρ => match a ρ with
  | some (as, ρ1) => match callX m as ρ1 with
    | some (.v _, ρ2) => some (.nx, ρ2)
    | some (.x x, ρ2) => some (.xc x, ρ2)
    | none => none
  | none => none
def sSetX (m : FnX) (a : AM) (i : Nat) : SM := fun ρ => match a ρ with
  | some (as, ρ1) => match callX m as ρ1 with
    | some (.v d, ρ2) => some (.nx, ρ2.set i (some d))
    | some (.x x, ρ2) => some (.xc x, ρ2)
    | none => none
  | none => none
def sRetX (m : FnX) (a : AM) : SM := fun ρ => match a ρ with
  | some (as, ρ1) => match callX m as ρ1 with
    | some (.v d, ρ2) => some (.rt d, ρ2)
    | some (.x x, ρ2) => some (.xc x, ρ2)
    | none => none
  | none => none
section
variable {X : Cx} {vs0 : List V} {W : WX} {k j : Nat} {x : Str} {m : FnX} {am : AM} {e : Expr} {es : List Expr} {p pos pos2 : Pos}
theorem s_expX (c : ClX X.prog X.w X.K X.mg X.base k x m) (hr : Room j X.A) (hk : k ≤ j) (tk : Takes X W) (ha : PA X (e :: es) (tA (fm X vs0) am)) (hg : Gl X x := by rfl) (hdb : (x == ("__debug__" : Str)) = false := by decide)
    (he : starEach (e :: es) X.env = (false, eval e X.env) :: starEach es X.env := by rfl) (hpl : (backTo pos (starEach es X.env)).any (·.1) = false := by rfl)
    (hs : swapsWith (.Call (.Name x p) (e :: es) [] pos) none pos2.line X.env = pure false := by rfl) : PS X (.Expr (.Call (.Name x p) (e :: es) [] pos) pos2) (tS (fmW X vs0 W) (sExpX m am)) := by
  obtain ⟨f, fd, ps, G, hm, hkp, hb⟩ := c.ex
  refine (ps_expr (pe_callS (E := WE W) G (hr.mono hk) hg hm hkp hb (fun σ => passAt tk σ) ha hdb he hpl) hs).imp fun D' σ H ⟨ρ, ts, fl, ρ', a, q, k⟩ => ?_
  unfold sExpX at q
  split at q
  · rename_i as ρ1 ha'
    refine ⟨ρ, ts, as, ρ1, a, ha', fun vs H1 tm ar a1 => ?_⟩
    split at q
    · rename_i d ρ2 hc; cases q; exact callX_ok (F := fm X vs0) ar hc a1 fun v H2 a2 => k σ H2 a2.tail
    · rename_i x ρ2 hc; cases q; exact callX_ok (F := fm X vs0) ar hc a1 fun cls d H2 a2 hx => k cls d σ H2 a2 hx
    · cases q
  · cases q
theorem s_setX {y : Str} {py : Pos} (i : Nat) (hp : vs0.length ≤ i) (hN : X.N.Nodup) (c : ClX X.prog X.w X.K X.mg X.base k x m) (hr : Room j X.A) (hk : k ≤ j) (tk : Takes X W) (ha : PA X (e :: es) (tA (fm X vs0) am)) (hi : X.N[i]? = some y := by rfl) (hy : Loc X.env.scope y := by first | exact Or.inl rfl | exact Or.inr rfl) (hg : Gl X x := by rfl) (hdb : (x == ("__debug__" : Str)) = false := by decide)
    (he : starEach (e :: es) X.env = (false, eval e X.env) :: starEach es X.env := by rfl) (hpl : (backTo pos (starEach es X.env)).any (·.1) = false := by rfl)
    (hs : swapsWith (.Call (.Name x p) (e :: es) [] pos) (some (.Name y py)) pos2.line X.env = pure false := by rfl) (hf : X.fn y = true ∨ X.env.scope.names.lookup y = some .local := by first | exact .inl rfl | exact .inr rfl | assumption) :
    PS X (.Assign [.Name y py] (.Call (.Name x p) (e :: es) [] pos) pos2) (tS (fmW X vs0 W) (sSetX m am i)) := by
  obtain ⟨f, fd, ps, G, hm, hkp, hb⟩ := c.ex
  refine (ps_set hN hi hy (pe_callS (E := WE W) G (hr.mono hk) hg hm hkp hb (fun σ => passAt tk σ) ha hdb he hpl) hs hf).imp fun D' σ H ⟨ρ, ts, fl, ρ', a, q, k⟩ => ?_
  unfold sSetX at q
  split at q
  · rename_i as ρ1 ha'
    refine ⟨ρ, ts, as, ρ1, a, ha', fun vs H1 tm ar a1 => ?_⟩
    split at q
    · rename_i d ρ2 hc; cases q; exact callX_ok (F := fm X vs0) ar hc a1 fun v H2 a2 => k _ H2 (a2.store hp (List.getElem?_eq_some_iff.mp hi).1)
    · rename_i x ρ2 hc; cases q; exact callX_ok (F := fm X vs0) ar hc a1 fun cls d H2 a2 hx => k cls d σ H2 a2 hx
    · cases q
  · cases q
end

/-! ### raise -/
abbrev veB : List Value := [.type "ValueError", .type "Exception", .type "BaseException", .type "object"]
/-- an own exception class over ValueError without an __init__ of its own -/
structure XcR (K : PySem.W.Frag) (mg : Str → Option Value) (c : Str) : Prop where
  ex : ∃ C : Addr, mg c = some (.ref C) ∧ PySem.W.excIn K C veB "ValueError.__new__" = true ∧ PySem.W.keepIn K (.ref C) = true ∧ PySem.W.subIn K (.ref C) (.type "BaseException") = some true ∧ PySem.W.typeIn K (.ref C) = some (.type "type")
def sRz0 (c : Str) : SM := fun ρ => some (.xc (.exn c [] []), ρ)
/-- C.__init__: the base's __init__, then self.f = the argument -/
def spI (K : PySem.W.Frag) (f : Str) : Sp := fun vs H Q _ => ∃ (a C : Addr) (y : V), vs = [.ref a, y] ∧ OexC K C ∧ PySem.W.findIn K (.ref C) f = some none ∧ H a = some (exo a C none) ∧ ∀ dx, H dx = none → dx ≠ a → Q .non (upd (upd H dx (exd dx [(f, y)])) a (exo a C (some dx)))
/-- one with such an __init__ -/
structure XcI (P : Program) (w : World) (K : PySem.W.Frag) (mg : Str → Option Value) (base : Heap) (k : Nat) (c f : Str) : Prop where
  ex : ∃ (C fI : Addr) (fd : FuncData) (ps : List Str), mg c = some (.ref C) ∧ OexC K C ∧ PySem.W.findIn K (.ref C) f = some none ∧ PySem.W.findIn K (.ref C) "__init__" = some (some (.ref fI)) ∧ PySem.W.typeIn K (.ref fI) = some (.type "function") ∧ FnOk P w K mg base CX0 k fI fd ps (spI K f) ∧ Binds K fd ps []
def sRz1 (c f : Str) (a : PM) : SM := fun ρ => match a ρ with
  | some d => if d.imm = true then some (.xc (.exn c [f] [d]), ρ) else none
  | none => none
section
variable {X : Cx} {vs0 : List V} {W : WX} {k j : Nat} {c m f : Str} {e : Expr} {fa : PM} {i : Nat} {p p2 pos pos2 : Pos}
theorem s_rz1 (hc : X.calm = true) (tk : Takes X W) (T : XcI X.prog X.w X.K X.mg X.base k c f) (hr : Room j X.A) (hk : k + 1 ≤ j) (he : PE X e (tP (fm X vs0) fa)) (hg : Gl X c := by rfl) (hdb : (c == ("__debug__" : Str)) = false := by decide)
    (hs : starEach [e] X.env = (false, eval e X.env) :: starEach [] X.env := by rfl) (hpl : (backTo pos (starEach [] X.env)).any (·.1) = false := by rfl) : PS X (.Raise (some (.Call (.Name c p) [e] [] pos)) none pos2) (tS (fmW X vs0 W) (sRz1 c f fa)) := by
  obtain ⟨C, fI, fd, ps, hm, O, hf, iC, tI, G, hb⟩ := T.ex
  refine (ps_raise hc tk (pmk_oex O iC tI G (hr.mono hk) hb .nil pass0 hg hm (pa_cons he pa_nil hs) hdb hs hpl)).imp fun D' σ H ⟨ρ, ts, fl, ρ', a, q, k⟩ => ?_
  unfold sRz1 at q
  split at q
  · rename_i d hd
    split at q
    · rename_i hi
      cases q
      refine ⟨ρ, ts, d, a, hd, fun v H1 g1 rv _ => ⟨by show 1 ≤ 1000; decide, fun b hb => ?_⟩⟩
      refine ⟨b, C, v, rfl, O, hf, upd_same, fun dx hdx hne => ⟨rfl, dx, [(f, v)], upd_same, ?_, ?_, ?_⟩⟩
      · rw [upd_ne hne, upd_same]
      · rw [upd_ne hne] at hdx; exact hdx
      · rw [upd_ne hne] at hdx
        have g : Same H1 (upd (del (upd (upd (upd H1 b (exo b C none)) dx (exd dx [(f, v)])) b (exo b C (some dx))) b) dx (.xd [(f, v)])) := fun y o hy => by
          have h1 : y ≠ b := fun z => by rw [z, hb] at hy; cases hy
          have h2 : y ≠ dx := fun z => by rw [z, hdx] at hy; cases hy
          rw [upd_ne h2, del_ne h1, upd_ne h1, upd_ne h2, upd_ne h1]
          exact hy
        exact k _ _ σ _ ((a.grow g1).grow g) ⟨by simp only [immL, hi, Bool.and_self], C, [(f, v)], hm, rfl, upd_same, rfl, .cons (rv.grow g) .nil⟩
    · cases q
  · cases q
end
/-- the base's __init__ called through its own subclass's name -/
theorem pe_sinit {X : Cx} {S : Addr} {x : Str} {e : Expr} {es : List Expr} {ta : TA} {p1 p2 pos : Pos} {pl : Sem Bool} (hm : X.mg x = some (.ref S)) (gS : PySem.W.specialIn X.K (.ref S) "__getattribute__" = some (some (.builtin "type.__getattribute__"))) (rS : PySem.W.readsIn X.K S (.type "type") = true)
    (vS : PySem.W.findCls X.K (.ref S) (.type "type") "__init__" = some (.val (.builtin "ValueError.__init__"))) (ha : PA X (e :: es) ta) (hg : Gl X x := by rfl) (hdb : (x == ("__debug__" : Str)) = false := by decide)
    (hc : eval (.Call (.Attribute (.Name x p1) "__init__" p2) (e :: es) [] pos) X.env = (do
      let ov ← eval (.Name x p1) X.env
      standAt p2.atName
      let (f, first) ← holding [ov] (getMethod ov "__init__" pl)
      callWith pos f first (backTo pos (starEach (e :: es) X.env)) (backToKw pos (keywordEach [] X.env))) := by rfl)
    (he : starEach (e :: es) X.env = (false, eval e X.env) :: starEach es X.env := by rfl) (hpl : (backTo pos (starEach es X.env)).any (·.1) = false := by rfl) :
    PE X (.Call (.Attribute (.Name x p1) "__init__" p2) (e :: es) [] pos) (tVeI X.K ta) := by
  constructor
  intro pins s σ H Q I h
  refine PySem.W.methodCall_KW (ld_glob I hg hm (PySem.W.method_cls I.kIn gS (PySem.W.cls_value I.kIn rS vS (by decide +kernel) ?_)) hdb) hc
  refine PyProof.Rows.callWith_method1 (thn (ha.run pos pins _ σ H _ (I.tok _) h) ?_) he hpl
  rintro us s1 ⟨vs, H1, J, rv, a, C, ws, rfl, hl, O, hx, q⟩
  cases rv with
  | @cons _ u0 _ ur r0 r1 =>
    obtain rfl : u0 = Value.ref a := r0
    refine oinit_ok O J hx ?_ fun s2 J2 => ⟨.non, H1, J2, rfl, q⟩
    have e1 := Paired.length r1
    rw [sizeLine_eq]
    omega
/-- C.__init__'s promise out of its body -/
theorem exi_in {K : PySem.W.Frag} {f q : Str} {vs : List V} {H : Hp} {Q : VK} {E : XK} {ta : TE} (hta : ∀ (a : Addr) (y : V) H Q, (∀ v, Q v H) → ta (start ["self", q] [.ref a, y]) H Q) (h : spI K f vs H Q E) :
    tSeq (tDrop (tVeI K (tCons (tVar 0) (tCons ta tNil)))) (tOst K f (tVar 0) (tVar 1)) { nx := fun _ H' => Q .non H', rt := Q } (start ["self", q] vs) H := by
  obtain ⟨a, C, y, rfl, O, hf, hx, k⟩ := h
  refine ⟨.ref a, rfl, hta _ _ _ _ fun v => ⟨a, C, [v], rfl, by show 1 ≤ 1000; decide, O, hx, ?_⟩⟩
  exact ⟨y, rfl, .ref a, rfl, a, C, rfl, O, hf, .inl ⟨hx, fun dx h1 h2 => k dx h1 h2⟩⟩
end Dl

set_option Elab.async false
set_option linter.all false
set_option maxRecDepth 100000
set_option maxHeartbeats 2000000
/-! DL32: try .. except S as n: m = n: the exception kept as a value behind the clause. -/
namespace Dl
open PySem PySem.Spec PyProof.Rows L2

/-! ### an object that came since the entry is told of -/
section
variable {X : Cx} {pins : List (Addr × Obj)} {σ : L2.St} {H : Hp} {s : Shared} {a : Addr} {o : HO}
theorem inv_told (I : Inv X pins σ H s) (hn : H a = none) (h0 : X.s_0.heap.get? a = none) (hL : X.env.locals ≠ a) (hC : ∀ y c, X.env.cells.lookup y = some c → c ≠ a) (hp : ∀ p ∈ X.pn ++ pins, p.1 ≠ a) (new : ObjOk X.prog X.w (upd H a o) s.heap a o) :
    Inv X pins σ (upd H a o) s where
  ok := I.ok
  os := I.os
  bare := I.bare
  base := {
    keep := I.base.keep
    slot := I.base.slot
    there := I.base.there
    free := fun b u e n hx => by
      have : b ≠ a := fun z => by rw [z, h0] at e; cases e
      rw [upd_ne this]; exact I.base.free b u e n hx
    tups := fun b xs e => by have z := I.base.tups b xs e; rw [upd_ne (ne_of_none z hn)]; exact z
    frzs := fun b u v e => by have z := I.base.frzs b u v e; rw [upd_ne (ne_of_none z hn)]; exact z
    tbls := fun b ps e => by
      obtain ⟨more, z⟩ := I.base.tbls b ps e
      exact ⟨more, by rw [upd_ne (ne_of_none z hn)]; exact z⟩ }
  loc := I.loc
  cell := I.cell
  free := by rw [upd_ne hL]; exact I.free
  freeC := fun y c e => by rw [upd_ne (hC y c e)]; exact I.freeC y c e
  pin := fun p h => by
    obtain ⟨z1, z2, z3⟩ := I.pin p h
    exact ⟨z1, by rw [upd_ne (hp p h)]; exact z2, z3⟩
  hok := fun b u e => by
    by_cases hb : b = a
    · subst hb
      rw [upd_same] at e
      cases e
      exact new
    · rw [upd_ne hb] at e
      exact (I.hok b u e).stay (fun _ _ _ q => q) (fun c q => by rw [upd_ne (ne_of_none q hn)]; exact q) fun c xs q => by rw [upd_ne (ne_of_none q hn)]; exact q
  len := I.len
end

/-- what the clause «except c as n: m = n» wishes of an exception of the body: n at slot i, m at slot j -/
def wKeep (K : PySem.W.Frag) (c : Value) (i j : Nat) (D' : Ends) : WX := fun cls d σ H => PySem.W.exmOne K cls c = some true ∧ ∀ a, H a = none → D'.nx (((σ.set i (some (.ref a))).set j (some (.ref a))).set i none) (upd H a (exH cls d a))
section
variable {X : Cx} {x n m : Str} {c : Value} {i j : Nat} {body : List Stmt} {np pm pn pa pos pos' : Pos}
/-- the clause's own run, from an exception in the air -/
theorem keep_run {pins : List (Addr × Obj)} {D' : Ends} {xe : Value → Shared → Prop} {u : Value} {s' : Shared} (ok : X.Ok) (hs : X.stack = X.env :: X.outer) (hf : X.env.frame = some X.env.locals) (hex : X.ex = []) (hN : X.N.Nodup) (hi : X.N[i]? = some n) (hj : X.N[j]? = some m) (hln : X.env.kindOf n = some .local) (hlm : Loc X.env.scope m) (hvn : Vis X.env.scope n) (hc : Names X x c)
    (hfm : X.fn m = true ∨ X.env.scope.names.lookup m = some .local) (hdn : (n == ("__debug__" : Str)) = false) (hcn : (n == ("__classdict__" : Str)) = false) (hsw : swapsWith (.Name n pn) (some (.Name m pm)) pa.line X.env = pure false)
    (xx : XE (X.tr (X.pn ++ pins) xe) (wKeep X.K c i j D') u s') :
    wpAny (model X.prog X.w) X.A (noteFrame u X.env) (fun _ s2 => wpAny (model X.prog X.w) X.A (setFlight u none) (fun _ s3 => wpAny (model X.prog X.w) X.A (handleBy u X.env [.ExceptHandler (some (.Name x np)) (some n) [.Assign [.Name m pm] (.Name n pn) pa] pos']) (SP X pins D') X.xe s3) X.xe s2) X.xe s' := by
  obtain ⟨a, B, sI, pins', τ, G, cls, d, rfl, J0, nb, up, sky, na, os, ag, hcatch, hend⟩ := xx
  have J : Inv X pins τ G sI := J0.ofTry ok
  have onStack : X.A.frames = some (X.env :: X.outer) := ok.frames.trans (congrArg some hs)
  rw [show (X.tr (X.pn ++ pins) xe).stack = X.env :: X.outer from hs] at sky
  refine Sky.land Zc.steady onStack hf sky fun h1 f1 u1 => ?_
  -- the exception is no part of the frames, nor of what stood ahead of it
  have off : ∀ {h : Heap}, HandSPX.FlyingZ B (X.env :: X.outer) a (Zc cls d) h → a ∉ frs (X.env :: X.outer) := fun {h} fl hm => by
    obtain ⟨o, vs, e1, _, e2⟩ := fl.there
    obtain ⟨_, o2, e3, nf⟩ := fl.2.2.1.mem hm
    rw [e1] at e3; cases e3
    exact nf _ e2
  have nf := off f1
  have away : sI.heap.get? a = none := by
    cases e : sI.heap.get? a with
    | none => rfl
    | some o =>
      have z := nb a o e (by rw [show (X.tr (X.pn ++ pins) xe).stack = X.env :: X.outer from hs]; exact nf)
      rw [f1.2.1] at z; cases z
  have nL : a ≠ X.env.locals := fun z => nf (List.mem_filterMap.mpr ⟨X.env, List.mem_cons_self, by rw [hf, z]⟩)
  have nO : a ∉ X.fs := fun hm => by
    obtain ⟨e, he, q⟩ := List.mem_filterMap.mp hm
    exact nf (List.mem_filterMap.mpr ⟨e, List.mem_cons_of_mem _ he, q⟩)
  have land : ∀ {h2 : Heap}, HandSPX.FlyingZ B (X.env :: X.outer) a (Zc cls d) h2 → h1.UpToSlots h2 → Inv X pins τ G { s' with heap := h2 } := fun fl up2 => J.landed nb fl.1 ((up.trans u1).trans up2) os ag
  have hold : ∀ {t : Shared} {oe : Obj} {vs : Array Value}, Inv X pins τ G t → t.heap.get? a = some oe → oe.data = .fields vs → Inv (X.suite a ((a, oe) :: (X.pn ++ pins))) [] τ G t := fun I e1 e2 => I.suite e1 e2 na nL nO
  have I1 : Inv X pins τ G { s' with heap := h1 } := J.landed nb f1.1 (up.trans u1) os ag
  obtain ⟨o1, w1, g1, z1, y1⟩ := f1.there
  have S1 := hold I1 g1 y1
  refine wpAny_handleBy_cons (codeAny_handlers_test ?_) (by intro q; cases q)
  -- the class that the clause names
  have ask : ∀ {Q E : Value → Shared → Prop}, Q c { s' with heap := h1 } → wpAny (model X.prog X.w) (X.A.mark (some (.ref a))) (eval (.Name x np) X.env) Q E { s' with heap := h1 } := fun q => by
    rcases hc with ⟨hg, hd, hm | ⟨hm, hv, hnn⟩⟩
    · exact ld_glob S1 hg hm q hd
    · exact ld_blt S1 hg hm hv q hnn hd
  have ofCls : PySem.W.Looks (model X.prog X.w) h1 (typeOf (.ref a)) cls := fun A Q E t k q => wpAny_typeOf_ref (k _ _ g1) (by rw [z1.1]; exact q)
  refine ask ((PySem.W.exm_one I1.kIn ofCls hcatch).here ?_)
  refine codeAny_handlers_suite_as (HandSPX.lands_againZ f1 fun h2 f2 u2 => ?_)
  have I2 := land f2 u2
  obtain ⟨o2, w2, g2, z2, y2⟩ := f2.there
  have locN : Loc X.env.scope n := .inl hln
  refine store_ok (X := X.suite a ((a, o2) :: (X.pn ++ pins))) (v := .ref a) (hold I2 g2 y2) hN hi locN rfl (fun s3 S3 => ?_) (.inr hln)
  -- m = n
  have body : PSs (X.suite a ((a, o2) :: (X.pn ++ pins))) [.Assign [.Name m pm] (.Name n pn) pa] (tAsg (tVar i) (gName j)) := pss_one (ps_set hN hj hlm (pv i hi hvn hdn hcn) hsw hfm)
  have hlen : i < τ.length := by
    have z : τ.length = X.N.length := J.len
    rw [z]; exact (List.getElem?_eq_some_iff.mp hi).1
  refine wpAny_mono (body.run [] s3 _ G { nx := fun σ' H' => σ' = (τ.set i (some (.ref a))).set j (some (.ref a)) ∧ H' = G, rt := fun _ _ => False } S3 ⟨.ref a, List.getElem?_set_self hlen, rfl, rfl⟩) (fun f s4 q => ?_) (fun _ _ z => z.elim)
  cases f with
  | brk => obtain ⟨_, _, _, z⟩ := q; exact z.elim
  | cont => obtain ⟨_, _, _, z⟩ := q; exact z.elim
  | ret v => obtain ⟨_, _, _, _, _, z⟩ := q; exact z.elim
  | next =>
    obtain ⟨σ4, H4, S4, e1, e2⟩ := q
    rw [e1, e2] at S4
    have I4 : Inv X pins _ G s4 := S4.unsuite ok
    have here : s4.heap.get? a = some o2 := (S4.pin (a, o2) (List.mem_append_left _ List.mem_cons_self)).1
    have old : X.s_0.heap.get? a = none := by
      cases e : X.s_0.heap.get? a with
      | none => rfl
      | some o =>
        obtain ⟨o', z⟩ := J.base.there a o e (by rw [hex]; exact fun z => nomatch z)
        rw [away] at z; cases z
    have I5 : Inv X pins _ (upd G a (exH cls d a)) s4 := inv_told I4 na old (Ne.symm nL)
      (fun y c' e z => by
        obtain ⟨v, o, e1, _⟩ := J.cell y c' e
        rw [z, away] at e1; cases e1)
      (fun p hp z => by
        have e1 := (J.pin p hp).1
        rw [z, away] at e1; cases e1) (exH_ok here z2 y2)
    exact gone_ok I5 hN hi hln fun s5 I6 => ⟨_, _, I6, hend a na⟩
/-- try: body; except x as n: m = n -/
theorem ps_keep {tb : WX → TS} (hs : X.stack = X.env :: X.outer) (hf : X.env.frame = some X.env.locals) (hex : X.ex = []) (hN : X.N.Nodup) (hi : X.N[i]? = some n) (hj : X.N[j]? = some m) (hln : X.env.kindOf n = some .local) (hlm : Loc X.env.scope m) (hvn : Vis X.env.scope n) (hc : Names X x c)
    (hfm : X.fn m = true ∨ X.env.scope.names.lookup m = some .local) (hdn : (n == ("__debug__" : Str)) = false) (hcn : (n == ("__classdict__" : Str)) = false) (hsw : swapsWith (.Name n pn) (some (.Name m pm)) pa.line X.env = pure false)
    (hb : ∀ (W : WX) (pn : List (Addr × Obj)) (xe : Value → Shared → Prop), Takes (X.tr pn xe) W → PassesOwn (model X.prog X.w) X.A X.env xe → PSs (X.tr pn xe) body (tb W)) :
    PS X (.Try body [.ExceptHandler (some (.Name x np)) (some n) [.Assign [.Name m pm] (.Name n pn) pa] pos'] [] [] pos) (fun D' σ H => tb (wKeep X.K c i j D') D' σ H) := by
  constructor
  intro pins s σ H D' I h
  have B := hb (wKeep X.K c i j D') (X.pn ++ pins) _ (fun u s' xx => keep_run (pos' := pos') (np := np) I.ok hs hf hex hN hi hj hln hlm hvn hc hfm hdn hcn hsw xx) PassesOwn.looking
  refine wpAny_Try_except (wpAny_mono (B.run [] s σ H D' (I.toTry _) h) (fun f s1 q => ?_) fun _ _ z => z)
  have ok := I.ok
  cases f with
  | next => exact let ⟨σ1, H1, J, z⟩ := q; wpAny_execs_nil ⟨σ1, H1, J.ofTry ok, z⟩
  | brk => exact let ⟨σ1, H1, J, z⟩ := q; ⟨σ1, H1, J.ofTry ok, z⟩
  | cont => exact let ⟨σ1, H1, J, z⟩ := q; ⟨σ1, H1, J.ofTry ok, z⟩
  | ret u => exact let ⟨v, σ1, H1, J, r, z⟩ := q; ⟨v, σ1, H1, J.ofTry ok, r, z⟩
end
end Dl

set_option Elab.async false
set_option linter.all false
set_option maxRecDepth 100000
set_option maxHeartbeats 2000000
/-! DL33: try by its mirror; isinstance of a caught exception, its field. -/
namespace Dl
open PySem PySem.Spec PyProof.Rows L2

/-! ### try: body; except S as n: m = n -/
def sTry (names : List Str) (i j : Nat) (body : SM) : SM := fun ρ => match body ρ with
  | some (.xc (.exn c fs ds), ρ1) => if names.contains c = true then some (.nx, (ρ1.set i none).set j (some (.exn c fs ds))) else none
  | some (.xc _, _) => none
  | some (.nx, ρ1) => some (.nx, ρ1)
  | some (.rt d, ρ1) => some (.rt d, ρ1)
  | some (.bk, ρ1) => some (.bk, ρ1)
  | some (.ct, ρ1) => some (.ct, ρ1)
  | none => none
section
variable {F : Fm} {σ : L2.St} {H : Hp} {ρ : DEnv} {ts : List Rt} {i j : Nat}
theorem slotR_skip : ∀ (σ : L2.St) (ρ : DEnv) (i : Nat) (y : Option V), (∀ d, ρ[i]? ≠ some (some d)) → slotR (σ.set i y) ρ = slotR σ ρ
  | [], ρ, i, y, _ => by simp
  | x :: σ, [], i, y, _ => by cases i <;> simp [slotR]
  | x :: σ, z :: ρ, 0, y, h => by
    have : z = none := by
      cases z with
      | none => rfl
      | some d => exact absurd rfl (h d)
    subst this
    rw [List.set_cons_zero, slotR_none, slotR_none]
  | x :: σ, z :: ρ, i + 1, y, h => by
    have ih := slotR_skip σ ρ i y (by simpa using h)
    rw [List.set_cons_succ]
    cases x <;> cases z <;> simp [slotR, ih]
theorem At.forget (a : At F σ H ρ ts) (i : Nat) : At F σ H (ρ.set i none) ts := by
  obtain ⟨xs, p⟩ := slotR_forget σ ρ i
  have s : Sim F.K F.mg H (xs ++ (slotR σ (ρ.set i none) ++ ts)) := a.sim.perm (by rw [← List.append_assoc]; exact p.append_right _)
  exact a.away s.drop
theorem At.hide {y : Option V} (a : At F σ H ρ ts) (hn : ∀ d, ρ[i]? ≠ some (some d)) (hp : F.vs0.length ≤ i) : At F (σ.set i y) H ρ ts := by
  refine ⟨by rw [List.length_set]; exact a.lenS, a.lenR, fun k d h => ?_, fun k v h => ?_, by rw [slotR_skip σ ρ i y hn]; exact a.sim⟩
  · have ne : i ≠ k := fun e => hn d (e ▸ h)
    rw [List.getElem?_set_ne ne]; exact a.fit k d h
  · have ne : i ≠ k := fun e => by
      have := (List.getElem?_eq_some_iff.mp h).1
      omega
    rw [List.getElem?_set_ne ne]; exact a.par k v h
theorem none_at (ρ : DEnv) (i : Nat) : ∀ d, (ρ.set i none)[i]? ≠ some (some d) := fun d h => by
  by_cases hl : i < ρ.length
  · rw [List.getElem?_set_self hl] at h; cases h
  · rw [List.getElem?_eq_none (by simpa using hl)] at h; cases h
theorem imp_try {names : List Str} {body : SM} {c : Value} (hne : i ≠ j) (hi : F.vs0.length ≤ i) (hj : F.vs0.length ≤ j) (hjn : j < F.n) (hc : ∀ nm, names.contains nm = true → ∀ C, F.mg nm = some (.ref C) → PySem.W.exmOne F.K (.ref C) c = some true) :
    ∀ D' σ H, tS F (sTry names i j body) D' σ H → tS ⟨F.K, F.mg, F.vs0, F.n, wKeep F.K c i j D'⟩ body D' σ H := fun D' σ H ⟨ρ, ts, fl, ρ', a, q, k⟩ => by
  unfold sTry at q
  split at q
  · rename_i nm fs ds ρ1 hb
    split at q
    · rename_i hm
      cases q
      refine ⟨ρ, ts, .xc _, ρ1, a, hb, ?_⟩
      rintro cls d σ' H' a1 ⟨im, C, fvs, hC, rfl, hd, hf, rl⟩
      refine ⟨hc nm hm C hC, fun b hb' => k _ _ ?_⟩
      have a2 : At F σ' H' (ρ1.set i none) ts := At.forget a1 i
      have a3 : At F (σ'.set i (some (.ref b))) (upd H' b (exH (.ref C) d b)) (ρ1.set i none) (.v (.ref b) (.exn nm fs ds) :: ts) := (a2.of_front (Sim.newX a2.front hb' hC hd hf rl im)).hide (none_at ρ1 i) hi
      exact (a3.store hj hjn).hide (fun e => by rw [List.getElem?_set_ne (Ne.symm hne)]; exact none_at ρ1 i e) hi
    · cases q
  · cases q
  · rename_i ρ1 hb; cases q; exact ⟨ρ, ts, _, _, a, hb, k⟩
  · rename_i d ρ1 hb; cases q; exact ⟨ρ, ts, _, _, a, hb, k⟩
  · rename_i ρ1 hb; cases q; exact ⟨ρ, ts, _, _, a, hb, k⟩
  · rename_i ρ1 hb; cases q; exact ⟨ρ, ts, _, _, a, hb, k⟩
  · cases q
end
/-- what «except S» catches -/
structure Ctch (K : PySem.W.Frag) (mg : Str → Option Value) (S : Str) (names : List Str) : Prop where
  ex : ∃ C : Addr, mg S = some (.ref C) ∧ ∀ nm, names.contains nm = true → ∀ D : Addr, mg nm = some (.ref D) → PySem.W.exmOne K (.ref D) (.ref C) = some true
section
variable {X : Cx} {vs0 : List V} {W : WX} {x n m : Str} {body : SM} {bs : List Stmt} {names : List Str} {np pm pn pa pos pos' : Pos}
theorem s_try (i j : Nat) (hpi : vs0.length ≤ i) (hpj : vs0.length ≤ j) (hN : X.N.Nodup) (T : Ctch X.K X.mg x names)
    (hb : ∀ (W : WX) (pn : List (Addr × Obj)) (xe : Value → Shared → Prop), Takes (X.tr pn xe) W → PassesOwn (model X.prog X.w) X.A X.env xe → PSs (X.tr pn xe) bs (tS (fmW X vs0 W) body))
    (hne : i ≠ j := by decide) (hi : X.N[i]? = some n := by rfl) (hj : X.N[j]? = some m := by rfl) (hs : X.stack = X.env :: X.outer := by rfl) (hf : X.env.frame = some X.env.locals := by rfl) (hex : X.ex = [] := by rfl) (hln : X.env.kindOf n = some .local := by rfl) (hlm : Loc X.env.scope m := by first | exact Or.inl rfl | exact Or.inr rfl) (hvn : Vis X.env.scope n := by first | exact Or.inl rfl | exact Or.inr (Or.inl rfl) | exact Or.inr (Or.inr rfl))
    (hg : Gl X x := by rfl) (hdx : (x == ("__debug__" : Str)) = false := by decide) (hfm : X.fn m = true ∨ X.env.scope.names.lookup m = some .local := by first | exact .inl rfl | exact .inr rfl) (hdn : (n == ("__debug__" : Str)) = false := by decide) (hcn : (n == ("__classdict__" : Str)) = false := by decide) (hsw : swapsWith (.Name n pn) (some (.Name m pm)) pa.line X.env = pure false := by rfl) :
    PS X (.Try bs [.ExceptHandler (some (.Name x np)) (some n) [.Assign [.Name m pm] (.Name n pn) pa] pos'] [] [] pos) (tS (fmW X vs0 W) (sTry names i j body)) := by
  obtain ⟨C, hm, hc⟩ := T.ex
  exact (ps_keep (c := .ref C) (tb := fun W => tS (fmW X vs0 W) body) hs hf hex hN hi hj hln hlm hvn ⟨hg, hdx, .inl hm⟩ hfm hdn hcn hsw hb).imp (imp_try (F := fmW X vs0 W) hne hpi hpj (List.getElem?_eq_some_iff.mp hj).1 hc)
end

/-! ### isinstance(caught, T) -/
/-- what the class says, so that isinstance asks its instances rightly -/
structure ExcK (K : PySem.W.Frag) (C : Addr) : Prop where
  hcl : PySem.W.isClsIn K C = true
  hga : PySem.W.findIn K (.ref C) "__getattribute__" = some (some (.builtin "BaseException.__getattribute__"))
  hgt : PySem.W.findIn K (.ref C) "__getattr__" = some none
  hsub : PySem.W.subIn K (.ref C) (.type "BaseException") = some true
  ha : PySem.W.findIn K (.ref C) "__class__" = some (some (.builtin "object.__class__"))
  hn : PySem.W.specialIn K (.builtin "object.__class__") "__get__" = some (some (.builtin "getset_descriptor.__get__"))
  htk : PySem.W.takesIn K (.builtin "object.__class__") = some true
  hm : PySem.W.mroIn K C (.type "object") = some true
def rIsX (K : PySem.W.Frag) : List V → Hp → VK → Prop := fun xs H Q => ∃ (a C : Addr) (d : Option Addr) (fvs : List (Str × V)) (t : V) (cv : Value) (b : Bool), xs = [.ref a, t] ∧ H a = some (exH (.ref C) d a) ∧ XdAt H d fvs ∧ (∀ u, RelV t u → u = cv) ∧ ExcK K C ∧ PySem.W.kitOne K (.ref C) cv = some b ∧ Q (.bl b) H
/-- a told exception as an instance -/
theorem exc_at {X : Cx} {pins : List (Addr × Obj)} {σ : L2.St} {H : Hp} {s : Shared} {a C : Addr} {d : Option Addr} {fvs : List (Str × V)} (I : Inv X pins σ H s) (h : H a = some (exH (.ref C) d a)) (hd : XdAt H d fvs) :
    ∃ oe od, PySem.W.InstAt s.heap a oe C od ∧ ∀ f v, fvs.lookup f = some v → ∃ o u, od = some o ∧ PySem.W.lookIn f o = some (some u) ∧ RelV v u := by
  obtain ⟨⟨oe, vs, e1, ⟨z1, z2⟩, e2⟩, _, _⟩ := I.hok a _ h
  have nc : PySem.W.notCls oe := by unfold PySem.W.notCls; rw [e2] <;> rfl
  cases d with
  | none =>
    refine ⟨oe, none, ⟨e1, z1, nc, by rw [z2] <;> trivial⟩, fun f v hl => ?_⟩
    have hd' : fvs = [] := hd
    rw [hd'] at hl; cases hl
  | some dd =>
    obtain ⟨mA, hns, hr⟩ := I.hok dd _ (show H dd = some (.xd fvs) from hd)
    obtain ⟨od, ho, hl⟩ := lookIn_ns hns
    refine ⟨oe, some od, ⟨e1, z1, nc, by rw [z2]; exact ho⟩, fun f v hv => ?_⟩
    obtain ⟨u, hu, ru⟩ := RelO.some_of (v := v) (o := mA f) (by rw [← hv]; exact hr f)
    exact ⟨od, u, rfl, by rw [hl, hu], ru⟩
theorem call_isX {X : Cx} : CallR X (.builtin "isinstance") (rIsX X.K) := by
  intro pins s σ H xs us Q I r h
  obtain ⟨a, C, d, fvs, t, cv, b, rfl, hx, hd, hcv, k, e, q⟩ := h
  cases r with
  | cons rx rr =>
    cases rr with
    | cons rt rr =>
      cases rr
      cases rx
      have ec := hcv _ rt
      subst ec
      obtain ⟨oe, od, J, _⟩ := exc_at I hx hd
      exact PySem.W.kia_one (PySem.W.kitx_exc k.hcl k.hga k.hgt k.hsub k.ha k.hn k.htk k.hm) I.kIn J e (fun z => nomatch z) fun tk => ⟨.bl b, H, I.kept (t' := tk) fun _ _ z => z, rfl, q⟩
def pIsE (tab : List (Str × Bool)) (fa : PM) : PM := fun ρ => match fa ρ with
  | some (.exn c _ _) => (tab.lookup c).map .bl
  | _ => none
def IsE (K : PySem.W.Frag) (mg : Str → Option Value) (cv : Value) (tab : List (Str × Bool)) : Prop := ∀ c b, tab.lookup c = some b → ∀ C, mg c = some (.ref C) → ExcK K C ∧ PySem.W.kitOne K (.ref C) cv = some b
/-- T an own class -/
structure IsX (K : PySem.W.Frag) (mg : Str → Option Value) (T : Str) (tab : List (Str × Bool)) : Prop where
  ex : ∃ C : Addr, mg T = some (.ref C) ∧ IsE K mg (.ref C) tab
section
variable {X : Cx} {F : Fm} {vs0 : List V} {fa : PM} {a : Expr} {tab : List (Str × Bool)} {T : Str} {Tb : String} {p p1 pos : Pos} {c f : Str}
theorem imp_isX {t : V} {cv : Value} (hcv : ∀ u, RelV t u → u = cv) (hT : IsE F.K F.mg cv tab) : ∀ σ H Q, tP F (pIsE tab fa) σ H Q → tCB (rIsX F.K) (tCons (tP F fa) (tCons (tC t) tNil)) σ H Q := fun σ H Q ⟨ρ, ts, d, a, e, k⟩ => by
  unfold pIsE at e
  split at e
  · rename_i c fs ds ex
    refine ⟨ρ, ts, _, a, ex, fun v H1 g1 rx cx => ?_⟩
    obtain ⟨b, hb, rfl⟩ := Option.map_eq_some_iff.mp e
    cases rx with
    | exn hC hx hd hf rl =>
      obtain ⟨k1, k2⟩ := hT c b hb _ hC
      exact ⟨_, _, _, _, t, cv, b, rfl, hx, hd, hcv, k1, k2, k _ H1 g1 (.bl b) (Cj.of ((a.grow g1).mk' (mk_bl b)))⟩
  · cases e
theorem p_isX (hm : X.mg "isinstance" = none) (hT : IsX X.K X.mg T tab) (ha : PE X a (tP (fm X vs0) fa)) (hgT : Gl X T := by rfl) (hdT : (T == ("__debug__" : Str)) = false := by decide) (hg : Gl X "isinstance" := by rfl)
    (he : starEach (a :: [.Name T p1]) X.env = (false, eval a X.env) :: starEach [.Name T p1] X.env := by rfl) (he2 : starEach (.Name T p1 :: []) X.env = (false, eval (.Name T p1) X.env) :: starEach [] X.env := by rfl) (hpl : (backTo pos (starEach [.Name T p1] X.env)).any (·.1) = false := by rfl) :
    PE X (.Call (.Name "isinstance" p) [a, .Name T p1] [] pos) (tP (fm X vs0) (pIsE tab fa)) := by
  obtain ⟨C, hC, h⟩ := hT.ex
  exact (pe_callB call_isX hg hm (by rfl) (pa_cons ha (pa_cons (pe_glob hgT hC (show RelV (.ref C) (.ref C) from rfl) hdT) pa_nil he2) he) (by decide) (by decide) he hpl).imp (imp_isX (F := fm X vs0) (fun u r => r) h)
theorem p_isV (hm : X.mg "isinstance" = none) (hT : IsE X.K X.mg (.type Tb) tab) (ha : PE X a (tP (fm X vs0) fa)) {b : Expr} (hb : PE X b (tC (.ty Tb))) (hg : Gl X "isinstance" := by rfl)
    (he : starEach (a :: [b]) X.env = (false, eval a X.env) :: starEach [b] X.env := by rfl) (he2 : starEach (b :: []) X.env = (false, eval b X.env) :: starEach [] X.env := by rfl) (hpl : (backTo pos (starEach [b] X.env)).any (·.1) = false := by rfl) :
    PE X (.Call (.Name "isinstance" p) [a, b] [] pos) (tP (fm X vs0) (pIsE tab fa)) :=
  (pe_callB call_isX hg hm (by rfl) (pa_cons ha (pa_cons hb pa_nil he2) he) (by decide) (by decide) he hpl).imp (imp_isX (F := fm X vs0) (fun u r => r) hT)

/-! ### caught.f -/
def pXf (c f : Str) (fa : PM) : PM := fun ρ => match fa ρ with
  | some (.exn c' [f'] [d]) => if c' = c ∧ f' = f ∧ d.imm = true then some d else none
  | _ => none
/-- f of an exception of the class c -/
structure XfE (K : PySem.W.Frag) (mg : Str → Option Value) (c f : Str) : Prop where
  ex : ∀ C : Addr, mg c = some (.ref C) → XfC K C ∧ PySem.W.findIn K (.ref C) f = some none
def tXfE (K : PySem.W.Frag) (f : Str) (te : TE) : TE := fun σ H Q => te σ H fun x H1 => ∃ (a C : Addr) (d : Option Addr) (fvs : List (Str × V)) (v : V), x = .ref a ∧ H1 a = some (exH (.ref C) d a) ∧ XdAt H1 d fvs ∧ XfC K C ∧ PySem.W.findIn K (.ref C) f = some none ∧ fvs.lookup f = some v ∧ Q v H1
theorem pe_xfE {e : Expr} {te : TE} (he : PE X e te) (hb : attributeBase e f X.env (eval e X.env) = eval e X.env := by rfl) : PE X (.Attribute e f pos) (tXfE X.K f te) := by
  constructor
  intro pins s σ H Q I h
  refine attr_of hb (thn (he.run pins s σ H _ I h) ?_)
  rintro u s1 ⟨x, H1, J, rx, a, C, d, fvs, v, rfl, hx, hd, T, hno, hl, q⟩
  obtain rfl : u = Value.ref a := rx
  obtain ⟨oe, od, K1, look⟩ := exc_at J hx hd
  obtain ⟨o, w, rfl, hw, rw'⟩ := look f v hl
  exact HandSPX.exc_get J.kIn K1 T.ga T.gg T.exC (PySem.W.findObj_own T.hdC hno rfl hw) (handed_of rw') ⟨v, H1, J.tok _, rw', q⟩
theorem p_xf (T : XfE X.K X.mg c f) (ha : PE X a (tP (fm X vs0) fa)) (hb : attributeBase a f X.env (eval a X.env) = eval a X.env := by rfl) : PE X (.Attribute a f pos) (tP (fm X vs0) (pXf c f fa)) :=
  (pe_xfE ha hb).imp fun σ H Q ⟨ρ, ts, d, at0, e, k⟩ => by
    unfold pXf at e
    split at e
    · rename_i c' f' d' ex
      split at e
      · rename_i hq
        cases e
        obtain ⟨rfl, rfl, im⟩ := hq
        refine ⟨ρ, ts, _, at0, ex, fun v H1 g1 rx cx => ?_⟩
        cases rx with
        | @exn b C dd _ fvs _ _ hC hx hd hf rl =>
          obtain ⟨h1, h2⟩ := T.ex C hC
          cases fvs with
          | nil => cases hf
          | cons p ps =>
            cases ps with
            | cons _ _ => cases hf
            | nil =>
              obtain ⟨f1, v1⟩ := p
              simp only [List.map_cons, List.map_nil, List.cons.injEq, and_true] at hf
              subst hf
              cases rl with
              | cons r1 _ =>
                exact ⟨b, C, dd, [(f', v1)], v1, rfl, hx, hd, h1, h2, by simp [List.lookup], k _ H1 g1 r1 (Cj.of ((at0.grow g1).imm r1 im))⟩
      · cases e
    · cases e
end
end Dl

set_option Elab.async false
set_option linter.all false
set_option maxRecDepth 100000
set_option maxHeartbeats 1000000
/-! DL34: + of lists and tuples whose parts go along (owned or frozen); a value frozen where it is made. -/
namespace Dl
open PySem PySem.Spec PyProof.Rows L2
def addM : D → D → Option D
  | .lst true xs, .lst true ys => if xs.length + ys.length ≤ 10000 then some (.lst true (xs ++ ys)) else none
  | .tup xs, .tup ys => if xs.length + ys.length ≤ 10000 then some (.tup (xs ++ ys)) else none
  | _, _ => none
def eAddM (a b : EM) : EM := fun ρ => match a ρ with
  | some (x, ρ1) => match b ρ1 with
    | some (y, ρ2) => match addM x y with
      | some d => some (d, ρ2)
      | none => none
    | none => none
  | none => none
def eFz (a : EM) : EM := fun ρ => match a ρ with
  | some (d, ρ1) => some (d.frz, ρ1)
  | none => none
section
variable {X : Cx} {vs0 : List V} {F : Fm} {ea eb : EM} {e a b : Expr} {pos : Pos}
end
end Dl

set_option Elab.async false
set_option linter.all false
set_option maxRecDepth 100000
/-! DL35: what the head has written of exception classes, put together. -/
namespace Dl
open PySem PySem.Spec PyProof.Rows L2
theorem ctch_mk {K : PySem.W.Frag} {mg : Str → Option Value} {S : Str} {names : List Str} (C : Addr) (hm : mg S = some (.ref C)) (l : List (Str × Addr)) (hl : names = l.map (·.1)) (h : ∀ p ∈ l, mg p.1 = some (.ref p.2) ∧ PySem.W.exmOne K (.ref p.2) (.ref C) = some true) : Ctch K mg S names := by
  subst hl
  refine ⟨⟨C, hm, fun nm hn D hD => ?_⟩⟩
  obtain ⟨p, hp, rfl⟩ := List.mem_map.mp (List.contains_iff_mem.mp hn)
  obtain ⟨h1, h2⟩ := h p hp
  rw [h1] at hD
  cases hD
  exact h2
theorem lookup_mem {l : List (Str × Bool)} {c : Str} {b : Bool} (h : l.lookup c = some b) : (c, b) ∈ l := by
  induction l with
  | nil => cases h
  | cons p l ih =>
    obtain ⟨d, e⟩ := p
    rw [List.lookup_cons] at h
    by_cases z : c == d
    · rw [z] at h
      cases h
      rw [beq_iff_eq.mp z]
      exact List.mem_cons_self
    · rw [Bool.not_eq_true] at z
      rw [z] at h
      exact List.mem_cons_of_mem _ (ih h)
theorem isE_mk {K : PySem.W.Frag} {mg : Str → Option Value} {cv : Value} {tab : List (Str × Bool)} (l : List (Str × Addr × Bool)) (hl : tab = l.map fun p => (p.1, p.2.2)) (h : ∀ p ∈ l, mg p.1 = some (.ref p.2.1) ∧ ExcK K p.2.1 ∧ PySem.W.kitOne K (.ref p.2.1) cv = some p.2.2) : IsE K mg cv tab := by
  subst hl
  intro c b hb C hC
  obtain ⟨p, hp, e⟩ := List.mem_map.mp (lookup_mem hb)
  obtain ⟨h1, h2, h3⟩ := h p hp
  cases e
  rw [h1] at hC
  cases hC
  exact ⟨h2, h3⟩
theorem all1 {α : Type} {P : α → Prop} {x : α} {l : List α} (h : P x) (hl : ∀ p ∈ l, P p) : ∀ p ∈ x :: l, P p := List.forall_mem_cons.mpr ⟨h, hl⟩
theorem all0 {α : Type} {P : α → Prop} : ∀ p ∈ ([] : List α), P p := fun _ h => nomatch h
theorem kit_own {K : PySem.W.Frag} {D T : Addr} {b : Bool} (h1 : PySem.W.isClsIn K T = true) (h2 : PySem.W.typeIn K (.ref T) = some (.type "type")) (hn : (Value.ref D == Value.ref T) = false) (h : PySem.W.subIn K (.ref D) (.ref T) = some b) : PySem.W.kitOne K (.ref D) (.ref T) = some b := by
  have h1' : (PySem.W.clsIn K T).isSome = true := h1
  have e : ((PySem.W.clsIn K T).isSome && PySem.W.typeIn K (.ref T) == some (.type "type")) = true := by rw [h1', h2] <;> rfl
  unfold PySem.W.kitOne PySem.W.kitCls
  rw [if_neg (by rw [hn]; exact Bool.false_ne_true)]
  show (if ((PySem.W.clsIn K T).isSome && PySem.W.typeIn K (.ref T) == some (.type "type")) = true then PySem.W.subIn K (.ref D) (.ref T) else none) = _
  rw [if_pos e, h]
theorem kit_self {K : PySem.W.Frag} {D : Addr} : PySem.W.kitOne K (.ref D) (.ref D) = some true := by
  unfold PySem.W.kitOne
  rw [if_pos (by simp)]
theorem kit_blt {K : PySem.W.Frag} {D : Addr} {T : String} {b : Bool} (h : PySem.W.subIn K (.ref D) (.type T) = some b) (hk : PySem.W.kitMeta T = true := by decide +kernel) : PySem.W.kitOne K (.ref D) (.type T) = some b := by
  unfold PySem.W.kitOne PySem.W.kitCls
  rw [if_neg (by simp)]
  show (if PySem.W.kitMeta T = true then PySem.W.subIn K (.ref D) (.type T) else none) = _
  rw [if_pos hk, h]
end Dl

set_option Elab.async false
set_option linter.all false
set_option maxRecDepth 100000
set_option maxHeartbeats 2000000
/-! DL36: dicts whose keys are tuples of tuples: {}, k in d, d[k], d[k] = v. -/
namespace Dl
open PySem PySem.Spec PyProof.Rows L2

/-! ### keys -/
mutual
theorem NkAt.nk {H : Hp} : ∀ {v : V} {d : D} {k : NestedKey}, NkAt H v d k → d.nk = some k
  | _, _, _, .non => by rw [D.nk]
  | _, _, _, .int i => by rw [D.nk]
  | _, _, _, .str x => by rw [D.nk]
  | _, _, _, .tup e l => by rw [D.nk, NkAll.nk l]
theorem NkAll.nk {H : Hp} : ∀ {vs : List V} {ds : List D} {ks : List NestedKey}, NkAll H vs ds ks → nkL ds = some ks
  | _, _, _, .nil => by rw [nkL]
  | _, _, _, .cons o l => by rw [nkL, NkAt.nk o, NkAll.nk l]
end
theorem nkL_cons {d : D} {ds : List D} {ks : List NestedKey} (h : nkL (d :: ds) = some ks) : ∃ k r, d.nk = some k ∧ nkL ds = some r ∧ ks = k :: r := by
  rw [nkL] at h
  split at h
  · rename_i k r h1 h2; cases h; exact ⟨k, r, h1, h2, rfl⟩
  · cases h
theorem nk_tup {ds : List D} {k : NestedKey} (h : (D.tup ds).nk = some k) : ∃ ks, nkL ds = some ks ∧ k = .tup ks := by
  rw [D.nk] at h
  split at h
  · rename_i ks h1; cases h; exact ⟨ks, h1, rfl⟩
  · cases h
section
variable {K : PySem.W.Frag} {mg : MG} {H : Hp}
mutual
theorem Rp.nkAt : ∀ {v : V} {d : D} {k : NestedKey}, Rp K mg H v d → d.nk = some k → NkAt H v d k
  | _, _, _, .non, h => by rw [D.nk] at h; cases h; exact .non
  | _, _, _, .int i, h => by rw [D.nk] at h; cases h; exact .int i
  | _, _, _, .str x, h => by rw [D.nk] at h; cases h; exact .str x
  | _, _, _, .tup z l, h => by
    obtain ⟨ks, h1, rfl⟩ := nk_tup h
    exact .tup z (RpL.nkAt l h1)
  | _, _, _, .bl _, h => by simp [D.nk] at h
  | _, _, _, .lst _ _, h => by simp [D.nk] at h
  | _, _, _, .dk _ _ _, h => by simp [D.nk] at h
  | _, _, _, .dt _ _ _, h => by simp [D.nk] at h
  | _, _, _, .dn _ _ _ _, h => by simp [D.nk] at h
  | _, _, _, .obj _ _ _ _, h => by simp [D.nk] at h
  | _, _, _, .scr _, h => by simp [D.nk] at h
  | _, _, _, .exn _ _ _ _ _, h => by simp [D.nk] at h
  | _, _, _, .ptr _, h => by simp [D.nk] at h
  | _, _, _, .lat _ _, h => by simp [D.nk] at h
  | _, _, _, .dlk _ _ _ _, h => by simp [D.nk] at h
theorem RpL.nkAt : ∀ {vs : List V} {ds : List D} {ks : List NestedKey}, RpL K mg H vs ds → nkL ds = some ks → NkAll H vs ds ks
  | _, _, _, .nil, h => by rw [nkL] at h; cases h; exact .nil
  | _, _, _, .cons o l, h => by
    obtain ⟨k, r, h1, h2, rfl⟩ := nkL_cons h
    exact .cons (Rp.nkAt o h1) (RpL.nkAt l h2)
end
end
mutual
theorem nk_inj : ∀ {a b : D} {k : NestedKey}, a.nk = some k → b.nk = some k → a = b
  | .non, b, k, h, h' => by rw [D.nk] at h; cases h; cases b <;> simp [D.nk] at h' ⊢ <;> (split at h' <;> simp at h')
  | .int i, b, k, h, h' => by rw [D.nk] at h; cases h; cases b <;> simp [D.nk] at h' ⊢ <;> first | exact h'.symm | (split at h' <;> simp at h')
  | .str i, b, k, h, h' => by rw [D.nk] at h; cases h; cases b <;> simp [D.nk] at h' ⊢ <;> first | exact h'.symm | (split at h' <;> simp at h')
  | .tup xs, b, k, h, h' => by
    obtain ⟨ks, h1, rfl⟩ := nk_tup h
    cases b with
    | tup ys =>
      obtain ⟨ls, h2, e⟩ := nk_tup h'
      cases e
      rw [nkL_inj h1 h2]
    | _ => simp [D.nk] at h'
  | .bl _, _, _, h, _ => by simp [D.nk] at h
  | .lst _ _, _, _, h, _ => by simp [D.nk] at h
  | .dic _ _ _ _, _, _, h, _ => by simp [D.nk] at h
  | .obj _ _ _ _, _, _, h, _ => by simp [D.nk] at h
  | .scr _, _, _, h, _ => by simp [D.nk] at h
  | .exn _ _ _, _, _, h, _ => by simp [D.nk] at h
  | .ptr _, _, _, h, _ => by simp [D.nk] at h
  | .lat _ _, _, _, h, _ => by simp [D.nk] at h
  | .dlk _ _ _, _, _, h, _ => by simp [D.nk] at h
theorem nkL_inj : ∀ {a b : List D} {ks : List NestedKey}, nkL a = some ks → nkL b = some ks → a = b
  | [], b, ks, h, h' => by
    rw [nkL] at h; cases h
    cases b with
    | nil => rfl
    | cons y ys => obtain ⟨_, _, _, _, e⟩ := nkL_cons h'; cases e
  | x :: xs, b, ks, h, h' => by
    obtain ⟨k, r, h1, h2, rfl⟩ := nkL_cons h
    cases b with
    | nil => rw [nkL] at h'; cases h'
    | cons y ys =>
      obtain ⟨k', r', g1, g2, e⟩ := nkL_cons h'
      cases e
      rw [nk_inj h1 g1, nkL_inj h2 g2]
end
mutual
theorem nk_is {P : Program} {w : World} {H : Hp} {h : Heap} (hok : HOk P w H h) : ∀ {v : V} {d : D} {k : NestedKey} {u : Value}, NkAt H v d k → RelV v u → NestedIs h k u
  | _, _, _, u, .non, r => by
    obtain rfl : u = Value.none := r
    exact .none
  | _, _, _, u, .int i, r => by obtain ⟨t, rfl⟩ := r; exact .int i t
  | _, _, _, u, .str x, r => by obtain ⟨t, rfl⟩ := r; exact .text x t
  | _, _, _, u, .tup (a := a) e l, r => by
    obtain rfl : u = Value.ref a := r
    obtain ⟨_, its, rv, o, h1, h2, n, h3⟩ := hok _ _ e
    exact .tup h1 h2 h3 (by have := nk_all hok l rv; simpa using this)
theorem nk_all {P : Program} {w : World} {H : Hp} {h : Heap} (hok : HOk P w H h) : ∀ {vs : List V} {ds : List D} {ks : List NestedKey} {us : List Value}, NkAll H vs ds ks → Vals vs us → NestedAll h ks us
  | _, _, _, _, .nil, .nil => .nil
  | _, _, _, _, .cons o l, .cons r rs => .cons (nk_is hok o r) (nk_all hok l rs)
end
/-- a key that a dict may have -/
def nkOk (q : D) : Bool := match q with
  | .tup ds => match nkL ds with
    | some ks => decide ((NestedKey.tup ks).depth ≤ 8)
    | none => false
  | _ => false
theorem nkOk_of {q : D} (h : nkOk q = true) : ∃ k, q.nk = some k ∧ k.depth ≤ 8 := by
  unfold nkOk at h
  split at h
  · split at h
    · rename_i ks e
      exact ⟨.tup ks, by rw [D.nk, e], of_decide_eq_true h⟩
    · cases h
  · cases h
theorem KeysN.len {H : Hp} {xs : List NEnt} {ks : List D} (h : KeysN H xs ks) : xs.length = ks.length := by
  induction h with
  | nil => rfl
  | cons _ _ _ ih => rw [List.length_cons, List.length_cons, ih]
theorem KeysN.is {P : Program} {w : World} {H : Hp} {h : Heap} (hok : HOk P w H h) {xs : List NEnt} {ks : List D} (q : KeysN H xs ks) : ∀ x ∈ xs, (nestedKind P w).is h x.1 x.2.1 := by
  induction q with
  | nil => intro x hx; nomatch hx
  | cons h1 h2 _ ih =>
    intro x hx
    rcases List.mem_cons.mp hx with rfl | hx
    · exact ⟨nk_is hok h1 rfl, h2⟩
    · exact ih x hx
theorem KeysN.snoc {H : Hp} {xs : List NEnt} {ks : List D} (h : KeysN H xs ks) {x : NEnt} {k : D} (h1 : NkAt H (.ref x.2.1) k x.1) (h2 : x.1.depth ≤ 8) : KeysN H (xs ++ [x]) (ks ++ [k]) := by
  induction h with
  | nil => exact .cons h1 h2 .nil
  | cons g1 g2 _ ih => exact .cons g1 g2 ih
theorem atKey_cons (x : NEnt) (xs : List NEnt) (k : NestedKey) : atKey (x :: xs) k = if x.1 = k then some x.2 else atKey xs k := by
  unfold atKey
  rw [List.find?_cons]
  by_cases h : x.1 = k
  · rw [if_pos h, decide_eq_true h]; rfl
  · rw [if_neg h, decide_eq_false h]
/-- looked up -/
theorem KeysN.look {K : PySem.W.Frag} {mg : MG} {H : Hp} {xs : List NEnt} {ks : List D} (h : KeysN H xs ks) {q : D} {k : NestedKey} (hq : q.nk = some k) : ∀ {vs : List V} {ds : List D}, Vals vs (xs.map (fun (x : NEnt) => x.2.2)) → RpL K mg H vs ds →
    (match lookD ks ds q with
      | some d => ∃ b u v, atKey xs k = some (b, u) ∧ RelV v u ∧ Rp K mg H v d
      | none => atKey xs k = none) := by
  induction h with
  | nil => intro vs ds hv hr; simp [lookD, atKey]
  | @cons x xs kd ks h1 h2 _ ih =>
    intro vs ds hv hr
    cases hv with
    | cons r rs =>
      cases hr with
      | cons o l =>
        have e1 := h1.nk
        rw [atKey_cons]
        unfold lookD
        by_cases e : kd = q
        · have e2 : x.1 = k := by rw [e, hq] at e1; exact (Option.some.inj e1).symm
          rw [if_pos e, if_pos e2]
          exact ⟨_, _, _, rfl, r, o⟩
        · have e2 : ¬ x.1 = k := fun z => e (nk_inj e1 (by rw [hq, z]))
          rw [if_neg e, if_neg e2]
          exact ih rs l
theorem KeysN.any {H : Hp} {xs : List NEnt} {ks : List D} (h : KeysN H xs ks) {q : D} {k : NestedKey} (hq : q.nk = some k) : (atKey xs k).isSome = ks.any fun z => decide (z = q) := by
  induction h with
  | nil => rfl
  | @cons x xs kd ks h1 h2 _ ih =>
    have e1 := h1.nk
    rw [atKey_cons, List.any_cons]
    by_cases e : kd = q
    · have e2 : x.1 = k := by rw [e, hq] at e1; exact (Option.some.inj e1).symm
      rw [if_pos e2, decide_eq_true e]; rfl
    · have e2 : ¬ x.1 = k := fun z => e (nk_inj e1 (by rw [hq, z]))
      rw [if_neg e2, decide_eq_false e, ih]; rfl

/-! ### rules -/
section
variable {X : Cx}
theorem dnH_of {pins : List (Addr × Obj)} {σ : L2.St} {H : Hp} {s : Shared} {a : Addr} {xs : List NEnt} {ks : List D} (I : Inv X pins σ H s) (h : H a = some (dnH X.w a xs)) (hk : KeysN H xs ks) : (a == sysModules) = false ∧ xs.length ≤ sizeLine ∧ s.heap.DictOfH (nestedKind X.prog X.w) a xs := by
  obtain ⟨⟨h1, h2, h3, o, es, ep, e, z, q, hl⟩, _, _⟩ := I.hok a _ h
  exact ⟨h1, h2, o, es, ep, e, z, q, hl, hk.is I.hok, h3⟩
end
end Dl

set_option Elab.async false
set_option linter.all false
set_option maxRecDepth 100000
set_option maxHeartbeats 2000000
/-! DL37: the mirrors of such dicts. -/
namespace Dl
open PySem PySem.Spec PyProof.Rows L2
section
variable {K : PySem.W.Frag} {mg : MG} {H : Hp}
theorem Rp.dn_inv {v : V} {o : Bool} {ks ds : List D} (h : Rp K mg H v (.dic o .n ks ds)) : ∃ a xs vs, v = .ref a ∧ H a = some (dnH mg.w a xs) ∧ KeysN H xs ks ∧ Vals vs (xs.map (fun (x : NEnt) => x.2.2)) ∧ RpL K mg H vs ds := by
  cases h with
  | dn e q r l => exact ⟨_, _, _, rfl, e, q, r, l⟩
theorem nkAt_ref {v : V} {q : D} (r : Rp K mg H v q) (h : nkOk q = true) : ∃ b k, v = .ref b ∧ q.nk = some k ∧ k.depth ≤ 8 ∧ NkAt H (.ref b) q k := by
  obtain ⟨k, h1, h2⟩ := nkOk_of h
  have n := r.nkAt h1
  cases q with
  | tup ds =>
    obtain ⟨b, xs, rfl, _⟩ := Rp.tup_inv r
    exact ⟨b, k, rfl, h1, h2, n⟩
  | _ => simp [nkOk] at h
end
section
variable {F : Fm} {fk : PM} {i : Nat}
end
section
variable {X : Cx} {vs0 : List V} {fa fb : PM} {a b : Expr} {pos p : Pos} {i : Nat} {x : Str}
end
end Dl

set_option Elab.async false
set_option linter.all false
set_option maxRecDepth 100000
set_option maxHeartbeats 2000000
/-! DL38: sorted of a tuple of texts. -/
namespace Dl
open PySem PySem.Spec PyProof.Rows L2
section
variable {prog : Program} {w : World} {A : Around} {E : Value → Shared → Prop} {s : Shared}
end
section
variable {K : PySem.W.Frag} {mg : MG}
end
end Dl

set_option Elab.async false
set_option linter.all false
set_option maxRecDepth 100000
set_option maxHeartbeats 2000000
/-! DL39: slots forgotten. -/
namespace Dl
open PySem PySem.Spec PyProof.Rows L2

/-- behind it these slots are forgotten -/
def sWp (vs : List Nat) (b : SM) : SM := fun ρ => match b ρ with
  | some (fl, ρ1) => some (fl, wipeD ρ1 vs)
  | none => none
section
variable {F : Fm} {X : Cx} {vs0 : List V} {W : WX}
theorem At.forgetA {σ : L2.St} {H : Hp} {ρ : DEnv} {ts : List Rt} (a : At F σ H ρ ts) (i : Nat) : At F σ H (ρ.set i none) ts := by
  obtain ⟨xs, p⟩ := slotR_forget σ ρ i
  have s1 : Sim F.K F.mg H (xs ++ (slotR σ (ρ.set i none) ++ ts)) := a.sim.perm ((p.append_right _).trans (by rw [List.append_assoc]))
  exact a.away s1.drop
theorem At.forgetL {σ : L2.St} {H : Hp} {ρ : DEnv} {ts : List Rt} (a : At F σ H ρ ts) : ∀ vs : List Nat, At F σ H (wipeD ρ vs) ts
  | [] => a
  | v :: vs => by rw [wipeD]; exact (a.forgetL vs).forgetA v
theorem imp_wp {vs : List Nat} {b : SM} : ∀ D σ H, tS F (sWp vs b) D σ H → tS F b D σ H := fun D σ H ⟨ρ, ts, fl, ρ', a, e, k⟩ => by
  unfold sWp at e
  split at e
  · rename_i fl0 ρ0 e0
    cases e
    refine ⟨ρ, ts, fl, ρ0, a, e0, ?_⟩
    cases fl with
    | nx => exact fun σ' H' q => k σ' H' (q.forgetL vs)
    | bk => exact fun σ' H' q => k σ' H' (q.forgetL vs)
    | ct => exact fun σ' H' q => k σ' H' (q.forgetL vs)
    | rt d => exact fun v σ' H' q => k v σ' H' (q.forgetL vs)
    | xc x => exact fun cls d σ' H' q => k cls d σ' H' (q.forgetL vs)
  · cases e
theorem s_wp {vs : List Nat} {e : Stmt} {b : SM} (h : PS X e (tS F b)) : PS X e (tS F (sWp vs b)) := h.imp imp_wp
theorem s_wpB {vs : List Nat} {e : List Stmt} {b : SM} (h : PSs X e (tS F b)) : PSs X e (tS F (sWp vs b)) := h.imp imp_wp
end
end Dl

set_option Elab.async false
set_option linter.all false
set_option maxRecDepth 100000
set_option maxHeartbeats 4000000
/-! DL40: set(list of texts), its length, sorted of it. -/
namespace Dl
open PySem PySem.Spec PyProof.Rows L2

/-- the text of a value -/
def txV : Value → Str
  | .str x _ => x
  | _ => ""
def TxE (w : World) (e : Int × Value) : Prop := ∃ x tk, e.2 = Value.str x tk ∧ e.1 = hashStr w x
/-- at a: the set of the texts l -/
def SxR (w : World) (hp : Heap) (a : Addr) (l : List Str) : Prop :=
  ∃ ob es ep tb, hp.get? a = some ob ∧ ob.ExactSet ∧ ob.data = .set es ep tb ∧ (∀ e ∈ es.toList, TxE w e) ∧ (es.toList.map fun e => txV e.2).Perm l ∧ l.Nodup ∧ es.size < scanBound ∧ tb.fits es.size = true ∧ Ris tb.place.toList ∧
    (w.params.followText "set-order" = true ∨ tb.led = true)
section
variable {P : Program} {w : World} {A : Around} {E : Value → Shared → Prop} {s : Shared} {a : Addr} {l : List Str}
theorem SxR.keep {h1 h2 : Heap} (R : SxR w h1 a l) (k : ∀ o, h1.get? a = some o → h2.get? a = some o) : SxR w h2 a l := by
  obtain ⟨ob, es, ep, tb, e0, r⟩ := R
  exact ⟨ob, es, ep, tb, k ob e0, r⟩
end
end Dl

set_option Elab.async false
set_option linter.all false
set_option maxRecDepth 100000
set_option maxHeartbeats 4000000
/-! DL41: set(tuple of texts); sorted(set(..)), len(set(..)) of texts as data. -/
namespace Dl
open PySem PySem.Spec PyProof.Rows L2
section
variable {P : Program} {w : World} {A : Around} {E : Value → Shared → Prop} {s : Shared} {a : Addr} {l : List Str}
end
section
variable {P : Program} {w : World} {A : Around} {E : Value → Shared → Prop} {s : Shared} {a : Addr} {l : List Str}
end
section
variable {K : PySem.W.Frag} {mg : MG} {w : World}
end
section
variable {X : Cx} {F : Fm} {vs0 : List V} {t : TA} {es : List Expr} {p1 p2 p3 p4 : Pos}
end
end Dl

set_option Elab.async false
set_option linter.all false
set_option maxRecDepth 100000
set_option maxHeartbeats 2000000
/-! DL42: xs[::-1]; d.get(k, x); max(d.values()); range by steps. -/
namespace Dl
open PySem PySem.Spec PyProof.Rows L2

/-! ### a list turned about -/
def opRevL : D → Option D
  | .lst _ ds => if immL ds = true then some (.lst true ds.reverse) else none
  | _ => none
def eRevP (a : PM) : EM := fun ρ => match a ρ with
  | some d => match opRevL d with
    | some d' => some (d', ρ)
    | none => none
  | none => none
def eRevE (a : EM) : EM := fun ρ => match a ρ with
  | some (d, ρ1) => match opRevL d with
    | some d' => some (d', ρ1)
    | none => none
  | none => none
section
variable {F : Fm} {X : Cx} {vs0 : List V} {fa : PM} {ea : EM} {a : Expr} {k : Nat} {p1 p2 p3 pos : Pos}
end

/-! ### range(a, b, c) -/
section
variable {F : Fm} {g : GM} {body : SM} {gt : TG} {ea eb ec : EM} {n : Int → Int → Int → Nat}
end
section
variable {X : Cx} {vs0 : List V} {W : WX} {pos : Pos} {g : GM} {body : SM} {tg : Expr} {bs : List Stmt}
end

/-! ### d.get(k), d.get(k, x) -/
def TyG (w : World) (x : V) (H : Hp) : Prop := ∃ a, x = V.ref a ∧ (IsD H a ∨ ∃ xs, H a = some (dnH w a xs))
def tBMG (w : World) (r : V → List V → Hp → VK → Prop) (to : TE) (t : TA) : TE := fun σ H Q => to σ H fun x H1 => TyG w x H1 ∧ t σ H1 fun xs H2 => r x xs H2 Q
theorem tyG_is {X : Cx} {pins : List (Addr × Obj)} {σ : L2.St} {H : Hp} {s : Shared} {x : V} {v : Value} (I : Inv X pins σ H s) (r : RelV x v) (ty : TyG X.w x H) : s.TypeIs v "dict" ∧ ∀ a, v = .ref a → ∃ ob, s.heap.get? a = some ob ∧ ob.dict = none := by
  obtain ⟨a, rfl, ty⟩ := ty
  obtain rfl : v = Value.ref a := r
  rcases ty with d | ⟨xs, h⟩
  · obtain ⟨t1, t2, _⟩ := isD_at I d
    exact ⟨t1, t2⟩
  · obtain ⟨⟨h1, h2, h3, o, es, ep, e, z, q, hl⟩, _, _⟩ := I.hok a _ h
    exact ⟨⟨o, e, z.1⟩, fun b hb => by cases hb; exact ⟨o, e, z.2.1⟩⟩
section
variable {X : Cx} {o e : Expr} {es : List Expr} {name : Str} {id : String} {apos cpos : Pos} {r : V → List V → Hp → VK → Prop} {to : TE} {t : TA}
theorem pe_bmG (slot : Slot "dict" name id) (hty : typeOf (.builtin id) = pure (.type "method_descriptor")) (hm : MtR X id r) (ho : PE X o to) (ha : PA X (e :: es) t)
    (h1 : attributeBase o name X.env (eval o X.env) = eval o X.env := by rfl)
    (h2 : ((backTo cpos (starEach (e :: es) X.env)).all (fun y => !y.1) && (backToKw cpos (keywordEach [] X.env)).all (fun y => y.1.isSome) && decide ((e :: es).length + ([] : List Keyword).length + (if ([] : List Keyword).isEmpty then 0 else 1) < 30)) = true := by rfl)
    (h3 : (apos.endLine == cpos.line) = true := by rfl) (h4 : starEach (e :: es) X.env = (false, eval e X.env) :: starEach es X.env := by rfl) (h5 : (backTo cpos (starEach es X.env)).any (·.1) = false := by rfl) :
    PE X (.Call (.Attribute o name apos) (e :: es) [] cpos) (tBMG X.w r to t) := by
  constructor
  intro pins s σ H Q I h
  refine wpAny_Call_method_late h1 h2 h3 rfl (thn (ho.run pins s σ H _ I h) fun v z ⟨x, H1, I1, r1, ty, q1⟩ => ?_)
  obtain ⟨t1, t2⟩ := tyG_is I1 r1 ty
  refine ⟨"dict", id, PySem.F.plainAttrs_dict, slot, hty, t1, t2, ?_⟩
  have hA := ha.run cpos pins z σ H1 _ I1 q1
  rw [h4] at hA ⊢
  refine Calls.callWith_builtin (by show (false || (backTo cpos (starEach es X.env)).any (·.1)) = false; rw [h5] <;> rfl) (Calls.evalArgs_plain ?_)
  exact thn hA fun us y ⟨vs, H2, I2, r2, q2⟩ => hm pins y σ H2 x vs v us Q I2 r1 r2 q2
def rGetN (w : World) (a : Addr) (y : V) (z : V) (H : Hp) (Q : VK) : Prop := ∃ (b : Addr) (xs : List NEnt) (ks : List D) (kd : D) (k : NestedKey), y = .ref b ∧ H a = some (dnH w a xs) ∧ KeysN H xs ks ∧ NkAt H (.ref b) kd k ∧ k.depth ≤ 8 ∧
  (match atKey xs k with | some p => ∃ v, RelV v p.2 ∧ Q v H | none => Q z H)
def rGet (w : World) : V → List V → Hp → VK → Prop := fun x vs H Q => ∃ a, x = V.ref a ∧
  ((∃ y o, vs = [y] ∧ DGet H a y o ∧ Q (o.getD .non) H) ∨ (∃ y z o, vs = [y, z] ∧ DGet H a y o ∧ Q (o.getD z) H) ∨ (∃ y, vs = [y] ∧ rGetN w a y .non H Q) ∨ (∃ y z, vs = [y, z] ∧ rGetN w a y z H Q))
theorem mt_get (hu : X.A.units + 65 < cLine) : MtR X "dict.get" (rGet X.w) := by
  intro pins s σ H x vs v us Q I rx rv h
  obtain ⟨a, rfl, h⟩ := h
  obtain rfl : v = Value.ref a := rx
  rcases h with ⟨y, ov, rfl, g, q⟩ | ⟨y, z, ov, rfl, g, q⟩ | ⟨y, rfl, g⟩ | ⟨y, z, rfl, g⟩
  · obtain ⟨u, rfl, ry⟩ := vals1 rv
    exact d_get1 (by omega) I g ry fun w' s' I' rw' => ⟨_, H, I', rw', q⟩
  · cases rv with
    | cons ry rv =>
      obtain ⟨u2, rfl, rz⟩ := vals1 rv
      exact d_get2 (by omega) I g ry rz fun w' s' I' rw' => ⟨_, H, I', rw', q⟩
  · obtain ⟨u, rfl, ry⟩ := vals1 rv
    obtain ⟨b, xs, ks, kd, k, rfl, hd, hk, hb, h8, q⟩ := g
    obtain rfl : u = Value.ref b := ry
    obtain ⟨c1, _, c2⟩ := dnH_of I hd hk
    refine call_meetsIn PySem.F.slot_dict_get c2.typeIs PySem.F.entry_dict_get (PySem.F.args_dict_get_2 _ _) (meetsH_dict_get (nestedKind X.prog X.w) a b c1) ⟨show X.A.units + 1 + 8 < cLine by omega, k, xs, ⟨nk_is I.hok hb rfl, h8⟩, c2, ?_⟩
    cases hz : atKey xs k with
    | none => rw [hz] at q; exact ⟨.non, H, I.tok _, rfl, q⟩
    | some p => rw [hz] at q; obtain ⟨z, rz, q⟩ := q; exact ⟨z, H, I.tok _, rz, q⟩
  · cases rv with
    | cons ry rv =>
      obtain ⟨u2, rfl, rz⟩ := vals1 rv
      obtain ⟨b, xs, ks, kd, k, rfl, hd, hk, hb, h8, q⟩ := g
      obtain rfl : _ = Value.ref b := ry
      obtain ⟨c1, _, c2⟩ := dnH_of I hd hk
      refine call_meetsIn PySem.F.slot_dict_get c2.typeIs PySem.F.entry_dict_get (PySem.F.args_dict_get_3 _ _ _) (meetsH_dict_get_default (nestedKind X.prog X.w) a b c1 u2) ⟨show X.A.units + 1 + 8 < cLine by omega, k, xs, ⟨nk_is I.hok hb rfl, h8⟩, c2, ?_⟩
      cases hz : atKey xs k with
      | none => rw [hz] at q; exact ⟨z, H, I.tok _, rz, q⟩
      | some p => rw [hz] at q; obtain ⟨z2, rz2, q⟩ := q; exact ⟨z2, H, I.tok _, rz2, q⟩
end
/-- d.get(k, x), what is told never changes -/
def opGet (d q x : D) : Option D := match d with
  | .dic _ kd ks vs => if kd = .n then (if nkOk q = true ∧ ks.length = vs.length then (match lookD ks vs q with
      | some v => if v.imm = true then some v else none
      | none => if x.imm = true then some x else none) else none)
    else if keyOk kd q = true then (match lookD ks vs q with
      | some v => if v.imm = true then some v else none
      | none => if x.imm = true then some x else none) else none
  | _ => none
def pGet (a : PM) (l : List PM) : PM := fun ρ => match a ρ, pAll l ρ with
  | some d, some [q] => opGet d q .non
  | some d, some [q, x] => opGet d q x
  | _, _ => none
section
variable {F : Fm} {X : Cx} {vs0 : List V} {fa : PM} {fs : List PM} {K : PySem.W.Frag} {mg : MG}
theorem imm_end {σ : L2.St} {H1 : Hp} {Q : VK} {ρ : DEnv} {ts : List Rt} {x : V} {d : D} (a1 : At F σ H1 ρ ts) (r : Rp F.K F.mg H1 x d) (hi : d.imm = true) (k : ∀ v H', Same H1 H' → Rp F.K F.mg H' v d → Cj F σ ρ ts H' v d → Q v H') : Q x H1 :=
  k x H1 (Same.refl H1) r (Cj.of (a1.imm r hi))
theorem get_core {σ : L2.St} {H : Hp} {Q : VK} {ρ : DEnv} {ts : List Rt} {a : V} {d q x e : D} {y z : V} (a1 : At F σ H ρ ts) (ra : Rp F.K F.mg H a d) (ry : Rp F.K F.mg H y q) (rz : Rp F.K F.mg H z x) (h : opGet d q x = some e)
    (k : ∀ v H', Same H H' → Rp F.K F.mg H' v e → Cj F σ ρ ts H' v e → Q v H') : ∃ b, a = V.ref b ∧ TyG F.mg.w a H ∧ ((∃ o, DGet H b y o ∧ Q (o.getD z) H) ∨ rGetN F.mg.w b y z H Q) := by
  unfold opGet at h
  split at h
  · rename_i o kd ks vs
    split at h
    · rename_i hk
      subst hk
      split at h
      · rename_i hc
        obtain ⟨b, xs, ws, rfl, hd, hks, hv, hl⟩ := ra.dn_inv
        obtain ⟨c, key, rfl, e1, e2, n⟩ := nkAt_ref ry hc.1
        have lk := hks.look e1 hv hl
        refine ⟨b, rfl, ⟨b, rfl, .inr ⟨xs, hd⟩⟩, .inr ⟨c, xs, ks, q, key, rfl, hd, hks, n, e2, ?_⟩⟩
        split at h
        · rename_i v hv2
          rw [hv2] at lk
          obtain ⟨b', u, v2, l1, l2, l3⟩ := lk
          rw [l1]
          split at h
          · rename_i hi
            cases h
            exact ⟨v2, l2, imm_end a1 l3 hi k⟩
          · cases h
        · rename_i hv2
          rw [hv2] at lk
          rw [lk]
          split at h
          · rename_i hi
            cases h
            exact imm_end a1 rz hi k
          · cases h
      · cases h
    · split at h
      · rename_i hq
        obtain ⟨b, r, rfl, g, hr⟩ := dget ra ry hq
        refine ⟨b, rfl, ⟨b, rfl, .inl ?_⟩, .inl ⟨r, g, ?_⟩⟩
        · rcases g with ⟨kvs, kk, g1, _⟩ | ⟨kvs, kk, c, g1, _⟩
          · exact .inl ⟨kvs, g1⟩
          · exact .inr ⟨kvs, g1⟩
        · split at h
          · rename_i v hv2
            rw [hv2] at hr
            obtain ⟨v2, rfl, sb⟩ := hr
            split at h
            · rename_i hi
              cases h
              exact imm_end a1 (ra.sub sb) hi k
            · cases h
          · rename_i hv2
            rw [hv2] at hr
            subst hr
            split at h
            · rename_i hi
              cases h
              exact imm_end a1 rz hi k
            · cases h
      · cases h
  · cases h
end
end Dl

set_option Elab.async false
set_option linter.all false
set_option maxRecDepth 100000
set_option maxHeartbeats 2000000
/-! DL43: dicts with nested keys and values that never change: {k: v}, d[k] = v, d.update(e), list(d); max(d.values()). -/
namespace Dl
open PySem PySem.Spec PyProof.Rows L2
section
variable {K : PySem.W.Frag} {mg : MG} {H H' : Hp}
mutual
theorem NkAt.rp : ∀ {v : V} {d : D} {k : NestedKey}, NkAt H v d k → Rp K mg H v d
  | _, _, _, .non => .non
  | _, _, _, .int i => .int i
  | _, _, _, .str x => .str x
  | _, _, _, .tup e l => .tup e (NkAll.rp l)
theorem NkAll.rp : ∀ {vs : List V} {ds : List D} {ks : List NestedKey}, NkAll H vs ds ks → RpL K mg H vs ds
  | _, _, _, .nil => .nil
  | _, _, _, .cons o l => .cons (NkAt.rp o) (NkAll.rp l)
end
mutual
theorem nk_imm : ∀ {d : D} {k : NestedKey}, d.nk = some k → d.imm = true
  | .non, _, _ => rfl
  | .int _, _, _ => rfl
  | .str _, _, _ => rfl
  | .tup xs, _, h => by
    obtain ⟨ks, h1, _⟩ := nk_tup h
    rw [D.imm]
    exact nkL_imm h1
  | .bl _, _, h => by simp [D.nk] at h
  | .lst _ _, _, h => by simp [D.nk] at h
  | .dic _ _ _ _, _, h => by simp [D.nk] at h
  | .obj _ _ _ _, _, h => by simp [D.nk] at h
  | .scr _, _, h => by simp [D.nk] at h
  | .exn _ _ _, _, h => by simp [D.nk] at h
  | .ptr _, _, h => by simp [D.nk] at h
  | .lat _ _, _, h => by simp [D.nk] at h
  | .dlk _ _ _, _, h => by simp [D.nk] at h
theorem nkL_imm : ∀ {ds : List D} {ks : List NestedKey}, nkL ds = some ks → immL ds = true
  | [], _, _ => rfl
  | d :: ds, _, h => by
    obtain ⟨k, r, h1, h2, _⟩ := nkL_cons h
    rw [immL, nk_imm h1, nkL_imm h2]
    rfl
end
theorem KeysN.rp {xs : List NEnt} {ks : List D} (h : KeysN H xs ks) : RpL K mg H (xs.map fun x => V.ref x.2.1) ks ∧ immL ks = true := by
  induction h with
  | nil => exact ⟨.nil, rfl⟩
  | cons h1 h2 _ ih => exact ⟨.cons h1.rp ih.1, by rw [immL, nk_imm h1.nk, ih.2]; rfl⟩
mutual
theorem Rp.lift (hs : ∀ a xs, H a = some (.tup xs) → H' a = some (.tup xs)) : ∀ {v : V} {d : D}, Rp K mg H v d → d.imm = true → Rp K mg H' v d
  | _, _, .non, _ => .non
  | _, _, .bl b, _ => .bl b
  | _, _, .int i, _ => .int i
  | _, _, .str x, _ => .str x
  | _, _, .tup z l, h => .tup (hs _ _ z) (RpL.lift hs l (by simpa [D.imm] using h))
  | _, _, .lst _ _, h => by simp [D.imm] at h
  | _, _, .dk _ _ _, h => by simp [D.imm] at h
  | _, _, .dt _ _ _, h => by simp [D.imm] at h
  | _, _, .obj _ _ _ _, h => by simp [D.imm] at h
  | _, _, .scr _, h => by simp [D.imm] at h
  | _, _, .exn _ _ _ _ _, h => by simp [D.imm] at h
  | _, _, .ptr _, h => by simp [D.imm] at h
  | _, _, .lat _ _, h => by simp [D.imm] at h
  | _, _, .dlk _ _ _ _, h => by simp [D.imm] at h
  | _, _, .dn _ _ _ _, h => by simp [D.imm] at h
theorem RpL.lift (hs : ∀ a xs, H a = some (.tup xs) → H' a = some (.tup xs)) : ∀ {vs : List V} {ds : List D}, RpL K mg H vs ds → immL ds = true → RpL K mg H' vs ds
  | _, _, .nil, _ => .nil
  | _, _, .cons o l, h => by
    simp only [immL, Bool.and_eq_true] at h
    exact .cons (Rp.lift hs o h.1) (RpL.lift hs l h.2)
end
end
section
variable {F : Fm} {fk : PM} {i j : Nat}
end
section
variable {X : Cx} {vs0 : List V} {fa fb : PM} {a b : Expr} {pos p : Pos} {i j : Nat} {x y : Str}
end

/-! ### {k: v} -/
section
variable {X : Cx} {F : Fm} {vs0 : List V} {fk : PM} {ev : EM} {k v : Expr} {pos : Pos}
end
section
variable {X : Cx} {F : Fm} {vs0 : List V} {fk : PM} {ev : EM} {k v : Expr} {pos : Pos}
end

/-! ### d.update(e) -/
section
variable {F : Fm} {i j : Nat}
end
section
variable {X : Cx} {vs0 : List V} {i j : Nat} {x y : Str} {p q apos pos : Pos}
end

/-! ### list(d) -/
section
variable {K : PySem.W.Frag} {mg : MG}
end

/-! ### len(d) -/
section
variable {K : PySem.W.Frag} {mg : MG}
end
end Dl

set_option Elab.async false
set_option linter.all false
set_option maxRecDepth 100000
set_option maxHeartbeats 2000000
/-! DL44: max(d.values()), d of numbers; loops over the keys of a dict with nested keys; such a dict of pairs. -/
namespace Dl
open PySem PySem.Spec PyProof.Rows L2
section
variable {X : Cx}
variable {o : Expr} {p pos apos mpos : Pos} {td : TE}
end
section
variable {F : Fm} {i : Nat}
end
end Dl

set_option Elab.async false
set_option linter.all false
set_option maxRecDepth 100000
set_option maxHeartbeats 2000000
/-! DL45: a part of a row lent to a call; a list lent to a loop. -/
namespace Dl
open PySem PySem.Spec PyProof.Rows L2

section
variable {X : Cx} {F : Fm} {vs0 : List V} {r : AM} {i k : Nat}
end

/-! ### a list lent to a loop: a parameter, never stored to -/
section
variable {F : Fm} {g : GM} {body : SM} {gt : TG} {i : Nat}
end
section
variable {X : Cx} {vs0 : List V} {W : WX} {pos p : Pos} {g : GM} {body : SM} {tg : Expr} {bs : List Stmt}
end
end Dl

set_option Elab.async false
set_option linter.all false
set_option maxRecDepth 100000
set_option maxHeartbeats 2000000
/-! DL46: a part of a row that a call gives, taken out of it. -/
namespace Dl
open PySem PySem.Spec PyProof.Rows L2
section
variable {K : PySem.W.Frag} {mg : MG} {H : Hp}
end
section
variable {F : Fm} {ea : EM} {k : Nat}
end
end Dl

set_option Elab.async false
set_option linter.all false
set_option maxRecDepth 100000
set_option maxHeartbeats 2000000
/-! DL47: comprehensions over the keys of a dict in a slot, which is read-only from there. -/
namespace Dl
open PySem PySem.Spec PyProof.Rows L2
section
variable {F : Fm} {g : GM} {t : BM} {e : EM} {vs : List Nat} {gt : TG} {td : TE}
end
section
variable {X : Cx} {vs0 : List V} {W : WX} {pos : Pos} {g : GM} {t : BM} {e : EM} {tg elt : Expr} {ifs : List Expr} {scope : Scope} {own : List (Str × Nat)} {gt : TG}
end
end Dl

set_option Elab.async false
set_option linter.all false
set_option maxRecDepth 100000
set_option maxHeartbeats 2000000
/-! DL48: dict([(key, value), ..]) with nested keys and values that stay. -/
namespace Dl
open PySem PySem.Spec PyProof.Rows L2
section
variable {X : Cx}
end
section
variable {K : PySem.W.Frag} {mg : MG}
end
end Dl

set_option Elab.async false
set_option linter.all false
set_option maxRecDepth 100000
set_option maxHeartbeats 2000000
/-! DL49: comprehensions in the block of a comprehension. -/
namespace Dl
open PySem PySem.Spec PyProof.Rows L2
end Dl

set_option Elab.async false
set_option linter.all false
set_option maxRecDepth 100000
set_option maxHeartbeats 2000000
/-! DL50: xs.index(y), y among the list's values. -/
namespace Dl
open PySem PySem.Spec PyProof.Rows L2
section
variable {F : Fm} {X : Cx} {vs0 : List V} {fa fb : PM}
end
end Dl

set_option Elab.async false
set_option linter.all false
set_option maxRecDepth 100000
set_option maxHeartbeats 2000000
/-! DL51: ==, != of dicts whose keys are numbers or texts: alike, or not of one length. -/
namespace Dl
open PySem PySem.Spec PyProof.Rows L2
section
variable {X : Cx}
end
section
variable {K : PySem.W.Frag} {mg : MG}
end
end Dl

set_option Elab.async false
set_option linter.all false
set_option maxRecDepth 100000
set_option maxHeartbeats 2000000
/-! DL52: is True, is False. -/
namespace Dl
open PySem PySem.Spec PyProof.Rows L2
section
variable {K : PySem.W.Frag} {mg : MG}
end
end Dl

set_option Elab.async false
set_option linter.all false
set_option maxRecDepth 100000
set_option maxHeartbeats 2000000
/-! DL53: the keys of a dict with nested keys, one by one, in a comprehension; the dict is out of reach meanwhile. -/
namespace Dl
open PySem PySem.Spec PyProof.Rows L2
section
variable {X : Cx} {pins : List (Addr × Obj)} {σ : L2.St} {H : Hp} {s : Shared} {d : Addr} {o : Obj}
end
section
variable {P : Program} {w : World} {K : PySem.W.Frag} {tg : Expr} {d : Addr} {o : Obj} {es : Array DictEntry} {ep : Nat}
end
section
variable {F : Fm} {g : GM} {t : BM} {e : EM} {vs : List Nat} {gt : TG} {td : TE}
end
section
variable {X : Cx} {vs0 : List V} {W : WX} {pos : Pos} {g : GM} {t : BM} {e : EM} {tg elt : Expr} {ifs : List Expr} {scope : Scope} {own : List (Str × Nat)} {gt : TG}
end
end Dl

set_option Elab.async false
set_option linter.all false
set_option maxRecDepth 100000
set_option maxHeartbeats 2000000
/-! DL54: a list of a dict that has a name of its own for a while; min(d); d.pop(k); d.setdefault(k, []).append(x). -/
namespace Dl
open PySem PySem.Spec PyProof.Rows L2

/-! ### the list at a -/
section
variable {K : PySem.W.Frag} {mg : MG} {H : Hp}
theorem Sim.alias {x : V} {ds : List D} {rs : List Rt} (s : Sim K mg H (.v x (.lst true ds) :: rs)) : ∃ a, x = .ref a ∧ Sim K mg H (.v (.ref a) (.ptr a) :: .v (.ref a) (.lat a ds) :: rs) := by
  obtain ⟨Hs, fp, sb, o, n⟩ := s
  cases o with
  | v o l =>
    cases o with
    | lstO e h q => exact ⟨_, rfl, Hs, _, sb, .v (f1 := []) (.ptr _) (.v (.lat e h q) l), n⟩
end
section
variable {F : Fm} {σ : L2.St} {H : Hp} {ρ : DEnv} {ts : List Rt} {j : Nat} {a : Addr} {ds : List D}
end
section
variable {F : Fm} {X : Cx} {vs0 : List V} {j : Nat} {f : EM} {g : BM} {e : Expr}
end

/-! ### row = rows[k], and what follows -/
section
variable {F : Fm} {X : Cx} {vs0 : List V} {W : WX} {i j : Nat} {fk : PM} {S : SM}
end

/-! ### d.pop(k) -/
section
variable {F : Fm} {X : Cx} {vs0 : List V} {i : Nat} {fk : PM}
end

/-! ### min(d), keys numbers -/
end Dl

set_option Elab.async false
set_option linter.all false
set_option maxRecDepth 100000
set_option maxHeartbeats 2000000
/-! DL55: rows.setdefault(k, []).append(x). -/
namespace Dl
open PySem PySem.Spec PyProof.Rows L2

section
variable {F : Fm} {σ : L2.St} {H : Hp} {ρ ρ2 : DEnv} {ts : List Rt} {i j : Nat} {q d : D} {z v : V} {fk fx : PM} {Q : VK}
end
end Dl

set_option Elab.async false
set_option linter.all false
set_option maxRecDepth 100000
set_option maxHeartbeats 2000000
/-! DL56: a slice of what a call gives; sorted(d). -/
namespace Dl
open PySem PySem.Spec PyProof.Rows L2
section
variable {X : Cx} {vs0 : List V} {pos p2 : Pos} {ea : EM} {flo fhi : Option PM} {a : Expr} {lo hi : Option Expr}
end
section
variable {K : PySem.W.Frag} {mg : MG}
end
/-- a, b = x, y -/
def sPar (i j : Nat) (am : AM) : SM := fun ρ => match am ρ with
  | some (as, ρ1) => match valsA as with
    | some [a, b] => some (.nx, (ρ1.set i (some a)).set j (some b))
    | _ => none
  | none => none
section
variable {F : Fm} {am : AM} {i j : Nat}
theorem imp_par (hpi : F.vs0.length ≤ i) (hi : i < F.n) (hpj : F.vs0.length ≤ j) (hj : j < F.n) : ∀ D' σ H, tS F (sPar i j am) D' σ H → tPar i j (tA F am) D' σ H := fun D' σ H ⟨ρ, ts, fl, ρ', a, e, k⟩ => by
  unfold sPar at e
  split at e
  · rename_i as ρ1 ha
    split at e
    · rename_i d1 d2 hv
      cases e
      refine ⟨ρ, ts, as, _, a, ha, fun vs H1 tm ar a1 => ?_⟩
      obtain ⟨h1, rfl⟩ := argsR_vals ar hv
      match vs, h1, a1 with
      | [v, w], _, a1 => exact ⟨v, w, rfl, k _ _ ((a1.store hpi hi).store hpj hj)⟩
    · cases e
  · cases e
end
section
variable {X : Cx} {vs0 : List V} {W : WX} {am : AM}
theorem s_par {x y : Str} {a b : Expr} {px py pt pos : Pos} {kt k2 pt2} (i j : Nat) (hpi : vs0.length ≤ i) (hpj : vs0.length ≤ j) (hij : i ≠ j) (hc : X.calm = true) (hN : X.N.Nodup) (ha : PA X [a, b] (tA (fm X vs0) am)) (hi : X.N[i]? = some x := by rfl) (hj : X.N[j]? = some y := by rfl)
    (hx : X.env.scope.names.lookup x = some .local := by rfl) (hy : X.env.scope.names.lookup y = some .local := by rfl)
    (hw : swappedStores [.Tuple [.Name x px, .Name y py] kt pt] (.Tuple [a, b] k2 pt2) X.env = pure (some [x, y]) := by rfl)
    (hs : swapsWithSole [.Tuple [.Name x px, .Name y py] kt pt] (.Tuple [a, b] k2 pt2) pos.line X.env = pure false := by rfl) :
    PS X (.Assign [.Tuple [.Name x px, .Name y py] kt pt] (.Tuple [a, b] k2 pt2) pos) (tS (fmW X vs0 W) (sPar i j am)) :=
  (ps_par hc hN hi hj hij hx hy ha hw hs).imp (imp_par (F := fmW X vs0 W) hpi (List.getElem?_eq_some_iff.mp hi).1 hpj (List.getElem?_eq_some_iff.mp hj).1)
end
end Dl

set_option Elab.async false
set_option linter.all false
set_option maxRecDepth 100000
set_option maxHeartbeats 2000000
/-! DL57: a list at a place, walked while it lies aside; its place holds its address meanwhile. -/
namespace Dl
open PySem PySem.Spec PyProof.Rows L2
section
variable {K : PySem.W.Frag} {mg : MG} {H : Hp}
end
section
variable {F : Fm} {σ : L2.St} {H : Hp} {ρ : DEnv} {ts : List Rt} {i : Nat} {p : List PStep} {d0 d2 d3 : D} {ds : List D} {x z : V} {az : Addr}
theorem aside (a : At F σ H ρ ts) (e0 : ρ.getD i none = some d0) (e1 : getP p d0 = some (.lst true ds)) (hx : σ[i]? = some (some x)) (pt : PathTo H x d0 p z) :
    ∃ az, z = .ref az ∧ ∀ d0', putP p d0 (.ptr az) = some d0' → At F σ H (ρ.set i (some d0')) (.v (.ref az) (.lat az ds) :: ts) := by
  obtain ⟨x', hx', s2⟩ := a.slot (getD_some e0)
  rw [hx] at hx'
  cases hx'
  obtain ⟨cs, s3, back⟩ := focus s2 pt e1
  obtain ⟨az, rfl, s4⟩ := s3.alias
  refine ⟨az, rfl, fun d0' hp => ?_⟩
  have s5 : Sim F.K F.mg H (.v (.ref az) (.ptr az) :: (cs ++ (.v (.ref az) (.lat az ds) :: (slotR σ (ρ.set i none) ++ ts)))) := s4.perm (List.Perm.cons _ List.perm_middle.symm)
  have s6 := back H (.ptr az) d0' _ hp s5
  refine At.back a hx (s6.perm (List.Perm.cons _ ?_))
  exact List.perm_middle.symm
end
section
variable {F : Fm} {g : GM} {t : BM} {e : EM} {vs : List Nat} {body : SM} {gt : TG} {fl : LM}
/-! ### used -/
end
section
variable {X : Cx} {vs0 : List V} {W : WX} {pos : Pos} {g : GM} {t : BM} {e : EM} {body : SM} {tg l elt : Expr} {bs : List Stmt} {ifs : List Expr} {scope : Scope} {own : List (Str × Nat)} {gt : TG} {fl : LM}
end
end Dl

set_option Elab.async false
set_option linter.all false
set_option maxRecDepth 100000
set_option maxHeartbeats 2000000
/-! DL58: dicts with nested keys at places: a store, a list of one made longer, a list of one read; dict([(k, []), ..]). -/
namespace Dl
open PySem PySem.Spec PyProof.Rows L2

/-! ### x[k] = v, x a place -/
section
variable {F : Fm} {fl : LM} {fk : PM}
end
section
variable {X : Cx} {vs0 : List V} {fl : LM} {fb : PM} {a b : Expr} {pos : Pos}
end

/-! ### a value of a dict with nested keys at a place -/
section
variable {K : PySem.W.Frag} {mg : MG} {H : Hp}
end
section
variable {F : Fm} {fl : LM} {fk fy : PM}
end
section
variable {K : PySem.W.Frag} {mg : MG} {H : Hp}
end
section
variable {F : Fm} {fl : LM} {fk : PM}
end
section
variable {X : Cx} {vs0 : List V} {fl : LM} {fk fy : PM} {a b : Expr} {pos : Pos}
end

/-! ### dict([(k, v), ..]), the keys all different, the values handed over -/
section
variable {K : PySem.W.Frag} {mg : MG} {H : Hp}
end
section
variable {F : Fm} {am : AM}
end
end Dl

set_option Elab.async false
set_option linter.all false
set_option maxRecDepth 100000
set_option maxHeartbeats 2000000
/-! DL59: is a dict with nested keys empty; a part of a local object handed on; methods of what is read-only. -/
namespace Dl
open PySem PySem.Spec PyProof.Rows L2

/-! ### d == {} -/
section
variable {prog : Program} {w : World} {A : Around} {E : Value → Shared → Prop} {s : Shared}
end
section
variable {X : Cx}
end
section
variable {F : Fm} {fa : PM}
end
section
variable {X : Cx} {vs0 : List V} {fa : PM} {a : Expr} {pos p2 : Pos}
end

/-! ### a part of a slot's value handed on, the rest forgotten -/
section
variable {F : Fm} {fl : LM}
end
/-! ### methods of what is read-only -/
section
variable {F : Fm} {m : FnM} {c mn : Str} {fa : PM} {am : AM} {C : Addr} {E : XK}
end
section
variable {X : Cx} {vs0 : List V} {k j : Nat} {c mn : Str} {m : FnM} {fa : PM} {am : AM} {o e : Expr} {es : List Expr} {apos pos : Pos} {pl : Sem Bool}
end
end Dl

set_option Elab.async false
set_option linter.all false
set_option maxRecDepth 100000
set_option maxHeartbeats 2000000
/-! DL60: loops over zip(a, b), two lists; a slice of a row, of which the rest is dropped. -/
namespace Dl
open PySem PySem.Spec PyProof.Rows L2
section
variable {F : Fm} {g : GM} {body : SM} {gt : TG} {am : AM}
end
section
variable {X : Cx} {vs0 : List V} {W : WX} {pos tpos : Pos} {g : GM} {body : SM} {elts : List Expr} {kk : Nat} {bs : List Stmt} {am : AM}
end
/-! ### e[lo:hi], a row: what is left out is dropped -/
section
variable {X : Cx} {vs0 : List V} {pos p2 : Pos} {ea : EM} {flo fhi : Option PM} {a : Expr} {lo hi : Option Expr}
end
end Dl

set_option Elab.async false
set_option linter.all false
set_option maxRecDepth 100000
set_option maxHeartbeats 2000000
/-! DL61: an owned dict with nested keys, walked while it is read. -/
namespace Dl
open PySem PySem.Spec PyProof.Rows L2
mutual
/-- does anything in it lean on the locked place a -/
def hasD (a : Addr) : D → Bool
  | .tup xs => hasDL a xs
  | .lst _ xs => hasDL a xs
  | .dic _ _ _ vs => hasDL a vs
  | .obj _ _ _ vs => hasDL a vs
  | .exn _ _ vs => hasDL a vs
  | .lat _ xs => hasDL a xs
  | .dlk b _ vs => decide (b = a) || hasDL a vs
  | _ => false
def hasDL (a : Addr) : List D → Bool
  | [] => false
  | d :: ds => hasD a d || hasDL a ds
end
mutual
theorem imm_noD (a : Addr) : ∀ d : D, d.imm = true → hasD a d = false
  | .non, _ => rfl
  | .bl _, _ => rfl
  | .int _, _ => rfl
  | .str _, _ => rfl
  | .tup xs, h => immL_noD a xs (by simpa [D.imm] using h)
  | .lst _ _, h => by simp [D.imm] at h
  | .dic _ _ _ _, h => by simp [D.imm] at h
  | .obj _ _ _ _, h => by simp [D.imm] at h
  | .scr _, h => by simp [D.imm] at h
  | .exn _ _ _, h => by simp [D.imm] at h
  | .ptr _, h => by simp [D.imm] at h
  | .lat _ _, h => by simp [D.imm] at h
  | .dlk _ _ _, h => by simp [D.imm] at h
theorem immL_noD (a : Addr) : ∀ ds : List D, immL ds = true → hasDL a ds = false
  | [], _ => rfl
  | d :: ds, h => by
    simp only [immL, Bool.and_eq_true] at h
    rw [hasDL, imm_noD a d h.1, immL_noD a ds h.2]; rfl
end
open Classical in
noncomputable def hasR (a : Addr) : Rt → Bool
  | .v _ d => hasD a d
  | .p b _ => decide (b = a)
  | .z P => !decide (∀ (Hs H : Hp) (f : List Addr), P Hs H f → (∃ od u, Hs a = some (.frz od u)) → P (fun b => if b = a then none else Hs b) H f)
  | _ => false
section
variable {K : PySem.W.Frag} {mg : MG} {Hs H : Hp} {a : Addr}
mutual
theorem Own.noD (hz : Hs a = none) : ∀ {v : V} {d : D} {fp : List Addr}, Own K mg Hs H v d fp → hasD a d = false
  | _, _, _, .non => rfl
  | _, _, _, .bl _ => rfl
  | _, _, _, .int _ => rfl
  | _, _, _, .str _ => rfl
  | _, _, _, .tup _ l => OwnL.noD hz l
  | _, _, _, .lstF _ l => OwnL.noD hz l
  | _, _, _, .lstO _ _ l => OwnL.noD hz l
  | _, _, _, .dkF _ _ l => OwnL.noD hz l
  | _, _, _, .dkO _ _ _ l => OwnL.noD hz l
  | _, _, _, .dtF _ _ l => OwnL.noD hz l
  | _, _, _, .dtO _ _ _ l => OwnL.noD hz l
  | _, _, _, .dnF _ _ _ l => OwnL.noD hz l
  | _, _, _, .dnO _ _ _ _ l => OwnL.noD hz l
  | _, _, _, .objF _ _ _ l => OwnL.noD hz l
  | _, _, _, .objO _ _ _ _ l => OwnL.noD hz l
  | _, _, _, .scr _ => rfl
  | _, _, _, .exn _ _ _ _ l => OwnL.noD hz l
  | _, _, _, .ptr _ => rfl
  | _, _, _, .lat _ _ l => OwnL.noD hz l
  | _, _, _, .dlk e _ _ l => by
    rw [hasD, OwnL.noD hz l, Bool.or_false, decide_eq_false]
    intro z
    subst z
    rw [hz] at e
    cases e
theorem OwnL.noD (hz : Hs a = none) : ∀ {vs : List V} {ds : List D} {fp : List Addr}, OwnL K mg Hs H vs ds fp → hasDL a ds = false
  | _, _, _, .nil => rfl
  | _, _, _, .cons o l => by rw [hasDL, Own.noD hz o, OwnL.noD hz l]; rfl
end
theorem OwnR.noD (hz : Hs a = none) {rs : List Rt} {fp : List Addr} (h : OwnR K mg Hs H rs fp) : ∀ r ∈ rs, hasR a r = false := by
  induction h with
  | nil => intro r hr; nomatch hr
  | v o _ ih => intro r hr; rcases List.mem_cons.mp hr with rfl | hr; exact o.noD hz; exact ih r hr
  | c _ _ _ _ ih => intro r hr; rcases List.mem_cons.mp hr with rfl | hr; rfl; exact ih r hr
  | h _ _ _ _ ih => intro r hr; rcases List.mem_cons.mp hr with rfl | hr; rfl; exact ih r hr
  | t _ _ ih => intro r hr; rcases List.mem_cons.mp hr with rfl | hr; rfl; exact ih r hr
  | p e _ ih =>
    intro r hr
    rcases List.mem_cons.mp hr with rfl | hr
    · show decide (_ = a) = false
      exact decide_eq_false fun z => by subst z; rw [hz] at e; cases e
    · exact ih r hr
  | z o q _ ih =>
    intro r hr
    rcases List.mem_cons.mp hr with rfl | hr
    · simp only [hasR, Bool.not_eq_false', decide_eq_true_eq]
      exact fun Hs' H' f' h hf => q.lean o hz h hf
    · exact ih r hr
/-- without the place -/
def rmH (H : Hp) (a : Addr) : Hp := fun b => if b = a then none else H b
theorem rm_ne {b : Addr} {o : HO} {f : Obj} {u : HO} (ha : Hs a = some (.frz f u)) (h : Hs b = some o) (hn : ∀ f u, o ≠ .frz f u) : rmH Hs a b = some o := by
  unfold rmH
  rw [if_neg]
  · exact h
  · intro z
    subst z
    rw [ha] at h
    cases h
    exact hn _ _ rfl
theorem rm_none {b : Addr} (h : Hs b = none) : rmH Hs a b = none := by
  unfold rmH
  split
  · rfl
  · exact h
theorem SqL.rm {f : Obj} {u : HO} {b : Addr} {xs : List V} (ha : Hs a = some (.frz f u)) (hu : ∀ ys, u ≠ .lst ys) (h : SqL K Hs b xs) : SqL K (rmH Hs a) b xs := by
  rcases h with (h | ⟨o, h⟩) | h
  · exact .inl (.inl (rm_ne ha h fun _ _ z => by cases z))
  · refine .inl (.inr ⟨o, ?_⟩)
    unfold rmH
    rw [if_neg]
    · exact h
    · intro z
      subst z
      rw [ha] at h
      cases h
      exact hu _ rfl
  · exact .inr h
variable {f : Obj} {w : World} {zs : List NEnt}
mutual
theorem Own.rm (ha : Hs a = some (.frz f (dnH w a zs))) : ∀ {v : V} {d : D} {fp : List Addr}, Own K mg Hs H v d fp → hasD a d = false → Own K mg (rmH Hs a) H v d fp
  | _, _, _, .non, _ => .non
  | _, _, _, .bl b, _ => .bl b
  | _, _, _, .int i, _ => .int i
  | _, _, _, .str x, _ => .str x
  | _, _, _, .tup e l, h => .tup (rm_ne ha e fun _ _ z => by cases z) (OwnL.rm ha l h)
  | _, _, _, .lstF e l, h => .lstF (rm_ne ha e fun _ _ z => by cases z) (OwnL.rm ha l h)
  | _, _, _, .lstO e n l, h => .lstO e (rm_none n) (OwnL.rm ha l h)
  | _, _, _, .dkF e q l, h => .dkF (rm_ne ha e fun _ _ z => by cases z) q (OwnL.rm ha l h)
  | _, _, _, .dkO e n q l, h => .dkO e (rm_none n) q (OwnL.rm ha l h)
  | _, _, _, .dtF e q l, h => .dtF (rm_ne ha e fun _ _ z => by cases z) q (OwnL.rm ha l h)
  | _, _, _, .dtO e n q l, h => .dtO e (rm_none n) q (OwnL.rm ha l h)
  | _, _, _, .dnF e q r l, h => .dnF (rm_ne ha e fun _ _ z => by cases z) (q.lift fun _ _ z => rm_ne ha z fun _ _ z => by cases z) r (OwnL.rm ha l h)
  | _, _, _, .dnO e n q r l, h => .dnO e (rm_none n) (q.lift fun _ _ z => rm_ne ha z fun _ _ z => by cases z) r (OwnL.rm ha l h)
  | _, _, _, .objF g e q l, h => .objF g (rm_ne ha e fun _ _ z => by cases z) q (OwnL.rm ha l h)
  | _, _, _, .objO g e n q l, h => .objO g e (rm_none n) q (OwnL.rm ha l h)
  | _, _, _, .scr e, _ => .scr (SqL.rm ha (fun _ z => by cases z) e)
  | _, _, _, .exn (d := d) g e x q l, h => .exn g (rm_ne ha e fun _ _ z => by cases z) (by
      cases d with
      | none => exact x
      | some dd => exact rm_ne ha x fun _ _ z => by cases z) q (OwnL.rm ha l h)
  | _, _, _, .ptr b, _ => .ptr b
  | _, _, _, .lat e n l, h => .lat e (rm_none n) (OwnL.rm ha l h)
  | _, _, _, .dlk (a := b) e q r l, h => by
    rw [hasD, Bool.or_eq_false_iff] at h
    have hb : ¬ b = a := of_decide_eq_false h.1
    exact .dlk (by unfold rmH; rw [if_neg hb]; exact e) (q.lift fun _ _ z => rm_ne ha z fun _ _ z => by cases z) r (OwnL.rm ha l h.2)
theorem OwnL.rm (ha : Hs a = some (.frz f (dnH w a zs))) : ∀ {vs : List V} {ds : List D} {fp : List Addr}, OwnL K mg Hs H vs ds fp → hasDL a ds = false → OwnL K mg (rmH Hs a) H vs ds fp
  | _, _, _, .nil, _ => .nil
  | _, _, _, .cons o l, h => by
    rw [hasDL, Bool.or_eq_false_iff] at h
    exact .cons (Own.rm ha o h.1) (OwnL.rm ha l h.2)
end
theorem OwnR.rm (ha : Hs a = some (.frz f (dnH w a zs))) {rs : List Rt} {fp : List Addr} (h : OwnR K mg Hs H rs fp) : (∀ r ∈ rs, hasR a r = false) → OwnR K mg (rmH Hs a) H rs fp := by
  induction h with
  | nil => intro _; exact .nil
  | v o _ ih => intro k; exact .v (o.rm ha (k _ List.mem_cons_self)) (ih fun r hr => k r (List.mem_cons_of_mem _ hr))
  | c e n t _ ih => intro k; exact .c e (rm_none n) t (ih fun r hr => k r (List.mem_cons_of_mem _ hr))
  | h e n t _ ih => intro k; exact .h e (rm_ne ha n fun _ _ z => by subst z; cases t) t (ih fun r hr => k r (List.mem_cons_of_mem _ hr))
  | t e _ ih => intro k; exact .t (rm_ne ha e fun _ _ z => by cases z) (ih fun r hr => k r (List.mem_cons_of_mem _ hr))
  | @p b o fp' rs' e _ ih =>
    intro k
    have hb : ¬ b = a := of_decide_eq_false (k _ List.mem_cons_self)
    exact .p (by unfold rmH; rw [if_neg hb]; exact e) (ih fun r hr => k r (List.mem_cons_of_mem _ hr))
  | z o q _ ih =>
    intro k
    have hk := k _ List.mem_cons_self
    simp only [hasR, Bool.not_eq_false', decide_eq_true_eq] at hk
    exact .z (hk _ _ _ o ⟨_, _, ha⟩) q (ih fun r hr => k r (List.mem_cons_of_mem _ hr))
end

/-! ### the loop -/
section
variable {F : Fm} {g : GM} {body : SM} {gt : TG} {td : TE} {i : Nat}
end
section
variable {X : Cx} {vs0 : List V} {W : WX} {pos p : Pos} {g : GM} {body : SM} {tg : Expr} {bs : List Stmt}
end
/-! ### read while it is walked -/
section
variable {X : Cx}
theorem dnH_fz {pins : List (Addr × Obj)} {σ : L2.St} {H : Hp} {s : Shared} {a : Addr} {od : Obj} {xs : List NEnt} {ks : List D} (I : Inv X pins σ H s) (h : H a = some (.frz od (dnH X.w a xs))) (hk : KeysN H xs ks) : (a == sysModules) = false ∧ xs.length ≤ sizeLine ∧ s.heap.DictOfH (nestedKind X.prog X.w) a xs := by
  obtain ⟨hd, ⟨h1, h2, h3, o, es, ep, e, z, q, hl⟩, _⟩ := I.hok a _ h
  exact ⟨h1, h2, o, es, ep, e, z, q, hl, hk.is I.hok, h3⟩
def rInD (w : World) (neg : Bool) : R2 := fun x y H Q => ∃ (a b : Addr) (od : Obj) (xs : List NEnt) (ks : List D) (kd : D) (k : NestedKey), x = .ref b ∧ y = .ref a ∧ H a = some (.frz od (dnH w a xs)) ∧ KeysN H xs ks ∧ NkAt H (.ref b) kd k ∧ k.depth ≤ 8 ∧ Q (.bl (if neg then !(atKey xs k).isSome else (atKey xs k).isSome)) H
theorem op_inD (hu : X.A.units + 65 < cLine) : OpR X (compareOp .In) (rInD X.w false) := by
  intro pins s σ H x y v u Q I rx ry h
  obtain ⟨a, b, od, xs, ks, kd, k, rfl, rfl, hd, hk, hb, h8, q⟩ := h
  obtain rfl : v = Value.ref b := rx
  obtain rfl : u = Value.ref a := ry
  obtain ⟨h1, _, h2⟩ := dnH_fz I hd hk
  exact wpAny_in_heap (knd := nestedKind X.prog X.w) (show X.A.units + 1 + 8 < cLine by omega) ⟨nk_is I.hok hb rfl, h8⟩ h1 h2 ⟨.bl _, H, I.tok _, rfl, by simpa using q⟩
end
section
variable {K : PySem.W.Frag} {mg : MG} {H : Hp}
end
section
variable {X : Cx} {vs0 : List V} {fa fb : PM} {a b : Expr} {pos p : Pos} {i : Nat} {x : Str}
end
end Dl

set_option Elab.async false
set_option linter.all false
set_option maxRecDepth 100000
set_option maxHeartbeats 2000000
/-! DL62: the values of a dict with nested keys, one by one, in a comprehension; such a dict cleared. -/
namespace Dl
open PySem PySem.Spec PyProof.Rows L2

/-! ### d.clear() -/
section
variable {X : Cx} {o : Expr} {name : Str} {id : String} {apos cpos : Pos} {r : V → List V → Hp → VK → Prop} {to : TE}
end
section
variable {K : PySem.W.Frag} {mg : MG}
end
section
variable {X : Cx} {F : Fm} {vs0 : List V} {fl : LM}
end

/-! ### d.values() -/
section
variable {X : Cx} {pins : List (Addr × Obj)} {σ : L2.St} {H : Hp} {s : Shared} {d : Addr} {o : Obj}
end
section
variable {P : Program} {w : World} {K : PySem.W.Frag} {tg : Expr} {d : Addr} {o : Obj} {es : Array DictEntry} {ep : Nat}
end
section
variable {F : Fm} {g : GM} {t : BM} {e : EM} {vs : List Nat} {gt : TG} {i k : Nat}
end
section
variable {X : Cx} {vs0 : List V} {g : GM} {t : BM} {e : EM} {tg elt : Expr} {ifs : List Expr} {scope : Scope} {own : List (Str × Nat)} {gt : TG} {pos : Pos}
end
/-! ### isinstance(d, dict) -/
section
variable {X : Cx} {F : Fm} {vs0 : List V} {fa : PM} {a b : Expr} {pos p : Pos}
end
end Dl

set_option Elab.async false
set_option linter.all false
set_option maxRecDepth 100000
set_option maxHeartbeats 2000000
/-! DL63: ways = [tape, e]: a list that has two names; ways[k] lent. -/
namespace Dl
open PySem PySem.Spec PyProof.Rows L2
section
variable {F : Fm} {X : Cx} {vs0 : List V} {W : WX} {i j : Nat} {e : EM} {ix : PM} {r : AM} {S : SM}
end
end Dl

set_option Elab.async false
set_option linter.all false
set_option maxRecDepth 100000
set_option maxHeartbeats 2000000
/-! DL64: a list at a place, handed to a def that sees it as one that never changes. -/
namespace Dl
open PySem PySem.Spec PyProof.Rows L2

mutual
/-- leans on no list that never changes -/
def D.noF : D → Bool
  | .tup xs => noFL xs
  | .lst o xs => o && noFL xs
  | .dic o _ _ vs => o && noFL vs
  | .obj o _ _ vs => o && noFL vs
  | .non => true
  | .bl _ => true
  | .int _ => true
  | .str _ => true
  | .scr _ => false
  | .exn _ _ _ => false
  | .ptr _ => true
  | .lat _ xs => noFL xs
  | .dlk _ _ _ => false
def noFL : List D → Bool
  | [] => true
  | d :: ds => d.noF && noFL ds
end
mutual
theorem D.noF_imm : ∀ d : D, d.imm = true → d.noF = true
  | .tup xs, h => by rw [D.noF]; exact noFL_imm xs (by simpa [D.imm] using h)
  | .lst _ _, h => by simp [D.imm] at h
  | .dic _ _ _ _, h => by simp [D.imm] at h
  | .obj _ _ _ _, h => by simp [D.imm] at h
  | .scr _, h => by simp [D.imm] at h
  | .non, _ => by simp [D.noF]
  | .exn _ _ _, h => by simp [D.imm] at h
  | .ptr _, h => by simp [D.imm] at h
  | .lat _ _, h => by simp [D.imm] at h
  | .dlk _ _ _, h => by simp [D.imm] at h
  | .bl _, _ => by simp [D.noF]
  | .int _, _ => by simp [D.noF]
  | .str _, _ => by simp [D.noF]
theorem noFL_imm : ∀ ds : List D, immL ds = true → noFL ds = true
  | [], _ => by simp [noFL]
  | d :: ds, h => by
    simp only [immL, Bool.and_eq_true] at h
    simp only [noFL, D.noF_imm d h.1, noFL_imm ds h.2, Bool.and_self]
end
section
variable {K : PySem.W.Frag} {mg : MG} {Hs H : Hp} {a : Addr} {zs : List V}
theorem rmL_ne {b : Addr} {o : HO} (ha : Hs a = some (.lst zs)) (h : Hs b = some o) (hn : ∀ ys, o ≠ .lst ys) : rmH Hs a b = some o := by
  unfold rmH
  rw [if_neg]
  · exact h
  · intro z
    subst z
    rw [ha] at h
    cases h
    exact hn _ rfl
mutual
theorem Own.rmL (ha : Hs a = some (.lst zs)) : ∀ {v : V} {d : D} {fp : List Addr}, Own K mg Hs H v d fp → d.noF = true → Own K mg (rmH Hs a) H v d fp
  | _, _, _, .non, _ => .non
  | _, _, _, .bl b, _ => .bl b
  | _, _, _, .int i, _ => .int i
  | _, _, _, .str x, _ => .str x
  | _, _, _, .tup e l, h => .tup (rmL_ne ha e fun _ z => by cases z) (OwnL.rmL ha l (by simpa [D.noF] using h))
  | _, _, _, .lstF _ _, h => by simp [D.noF] at h
  | _, _, _, .lstO e n l, h => .lstO e (rm_none n) (OwnL.rmL ha l (by simpa [D.noF] using h))
  | _, _, _, .dkF _ _ _, h => by simp [D.noF] at h
  | _, _, _, .dkO e n q l, h => .dkO e (rm_none n) q (OwnL.rmL ha l (by simpa [D.noF] using h))
  | _, _, _, .dtF _ _ _, h => by simp [D.noF] at h
  | _, _, _, .dtO e n q l, h => .dtO e (rm_none n) q (OwnL.rmL ha l (by simpa [D.noF] using h))
  | _, _, _, .dnF _ _ _ _, h => by simp [D.noF] at h
  | _, _, _, .dnO e n q r l, h => .dnO e (rm_none n) (q.lift fun _ _ z => rmL_ne ha z fun _ z => by cases z) r (OwnL.rmL ha l (by simpa [D.noF] using h))
  | _, _, _, .objF _ _ _ _, h => by simp [D.noF] at h
  | _, _, _, .objO g e n q l, h => .objO g e (rm_none n) q (OwnL.rmL ha l (by simpa [D.noF] using h))
  | _, _, _, .scr _, h => by simp [D.noF] at h
  | _, _, _, .exn _ _ _ _ _, h => by simp [D.noF] at h
  | _, _, _, .ptr b, _ => .ptr b
  | _, _, _, .lat e n l, h => .lat e (rm_none n) (OwnL.rmL ha l (by simpa [D.noF] using h))
  | _, _, _, .dlk _ _ _ _, h => by simp [D.noF] at h
theorem OwnL.rmL (ha : Hs a = some (.lst zs)) : ∀ {vs : List V} {ds : List D} {fp : List Addr}, OwnL K mg Hs H vs ds fp → noFL ds = true → OwnL K mg (rmH Hs a) H vs ds fp
  | _, _, _, .nil, _ => .nil
  | _, _, _, .cons o l, h => by
    simp only [noFL, Bool.and_eq_true] at h
    exact .cons (Own.rmL ha o h.1) (OwnL.rmL ha l h.2)
end
def isLst : D → Bool
  | .lst _ _ => true
  | _ => false
theorem OwnL.ne (hz : Hs a = none) : ∀ {vs : List V} {es : List D} {fp : List Addr}, OwnL K mg Hs H vs es fp → a ∉ fp → ∀ (k : Nat) v e, vs[k]? = some v → es[k]? = some e → isLst e = true → v ≠ .ref a
  | _, _, _, .nil, _, k, v, e, h, _, _ => by simp at h
  | _, _, _, .cons o l, hn, 0, v, e, h, h', hl => by
    rw [List.getElem?_cons_zero] at h h'
    cases h
    cases h'
    intro q
    cases o with
    | lstF w _ => cases q; rw [hz] at w; cases w
    | lstO w _ _ => cases q; exact hn (List.mem_append_left _ List.mem_cons_self)
    | _ => simp [isLst] at hl
  | _, _, _, .cons o l, hn, k + 1, v, e, h, h', hl => OwnL.ne hz l (fun q => hn (List.mem_append_right _ q)) k v e (by simpa using h) (by simpa using h') hl
end

/-! ### arguments behind it: no more than new objects -/
abbrev AG := DEnv → Option (List Arg)
section
variable {X : Cx} {vs0 : List V} {pos : Pos} {F : Fm} {f : PM} {fs : List PM} {r : AG}
end

/-! ### the call -/
section
variable {X : Cx} {vs0 : List V} {F : Fm} {m : FnM} {l : LM} {g : AG} {E : XK}
end
end Dl

set_option Elab.async false
set_option linter.all false
set_option maxRecDepth 100000
set_option maxHeartbeats 2000000
/-! DL65: a list within a slot walked where it lies; l.remove(x) of data; d.pop(k, None); an index into a new list. -/
namespace Dl
open PySem PySem.Spec PyProof.Rows L2

section
variable {K : PySem.W.Frag} {mg : MG} {H : Hp}
end
section
variable {F : Fm} {σ : L2.St} {H : Hp} {ρ : DEnv} {ts : List Rt} {i : Nat} {d : D} {v : V}
theorem At.aside (a : At F σ H ρ ts) (h : ρ.getD i none = some d) : ∃ v, σ[i]? = some (some v) ∧ At F σ H (ρ.set i none) (.v v d :: ts) := by
  obtain ⟨v, hv, s⟩ := a.slot (getD_some h)
  exact ⟨v, hv, a.away (s.perm List.perm_middle.symm)⟩
end
section
variable {F : Fm} {g : GM} {t : BM} {e : EM} {vs : List Nat} {body : SM} {gt : TG} {i : Nat}
end
section
variable {X : Cx} {vs0 : List V} {W : WX} {pos p : Pos} {g : GM} {t : BM} {e : EM} {body : SM} {tg elt : Expr} {bs : List Stmt} {ifs : List Expr} {scope : Scope} {own : List (Str × Nat)} {gt : TG}
end

/-! ### the list of a name, read -/
section
variable {X : Cx} {vs0 : List V} {pos : Pos} {F : Fm} {j : Nat}
end
/-! ### and stored to -/
section
variable {X : Cx} {F : Fm} {vs0 : List V} {fk : PM} {j : Nat} {b : Expr} {pos p : Pos}
end

/-! ### [..].index(x) -/
section
variable {F : Fm} {ea : EM} {fb : PM}
end

/-! ### d.pop(k, None) -/
section
variable {K : PySem.W.Frag} {mg : MG}
end

/-! ### l.remove(x), the first that is equal -/
section
variable {K : PySem.W.Frag} {mg : MG}
end
end Dl

set_option Elab.async false
set_option linter.all false
set_option maxRecDepth 100000
set_option maxHeartbeats 2000000
/-! DL66: a name for the list at a place, and what follows; the name given up. -/
namespace Dl
open PySem PySem.Spec PyProof.Rows L2

section
variable {F : Fm} {σ : L2.St} {H : Hp} {ρ ρ' : DEnv} {ts : List Rt} {i j : Nat} {p : List PStep}
end
section
variable {F : Fm} {X : Cx} {vs0 : List V} {W : WX} {j : Nat} {l : LM} {S : SM}
end
end Dl

set_option Elab.async false
set_option linter.all false
set_option maxRecDepth 100000
set_option maxHeartbeats 2000000
/-! DL67: a part of a list lent to a call, to be changed there; a method of such a part, or of what a call gave. -/
namespace Dl
open PySem PySem.Spec PyProof.Rows L2

/-! ### a method of what was just reckoned -/
section
variable {F : Fm} {m : FnM} {c mn : Str} {o : EM} {am : AM} {C : Addr} {E : XK}
end
section
variable {X : Cx} {vs0 : List V} {k j : Nat} {c mn : Str} {m : FnM} {om : EM} {am : AM} {o e : Expr} {es : List Expr} {apos pos : Pos} {pl : Sem Bool}
end

/-! ### a place lent: its part comes back changed -/
theorem ArgsR.len {σ : L2.St} : ∀ {vs : List V} {as : List Arg} {tm : List Rt}, ArgsR σ vs as tm → vs.length = as.length
  | _, _, _, .nil => rfl
  | _, _, _, .e a => by rw [List.length_cons, List.length_cons, a.len]
  | _, _, _, .s _ a => by rw [List.length_cons, List.length_cons, a.len]
  | _, _, _, .t _ _ a => by rw [List.length_cons, List.length_cons, a.len]
section
variable {X : Cx} {vs0 : List V} {F : Fm} {m : FnM} {l : LM} {g1 g2 : AG} {f : PM} {E : XK} {pos : Pos}
end
/-! ### a method of a part -/
section
variable {F : Fm} {m : FnM} {c mn : Str} {l : LM} {g : AG} {C : Addr} {E : XK}
end
section
variable {X : Cx} {vs0 : List V} {k j : Nat} {c mn : Str} {m : FnM} {l : LM} {g : AG} {o e : Expr} {es : List Expr} {apos pos : Pos} {pl : Sem Bool}
end
end Dl

set_option Elab.async false
set_option linter.all false
set_option maxRecDepth 100000
set_option maxHeartbeats 2000000
/-! DL68: d.get(k, None) where what is kept there lies by itself. -/
namespace Dl
open PySem PySem.Spec PyProof.Rows L2

section
variable {F : Fm} {fa fb fc : PM}
end
end Dl

set_option Elab.async false
set_option linter.all false
set_option maxRecDepth 100000
set_option maxHeartbeats 1000000
/-! DL69: comprehensions over enumerate(list); a target a, (b, c, ..). -/
namespace Dl
open PySem PySem.Spec PyProof.Rows L2
section
variable {F : Fm} {g : GM} {t : BM} {e : EM} {vs : List Nat} {gt : TG}
end
section
variable {X : Cx} {vs0 : List V} {W : WX} {pos : Pos} {g : GM} {t : BM} {e : EM} {elt : Expr} {ifs : List Expr} {scope : Scope} {own : List (Str × Nat)} {gt : TG}
end
end Dl

set_option Elab.async false
set_option linter.all false
set_option maxRecDepth 100000
set_option maxHeartbeats 2000000
/-! DL70: sorted of a list of triples of numbers. -/
namespace Dl
open PySem PySem.Spec PyProof.Rows L2
section
variable {K : PySem.W.Frag} {mg : MG}
end
end Dl

set_option Elab.async false
set_option linter.all false
set_option maxRecDepth 100000
set_option maxHeartbeats 2000000
/-! DL71: l.count(x) of data, l.insert(i, x). -/
namespace Dl
open PySem PySem.Spec PyProof.Rows L2
section
variable {F : Fm} {X : Cx} {vs0 : List V} {fa fb : PM}
end
section
variable {K : PySem.W.Frag} {mg : MG}
end
end Dl

set_option Elab.async false
set_option linter.all false
set_option maxRecDepth 100000
set_option maxHeartbeats 2000000
/-! DL72: [] read alone; d.get(k, []) read alone; blocks over a list whose items may be owned. -/
namespace Dl
open PySem PySem.Spec PyProof.Rows L2
section
variable {F : Fm} {X : Cx} {vs0 : List V} {σ : L2.St} {H : Hp} {ρ : DEnv} {ts : List Rt}
end
section
variable {F : Fm} {fa fb : PM}
end

/-! ### blocks over a list whose items may be owned: they read alone -/
section
variable {F : Fm} {t : BM} {e : PM} {i j : Nat}
end
section
variable {X : Cx} {vs0 : List V} {W : WX} {pos p : Pos} {t : BM} {e : PM} {tg elt : Expr} {ifs : List Expr} {scope : Scope} {o : Str}
end
end Dl

set_option Elab.async false
set_option linter.all false
set_option maxRecDepth 100000
set_option maxHeartbeats 4000000
/-! DL73: {..}.get(k, x) of a new dict. -/
namespace Dl
open PySem PySem.Spec PyProof.Rows L2
def eGetD (a : EM) (l : List PM) : EM := fun ρ => match a ρ with
  | some (d, ρ1) => match pAll l ρ1 with
    | some [q, x] => match opGet d q x with
      | some v => if v.imm = true then some (v, ρ1) else none
      | none => none
    | _ => none
  | none => none
section
variable {F : Fm} {ea : EM} {fs : List PM}
theorem imp_getD : ∀ σ H Q, tD F (eGetD ea fs) σ H Q → tBMG F.mg.w (rGet F.mg.w) (tD F ea) (tAP F fs) σ H Q := fun σ H Q ⟨ρ, ts, d, ρ', a, e, k⟩ => by
  unfold eGetD at e
  split at e
  · rename_i d0 ρ1 e1
    split at e
    · rename_i q x0 e2
      split at e
      · rename_i v ev
        split at e
        · rename_i hi
          cases e
          refine ⟨ρ, ts, d0, _, a, e1, fun x H1 a1 => ?_⟩
          have rx := a1.front.rp
          have ex : ∃ b, x = V.ref b ∧ ∃ o kd ks vs, d0 = .dic o kd ks vs := by
            unfold opGet at ev
            split at ev
            · rename_i o kd ks vs
              cases rx with
              | dk _ _ _ => exact ⟨_, rfl, _, _, _, _, rfl⟩
              | dt _ _ _ => exact ⟨_, rfl, _, _, _, _, rfl⟩
              | dn _ _ _ _ => exact ⟨_, rfl, _, _, _, _, rfl⟩
            · cases ev
          obtain ⟨b, rfl, o, kd, ks, vs, rfl⟩ := ex
          refine ⟨?_, _, _, [q, x0], a1, e2, fun ws H2 g2 rs => ?_⟩
          · cases rx with
            | dk z _ _ => exact ⟨_, rfl, .inl (.inl ⟨_, z⟩)⟩
            | dt z _ _ => exact ⟨_, rfl, .inl (.inr ⟨_, z⟩)⟩
            | dn z _ _ _ => exact ⟨_, rfl, .inr ⟨_, z⟩⟩
          · obtain ⟨y, z, rfl, ry, rz⟩ := rs.two
            obtain ⟨b', e3, _, hh⟩ := get_core (Q := Q) (a1.grow g2) (rx.grow g2) ry rz ev fun v' H' g3 r c => k v' H' (by
              have h1 := ((a1.grow g2).grow g3).front
              exact ((a1.grow g2).grow g3).of_front (h1.tail.imm r hi))
            cases e3
            refine ⟨b, rfl, ?_⟩
            rcases hh with ⟨ov, h1, h2⟩ | hh
            · exact .inr (.inl ⟨y, z, ov, rfl, h1, h2⟩)
            · exact .inr (.inr (.inr ⟨y, z, rfl, hh⟩))
        · cases e
      · cases e
    · cases e
  · cases e
end
end Dl

set_option Elab.async false
set_option linter.all false
set_option maxRecDepth 100000
set_option maxHeartbeats 1000000
/-! DLE: the end of a law row whose def is promised at callerA alone (there it is known that no repr stands above). -/
namespace Dl
open PySem PySem.Spec PyProof.Rows L2

/-- a def run at one Around -/
theorem run_at {P : Program} {w : World} {K : PySem.W.Frag} {mg : Str → Option Value} {base : Heap} {k : Nat} {f : Addr} {name qual : Str} {params : Arguments} {body : List Stmt} {scope : Scope} {dV kV doc pm cdv ct oc : Value} {an od : Option Addr}
    {osl : Array (Option Value)} {N ps : List Str} {A : Around} {outer : List Env} {s : Shared} {H : Hp} {args : Args} {us : List Value} {vs : List V} {Q : VK} {E : XK} {t : TS}
    (lk : K.lookup f = some ⟨oc, od, .func (PySem.W.fnOf name qual params body scope dV kV doc pm an cdv ct), osl⟩) (hcd : PySem.W.codeIn K cdv qual = true) (S : FnScope N ps scope) (hl : vs.length = ps.length) (hr : Room (k + 1) A) (e0 : Env0 P w K mg base A outer s H)
    (hb : BindsTo s (PySem.W.fnOf name qual params body scope dV kV doc pm an cdv ct) args (ps.zip us)) (r : Vals vs us)
    (ht : PSs (cxOf CX0 P w K mg base N qual scope f cdv A outer s H E) body t) (hq : t { nx := fun _ H' => Q .non H', rt := Q } (start N vs) H) :
    codeAny (model P w) A (.call (.ref f) args) (CR CX0 outer P w H s Q E) s := by
  have KX : K.In s.heap := e0.mod.kin.keeps fun b o e => (e0.bs b o e).1
  have lim : s.heap.NoLimit := e0.mod.nolimit.keeps fun b o e => (e0.bs b o e).1
  have kinds : ∀ y ∈ ps.zip us, scope.names.lookup y.1 = some .local ∨ (scope.names.lookup y.1 = some .cell ∧ ((cellsFrom (s.heap.objs.size + 1) scope.names []).lookup y.1).isSome = true) := by
    rintro ⟨n, v⟩ hy
    rcases S.par n (List.of_mem_zip hy).1 with q | q
    · exact .inl q
    · exact .inr ⟨q, PySem.W.cellsFrom_some _ _ _ (.inl q)⟩
  refine codeAny_call_function hr.depth (KX _ _ lk) rfl S.co S.gen rfl (PySem.W.codeRec_of KX hcd) (hb _ _ _ _ ?_)
  refine wpAny_newFunctionEnv_cells S.kind kinds fun env he s1 x => ?_
  subst he
  refine ⟨lim.keeps x.toInCall.keep, codeAny_func ?_⟩
  have I : L2.Inv (cxOf CX0 P w K mg base N qual scope f cdv A outer s H E) [] (start N vs) H s1 := inv_start S hr.hd e0 hl r x
  refine wpAny_mono (ht.run [] s1 (start N vs) H _ I hq) (fun fl s' hs => ?_) fun e s' hs => hs
  cases fl with
  | ret u =>
    obtain ⟨v, σ', H', J, rv, q⟩ := hs
    exact ⟨v, H', J.os, J.bare, J.base, J.hok, rv, q⟩
  | next =>
    obtain ⟨σ', H', J, q⟩ := hs
    exact ⟨.non, H', J.os, J.bare, J.base, J.hok, rfl, q⟩
  | brk =>
    obtain ⟨_, _, _, q⟩ := hs
    exact q.elim
  | cont =>
    obtain ⟨_, _, _, q⟩ := hs
    exact q.elim

/-- the law's def at the heap behind the top: run, its promise at callerA over the heap that hides the script -/
theorem end_call {P : Program} {w : World} {K : PySem.W.Frag} {mg mb : Str → Option Value} {k : Nat} {fa a : Addr} {fd : FuncData} {x : Str} {m : FnM} {s1 : Shared} {vs : List Value} {ns : List Int}
    (KX : K.In s1.heap) (hns : s1.heap.Ns mainGlobals mg) (hb : s1.heap.Ns builtinsNs mb) (hbb : ∀ x : Str, x ≠ "__name__" → mb x = bootBuiltins x) (hlim : s1.heap.NoLimit) (hg : s1.gens = #[])
    (ha : s1.heap.get? a = some { cls := .type "list", data := .seq vs.toArray }) (hi : IntsAre vs ns) (hl : ns.length ≤ sizeLine) (hr : Room k callerA)
    (F : ∀ base : Heap, K.In base → base.Ns mainGlobals mg → ∀ (s : Shared) (H : Hp) (u : Value) (v : V) (Q : VK) (E : XK), Env0 P w K mg base callerA [] s H → RelV v u → spD K ⟨mg, w⟩ m [v] H Q E → codeAny (model P w) callerA (.call (.ref fa) ⟨[u], []⟩) (CR CX0 [] P w H s Q E) s)
    (hm : ∃ ds, m [.scr ns] = some (.bl true, ds)) :
    codeAny (model P w) callerA (.call (.ref fa) ⟨[.ref a], []⟩) (fun r s' => r = .ok (.ret (.bool true)) ∧ OldK s1.heap s'.heap ∧ s'.os = s1.os ∧ AllBare s'.gens) s1 := by
  have rv := vals_ints hi
  have lenV := hi.length
  have main : ∀ H : Hp, Only H → SqL K H a (ns.map V.int) → HOk P w H s1.heap → (∀ b, H b ≠ none → b = a) → (H a ≠ none → K.lookup a = none) →
      codeAny (model P w) callerA (.call (.ref fa) ⟨[.ref a], []⟩) (fun r s' => r = .ok (.ret (.bool true)) ∧ OldK s1.heap s'.heap ∧ s'.os = s1.os ∧ AllBare s'.gens) s1 := by
    intro H hO hS hok hA hK
    have away : ∀ b, b ≠ a → H b = none := fun b hb => by
      cases q : H b with
      | none => rfl
      | some u => exact absurd (hA b (by rw [q]; simp)) hb
    have noD : ∀ {b : Addr} {o : Obj} {es : Array DictEntry} {ep : Nat}, s1.heap.get? b = some o → o.data = .dict es ep → H b = none := by
      intro b o es ep e d
      by_cases hb : b = a
      · subst hb
        rw [ha] at e
        cases e
        cases (show Data.seq vs.toArray _ = Data.dict es ep from d)
      · exact away b hb
    have nsK : ∀ {b : Addr} {mm : Str → Option Value}, s1.heap.Ns b mm → (hidT s1.heap H).Ns b mm := fun {b mm} ⟨o, es, ep, e, d, r⟩ => ⟨o, es, ep, hidT_get e (noD e d), d, r⟩
    have hKb : K.In (hidT s1.heap H) := fun b o e => hidT_get (KX b o e) (by
      by_cases hb : b = a
      · subst hb
        cases q : H b with
        | none => rfl
        | some u => rw [hK (by rw [q]; simp)] at e; cases e
      · exact away b hb)
    have hM : Mod K mg (hidT s1.heap H) := ⟨hKb, nsK hns, ⟨mb, nsK hb, hbb⟩, let ⟨mc, h1, h2⟩ := hlim; ⟨mc, nsK h1, h2⟩⟩
    have e0 : Env0 P w K mg (hidT s1.heap H) callerA [] s1 H := ⟨rfl, hM, fun b o e => of_hidT e, Nat.le_of_eq (hidT_size _ _), trivial, (fun b hb => by cases (show b ∈ ([] : List Addr) from hb)), hok, .of_eq hg⟩
    obtain ⟨ds, hd⟩ := hm
    have hsp : spD K ⟨mg, w⟩ m [.ref a] H (fun v _ => v = .bl true) E0 := by
      refine ⟨[.scr ns], [], .bl true, ds, rfl, ⟨H, [], fun b o e => .inl e, ?_, List.nodup_nil⟩, hd, fun v H' s' => (s'.rp).bl_inv⟩
      exact OwnR.v (f1 := []) (f2 := []) (.scr hS) .nil
    refine codeAny_mono (F _ hKb (nsK hns) s1 H (.ref a) (.ref a) _ _ e0 rfl hsp) fun r s' h => ?_
    cases r with
    | error e => exact h.elim
    | ok fl =>
      cases fl with
      | next => exact False.elim h
      | brk => exact False.elim h
      | cont => exact False.elim h
      | ret u =>
        obtain ⟨v, H', os, bare, un, hok', r', q⟩ := h
        obtain rfl : v = .bl true := q
        obtain rfl : u = Value.bool true := r'
        refine ⟨rfl, OldK.of_keep fun b o e => ?_, os, bare⟩
        cases q : H b with
        | none => exact un.keep b o e q (by intro z; cases (show b ∈ ([] : List Addr) from z)) (by simp)
        | some u =>
          rcases hO b with z | ⟨ob, xs, z⟩
          · rw [q] at z; cases z
          · obtain ⟨e1, _⟩ := hok b _ z
            obtain ⟨e2, _⟩ := hok' b _ (un.frzs b ob _ z)
            rw [e] at e1
            cases e1
            exact e2
  cases hk : K.lookup a with
  | some o =>
    have e := KX a o hk
    rw [ha] at e
    cases e
    exact main (fun _ => none) (fun _ => .inl rfl) (.inr ⟨_, vs.toArray, _, hk, rfl, rfl, rfl, by rw [List.size_toArray, lenV]; exact hl, by simpa using rv⟩) (fun b u z => by cases (show (none : Option HO) = some u from z)) (fun b z => absurd rfl z) fun z => absurd rfl z
  | none =>
    refine main (fun b => if b = a then some (.frz { cls := .type "list", data := .seq vs.toArray } (.lst (ns.map V.int))) else none) (fun b => ?_) (.inl (.inr ⟨{ cls := .type "list", data := .seq vs.toArray }, if_pos rfl⟩)) (fun b u z => ?_) (fun b z => ?_) fun _ => hk
    · by_cases hb : b = a
      · exact .inr ⟨_, _, if_pos hb⟩
      · exact .inl (if_neg hb)
    · by_cases hb : b = a
      · cases (if_pos hb).symm.trans z
        subst hb
        exact ⟨ha, by rw [List.length_map]; exact hl, vs, _, rv, ha⟩
      · cases (if_neg hb).symm.trans z
    · by_cases hb : b = a
      · exact hb
      · exact absurd (if_neg hb) z
/-- the law's promise, for the head's last goal -/
def LawAt (P : Program) (w : World) (K : PySem.W.Frag) (mg : Str → Option Value) (fa : Addr) (m : FnM) : Prop := ∀ base : Heap, K.In base → base.Ns mainGlobals mg → ∀ (s : Shared) (H : Hp) (u : Value) (v : V) (Q : VK) (E : XK),
  Env0 P w K mg base callerA [] s H → RelV v u → spD K ⟨mg, w⟩ m [v] H Q E → codeAny (model P w) callerA (.call (.ref fa) ⟨[u], []⟩) (CR CX0 [] P w H s Q E) s
theorem walk_at {l : PySem.W.OpenLaw} {n k : Nat} {q : Program} {loose : List Str} {XP : (Str → Option Value) → Heap → Prop} {YP : World → Heap → Prop} {d : DefRec} {K : Params → PySem.W.Frag} {m : FnM}
    (hn : l.most = some n) (hn2 : n ≤ sizeLine) (hdf : d.params.defaults = []) (hr : Room k callerA) (hY : ∀ (w : World) (h : Heap), YP w h → (K w.params).In h)
    (F : ∀ (w : World) (mg : Str → Option Value) (fa : Addr) (h : Heap), (K w.params).In h → h.Ns mainGlobals mg → mg d.name = some (.ref fa) → LawAt l.prog w (K w.params) mg fa m)
    (hm : ∀ ns : List Int, ns.length ≤ n → ∃ ds, m [.scr ns] = some (.bl true, ds)) : PySem.W.WalkO q loose XP YP l.row.toRowW d [] (fun f vs => PySem.call f vs) := by
  refine Att.attach_call hn hdf fun w s₀ s₁ mg mb fa o pm cd doc a vs ns G Y ho hd hcd hmg hobj hints hlen hg => ?_
  have KX := hY w _ Y
  exact end_call (fd := default) (x := "script") KX G.T.g G.T.b G.T.builtins G.T.nolimit hg hobj hints (Nat.le_trans hlen hn2) hr (F w mg fa _ KX G.T.g hmg) (hm ns hlen)
/-- the law's def, by its mirror, at callerA -/
theorem law_of {P : Program} {w : World} {K : PySem.W.Frag} {mg : Str → Option Value} {st : Stmt} {f : Addr} {fd : FuncData} {N : List Str} {k : Nat} {body : SM} (F : Fun K "law" "law" st f fd) (hb : ∀ (s : Shared) (u : Value), BindsTo s fd ⟨[u], []⟩ [("script", u)]) (S : FnScope N ["script"] (defScope st)) (hn : 1 ≤ N.length)
    (hr : Room (k + 1) callerA)
    (hbody : ∀ (base : Heap), K.In base → base.Ns mainGlobals mg → ∀ (cdv : Value) (A : Around) (s : Shared) (H : Hp) (E : XK) (vs0 : List V), A.guards = some [] → Room k (A.deeper (envOfC "law" (defScope st) s.heap.objs.size f cdv)) → (∀ i, 1 ≤ i → vs0.length ≤ i) →
      PSs (cxOf CX0 P w K mg base N "law" (defScope st) f cdv A [] s H E).nox (defBody st) (tS (fmk K ⟨mg, w⟩ vs0 N.length) body)) : LawAt P w K mg f (fnM 1 1 N.length body) := by
  intro base hK hg s H u v Q E e0 rv hsp
  obtain ⟨oc, od, kV, doc, pm, an, cdv, ct, osl, rfl, lk, hcd⟩ := F.ex
  have hd := hr.deeper (envOfC "law" (defScope st) s.heap.objs.size f cdv)
  refine run_at (us := [u]) (vs := [v]) lk hcd S rfl hr e0 (hb s u) (.cons rv .nil) (PSs.nox (hbody base hK hg cdv callerA s H E ([v].take 1) rfl hd (fun i hi => by rw [List.length_take]; omega))) ?_
  exact fn_in hn (Nat.le_refl 1) hsp
end Dl

set_option Elab.async false
set_option linter.all false
set_option maxRecDepth 100000
set_option maxHeartbeats 4000000
/-! DL74: calls without arguments; defs that may show things (no repr stands above them); text.index(text). -/
namespace Dl
open PySem PySem.Spec PyProof.Rows L2
section
variable {X : Cx} {vs0 : List V} {k j : Nat} {x : Str} {m : FnM} {am : AM} {e : Expr} {es : List Expr} {p pos : Pos}
theorem e_callC0 (c : Cl X.prog X.w X.K X.mg X.base k x m) (hr : Room j X.A) (hk : k ≤ j) (hg : Gl X x := by rfl) (hdb : (x == ("__debug__" : Str)) = false := by decide) :
    PE X (.Call (.Name x p) [] [] pos) (tD (fm X vs0) (eCall m aNil)) := by
  obtain ⟨f, fd, ps, G, hm, hkp, hb⟩ := c.ex
  refine (pe_call0 G (hr.mono hk) hg hm hkp hb .nil pass0 hdb).imp fun σ H Q h => ?_
  obtain ⟨ρ, ts, as, ρ', a, q, k'⟩ := imp_call (F := fm X vs0) (E := E0) σ H Q h
  cases q
  exact k' [] H [] .nil a
end
/-! ### defs that are called where no repr stands above -/
structure ClG (P : Program) (w : World) (K : PySem.W.Frag) (mg : Str → Option Value) (base : Heap) (k : Nat) (x : Str) (m : FnM) : Prop where
  ex : ∃ (f : Addr) (fd : FuncData) (ps : List Str), (∀ vs H Q E, spD K ⟨mg, w⟩ m vs H Q E → vs.length = ps.length) ∧
    (∀ (A : Around) (outer : List Env) (s : Shared) (H : Hp) (args : Args) (us : List Value) (vs : List V) (Q : VK) (E : XK), A.guards = some [] → Room k A → Env0 P w K mg base A outer s H → BindsTo s fd args (ps.zip us) → Vals vs us →
      spD K ⟨mg, w⟩ m vs H Q E → codeAny (model P w) A (.call (.ref f) args) (CR CX0 outer P w H s Q E) s) ∧ mg x = some (.ref f) ∧ PySem.W.keepIn K (.ref f) = true ∧ Binds K fd ps []
theorem clG_of {P : Program} {w : World} {K : PySem.W.Frag} {mg : Str → Option Value} {base : Heap} {x : Str} {st : Stmt} {f : Addr} {fd : FuncData} {N ps : List Str} {k na np : Nat} {body : SM} (F : Fun K x x st f fd) (hm : mg x = some (.ref f)) (hkp : PySem.W.keepIn K (.ref f) = true) (b : Binds K fd ps []) (S : FnScope N ps (defScope st))
    (hps : ps.length = na) (hn : na ≤ N.length) (hp : np ≤ na)
    (hbody : ∀ (cdv : Value) (A : Around) (outer : List Env) (s : Shared) (H : Hp) (E : XK) (vs0 : List V), A.guards = some [] → Room k (A.deeper (envOfC x (defScope st) s.heap.objs.size f cdv)) → (∀ i, np ≤ i → vs0.length ≤ i) → vs0.length = np →
      PSs (cxOf CX0 P w K mg base N x (defScope st) f cdv A outer s H E).nox (defBody st) (tS (fmk K ⟨mg, w⟩ vs0 N.length) body)) : ClG P w K mg base (k + 1) x (fnM na np N.length body) := by
  refine ⟨f, fd, ps, fun vs H Q E h => by rw [hps]; exact fn_len h, fun A outer s H args us vs Q E hgd hr e0 hb rv h => ?_, hm, hkp, b⟩
  obtain ⟨oc, od, kV, doc, pm, an, cdv, ct, osl, rfl, lk, hcd⟩ := F.ex
  have hd := hr.deeper (envOfC x (defScope st) s.heap.objs.size f cdv)
  refine run_at lk hcd S (by rw [hps]; exact fn_len h) hr e0 hb rv (PSs.nox (hbody cdv A outer s H E (vs.take np) hgd hd (fun i hi => by rw [List.length_take]; omega) (by rw [List.length_take, fn_len h]; omega))) ?_
  exact fn_in hn hp h
section
variable {X : Cx} {vs0 : List V} {k j : Nat} {x : Str} {m : FnM} {am : AM} {e : Expr} {es : List Expr} {p pos : Pos}
theorem e_callG (c : ClG X.prog X.w X.K X.mg X.base k x m) (hgd : X.A.guards = some []) (hr : Room j X.A) (hk : k ≤ j)
    (ha : PA X (e :: es) (tA (fm X vs0) am)) (hg : Gl X x := by rfl) (hdb : (x == ("__debug__" : Str)) = false := by decide) (he : starEach (e :: es) X.env = (false, eval e X.env) :: starEach es X.env := by rfl) (hpl : (backTo pos (starEach es X.env)).any (·.1) = false := by rfl) :
    PE X (.Call (.Name x p) (e :: es) [] pos) (tD (fm X vs0) (eCall m am)) := by
  obtain ⟨f, fd, ps, hlen, hrun, hm, hkp, hb⟩ := c.ex
  constructor
  intro pins st σ0 H0 Q0 J want
  have want1 := imp_call (F := fm X vs0) (E := E0) σ0 H0 Q0 want
  refine wpAny_Call_Name_kw (ld_glob J hg hm ?_ hdb)
  refine PySem.W.callWith_K (h₀ := X.base) J.ok.mod.kin hkp
    (thn (ha.run pos pins st σ0 H0 _ J want1) ?_) he hpl
  rintro us st1 ⟨ws, H1, J1, r, q⟩
  refine ⟨J1.kIn, ?_⟩
  rw [List.append_nil] at q
  have len1 : (us ++ ([] : List Value)).length = ps.length := by
    rw [List.append_nil, ← r.length]
    exact hlen _ _ _ _ q
  have bnd := hb st1 us J1.kIn len1
  rw [List.append_nil] at bnd
  refine wpAny_call (codeAny_mono (hrun X.A X.stack st1 H1 ⟨us, []⟩ us ws _ E0 hgd (hr.mono hk) J1.env0 bnd r q) fun res st2 hq => ?_)
  cases res with
  | error er => exact hq.elim
  | ok fl =>
    cases fl with
    | ret u => exact J1.after hq
    | next => exact False.elim hq
    | brk => exact False.elim hq
    | cont => exact False.elim hq
end
/-! ### text.index(text) -/
def pSix (a b : PM) : PM := fun ρ => match a ρ, b ρ with
  | some (.str x), some (.str y) => match Builtin.Str.occurrences x y 0 x.length 1 with
    | i :: _ => some (.int (i : Nat))
    | [] => none
  | _, _ => none
section
variable {X : Cx} {vs0 : List V} {F : Fm} {fa fb : PM} {o e : Expr} {apos pos : Pos}
def rSix : V → List V → Hp → VK → Prop := fun x xs H Q => ∃ a b i rest, x = .str a ∧ xs = [.str b] ∧ Builtin.Str.occurrences a b 0 a.length 1 = i :: rest ∧ Q (.int (i : Nat)) H
theorem mt_sixS : MtR X "str.index" rSix := mt_sindex
theorem imp_six : ∀ σ H Q, tP F (pSix fa fb) σ H Q → tBM F.K "str" rSix (tP F fa) (tAP F [fb]) σ H Q := fun σ H Q ⟨ρ, ts, d, a, e, k⟩ => by
  unfold pSix at e
  split at e
  · rename_i x y e1 e2
    split at e
    · rename_i i rest ho
      cases e
      refine ⟨ρ, ts, _, a, e1, fun v H1 g1 rx _ => ?_⟩
      obtain rfl := rx.str_inv
      refine ⟨rfl, ρ, ts, [.str y], a.grow g1, by simp only [pAll, e2], fun ws H2 g2 rs => ?_⟩
      obtain ⟨z, rfl, rz⟩ := rs.one
      obtain rfl := rz.str_inv
      exact ⟨x, y, i, rest, rfl, rfl, ho, k _ H2 (g1.trans g2) (.int _) (Cj.of (((a.grow g1).grow g2).imm (.int _) rfl))⟩
    · cases e
  · cases e
end
end Dl

set_option Elab.async false
set_option linter.all false
set_option maxRecDepth 100000
set_option maxHeartbeats 4000000
/-! DL75: text[::k]. -/
namespace Dl
open PySem PySem.Spec PyProof.Rows L2
def stpS (z : Str) (i : Int) : Str := if ((i == 1 && (Builtin.Str.strSliceIndices none none i z.length).length == z.length) = true) then z else ⟨((Builtin.Str.strSliceIndices none none i z.length).filterMap (z.cps[·]?)).toArray⟩
theorem stpS_len (z : Str) {i : Int} (h : i ≠ 0) : (stpS z i).length ≤ z.length := by
  unfold stpS
  split
  · exact Nat.le_refl _
  · show (List.filterMap _ (Builtin.Str.strSliceIndices none none i z.length)).toArray.size ≤ z.length
    rw [List.size_toArray]
    exact Nat.le_trans (List.length_filterMap_le _ _) (sliceIndicesBy_le _ _ _ h z.length)
def rStpS : R2 := fun x y H Q => ∃ z i, x = .str z ∧ y = .int i ∧ i ≠ 0 ∧ z.length ≤ sizeLine ∧ Q (.str (stpS z i)) H
theorem pe_stpS {X : Cx} {e st : Expr} {te ts : TE} {p3 pos : Pos} (he : PE X e te) (hs : PE X st ts) : PE X (.Subscript e (.Slice none none (some st) p3) pos) (tOp rStpS te ts) := by
  refine ⟨fun pins s σ H Q I h => ?_⟩
  refine Subscript_ (thn (he.run pins s σ H _ I h) fun v s1 ⟨x, H1, I1, r1, q1⟩ => ?_)
  refine wpAny_Slice (thn (po_none.run pins s1 σ H1 (fun o H2 => o = none ∧ H2 = H1) I1 ⟨rfl, rfl⟩) fun vl s2 ⟨l, H2, I2, pl, el, e2⟩ => ?_)
  subst el e2
  refine thn (po_none.run pins s2 σ H2 (fun o H3 => o = none ∧ H3 = H2) I2 ⟨rfl, rfl⟩) fun vu s3 ⟨u, H3, I3, pu, eu, e3⟩ => ?_
  subst eu e3
  cases pl
  cases pu
  rw [evalPart_some]
  refine thn (hs.run pins s3 σ H3 _ I3 q1) fun vs s4 ⟨y, H4, I4, ps, q4⟩ => ?_
  obtain ⟨z, i, rfl, rfl, h0, hz, q⟩ := q4
  obtain ⟨tk, rfl⟩ := ps
  obtain ⟨tz, rfl⟩ := r1
  have I5 : Inv X pins σ H4 { s4 with heap := s4.heap.push { cls := .type "slice", data := .fields #[.none, .none, .int i tk] } } := I4.kept (t' := s4.toks) fun b ob q => Heap.get?_push_of_some _ q
  show wpAny (model X.prog X.w) X.A (subscriptTail e (.Slice none none (some st) p3) (.str z tz) (.ref s4.heap.objs.size)) (EP X pins σ Q) X.xe { s4 with heap := s4.heap.push { cls := .type "slice", data := .fields #[.none, .none, .int i tk] } }
  have hl := stpS_len z h0
  refine tail_any (ops := [.ref s4.heap.objs.size, .str z tz]) (typeIs_str _ _ _) F.slot_str_getitem.lookup ?_ (by with_unfolding_all rfl)
  refine wpAny_getItem_str_slice (l := none) (u := none) (st := some (i, tk)) ⟨_, Heap.get?_push_size _ rfl, rfl, rfl⟩ (by simpa using h0) ?_
  show Made.post (if ((i == 1 && (Builtin.Str.strSliceIndices none none i z.length).length == z.length) = true) then Made.val (.str z tz) else Made.str ⟨((Builtin.Str.strSliceIndices none none i z.length).filterMap (z.cps[·]?)).toArray⟩) (EP X pins σ Q) _
  unfold stpS at q hl
  by_cases c : (i == 1 && (Builtin.Str.strSliceIndices none none i z.length).length == z.length) = true
  · rw [if_pos c] at q ⊢
    exact ⟨.str z, H4, I5, ⟨tz, rfl⟩, q⟩
  · rw [if_neg c] at q hl ⊢
    exact ⟨Nat.le_trans hl hz, .str _, H4, I5.tok _, ⟨_, rfl⟩, q⟩
def opStpS : D → D → Option D
  | .str z, .int i => if i ≠ 0 ∧ z.length ≤ sizeLine then some (.str (stpS z i)) else none
  | _, _ => none
section
variable {K : PySem.W.Frag} {mg : MG} {H : Hp}
theorem r_stpS : R2D K mg rStpS opStpS := by
  intro x y H dx dy d Q rx ry e k
  cases dx <;> cases dy <;> simp only [opStpS, reduceCtorEq] at e
  split at e
  · rename_i hi
    cases e
    obtain rfl := rx.str_inv
    obtain rfl := ry.int_inv
    exact ⟨_, _, rfl, rfl, hi.1, hi.2, k _ H (Same.refl H) (mk_imm (.str _) rfl)⟩
  · cases e
end
section
variable {X : Cx} {vs0 : List V} {fa fb : PM} {a b : Expr} {p3 pos : Pos}
theorem p_stpS (ha : PE X a (tP (fm X vs0) fa)) (hb : PE X b (tP (fm X vs0) fb)) : PE X (.Subscript a (.Slice none none (some b) p3) pos) (tP (fm X vs0) (pOp2 opStpS fa fb)) := (pe_stpS ha hb).imp (imp_p2 r_stpS)
end
end Dl

set_option Elab.async false
set_option linter.all false
set_option maxRecDepth 100000
set_option maxHeartbeats 4000000
namespace Lk
open PySem PySem.Spec PyProof.Rows L2 Dl
def top (i : Nat) : Stmt := PySem.Challenge.pw_holdshelf_k81_texts_bent.main.body.getD i (.Pass ⟨0, 0, 0, 0⟩)
/-- what the walk asks of the names of the top -/
structure Txt (K : PySem.W.Frag) (w : World) (mg : Str → Option Value) : Prop where
  z_ValueError : mg "ValueError" = none
  z_all : mg "all" = none
  z_bool : mg "bool" = none
  z_enumerate : mg "enumerate" = none
  z_int : mg "int" = none
  z_isinstance : mg "isinstance" = none
  z_len : mg "len" = none
  z_list : mg "list" = none
  z_max : mg "max" = none
  z_min : mg "min" = none
  z_range : mg "range" = none
  z_repr : mg "repr" = none
  z_str : mg "str" = none
  z_tuple : mg "tuple" = none
  g_FIGURES : ∃ t, mg "FIGURES" = some (.str "0123456789" t)
  g_LETTERS : ∃ t, mg "LETTERS" = some (.str "abcdefghijklmnopqrstuvwxyz" t)
  g_MOST_PARTS : ∃ t, mg "MOST_PARTS" = some (.int 24 t)
  g_WHEEL : ∃ t, mg "WHEEL" = some (.int 100 t)
  g_LEAST_NAMES : GD K w mg "LEAST_NAMES" [("plus", 1), ("times", 1), ("most", 1), ("less", 2)]
  g_MOST_NAMES : GD K w mg "MOST_NAMES" [("plus", 4), ("times", 4), ("most", 4), ("less", 2)]
  s_S : ∃ S : Addr, mg "ShelfError" = some (.ref S) ∧ PySem.W.specialIn K (.ref S) "__getattribute__" = some (some (.builtin "type.__getattribute__")) ∧ PySem.W.readsIn K S (.type "type") = true ∧ PySem.W.findCls K (.ref S) (.type "type") "__init__" = some (.val (.builtin "ValueError.__init__"))
  t_ShelfError : Ctch K mg "ShelfError" ["NoBook", "NoText"]
  i_Needed : IsX K mg "Needed" [("NoBook", false), ("NoText", false)]
  i_NoBook : IsX K mg "NoBook" [("NoBook", true), ("NoText", false)]
  i_NoDeed : IsX K mg "NoDeed" [("NoBook", false), ("NoText", false)]
  i_NoLeaf : IsX K mg "NoLeaf" [("NoBook", false), ("NoText", false)]
  i_NoPart : IsX K mg "NoPart" [("NoBook", false), ("NoText", false)]
  i_NoRow : IsX K mg "NoRow" [("NoBook", false), ("NoText", false)]
  i_NoStand : IsX K mg "NoStand" [("NoBook", false), ("NoText", false)]
  i_NoText : IsX K mg "NoText" [("NoBook", false), ("NoText", true)]
  i_NoTree : IsX K mg "NoTree" [("NoBook", false), ("NoText", false)]
  i_ValueError : IsE K mg (.type "ValueError") [("NoBook", true), ("NoText", true)]
  f_NoBook_fault : XfE K mg "NoBook" "fault"
  f_NoText_line : XfE K mg "NoText" "line"
  z : True
/-! NoBook___init__ -/
/-! NoText___init__ -/
/-! is_between -/
def b_is_between : SM := (sRet (eP (pAndV (pIsi "int" (pVar 0)) (pAndV (pNotV (pIsi "bool" (pVar 0))) (pCh opLe opLe (pVar 1) (pVar 0) (pVar 2))))))
def m_is_between : FnM := fnM 3 3 3 b_is_between
/-! is_word -/
def x1_is_word : EM := (eP (pOp2 opIn (pVar 1) (pC (.str "abcdefghijklmnopqrstuvwxyz"))))
def b_is_word : SM := (sRet (eAndV (eP (pIsi "str" (pVar 0))) (eAndV (eP (pCh opLe opLe (pC (.int 1)) (pBi opLen [(pVar 0)]) (pC (.int 8)))) (eBi opAll (aE (eCompS (pVar 0) (gN 1) bYes x1_is_word [1]) aNil)))))
def m_is_word : FnM := fnM 1 1 2 b_is_word
/-! is_recipe -/
def x1_is_recipe : EM := (eCall m_is_word (aS 1 aNil))
def b_is_recipe : SM := (sSeq (sIf (bOr (bNot (bP (pIsi "tuple" (pVar 0)))) (bOr (bP (pOp2 opNe (pBi opLen [(pVar 0)]) (pC (.int 2)))) (bNot (bP (pIsi "str" (pOp2 opIx (pVar 0) (pC (.int 0)))))))) (sRet (eP (pC (.bl false)))) sNil)
    (sSeq (sIf (bP (pOp2 opEq (pOp2 opIx (pVar 0) (pC (.int 0))) (pC (.str "leaf")))) (sRet (eCall m_is_between (aE (eP (pOp2 opIx (pVar 0) (pC (.int 1)))) (aE (eP (pC (.int 0))) (aE (eP (pOp2 opSub (pC (.int 100)) (pC (.int 1)))) aNil))))) sNil)
    (sSeq (sIf (bOr (bP (pGIn true [("plus", 4), ("times", 4), ("most", 4), ("less", 2)] (pOp2 opIx (pVar 0) (pC (.int 0))))) (bNot (bP (pIsi "tuple" (pOp2 opIx (pVar 0) (pC (.int 1))))))) (sRet (eP (pC (.bl false)))) sNil)
    (sSeq (sIf (bNot (bP (pCh opLe opLe (pGIx [("plus", 1), ("times", 1), ("most", 1), ("less", 2)] (pOp2 opIx (pVar 0) (pC (.int 0)))) (pBi opLen [(pOp2 opIx (pVar 0) (pC (.int 1)))]) (pGIx [("plus", 4), ("times", 4), ("most", 4), ("less", 2)] (pOp2 opIx (pVar 0) (pC (.int 0))))))) (sRet (eP (pC (.bl false)))) sNil)
    (sRet (eBi opAll (aE (eComp (eP (pOp2 opIx (pVar 0) (pC (.int 1)))) (gN 1) bYes x1_is_recipe [1]) aNil)))))))
def m_is_recipe : FnM := fnM 1 1 2 b_is_recipe
/-! is_part -/
def b_is_part : SM := (sSeq (sIf (bOr (bNot (bP (pIsi "tuple" (pVar 0)))) (bP (pOp2 opNe (pBi opLen [(pVar 0)]) (pC (.int 4))))) (sRet (eP (pC (.bl false)))) sNil)
    (sRet (eAndV (eCall m_is_word (aE (eP (pOp2 opIx (pVar 0) (pC (.int 0)))) aNil)) (eAndV (eCall m_is_recipe (aE (eP (pOp2 opIx (pVar 0) (pC (.int 1)))) aNil)) (eAndV (eCall m_is_between (aE (eP (pOp2 opIx (pVar 0) (pC (.int 2)))) (aE (eP (pC (.int 1))) (aE (eP (pC (.int 9))) aNil)))) (eCall m_is_between (aE (eP (pOp2 opIx (pVar 0) (pC (.int 3)))) (aE (eP (pC (.int 1))) (aE (eP (pC (.int 9))) aNil)))))))))
def m_is_part : FnM := fnM 1 1 1 b_is_part
/-! needs_of -/
def b_needs_of : SM := (sSeq (sIf (bP (pOp2 opEq (pOp2 opIx (pOp2 opIx (pVar 0) (pC (.int 1))) (pC (.int 0))) (pC (.str "leaf")))) (sRet (eTup aNil)) sNil)
    (sRet (eP (pOp2 opIx (pOp2 opIx (pVar 0) (pC (.int 1))) (pC (.int 1))))))
def m_needs_of : FnM := fnM 1 1 1 b_needs_of
/-! why_no_book -/
def x1_why_no_book : EM := (eCall m_is_part (aS 3 aNil))
def x2_why_no_book : EM := (eP (pOp2 opIn (pVar 4) (pVar 1)))
def w1_why_no_book : SM := (sWp [2] (sSeq (sIf (bOr (bP (pOp2 opIn (pOp2 opIx (pVar 2) (pC (.int 0))) (pVar 1))) (bNot (bV (eBi opAll (aE (eComp (eCall m_needs_of (aS 2 aNil)) (gN 4) bYes x2_why_no_book [4]) aNil))))) (sRet (eP (pC (.str "names")))) sNil)
    (sAsg (eP (pC (.bl true))) (gSt (lVar 1) (pOp2 opIx (pVar 2) (pC (.int 0)))))))
def b_why_no_book : SM := (sSeq (sIf (bOr (bNot (bP (pIsi "tuple" (pVar 0)))) (bOr (bNot (bP (pCh opLe opLe (pC (.int 1)) (pBi opLen [(pVar 0)]) (pC (.int 24))))) (bNot (bV (eBi opAll (aE (eComp (eFr 0) (gN 3) bYes x1_why_no_book [3]) aNil)))))) (sRet (eP (pC (.str "shape")))) sNil)
    (sSeq (sAsg (eDicN .k) (gN 1))
    (sSeq (sWp [2] (sFor (eFr 0) (gN 2) w1_why_no_book))
    (sRet (eP (pC .non))))))
def m_why_no_book : FnM := fnM 1 1 5 b_why_no_book
/-! need_book -/
def b_need_book : SM := (sSeq (sAsg (eCall m_why_no_book (aS 0 aNil)) (gN 1))
    (sIf (bP (pOp2 opNotN (pVar 1) (pC .non))) (sRz1 "NoBook" "fault" (pVar 1)) sNil))
def m_need_book : FnX := fnX 1 1 2 b_need_book
/-! number_by -/
def x1_number_by : EM := (eP (pOp2 opIn (pVar 1) (pC (.str "0123456789"))))
def b_number_by : SM := (sSeq (sIf (bOr (bNot (bP (pCh opLe opLe (pC (.int 1)) (pBi opLen [(pVar 0)]) (pC (.int 2))))) (bNot (bV (eBi opAll (aE (eCompS (pVar 0) (gN 1) bYes x1_number_by [1]) aNil))))) (sRet (eP (pC .non))) sNil)
    (sSeq (sIf (bAnd (bP (pOp2 opGt (pBi opLen [(pVar 0)]) (pC (.int 1)))) (bP (pOp2 opEq (pOp2 opIx (pVar 0) (pC (.int 0))) (pC (.str "0"))))) (sRet (eP (pC .non))) sNil)
    (sRet (eP (pBi opInt [(pVar 0)])))))
def m_number_by : FnM := fnM 1 1 2 b_number_by
/-! read_part -/
def x1_read_part : EM := (eCall m_number_by (aS 5 aNil))
def x2_read_part : EM := (eP (pAndV (pOp2 opNotN (pVar 6) (pC .non)) (pCh opLe opLe (pC (.int 1)) (pVar 6) (pC (.int 9)))))
def x3_read_part : EM := (eCall m_is_word (aS 7 aNil))
def b_read_part : SM := (sSeq (sAsg (eSm mSplit (pVar 0) (aE (eP (pC (.str " "))) aNil)) (gN 1))
    (sSeq (sIf (bOr (bP (pOp2 opLt (pBi opLen [(pVar 1)]) (pC (.int 5)))) (bNot (bV (eCall m_is_word (aE (eP (pOp2 opIx (pVar 1) (pC (.int 0)))) aNil))))) (sRet (eP (pC .non))) sNil)
    (sSeq (sAsg (eComp (ePO (pSl (pVar 1) (some (pC (.int 1))) (some (pC (.int 3))))) (gN 5) bYes x1_read_part [5]) (gN 2))
    (sSeq (sIf (bNot (bV (eBi opAll (aE (eComp (eFr 2) (gN 6) bYes x2_read_part [6]) aNil)))) (sRet (eP (pC .non))) sNil)
    (sSeq (sWp [4] (sIf (bP (pOp2 opEq (pOp2 opIx (pVar 1) (pC (.int 3))) (pC (.str "leaf")))) (sSeq (sAsg (eCall m_number_by (aE (eP (pOp2 opIx (pVar 1) (pC (.int 4)))) aNil)) (gN 4))
    (sSeq (sIf (bOr (bP (pOp2 opGt (pBi opLen [(pVar 1)]) (pC (.int 5)))) (bP (pOp2 opIsN (pVar 4) (pC .non)))) (sRet (eP (pC .non))) sNil)
    (sRet (eTup (aE (eP (pOp2 opIx (pVar 1) (pC (.int 0)))) (aE (eTup (aE (eP (pC (.str "leaf"))) (aE (eP (pVar 4)) aNil))) (aE (eP (pOp2 opIx (pVar 2) (pC (.int 0)))) (aE (eP (pOp2 opIx (pVar 2) (pC (.int 1)))) aNil)))))))) sNil))
    (sSeq (sAsg (ePO (pSl (pVar 1) (some (pC (.int 4))) none)) (gN 3))
    (sSeq (sIf (bOr (bP (pGIn true [("plus", 4), ("times", 4), ("most", 4), ("less", 2)] (pOp2 opIx (pVar 1) (pC (.int 3))))) (bNot (bP (pCh opLe opLe (pGIx [("plus", 1), ("times", 1), ("most", 1), ("less", 2)] (pOp2 opIx (pVar 1) (pC (.int 3)))) (pBi opLen [(pVar 3)]) (pGIx [("plus", 4), ("times", 4), ("most", 4), ("less", 2)] (pOp2 opIx (pVar 1) (pC (.int 3)))))))) (sRet (eP (pC .non))) sNil)
    (sSeq (sIf (bNot (bV (eBi opAll (aE (eComp (eFr 3) (gN 7) bYes x3_read_part [7]) aNil)))) (sRet (eP (pC .non))) sNil)
    (sRet (eTup (aE (eP (pOp2 opIx (pVar 1) (pC (.int 0)))) (aE (eTup (aE (eP (pOp2 opIx (pVar 1) (pC (.int 3)))) (aE (eP (pBi opTuple [(pVar 3)])) aNil))) (aE (eP (pOp2 opIx (pVar 2) (pC (.int 0)))) (aE (eP (pOp2 opIx (pVar 2) (pC (.int 1)))) aNil))))))))))))))
def m_read_part : FnM := fnM 1 1 8 b_read_part
/-! read_book -/
def w1_read_book : SM := (sWp [4, 5, 6] (sSeq (sAsg (eCall m_read_part (aS 5 aNil)) (gN 6))
    (sSeq (sIf (bOr (bP (pOp2 opIsN (pVar 6) (pC .non))) (bP (pOp2 opGe (pVar 4) (pC (.int 24))))) (sRz1 "NoText" "line" (pVar 4)) sNil)
    (sExp (eMt mAppend 2 (aE (eP (pVar 6)) aNil))))))
def b_read_book : SM := (sSeq (sAsg (eSm mSplit (pVar 0) (aE (eP (pC (.str "\n"))) aNil)) (gN 1))
    (sSeq (sAsg (eLst aNil) (gN 2))
    (sSeq (sWp [4, 5, 6] (sForE (ePO (pSl (pVar 1) none (some (pOp1 opNeg (pC (.int 1)))))) (gTu [4, 5]) w1_read_book))
    (sSeq (sIf (bOr (bP (pOp2 opNe (pOp2 opIx (pVar 1) (pOp1 opNeg (pC (.int 1)))) (pC (.str "")))) (bV (eOpN opEq 2 (eLst aNil)))) (sRz1 "NoText" "line" (pBi opLen [(pVar 2)])) sNil)
    (sSeq (sAsg (eP (pBi opTuple [(pVar 2)])) (gN 3))
    (sSeq (sExpX m_need_book (aS 3 aNil))
    (sRet (eP (pVar 3)))))))))
def m_read_book : FnX := fnX 1 1 7 b_read_book
/-! _law_cell_at -/
def b__law_cell_at : SM := (sSeq (sIf (bP (pOp2 opLt (pVar 1) (pBi opLen [(pVar 0)]))) (sRet (eP (pOp2 opIx (pVar 0) (pVar 1)))) sNil)
    (sRet (eP (pC (.int 0)))))
def m__law_cell_at : FnM := fnM 2 2 2 b__law_cell_at
/-! _law_tape -/
def w1__law_tape : SM := (sSeq (sAsg (eP (pOp2 opMod (pOp2 opAdd (pOp2 opAdd (pOp2 opAdd (pOp2 opMulA (pVar 4) (pVar 4)) (pOp2 opMulA (pC (.int 69621)) (pVar 6))) (pVar 2)) (pC (.int 7))) (pVar 3))) (gN 4))
    (sAsg (eP (pOp2 opAdd (pOp2 opMulA (pVar 5) (pVar 3)) (pVar 4))) (gN 5)))
def b__law_tape : SM := (sSeq (sAsg (eCall m__law_cell_at (aS 0 (aS 1 aNil))) (gN 2))
    (sSeq (sIf (bP (pOp2 opEq (pVar 2) (pC (.int 0)))) (sRet (eLst (aE (eP (pC (.int 0))) aNil))) sNil)
    (sSeq (sIf (bP (pOp2 opGe (pVar 2) (pOp2 opPow (pC (.int 10)) (pC (.int 18))))) (sRet (eLst (aE (eP (pOp2 opSub (pVar 2) (pOp2 opPow (pC (.int 10)) (pC (.int 18))))) aNil))) sNil)
    (sSeq (sAsg (eP (pC (.int 2305843009213693951))) (gN 3))
    (sSeq (sAsg (eP (pOp2 opMod (pOp2 opAdd (pOp2 opAdd (pOp2 opMulA (pVar 2) (pC (.int 40692))) (pOp2 opMulA (pC (.int 52774)) (pVar 1))) (pC (.int 31))) (pVar 3))) (gN 4))
    (sSeq (sAsg (eP (pVar 4)) (gN 5))
    (sSeq (sForR1 (eP (pC (.int 20))) (gN 6) w1__law_tape)
    (sRet (eLst (aE (eP (pVar 5)) aNil))))))))))
def m__law_tape : FnM := fnM 2 2 7 b__law_tape
/-! _law_digit -/
def b__law_digit : SM := (sSeq (sAsg (eP (pOp2 opMod (pOp2 opIx (pVar 0) (pC (.int 0))) (pVar 1))) (gN 2))
    (sSeq (sAsg (eP (pOp2 opFdiv (pOp2 opIx (pVar 0) (pC (.int 0))) (pVar 1))) (gSt (lVar 0) (pC (.int 0))))
    (sRet (eP (pVar 2)))))
def m__law_digit : FnM := fnM 2 2 3 b__law_digit
/-! _law_words -/
def x1__law_words : EM := (eP (pOp2 opAdd (pOp2 opIx (pVar 2) (pOp2 opMod (pOp2 opAdd (pVar 4) (pVar 9)) (pC (.int 26)))) (pVar 6)))
def x2__law_words : EM := (eP (pOp2 opMulA (pOp2 opIx (pVar 2) (pOp2 opMod (pOp2 opAdd (pVar 4) (pOp2 opFdiv (pVar 9) (pC (.int 8)))) (pC (.int 26)))) (pOp2 opAdd (pC (.int 1)) (pOp2 opMod (pVar 9) (pC (.int 8))))))
def w1__law_words : SM := (sSeq (sAsg (eP (pOp2 opIx (pVar 2) (pOp2 opMod (pOp2 opAdd (pVar 4) (pOp2 opMulA (pVar 7) (pOp2 opSub (pVar 1) (pVar 9)))) (pC (.int 26))))) (gN 10))
    (sExp (eMt mAppend 8 (aE (eP (pOp2 opAdd (pVar 10) (pOp2 opMulA (pOp2 opIx (pVar 2) (pVar 4)) (pOp2 opMod (pVar 9) (pC (.int 3)))))) aNil))))
def x3__law_words : EM := (eP (pOp2 opIx (pVar 5) (pOp2 opMod (pOp2 opAdd (pVar 4) (pVar 9)) (pC (.int 24)))))
def b__law_words : SM := (sSeq (sAsg (eP (pC (.str "abcdefghijklmnopqrstuvwxyz"))) (gN 2))
    (sSeq (sAsg (eCall m__law_digit (aS 0 (aE (eP (pC (.int 4))) aNil))) (gN 3))
    (sSeq (sAsg (eCall m__law_digit (aS 0 (aE (eP (pC (.int 26))) aNil))) (gN 4))
    (sSeq (sIf (bP (pOp2 opEq (pVar 3) (pC (.int 0)))) (sSeq (sAsg (eIx opIx (eLst (aE (eP (pC (.str ""))) (aE (eP (pC (.str "a"))) (aE (eP (pC (.str "omelons"))) aNil)))) (eCall m__law_digit (aS 0 (aE (eP (pC (.int 3))) aNil)))) (gN 6))
    (sRet (eCompR1 (eP (pVar 1)) (gN 9) bYes x1__law_words [9]))) sNil)
    (sSeq (sIf (bP (pOp2 opEq (pVar 3) (pC (.int 1)))) (sRet (eCompR1 (eP (pVar 1)) (gN 9) bYes x2__law_words [9])) sNil)
    (sSeq (sIf (bP (pOp2 opEq (pVar 3) (pC (.int 2)))) (sSeq (sAsg (eIx opIx (eLst (aE (eP (pC (.int 1))) (aE (eP (pC (.int 3))) (aE (eP (pC (.int 5))) (aE (eP (pC (.int 7))) aNil))))) (eCall m__law_digit (aS 0 (aE (eP (pC (.int 4))) aNil)))) (gN 7))
    (sSeq (sAsg (eLst aNil) (gN 8))
    (sSeq (sForR1 (eP (pVar 1)) (gN 9) w1__law_words)
    (sRet (eMv 8))))) sNil)
    (sSeq (sAsg (eLst (aE (eP (pC (.str "leaf"))) (aE (eP (pC (.str "plus"))) (aE (eP (pC (.str "times"))) (aE (eP (pC (.str "most"))) (aE (eP (pC (.str "less"))) (aE (eP (pC (.str "make"))) (aE (eP (pC (.str "drop"))) (aE (eP (pC (.str "book"))) (aE (eP (pC (.str "worth"))) (aE (eP (pC (.str "ask"))) (aE (eP (pC (.str "change"))) (aE (eP (pC (.str "forget"))) aNil))))))))))))) (gN 5))
    (sSeq (sAsg (eOpN opAdd 5 (eLst (aE (eP (pC (.str "joined"))) (aE (eP (pC (.str "room"))) (aE (eP (pC (.str "once"))) (aE (eP (pC (.str "least"))) (aE (eP (pC (.str "tree"))) (aE (eP (pC (.str "no"))) (aE (eP (pC (.str "ok"))) (aE (eP (pC (.str "shut"))) (aE (eP (pC (.str "a"))) (aE (eP (pC (.str "b"))) (aE (eP (pC (.str "c"))) (aE (eP (pC (.str "zz"))) aNil)))))))))))))) (gN 5))
    (sRet (eCompR1 (eP (pVar 1)) (gN 9) bYes x3__law_words [9]))))))))))
def m__law_words : FnM := fnM 2 2 11 b__law_words
/-! _law_recipe -/
def w1__law_recipe : SM := (sExp (eMt mAppend 5 (aE (eOpV opIx 1 (eOp2 opSub (eP (pOp2 opSub (pBi opLen [(pVar 1)]) (pC (.int 1)))) (eCall m__law_digit (aS 0 (aE (eBi opMin (aE (eP (pBi opLen [(pVar 1)])) (aE (eIx opIx (eLst (aE (eP (pC (.int 2))) (aE (eP (pC (.int 4))) (aE (eP (pC (.int 24))) aNil)))) (eCall m__law_digit (aS 0 (aE (eP (pC (.int 3))) aNil)))) aNil))) aNil))))) aNil)))
def b__law_recipe : SM := (sSeq (sAsg (eCall m__law_digit (aS 0 (aE (eP (pC (.int 8))) aNil))) (gN 2))
    (sSeq (sIf (bOr (bV (eOpN opEq 1 (eLst aNil))) (bP (pOp2 opLt (pVar 2) (pC (.int 2))))) (sRet (eTup (aE (eP (pC (.str "leaf"))) (aE (eIx opIx (eLst (aE (eP (pC (.int 0))) (aE (eP (pC (.int 1))) (aE (eP (pC (.int 2))) (aE (eP (pC (.int 7))) (aE (eP (pC (.int 99))) (aE (eP (pC (.int 50))) (aE (eCall m__law_digit (aS 0 (aE (eP (pC (.int 100))) aNil))) aNil)))))))) (eCall m__law_digit (aS 0 (aE (eP (pC (.int 7))) aNil)))) aNil)))) sNil)
    (sSeq (sAsg (eIxP opIx (eLst (aE (eP (pC (.str "plus"))) (aE (eP (pC (.str "times"))) (aE (eP (pC (.str "most"))) (aE (eP (pC (.str "less"))) (aE (eP (pC (.str "plus"))) (aE (eP (pC (.str "plus"))) aNil))))))) (pOp2 opSub (pVar 2) (pC (.int 2)))) (gN 3))
    (sSeq (sAsg (eIx opIx (eLst (aE (eP (pC (.int 1))) (aE (eP (pC (.int 2))) (aE (eP (pC (.int 2))) (aE (eP (pC (.int 3))) (aE (eP (pC (.int 4))) (aE (eP (pC (.int 2))) aNil))))))) (eCall m__law_digit (aS 0 (aE (eP (pC (.int 6))) aNil)))) (gN 4))
    (sSeq (sIf (bP (pOp2 opEq (pVar 3) (pC (.str "less")))) (sAsg (eP (pC (.int 2))) (gN 4)) sNil)
    (sSeq (sAsg (eLst aNil) (gN 5))
    (sSeq (sForR1 (eP (pVar 4)) (gN 6) w1__law_recipe)
    (sRet (eTup (aE (eP (pVar 3)) (aE (eP (pBi opTuple [(pVar 5)])) aNil)))))))))))
def m__law_recipe : FnM := fnM 2 2 7 b__law_recipe
/-! _law_number -/
def b__law_number : SM := (sRet (eIx opIx (eLst (aE (eP (pC (.int 1))) (aE (eP (pC (.int 1))) (aE (eP (pC (.int 2))) (aE (eP (pC (.int 3))) (aE (eOp2 opAdd (eP (pC (.int 1))) (eCall m__law_digit (aS 0 (aE (eP (pC (.int 9))) aNil)))) aNil)))))) (eCall m__law_digit (aS 0 (aE (eP (pC (.int 5))) aNil)))))
def m__law_number : FnM := fnM 1 1 1 b__law_number
/-! _law_again -/
def b__law_again : SM := (sSeq (sIf (bP (pOp2 opEq (pOp2 opIx (pVar 1) (pC (.int 0))) (pC (.str "leaf")))) (sRet (eP (pVar 1))) sNil)
    (sSeq (sIf (bP (pOp2 opEq (pOp2 opIx (pVar 1) (pC (.int 0))) (pC (.str "less")))) (sRet (eTup (aE (eP (pC (.str "less"))) (aE (eOp2 opStp (eP (pOp2 opIx (pVar 1) (pC (.int 1)))) (eIx opIx (eLst (aE (eP (pC (.int 1))) (aE (eP (pC (.int 1))) (aE (eP (pOp1 opNeg (pC (.int 1)))) aNil)))) (eCall m__law_digit (aS 0 (aE (eP (pC (.int 3))) aNil))))) aNil)))) sNil)
    (sSeq (sAsg (eBiP opList [(pOp2 opIx (pVar 1) (pC (.int 1)))]) (gN 2))
    (sSeq (sAsg (eCall m__law_digit (aS 0 (aE (eP (pBi opLen [(pVar 2)])) aNil))) (gN 3))
    (sSeq (sIf (bV (eOpP opEq (eCall m__law_digit (aS 0 (aE (eP (pC (.int 4))) aNil))) (pC (.int 0)))) (sAsg (eOpV opIx 2 (eCall m__law_digit (aS 0 (aE (eP (pBi opLen [(pVar 2)])) aNil)))) (gSt (lVar 2) (pVar 3))) sNil)
    (sRet (eTup (aE (eP (pOp2 opIx (pVar 1) (pC (.int 0)))) (aE (eBi opTuple (aE (eOp2 opAdd (ePO (pSl (pVar 2) (some (pVar 3)) none)) (ePO (pSl (pVar 2) none (some (pVar 3))))) aNil)) aNil)))))))))
def m__law_again : FnM := fnM 2 2 4 b__law_again
/-! _law_book -/
def w1__law_book : SM := (sSeq (sAsg (eTup (aE (eP (pOp2 opIx (pVar 5) (pVar 7))) (aE (eCall m__law_recipe (aS 3 (aE (ePO (pSl (pVar 5) none (some (pVar 7)))) aNil))) (aE (eCall m__law_number (aS 3 aNil)) (aE (eCall m__law_number (aS 3 aNil)) aNil))))) (gN 8))
    (sSeq (sIf (bAnd (bP (pOp2 opGt (pVar 7) (pC (.int 0)))) (bV (eOpP opEq (eCall m__law_digit (aS 3 (aE (eP (pC (.int 4))) aNil))) (pC (.int 0))))) (sSeq (sAsg (eOpV opIx 6 (eCall m__law_digit (aS 3 (aS 7 aNil)))) (gN 9))
    (sAsg (eTup (aE (eP (pOp2 opIx (pVar 5) (pVar 7))) (aE (eCall m__law_again (aS 3 (aE (eP (pOp2 opIx (pVar 9) (pC (.int 1)))) aNil))) (aE (eP (pOp2 opIx (pVar 9) (pC (.int 2)))) (aE (eP (pOp2 opIx (pVar 9) (pC (.int 3)))) aNil))))) (gN 8))) sNil)
    (sExp (eMt mAppend 6 (aE (eP (pVar 8)) aNil)))))
def b__law_book : SM := (sSeq (sAsg (eCall m__law_tape (aS 0 (aS 1 aNil))) (gN 3))
    (sSeq (sAsg (eOp2 opAdd (eP (pC (.int 1))) (eCall m__law_digit (aS 3 (aS 2 aNil)))) (gN 4))
    (sSeq (sAsg (eCall m__law_words (aS 3 (aS 4 aNil))) (gN 5))
    (sSeq (sAsg (eLst aNil) (gN 6))
    (sSeq (sForR1 (eP (pVar 4)) (gN 7) w1__law_book)
    (sRet (eP (pBi opTuple [(pVar 6)]))))))))
def m__law_book : FnM := fnM 3 3 10 b__law_book
/-! _law_needs -/
def b__law_needs : SM := (sSeq (sIf (bP (pOp2 opEq (pOp2 opIx (pOp2 opIx (pVar 0) (pC (.int 1))) (pC (.int 0))) (pC (.str "leaf")))) (sRet (eLst aNil)) sNil)
    (sRet (eBiP opList [(pOp2 opIx (pOp2 opIx (pVar 0) (pC (.int 1))) (pC (.int 1)))])))
def m__law_needs : FnM := fnM 1 1 1 b__law_needs
/-! _law_kind -/
def x1__law_kind : EM := (eP (pOp2 opEq (pVar 4) (pVar 1)))
def b__law_kind : SM := (sSeq (sIf (bP (pOp2 opEq (pVar 1) (pC (.str "")))) (sRet (eP (pOp2 opIsN (pVar 0) (pC .non)))) sNil)
    (sSeq (sAsg (eLst (aE (eP (pC (.str "needed"))) (aE (eP (pC (.str "book"))) (aE (eP (pC (.str "deed"))) (aE (eP (pC (.str "leaf"))) (aE (eP (pC (.str "part"))) (aE (eP (pC (.str "row"))) (aE (eP (pC (.str "stand"))) (aE (eP (pC (.str "text"))) (aE (eP (pC (.str "tree"))) aNil)))))))))) (gN 2))
    (sSeq (sAsg (eLst (aE (eP (pIsE [("NoBook", false), ("NoText", false)] (pVar 0))) (aE (eP (pIsE [("NoBook", true), ("NoText", false)] (pVar 0))) (aE (eP (pIsE [("NoBook", false), ("NoText", false)] (pVar 0))) aNil)))) (gN 3))
    (sSeq (sAsg (eOpN opAdd 3 (eLst (aE (eP (pIsE [("NoBook", false), ("NoText", false)] (pVar 0))) (aE (eP (pIsE [("NoBook", false), ("NoText", false)] (pVar 0))) aNil)))) (gN 3))
    (sSeq (sAsg (eOpN opAdd 3 (eLst (aE (eP (pIsE [("NoBook", false), ("NoText", false)] (pVar 0))) aNil))) (gN 3))
    (sSeq (sAsg (eOpN opAdd 3 (eLst (aE (eP (pIsE [("NoBook", false), ("NoText", false)] (pVar 0))) (aE (eP (pIsE [("NoBook", false), ("NoText", true)] (pVar 0))) aNil)))) (gN 3))
    (sSeq (sAsg (eOpN opAdd 3 (eLst (aE (eP (pIsE [("NoBook", false), ("NoText", false)] (pVar 0))) aNil))) (gN 3))
    (sRet (eAndV (eP (pIsE [("NoBook", true), ("NoText", true)] (pVar 0))) (eOpN opEq 3 (eComp (eFr 2) (gN 4) bYes x1__law_kind [4])))))))))))
def m__law_kind : FnM := fnM 2 2 5 b__law_kind
/-! _law_line -/
def b__law_line : SM := (sSeq (sAsg (eLst (aE (eP (pOp2 opIx (pVar 0) (pC (.int 0)))) (aE (eP (pBi opStr [(pOp2 opIx (pVar 0) (pC (.int 2)))])) (aE (eP (pBi opStr [(pOp2 opIx (pVar 0) (pC (.int 3)))])) (aE (eP (pOp2 opIx (pOp2 opIx (pVar 0) (pC (.int 1))) (pC (.int 0)))) aNil))))) (gN 1))
    (sSeq (sIf (bP (pOp2 opEq (pOp2 opIx (pOp2 opIx (pVar 0) (pC (.int 1))) (pC (.int 0))) (pC (.str "leaf")))) (sRet (eSm mJoin (pC (.str " ")) (aE (eOpN opAdd 1 (eLst (aE (eP (pBi opStr [(pOp2 opIx (pOp2 opIx (pVar 0) (pC (.int 1))) (pC (.int 1)))])) aNil))) aNil))) sNil)
    (sRet (eSm mJoin (pC (.str " ")) (aE (eOpN opAdd 1 (eCall m__law_needs (aS 0 aNil))) aNil)))))
def m__law_line : FnM := fnM 1 1 2 b__law_line
/-! _law_text -/
def x1__law_text : EM := (eOpP opAdd (eCall m__law_line (aS 1 aNil)) (pC (.str "\n")))
def b__law_text : SM := (sRet (eSm mJoin (pC (.str "")) (aE (eComp (eP (pVar 0)) (gN 1) bYes x1__law_text [1]) aNil)))
def m__law_text : FnM := fnM 1 1 2 b__law_text
/-! _law_is_word -/
def x1__law_is_word : EM := (eP (pOp2 opIn (pVar 1) (pC (.str "abcdefghijklmnopqrstuvwxyz"))))
def b__law_is_word : SM := (sSeq (sIf (bOr (bNot (bP (pIsi "str" (pVar 0)))) (bNot (bP (pCh opLe opLe (pC (.int 1)) (pBi opLen [(pVar 0)]) (pC (.int 8)))))) (sRet (eP (pC (.bl false)))) sNil)
    (sRet (eBi opAll (aE (eCompS (pVar 0) (gN 1) bYes x1__law_is_word [1]) aNil))))
def m__law_is_word : FnM := fnM 1 1 2 b__law_is_word
/-! _law_number_of -/
def x1__law_number_of : EM := (eP (pOp2 opIn (pVar 1) (pC (.str "0123456789"))))
def b__law_number_of : SM := (sSeq (sIf (bOr (bP (pOp2 opNi (pBi opLen [(pVar 0)]) (pTup [(pC (.int 1)), (pC (.int 2))]))) (bNot (bV (eBi opAll (aE (eCompS (pVar 0) (gN 1) bYes x1__law_number_of [1]) aNil))))) (sRet (eP (pC .non))) sNil)
    (sSeq (sIf (bAnd (bP (pOp2 opEq (pBi opLen [(pVar 0)]) (pC (.int 2)))) (bP (pOp2 opEq (pOp2 opIx (pVar 0) (pC (.int 0))) (pC (.str "0"))))) (sRet (eP (pC .non))) sNil)
    (sRet (eP (pBi opInt [(pVar 0)])))))
def m__law_number_of : FnM := fnM 1 1 2 b__law_number_of
/-! _law_part_of -/
def x1__law_part_of : EM := (eCall m__law_is_word (aS 5 aNil))
def b__law_part_of : SM := (sSeq (sAsg (eSm mSplit (pVar 0) (aE (eP (pC (.str " "))) aNil)) (gN 1))
    (sSeq (sIf (bOr (bP (pOp2 opLt (pBi opLen [(pVar 1)]) (pC (.int 5)))) (bNot (bV (eCall m__law_is_word (aE (eP (pOp2 opIx (pVar 1) (pC (.int 0)))) aNil))))) (sRet (eP (pC .non))) sNil)
    (sSeq (sPar 3 4 (aE (eCall m__law_number_of (aE (eP (pOp2 opIx (pVar 1) (pC (.int 1)))) aNil)) (aE (eCall m__law_number_of (aE (eP (pOp2 opIx (pVar 1) (pC (.int 2)))) aNil)) aNil)))
    (sSeq (sIf (bOr (bP (pOp2 opIsN (pVar 3) (pC .non))) (bOr (bP (pOp2 opIsN (pVar 4) (pC .non))) (bOr (bNot (bP (pCh opLe opLe (pC (.int 1)) (pVar 3) (pC (.int 9))))) (bNot (bP (pCh opLe opLe (pC (.int 1)) (pVar 4) (pC (.int 9)))))))) (sRet (eP (pC .non))) sNil)
    (sSeq (sIf (bP (pOp2 opEq (pOp2 opIx (pVar 1) (pC (.int 3))) (pC (.str "leaf")))) (sSeq (sIf (bOr (bP (pOp2 opNe (pBi opLen [(pVar 1)]) (pC (.int 5)))) (bV (eOpP opIsN (eCall m__law_number_of (aE (eP (pOp2 opIx (pVar 1) (pC (.int 4)))) aNil)) (pC .non)))) (sRet (eP (pC .non))) sNil)
    (sRet (eTup (aE (eP (pOp2 opIx (pVar 1) (pC (.int 0)))) (aE (eTup (aE (eP (pC (.str "leaf"))) (aE (eCall m__law_number_of (aE (eP (pOp2 opIx (pVar 1) (pC (.int 4)))) aNil)) aNil))) (aE (eP (pVar 3)) (aE (eP (pVar 4)) aNil))))))) sNil)
    (sSeq (sAsg (eGetD (eDisp [((pC (.str "plus")), (eTup (aE (eP (pC (.int 1))) (aE (eP (pC (.int 4))) aNil)))), ((pC (.str "times")), (eTup (aE (eP (pC (.int 1))) (aE (eP (pC (.int 4))) aNil)))), ((pC (.str "most")), (eTup (aE (eP (pC (.int 1))) (aE (eP (pC (.int 4))) aNil)))), ((pC (.str "less")), (eTup (aE (eP (pC (.int 2))) (aE (eP (pC (.int 2))) aNil))))]) [(pOp2 opIx (pVar 1) (pC (.int 3))), (pTup [(pC (.int 9)), (pC (.int 0))])]) (gN 2))
    (sSeq (sIf (bNot (bP (pCh opLe opLe (pOp2 opIx (pVar 2) (pC (.int 0))) (pOp2 opSub (pBi opLen [(pVar 1)]) (pC (.int 4))) (pOp2 opIx (pVar 2) (pC (.int 1)))))) (sRet (eP (pC .non))) sNil)
    (sSeq (sIf (bNot (bV (eBi opAll (aE (eComp (ePO (pSl (pVar 1) (some (pC (.int 4))) none)) (gN 5) bYes x1__law_part_of [5]) aNil)))) (sRet (eP (pC .non))) sNil)
    (sRet (eTup (aE (eP (pOp2 opIx (pVar 1) (pC (.int 0)))) (aE (eTup (aE (eP (pOp2 opIx (pVar 1) (pC (.int 3)))) (aE (eBi opTuple (aE (ePO (pSl (pVar 1) (some (pC (.int 4))) none)) aNil)) aNil))) (aE (eP (pVar 3)) (aE (eP (pVar 4)) aNil))))))))))))))
def m__law_part_of : FnM := fnM 1 1 6 b__law_part_of
/-! _law_read -/
noncomputable def w1__law_read : SM := (sWp [4, 5] (sSeq (sAsg (eP (pSix (pVar 2) (pC (.str "\n")))) (gN 5))
    (sSeq (sAsg (eCall m__law_part_of (aE (eP (pSl (pVar 2) none (some (pVar 5)))) aNil)) (gN 4))
    (sSeq (sIf (bOr (bP (pOp2 opIsN (pVar 4) (pC .non))) (bP (pOp2 opEq (pBi opLen [(pVar 1)]) (pC (.int 24))))) (sRet (eTup (aE (eP (pC (.str "text"))) (aE (eP (pBi opLen [(pVar 1)])) aNil)))) sNil)
    (sSeq (sExp (eMt mAppend 1 (aE (eP (pVar 4)) aNil)))
    (sAsg (eP (pSl (pVar 2) (some (pOp2 opAdd (pVar 5) (pC (.int 1)))) none)) (gN 2)))))))
noncomputable def q1__law_read : BM := (bP (pOp2 opIn (pC (.str "\n")) (pVar 2)))
noncomputable def x1__law_read : EM := (eP (pVar 7))
noncomputable def t1__law_read : BM := (bP (pOp2 opNi (pVar 7) (pVar 3)))
noncomputable def w2__law_read : SM := (sWp [4, 6] (sSeq (sAsg (eComp (eCall m__law_needs (aS 4 aNil)) (gN 7) t1__law_read x1__law_read [7]) (gN 6))
    (sSeq (sIf (bOr (bP (pOp2 opIn (pOp2 opIx (pVar 4) (pC (.int 0))) (pVar 3))) (bV (eOpN opNe 6 (eLst aNil)))) (sRet (eTup (aE (eP (pC (.str "names"))) aNil))) sNil)
    (sExp (eMt mAppend 3 (aE (eP (pOp2 opIx (pVar 4) (pC (.int 0)))) aNil))))))
noncomputable def b__law_read : SM := (sSeq (sAsg (eLst aNil) (gN 1))
    (sSeq (sAsg (eP (pVar 0)) (gN 2))
    (sSeq (sWp [4, 5] (sWhile q1__law_read w1__law_read))
    (sSeq (sIf (bOr (bP (pOp2 opNe (pVar 2) (pC (.str "")))) (bV (eOpN opEq 1 (eLst aNil)))) (sRet (eTup (aE (eP (pC (.str "text"))) (aE (eP (pBi opLen [(pVar 1)])) aNil)))) sNil)
    (sSeq (sAsg (eLst aNil) (gN 3))
    (sSeq (sWp [4, 6] (sFor (eFr 1) (gN 4) w2__law_read))
    (sRet (eTup (aE (eP (pC (.str "book"))) (aE (eP (pBi opTuple [(pVar 1)])) aNil))))))))))
noncomputable def m__law_read : FnM := fnM 1 1 8 b__law_read
/-! _law_right -/
noncomputable def w1__law_right : SM := (sSetX m_read_book (aS 0 aNil) 2)
noncomputable def b__law_right : SM := (sSeq (sAsg (eCall m__law_read (aS 0 aNil)) (gN 1))
    (sSeq (sAsg (eP (pC .non)) (gN 2))
    (sSeq (sAsg (eP (pC .non)) (gN 3))
    (sSeq (sTry ["NoBook", "NoText"] 4 3 w1__law_right)
    (sSeq (sIf (bP (pOp2 opEq (pOp2 opIx (pVar 1) (pC (.int 0))) (pC (.str "book")))) (sRet (eP (pAndV (pOp2 opIsN (pVar 3) (pC .non)) (pOp2 opEq (pBi opRepr [(pVar 2)]) (pBi opRepr [(pOp2 opIx (pVar 1) (pC (.int 1)))]))))) sNil)
    (sSeq (sIf (bP (pOp2 opEq (pOp2 opIx (pVar 1) (pC (.int 0))) (pC (.str "names")))) (sRet (eAndV (eCall m__law_kind (aS 3 (aE (eP (pC (.str "book"))) aNil))) (eP (pOp2 opEq (pXf "NoBook" "fault" (pVar 3)) (pC (.str "names")))))) sNil)
    (sRet (eAndV (eCall m__law_kind (aS 3 (aE (eP (pC (.str "text"))) aNil))) (eP (pOp2 opEq (pXf "NoText" "line" (pVar 3)) (pOp2 opIx (pVar 1) (pC (.int 1)))))))))))))
noncomputable def m__law_right : FnM := fnM 1 1 5 b__law_right
/-! _law_bent -/
def b__law_bent : SM := (sSeq (sAsg (eCall m__law_digit (aS 0 (aE (eP (pC (.int 10))) aNil))) (gN 2))
    (sSeq (sAsg (eCall m__law_digit (aS 0 (aE (eP (pBi opLen [(pVar 1)])) aNil))) (gN 3))
    (sSeq (sAsg (eCall m__law_digit (aS 0 (aE (eP (pC (.int 12))) aNil))) (gN 4))
    (sSeq (sAsg (eP (pC (.str "!\"#$&'()*+,-./:;<=>?@ABCDEFGHIJKLMNOPQRSTUVWXYZ[\\]^_`abcdefghijklmnopqrstuvwxyz{|}~"))) (gN 5))
    (sSeq (sAsg (eP (pOp2 opAdd (pOp2 opMulA (pC (.str " 0123456789\n a")) (pC (.int 6))) (pVar 5))) (gN 6))
    (sSeq (sAsg (eOpV opIx 6 (eCall m__law_digit (aS 0 (aE (eP (pBi opLen [(pVar 6)])) aNil)))) (gN 7))
    (sSeq (sAsg (eLst (aE (eP (pC (.str " leaf 5"))) (aE (eP (pC (.str " 0"))) (aE (eP (pC (.str "plus "))) (aE (eP (pC (.str "z 1 1 leaf 0\n"))) (aE (eP (pC (.str " a"))) (aE (eP (pC (.str "less"))) (aE (eP (pC (.str "\n"))) (aE (eP (pC (.str " "))) (aE (eP (pC (.str "most a"))) (aE (eP (pC (.str "times"))) (aE (eP (pC (.str "10 "))) aNil)))))))))))) (gN 8))
    (sSeq (sAsg (eOpN opAdd 8 (eLst (aE (eP (pC (.str "00"))) aNil))) (gN 8))
    (sSeq (sAsg (eSm mSplit (pVar 1) (aE (eP (pC (.str "\n"))) aNil)) (gN 9))
    (sSeq (sAsg (eCall m__law_digit (aS 0 (aE (eP (pBi opLen [(pVar 9)])) aNil))) (gN 10))
    (sSeq (sAsg (eLst (aE (eP (pOp2 opAdd (pSl (pVar 1) none (some (pVar 3))) (pSl (pVar 1) (some (pOp2 opAdd (pVar 3) (pC (.int 1)))) none))) aNil)) (gN 11))
    (sSeq (sAsg (eOpN opAdd 11 (eLst (aE (eP (pOp2 opAdd (pOp2 opAdd (pSl (pVar 1) none (some (pVar 3))) (pVar 7)) (pSl (pVar 1) (some (pVar 3)) none))) aNil))) (gN 11))
    (sSeq (sAsg (eOpN opAdd 11 (eLst (aE (eP (pOp2 opAdd (pOp2 opAdd (pSl (pVar 1) none (some (pVar 3))) (pVar 7)) (pSl (pVar 1) (some (pOp2 opAdd (pVar 3) (pC (.int 1)))) none))) aNil))) (gN 11))
    (sSeq (sAsg (eOpN opAdd 11 (eLst (aE (eP (pOp2 opAdd (pOp2 opAdd (pSl (pVar 1) none (some (pVar 3))) (pOp2 opStpS (pSl (pVar 1) (some (pVar 3)) (some (pOp2 opAdd (pVar 3) (pC (.int 2))))) (pOp1 opNeg (pC (.int 1))))) (pSl (pVar 1) (some (pOp2 opAdd (pVar 3) (pC (.int 2)))) none))) aNil))) (gN 11))
    (sSeq (sAsg (eOpN opAdd 11 (eLst (aE (eP (pOp2 opAdd (pOp2 opAdd (pSl (pVar 1) none (some (pVar 3))) (pOp2 opIx (pVar 8) (pVar 4))) (pSl (pVar 1) (some (pVar 3)) none))) aNil))) (gN 11))
    (sSeq (sAsg (eOpN opAdd 11 (eLst (aE (eP (pOp2 opAdd (pOp2 opAdd (pSl (pVar 1) none (some (pVar 3))) (pSl (pVar 1) (some (pVar 3)) (some (pOp2 opAdd (pVar 3) (pVar 4))))) (pSl (pVar 1) (some (pVar 3)) none))) aNil))) (gN 11))
    (sSeq (sAsg (eOpN opAdd 11 (eLst (aE (eP (pSl (pVar 1) none (some (pVar 3)))) (aE (eP (pSl (pVar 1) (some (pVar 3)) none)) aNil)))) (gN 11))
    (sSeq (sAsg (eOpN opAdd 11 (eLst (aE (eSm mJoin (pC (.str "\n")) (aE (eOp2 opAdd (eOp2 opAdd (ePO (pSl (pVar 9) none (some (pVar 10)))) (ePO (pSl (pVar 9) (some (pVar 10)) (some (pOp2 opAdd (pVar 10) (pC (.int 1))))))) (ePO (pSl (pVar 9) (some (pVar 10)) none))) aNil)) aNil))) (gN 11))
    (sSeq (sAsg (eOpN opAdd 11 (eLst (aE (eSm mJoin (pC (.str "\n")) (aE (eOp2 opAdd (ePO (pSl (pVar 9) none (some (pVar 10)))) (ePO (pSl (pVar 9) (some (pOp2 opAdd (pVar 10) (pC (.int 1)))) none))) aNil)) aNil))) (gN 11))
    (sRet (eP (pOp2 opIx (pVar 11) (pVar 2)))))))))))))))))))))))
def m__law_bent : FnM := fnM 2 2 12 b__law_bent
/-! _law_fixed -/
def x1__law_fixed : EM := (eP (pOp2 opAdd (pOp2 opIx (pVar 2) (pVar 4)) (pC (.str " 1 1 leaf 5\n"))))
def x2__law_fixed : EM := (eP (pOp2 opAdd (pOp2 opIx (pVar 2) (pVar 4)) (pC (.str " 1 1 leaf 5\n"))))
def x3__law_fixed : EM := (eP (pOp2 opAdd (pOp2 opIx (pVar 2) (pVar 4)) (pC (.str " 1 1 leaf 5\n"))))
def w1__law_fixed : SM := (sWp [3] (sSeq (sExp (eMt mAppend 0 (aE (eSm mJoin (pC (.str "")) (aE (eCompR1 (eP (pVar 3)) (gN 4) bYes x2__law_fixed [4]) aNil)) aNil)))
    (sExp (eMt mAppend 0 (aE (eOpP opAdd (eSm mJoin (pC (.str "")) (aE (eCompR1 (eP (pVar 3)) (gN 4) bYes x3__law_fixed [4]) aNil)) (pC (.str "zz 1"))) aNil)))))
def b__law_fixed : SM := (sSeq (sAsg (eLst (aE (eP (pC (.str ""))) (aE (eP (pC (.str "\n"))) (aE (eP (pC (.str " "))) (aE (eP (pC (.str "a 1 1 leaf 0"))) (aE (eP (pC (.str "a 1 1 leaf 0\n"))) (aE (eP (pC (.str "a 1 1 leaf 0\n\n"))) (aE (eP (pC (.str " a 1 1 leaf 0\n"))) aNil)))))))) (gN 0))
    (sSeq (sAsg (eOpN opAdd 0 (eLst (aE (eP (pC (.str "a 1 1 leaf 0 \n"))) aNil))) (gN 0))
    (sSeq (sAsg (eOpN opAdd 0 (eLst (aE (eP (pC (.str "a  1 1 leaf 0\n"))) (aE (eP (pC (.str "a 01 1 leaf 0\n"))) (aE (eP (pC (.str "a 1 1 leaf 00\n"))) (aE (eP (pC (.str "a 1 1 leaf 99\n"))) aNil)))))) (gN 0))
    (sSeq (sAsg (eOpN opAdd 0 (eLst (aE (eP (pC (.str "a 1 1 leaf 100\n"))) (aE (eP (pC (.str "a 0 1 leaf 1\n"))) aNil)))) (gN 0))
    (sSeq (sAsg (eOpN opAdd 0 (eLst (aE (eP (pC (.str "a 10 1 leaf 1\n"))) (aE (eP (pC (.str "a 1 10 leaf 1\n"))) (aE (eP (pC (.str "a 9 9 leaf 9\n"))) (aE (eP (pC (.str "A 1 1 leaf 1\n"))) aNil)))))) (gN 0))
    (sSeq (sAsg (eOpN opAdd 0 (eLst (aE (eP (pC (.str "a 1 1 Leaf 1\n"))) (aE (eP (pC (.str "a 1 1 leaf\n"))) aNil)))) (gN 0))
    (sSeq (sAsg (eOpN opAdd 0 (eLst (aE (eP (pC (.str "abcdefgh 1 1 leaf 1\n"))) (aE (eP (pC (.str "abcdefghi 1 1 leaf 1\n"))) (aE (eP (pC (.str "a 1 1 plus\n"))) (aE (eP (pC (.str "a 1 1 plus a\n"))) aNil)))))) (gN 0))
    (sSeq (sAsg (eOpN opAdd 0 (eLst (aE (eP (pC (.str "a 1 leaf 1\n"))) (aE (eP (pC (.str "a 1 1 leaf -1\n"))) aNil)))) (gN 0))
    (sSeq (sAsg (eP (pC (.str "a 1 1 leaf 0\n"))) (gN 1))
    (sSeq (sAsg (eOpN opAdd 0 (eLst (aE (eP (pOp2 opAdd (pVar 1) (pC (.str "b 1 1 less a\n")))) (aE (eP (pOp2 opAdd (pVar 1) (pC (.str "b 1 1 less a a\n")))) aNil)))) (gN 0))
    (sSeq (sAsg (eOpN opAdd 0 (eLst (aE (eP (pOp2 opAdd (pVar 1) (pC (.str "b 1 1 less a a a\n")))) (aE (eP (pOp2 opAdd (pVar 1) (pC (.str "b 1 1 plus a a a a a\n")))) aNil)))) (gN 0))
    (sSeq (sAsg (eOpN opAdd 0 (eLst (aE (eP (pOp2 opAdd (pVar 1) (pC (.str "b 1 1 most a a a a\n")))) (aE (eP (pOp2 opAdd (pVar 1) (pC (.str "b 1 1 times a b\n")))) aNil)))) (gN 0))
    (sSeq (sAsg (eOpN opAdd 0 (eLst (aE (eP (pOp2 opAdd (pVar 1) (pC (.str "b 1 1 plus 1\n")))) (aE (eP (pOp2 opAdd (pVar 1) (pVar 1))) (aE (eP (pOp2 opAdd (pVar 1) (pC (.str "b 1 1 plus A\n")))) aNil))))) (gN 0))
    (sSeq (sAsg (eP (pC (.str "abcdefghijklmnopqrstuvwxyz"))) (gN 2))
    (sSeq (sAsg (eCompR1 (eP (pC (.int 25))) (gN 4) bYes x1__law_fixed [4]) (gN 3))
    (sSeq (sAsg (eOpN opAdd 0 (eLst (aE (eSm mJoin (pC (.str "")) (aE (eOp2 opAdd (eOp2 opAdd (ePO (pSl (pVar 3) none (some (pC (.int 1))))) (eLst (aE (eP (pC (.str "B 1 1 leaf 5\n"))) aNil))) (ePO (pSl (pVar 3) (some (pC (.int 2))) none))) aNil)) aNil))) (gN 0))
    (sSeq (sAsg (eOpN opAdd 0 (eLst (aE (eSm mJoin (pC (.str "")) (aE (eOp2 opAdd (ePO (pSl (pVar 3) none (some (pC (.int 24))))) (eLst (aE (eP (pC (.str "Y 1 1 leaf 5\n"))) aNil))) aNil)) aNil))) (gN 0))
    (sSeq (sWp [3] (sFor (eTup (aE (eP (pC (.int 23))) (aE (eP (pC (.int 24))) (aE (eP (pC (.int 25))) (aE (eP (pC (.int 26))) aNil))))) (gN 3) w1__law_fixed))
    (sRet (eMv 0))))))))))))))))))))
def m__law_fixed : FnM := fnM 0 0 5 b__law_fixed
/-! law -/
noncomputable def w1_law : SM := (sWp [5] (sIf (bNot (bV (eCall m__law_right (aE (eCall m__law_bent (aS 4 (aS 2 aNil))) aNil)))) (sRet (eP (pC (.bl false)))) sNil))
noncomputable def w2_law : SM := (sWp [3, 4, 5] (sSeq (sAsg (eCall m__law_tape (aS 0 (aS 3 aNil))) (gN 4))
    (sWp [5] (sForR1 (eP (pC (.int 3))) (gN 5) w1_law))))
noncomputable def x1_law : EM := (eCall m__law_right (aS 6 aNil))
noncomputable def b_law : SM := (sSeq (sAsg (eCall m__law_book (aS 0 (aE (eP (pC (.int 0))) (aE (eP (pC (.int 24))) aNil)))) (gN 1))
    (sSeq (sAsg (eCall m__law_text (aS 1 aNil)) (gN 2))
    (sSeq (sIf (bNot (bV (eCall m__law_right (aS 2 aNil)))) (sRet (eP (pC (.bl false)))) sNil)
    (sSeq (sWp [3, 4, 5] (sForR2 (eP (pC (.int 6))) (eP (pBi opMax [(pC (.int 10)), (pBi opMin [(pC (.int 19)), (pBi opLen [(pVar 0)])])])) (gN 3) w2_law))
    (sRet (eBi opAll (aE (eComp (eCall m__law_fixed aNil) (gN 6) bYes x1_law [6]) aNil)))))))
noncomputable def m_law : FnM := fnM 1 1 7 b_law
section
variable {P : Program} {w : World} {K : PySem.W.Frag} {mg : Str → Option Value} {base : Heap}
theorem sc_NoBook___init__ : FnScope ["self", "fault"] ["self", "fault"] (defScope (inClass (top 2) 0)) := ⟨rfl, rfl, rfl, by decide +kernel, rfl, by decide +kernel, by decide +kernel⟩
theorem ok_NoBook___init__ (T : Txt K w mg) {C f : Addr} {fd : FuncData} (F : Fun K "__init__" "NoBook.__init__" (inClass (top 2) 0) f fd) (hm : mg "NoBook" = some (.ref C)) (O : OexC K C) (hno : PySem.W.findIn K (.ref C) "fault" = some none) (iC : PySem.W.findIn K (.ref C) "__init__" = some (some (.ref f))) (tI : PySem.W.typeIn K (.ref f) = some (.type "function")) (b : Binds K fd ["self", "fault"] []) : XcI P w K mg base 1 "NoBook" "fault" := by
  obtain ⟨S, hS, gS, rS, vS⟩ := T.s_S
  exact ⟨C, f, fd, ["self", "fault"], hm, O, hno, iC, tI, F.ok sc_NoBook___init__ (fun vs H Q E h => by obtain ⟨_, _, _, rfl, _⟩ := h; rfl) fun cdv A outer s H vs Q E hr h => ⟨_, pss_cons (ps_expr (pe_sinit hS gS rS vS (pa_cons (pv 0) (pa_cons (pv 1) pa_nil)))) (pss_one (ps_ost (pv 0) (pv 1))), exi_in (q := "fault") (fun _ y _ _ k => ⟨y, rfl, k y⟩) h⟩, b⟩
theorem sc_NoText___init__ : FnScope ["self", "line"] ["self", "line"] (defScope (inClass (top 4) 0)) := ⟨rfl, rfl, rfl, by decide +kernel, rfl, by decide +kernel, by decide +kernel⟩
theorem ok_NoText___init__ (T : Txt K w mg) {C f : Addr} {fd : FuncData} (F : Fun K "__init__" "NoText.__init__" (inClass (top 4) 0) f fd) (hm : mg "NoText" = some (.ref C)) (O : OexC K C) (hno : PySem.W.findIn K (.ref C) "line" = some none) (iC : PySem.W.findIn K (.ref C) "__init__" = some (some (.ref f))) (tI : PySem.W.typeIn K (.ref f) = some (.type "function")) (b : Binds K fd ["self", "line"] []) : XcI P w K mg base 1 "NoText" "line" := by
  obtain ⟨S, hS, gS, rS, vS⟩ := T.s_S
  exact ⟨C, f, fd, ["self", "line"], hm, O, hno, iC, tI, F.ok sc_NoText___init__ (fun vs H Q E h => by obtain ⟨_, _, _, rfl, _⟩ := h; rfl) fun cdv A outer s H vs Q E hr h => ⟨_, pss_cons (ps_expr (pe_sinit hS gS rS vS (pa_cons (pv 0) (pa_cons pe_str pa_nil)))) (pss_one (ps_ost (pv 0) (pv 1))), exi_in (q := "line") (fun _ _ _ _ k => k _) h⟩, b⟩
theorem sc_is_between : FnScope ["thing", "low", "high"] ["thing", "low", "high"] (defScope (top 17)) := ⟨rfl, rfl, rfl, by decide +kernel, rfl, by decide +kernel, by decide +kernel⟩
theorem ok_is_between (T : Txt K w mg) {f : Addr} {fd : FuncData} (F : Fun K "is_between" "is_between" (top 17) f fd) (hm : mg "is_between" = some (.ref f)) (b : Binds K fd ["thing", "low", "high"] []) : Cl P w K mg base 1 "is_between" m_is_between :=
  cl_of F hm F.kp b sc_is_between rfl (by decide) (by decide) fun cdv A outer s H E vs0 hr hp hq =>
    (s_one (s_ret ((pe_and (p_isi T.z_isinstance (p_var 0) (pe_bltn (by rfl) T.z_int (by rfl) (by rfl))) ((pe_and ((pe_not (p_isi T.z_isinstance (p_var 0) (pe_bltn (by rfl) T.z_bool (by rfl) (by rfl)))).imp imp_pNotV) (pe_one (p_ch op_le op_le r_le r_le (p_var 1) (p_var 0) (p_var 2)))).imp imp_pAndV)).imp imp_pAndV).p))
theorem sc_is_word : FnScope ["thing", "sign"] ["thing"] (defScope (top 18)) := ⟨rfl, rfl, rfl, by decide +kernel, rfl, by decide +kernel, by decide +kernel⟩
theorem ok_is_word (T : Txt K w mg) {f : Addr} {fd : FuncData} (F : Fun K "is_word" "is_word" (top 18) f fd) (hm : mg "is_word" = some (.ref f)) (b : Binds K fd ["thing"] []) : Cl P w K mg base 1 "is_word" m_is_word :=
  cl_of F hm F.kp b sc_is_word rfl (by decide) (by decide) fun cdv A outer s H E vs0 hr hp hq =>
    (s_one (s_ret ((pe_and (p_isi T.z_isinstance (p_var 0) (pe_bltn (by rfl) T.z_str (by rfl) (by rfl))).p ((pe_and (p_ch op_le op_le r_le r_le p_int ((pe_callB c_len (by rfl) T.z_len (by rfl) (ap_cons (p_var 0) ap_nil)).imp (imp_bi r_len)) p_int).p (pe_one ((pe_callB (cr_all rfl) (by rfl) T.z_all (by rfl) (a_e (e_compS rfl sc_is_word.nd (p_var 0) (own := [("sign", 1)]) (blk_ok (N := ["thing", "sign"]) (sc := defScope (top 18)) (by decide +kernel)) (gt_n 1 (hp 1 (by decide)) (by show 1 < 2; decide) (by simp)) (by intro i hi; simp only [List.map_cons, List.map_nil, List.mem_cons, List.not_mem_nil, or_false] at hi; exact hp i (by omega)) (fun _ _ _ _ _ => (pg_name sc_is_word.nd rfl (Or.inl rfl) (Or.inr rfl))) (fun _ _ _ _ _ => ts_nil) (fun _ _ _ _ _ => ((pe_cmpR (op_inAll (h65_of hr)) (p_var 1) (p_globS T.g_LETTERS) (by rfl)).imp (imp_p2 r_in)).p)) a_nil)).imp (imp_biE r_all)))).imp imp_eAndV)).imp imp_eAndV)))
theorem sc_is_recipe : FnScope ["thing", "name"] ["thing"] (defScope (top 19)) := ⟨rfl, rfl, rfl, by decide +kernel, rfl, by decide +kernel, by decide +kernel⟩
theorem ok_is_recipe (T : Txt K w mg) {f : Addr} {fd : FuncData} (F : Fun K "is_recipe" "is_recipe" (top 19) f fd) (hm : mg "is_recipe" = some (.ref f)) (b : Binds K fd ["thing"] []) (c_is_between : Cl P w K mg base 1 "is_between" m_is_between) (c_is_word : Cl P w K mg base 1 "is_word" m_is_word) : Cl P w K mg base 2 "is_recipe" m_is_recipe :=
  cl_of F hm F.kp b sc_is_recipe rfl (by decide) (by decide) fun cdv A outer s H E vs0 hr hp hq =>
    (s_cons (s_if (PW.pt (b_or (b_not (b_valP (p_isi T.z_isinstance (p_var 0) (pe_bltn (by rfl) T.z_tuple (by rfl) (by rfl))))) (b_or ((pt_cmpR (op_neA (h64_of hr)) ((pe_callB c_len (by rfl) T.z_len (by rfl) (ap_cons (p_var 0) ap_nil)).imp (imp_bi r_len)) p_int (nomark _)).imp (imp_bPt (imp_p2 r_ne))) (pw_or1 (b_not (b_valP (p_isi T.z_isinstance (p_ix (h1_of hr) (p_var 0) p_int) (pe_bltn (by rfl) T.z_str (by rfl) (by rfl))))))))) (s_one (s_ret p_bl.p)) s_nil)
    (s_cons (s_if ((pt_cmpR (op_eqA (h64_of hr)) (p_ix (h1_of hr) (p_var 0) p_int) p_str (nomark _)).imp (imp_bPt (imp_p2 r_eq))) (s_one (s_ret (e_callC c_is_between hr (by decide) (a_e (p_ix (h1_of hr) (p_var 0) p_int).p (a_e p_int.p (a_e ((pe_op op_sub (p_globI T.g_WHEEL) p_int).imp (imp_p2 r_sub)).p a_nil)))))) s_nil)
    (s_cons (s_if (PW.pt (b_or (t_gni T.g_MOST_NAMES (p_ix (h1_of hr) (p_var 0) p_int)) (pw_or1 (b_not (b_valP (p_isi T.z_isinstance (p_ix (h1_of hr) (p_var 0) p_int) (pe_bltn (by rfl) T.z_tuple (by rfl) (by rfl)))))))) (s_one (s_ret p_bl.p)) s_nil)
    (s_cons (s_if (b_not ((pt_chain op_le op_le (p_gix T.g_LEAST_NAMES (p_ix (h1_of hr) (p_var 0) p_int)) ((pe_callB c_len (by rfl) T.z_len (by rfl) (ap_cons (p_ix (h1_of hr) (p_var 0) p_int) ap_nil)).imp (imp_bi r_len)) (p_gix T.g_MOST_NAMES (p_ix (h1_of hr) (p_var 0) p_int))).imp (imp_bPt (imp_ch r_le r_le)))) (s_one (s_ret p_bl.p)) s_nil)
    (s_one (s_ret ((pe_callB (cr_all rfl) (by rfl) T.z_all (by rfl) (a_e (e_comp rfl sc_is_recipe.nd (p_ix (h1_of hr) (p_var 0) p_int).p (own := [("name", 1)]) (blk_ok (N := ["thing", "name"]) (sc := defScope (top 19)) (by decide +kernel)) (gt_n 1 (hp 1 (by decide)) (by show 1 < 2; decide) (by simp)) (by intro i hi; simp only [List.map_cons, List.map_nil, List.mem_cons, List.not_mem_nil, or_false] at hi; exact hp i (by omega)) (fun _ _ _ _ _ => (pg_name sc_is_recipe.nd rfl (Or.inl rfl) (Or.inr rfl))) (fun _ _ _ _ _ => ts_nil) (fun _ _ _ _ _ => (e_callC c_is_word hr (by decide) (a_s 1 a_nil)))) a_nil)).imp (imp_biE r_all))))))))
theorem sc_is_part : FnScope ["thing"] ["thing"] (defScope (top 20)) := ⟨rfl, rfl, rfl, by decide +kernel, rfl, by decide +kernel, by decide +kernel⟩
theorem ok_is_part (T : Txt K w mg) {f : Addr} {fd : FuncData} (F : Fun K "is_part" "is_part" (top 20) f fd) (hm : mg "is_part" = some (.ref f)) (b : Binds K fd ["thing"] []) (c_is_word : Cl P w K mg base 1 "is_word" m_is_word) (c_is_recipe : Cl P w K mg base 2 "is_recipe" m_is_recipe) (c_is_between : Cl P w K mg base 1 "is_between" m_is_between) : Cl P w K mg base 3 "is_part" m_is_part :=
  cl_of F hm F.kp b sc_is_part rfl (by decide) (by decide) fun cdv A outer s H E vs0 hr hp hq =>
    (s_cons (s_if (PW.pt (b_or (b_not (b_valP (p_isi T.z_isinstance (p_var 0) (pe_bltn (by rfl) T.z_tuple (by rfl) (by rfl))))) (pw_or1 ((pt_cmpR (op_neA (h64_of hr)) ((pe_callB c_len (by rfl) T.z_len (by rfl) (ap_cons (p_var 0) ap_nil)).imp (imp_bi r_len)) p_int (nomark _)).imp (imp_bPt (imp_p2 r_ne)))))) (s_one (s_ret p_bl.p)) s_nil)
    (s_one (s_ret ((pe_and (e_callC c_is_word hr (by decide) (a_e (p_ix (h1_of hr) (p_var 0) p_int).p a_nil)) ((pe_and (e_callC c_is_recipe hr (by decide) (a_e (p_ix (h1_of hr) (p_var 0) p_int).p a_nil)) ((pe_and (e_callC c_is_between hr (by decide) (a_e (p_ix (h1_of hr) (p_var 0) p_int).p (a_e p_int.p (a_e p_int.p a_nil)))) (pe_one (e_callC c_is_between hr (by decide) (a_e (p_ix (h1_of hr) (p_var 0) p_int).p (a_e p_int.p (a_e p_int.p a_nil)))))).imp imp_eAndV)).imp imp_eAndV)).imp imp_eAndV))))
theorem sc_needs_of : FnScope ["part"] ["part"] (defScope (top 21)) := ⟨rfl, rfl, rfl, by decide +kernel, rfl, by decide +kernel, by decide +kernel⟩
theorem ok_needs_of (T : Txt K w mg) {f : Addr} {fd : FuncData} (F : Fun K "needs_of" "needs_of" (top 21) f fd) (hm : mg "needs_of" = some (.ref f)) (b : Binds K fd ["part"] []) : Cl P w K mg base 1 "needs_of" m_needs_of :=
  cl_of F hm F.kp b sc_needs_of rfl (by decide) (by decide) fun cdv A outer s H E vs0 hr hp hq =>
    (s_cons (s_if ((pt_cmpR (op_eqA (h64_of hr)) (p_ix (h1_of hr) (p_ix (h1_of hr) (p_var 0) p_int) p_int) p_str (nomark _)).imp (imp_bPt (imp_p2 r_eq))) (s_one (s_ret (e_tup a_nil))) s_nil)
    (s_one (s_ret (p_ix (h1_of hr) (p_ix (h1_of hr) (p_var 0) p_int) p_int).p)))
theorem sc_why_no_book : FnScope ["thing", "ahead", "part", "one", "name"] ["thing"] (defScope (top 22)) := ⟨rfl, rfl, rfl, by decide +kernel, rfl, by decide +kernel, by decide +kernel⟩
theorem ok_why_no_book (T : Txt K w mg) {f : Addr} {fd : FuncData} (F : Fun K "why_no_book" "why_no_book" (top 22) f fd) (hm : mg "why_no_book" = some (.ref f)) (b : Binds K fd ["thing"] []) (c_is_part : Cl P w K mg base 3 "is_part" m_is_part) (c_needs_of : Cl P w K mg base 1 "needs_of" m_needs_of) : Cl P w K mg base 4 "why_no_book" m_why_no_book :=
  cl_of F hm F.kp b sc_why_no_book rfl (by decide) (by decide) fun cdv A outer s H E vs0 hr hp hq =>
    (s_cons (s_if (PW.pt (b_or (b_not (b_valP (p_isi T.z_isinstance (p_var 0) (pe_bltn (by rfl) T.z_tuple (by rfl) (by rfl))))) (b_or (b_not ((pt_chain op_le op_le p_int ((pe_callB c_len (by rfl) T.z_len (by rfl) (ap_cons (p_var 0) ap_nil)).imp (imp_bi r_len)) (p_globI T.g_MOST_PARTS)).imp (imp_bPt (imp_ch r_le r_le)))) (pw_or1 (b_not (b_val ((pe_callB (cr_all rfl) (by rfl) T.z_all (by rfl) (a_e (e_comp rfl sc_why_no_book.nd (e_fr 0) (own := [("one", 3)]) (blk_ok (N := ["thing", "ahead", "part", "one", "name"]) (sc := defScope (top 22)) (by decide +kernel)) (gt_n 3 (hp 3 (by decide)) (by show 3 < 5; decide) (by simp)) (by intro i hi; simp only [List.map_cons, List.map_nil, List.mem_cons, List.not_mem_nil, or_false] at hi; exact hp i (by omega)) (fun _ _ _ _ _ => (pg_name sc_why_no_book.nd rfl (Or.inl rfl) (Or.inr rfl))) (fun _ _ _ _ _ => ts_nil) (fun _ _ _ _ _ => (e_callC c_is_part hr (by decide) (a_s 3 a_nil)))) a_nil)).imp (imp_biE r_all)))))))) (s_one (s_ret p_str.p)) s_nil)
    (s_cons (s_set 1 (hp 1 (by decide)) sc_why_no_book.nd e_dicK)
    (s_cons (s_wp (s_for rfl PassesOwn.never (e_fr 0) (g_name 2 (hp 2 (by decide)) sc_why_no_book.nd) (s_wpB (s_cons (s_if (PW.pt (b_or ((pt_cmpR (op_inAll (h65_of hr)) (p_ix (h1_of hr) (p_var 2) p_int) (p_var 1) (by rfl)).imp (imp_bPt (imp_p2 r_in))) (pw_or1 (b_not (b_val ((pe_callB (cr_all rfl) (by rfl) T.z_all (by rfl) (a_e (e_comp rfl sc_why_no_book.nd (e_callC c_needs_of hr (by decide) (a_s 2 a_nil)) (own := [("name", 4)]) (blk_ok (N := ["thing", "ahead", "part", "one", "name"]) (sc := defScope (top 22)) (by decide +kernel)) (gt_n 4 (hp 4 (by decide)) (by show 4 < 5; decide) (by simp)) (by intro i hi; simp only [List.map_cons, List.map_nil, List.mem_cons, List.not_mem_nil, or_false] at hi; exact hp i (by omega)) (fun _ _ _ _ _ => (pg_name sc_why_no_book.nd rfl (Or.inl rfl) (Or.inr rfl))) (fun _ _ _ _ _ => ts_nil) (fun _ _ _ _ _ => ((pe_cmpR (op_inAll (h65_of hr)) (p_var 4) (p_var 1) (by rfl)).imp (imp_p2 r_in)).p)) a_nil)).imp (imp_biE r_all))))))) (s_one (s_ret p_str.p)) s_nil)
    (s_one (s_asg p_bl.p (g_st (h1_of hr) (l_var 1) (p_ix (h1_of hr) (p_var 2) p_int))))))))
    (s_one (s_ret p_non.p)))))
theorem sc_need_book : FnScope ["thing", "fault"] ["thing"] (defScope (top 23)) := ⟨rfl, rfl, rfl, by decide +kernel, rfl, by decide +kernel, by decide +kernel⟩
theorem ok_need_book (T : Txt K w mg) {f : Addr} {fd : FuncData} (F : Fun K "need_book" "need_book" (top 23) f fd) (hm : mg "need_book" = some (.ref f)) (b : Binds K fd ["thing"] []) (c_why_no_book : Cl P w K mg base 4 "why_no_book" m_why_no_book) (c_NoBook___init__ : XcI P w K mg base 1 "NoBook" "fault") : ClX P w K mg base 5 "need_book" m_need_book :=
  clX_of F hm F.kp b sc_need_book rfl (by decide) (by decide) fun cdv A outer s H E vs0 hr hp hq tk po =>
    (s_cons (s_set 1 (hp 1 (by decide)) sc_need_book.nd (e_callC c_why_no_book hr (by decide) (a_s 0 a_nil)))
    (s_one (s_if ((pt_cmpR op_notN (p_var 1) p_non (nomark _)).imp (imp_bPt (imp_p2 r_notN))) (s_one (s_rz1 rfl tk c_NoBook___init__ hr (by decide) (p_var 1))) s_nil)))
theorem sc_number_by : FnScope ["word", "sign"] ["word"] (defScope (top 26)) := ⟨rfl, rfl, rfl, by decide +kernel, rfl, by decide +kernel, by decide +kernel⟩
theorem ok_number_by (T : Txt K w mg) {f : Addr} {fd : FuncData} (F : Fun K "number_by" "number_by" (top 26) f fd) (hm : mg "number_by" = some (.ref f)) (b : Binds K fd ["word"] []) : Cl P w K mg base 1 "number_by" m_number_by :=
  cl_of F hm F.kp b sc_number_by rfl (by decide) (by decide) fun cdv A outer s H E vs0 hr hp hq =>
    (s_cons (s_if (PW.pt (b_or (b_not ((pt_chain op_le op_le p_int ((pe_callB c_len (by rfl) T.z_len (by rfl) (ap_cons (p_var 0) ap_nil)).imp (imp_bi r_len)) p_int).imp (imp_bPt (imp_ch r_le r_le)))) (pw_or1 (b_not (b_val ((pe_callB (cr_all rfl) (by rfl) T.z_all (by rfl) (a_e (e_compS rfl sc_number_by.nd (p_var 0) (own := [("sign", 1)]) (blk_ok (N := ["word", "sign"]) (sc := defScope (top 26)) (by decide +kernel)) (gt_n 1 (hp 1 (by decide)) (by show 1 < 2; decide) (by simp)) (by intro i hi; simp only [List.map_cons, List.map_nil, List.mem_cons, List.not_mem_nil, or_false] at hi; exact hp i (by omega)) (fun _ _ _ _ _ => (pg_name sc_number_by.nd rfl (Or.inl rfl) (Or.inr rfl))) (fun _ _ _ _ _ => ts_nil) (fun _ _ _ _ _ => ((pe_cmpR (op_inAll (h65_of hr)) (p_var 1) (p_globS T.g_FIGURES) (by rfl)).imp (imp_p2 r_in)).p)) a_nil)).imp (imp_biE r_all))))))) (s_one (s_ret p_non.p)) s_nil)
    (s_cons (s_if (PW.pt (b_and ((pt_cmpR op_gt ((pe_callB c_len (by rfl) T.z_len (by rfl) (ap_cons (p_var 0) ap_nil)).imp (imp_bi r_len)) p_int (nomark _)).imp (imp_bPt (imp_p2 r_gt))) (pw_and1 ((pt_cmpR (op_eqA (h64_of hr)) (p_ix (h1_of hr) (p_var 0) p_int) p_str (nomark _)).imp (imp_bPt (imp_p2 r_eq)))))) (s_one (s_ret p_non.p)) s_nil)
    (s_one (s_ret ((pe_callTy c_int (by rfl) T.z_int (by rfl) (ap_cons (p_var 0) ap_nil)).imp (imp_bi r_int)).p))))
theorem sc_read_part : FnScope ["line", "words", "numbers", "names", "n", "word", "number", "name"] ["line"] (defScope (top 27)) := ⟨rfl, rfl, rfl, by decide +kernel, rfl, by decide +kernel, by decide +kernel⟩
theorem ok_read_part (T : Txt K w mg) {f : Addr} {fd : FuncData} (F : Fun K "read_part" "read_part" (top 27) f fd) (hm : mg "read_part" = some (.ref f)) (b : Binds K fd ["line"] []) (c_is_word : Cl P w K mg base 1 "is_word" m_is_word) (c_number_by : Cl P w K mg base 1 "number_by" m_number_by) : Cl P w K mg base 2 "read_part" m_read_part :=
  cl_of F hm F.kp b sc_read_part rfl (by decide) (by decide) fun cdv A outer s H E vs0 hr hp hq =>
    (s_cons (s_set 1 (hp 1 (by decide)) sc_read_part.nd ((pe_bm PySem.F.plainAttrs_str PySem.F.slot_str_split PySem.F.type_str_split mt_splitS (p_var 0) (a_e p_str.p a_nil)).imp (imp_sm rs_split)))
    (s_cons (s_if (PW.pt (b_or ((pt_cmpR op_lt ((pe_callB c_len (by rfl) T.z_len (by rfl) (ap_cons (p_var 1) ap_nil)).imp (imp_bi r_len)) p_int (nomark _)).imp (imp_bPt (imp_p2 r_lt))) (pw_or1 (b_not (b_val (e_callC c_is_word hr (by decide) (a_e (p_ix (h1_of hr) (p_var 1) p_int).p a_nil))))))) (s_one (s_ret p_non.p)) s_nil)
    (s_cons (s_comp 2 (hp 2 (by decide)) rfl sc_read_part.nd (e_sl (p_var 1) (o_some p_int) (o_some p_int)) (own := [("word", 5)]) (blk_ok (N := ["line", "words", "numbers", "names", "n", "word", "number", "name"]) (sc := defScope (top 27)) (by decide +kernel)) (gt_n 5 (hp 5 (by decide)) (by show 5 < 8; decide) (by simp)) (by intro i hi; simp only [List.map_cons, List.map_nil, List.mem_cons, List.not_mem_nil, or_false] at hi; exact hp i (by omega)) (fun _ _ _ _ _ => (pg_name sc_read_part.nd rfl (Or.inl rfl) (Or.inr rfl))) (fun _ _ _ _ _ => ts_nil) (fun _ _ _ _ _ => (e_callC c_number_by hr (by decide) (a_s 5 a_nil))) (by rfl))
    (s_cons (s_if (b_not (b_val ((pe_callB (cr_all rfl) (by rfl) T.z_all (by rfl) (a_e (e_comp rfl sc_read_part.nd (e_fr 2) (own := [("number", 6)]) (blk_ok (N := ["line", "words", "numbers", "names", "n", "word", "number", "name"]) (sc := defScope (top 27)) (by decide +kernel)) (gt_n 6 (hp 6 (by decide)) (by show 6 < 8; decide) (by simp)) (by intro i hi; simp only [List.map_cons, List.map_nil, List.mem_cons, List.not_mem_nil, or_false] at hi; exact hp i (by omega)) (fun _ _ _ _ _ => (pg_name sc_read_part.nd rfl (Or.inl rfl) (Or.inr rfl))) (fun _ _ _ _ _ => ts_nil) (fun _ _ _ _ _ => ((pe_and ((pe_cmpR op_notN (p_var 6) p_non (nomark _)).imp (imp_p2 r_notN)) (pe_one (p_ch op_le op_le r_le r_le p_int (p_var 6) p_int))).imp imp_pAndV).p)) a_nil)).imp (imp_biE r_all)))) (s_one (s_ret p_non.p)) s_nil)
    (s_cons (s_wp (s_if ((pt_cmpR (op_eqA (h64_of hr)) (p_ix (h1_of hr) (p_var 1) p_int) p_str (nomark _)).imp (imp_bPt (imp_p2 r_eq))) (s_cons (s_set 4 (hp 4 (by decide)) sc_read_part.nd (e_callC c_number_by hr (by decide) (a_e (p_ix (h1_of hr) (p_var 1) p_int).p a_nil)))
    (s_cons (s_if (PW.pt (b_or ((pt_cmpR op_gt ((pe_callB c_len (by rfl) T.z_len (by rfl) (ap_cons (p_var 1) ap_nil)).imp (imp_bi r_len)) p_int (nomark _)).imp (imp_bPt (imp_p2 r_gt))) (pw_or1 ((pt_cmpR op_isN (p_var 4) p_non (nomark _)).imp (imp_bPt (imp_p2 r_isN)))))) (s_one (s_ret p_non.p)) s_nil)
    (s_one (s_ret (e_tup (a_e (p_ix (h1_of hr) (p_var 1) p_int).p (a_e (e_tup (a_e p_str.p (a_e (p_var 4).p a_nil))) (a_e (p_ix (h1_of hr) (p_var 2) p_int).p (a_e (p_ix (h1_of hr) (p_var 2) p_int).p a_nil))))))))) s_nil))
    (s_cons (s_set 3 (hp 3 (by decide)) sc_read_part.nd (e_sl (p_var 1) (o_some p_int) o_none))
    (s_cons (s_if (PW.pt (b_or (t_gni T.g_MOST_NAMES (p_ix (h1_of hr) (p_var 1) p_int)) (pw_or1 (b_not ((pt_chain op_le op_le (p_gix T.g_LEAST_NAMES (p_ix (h1_of hr) (p_var 1) p_int)) ((pe_callB c_len (by rfl) T.z_len (by rfl) (ap_cons (p_var 3) ap_nil)).imp (imp_bi r_len)) (p_gix T.g_MOST_NAMES (p_ix (h1_of hr) (p_var 1) p_int))).imp (imp_bPt (imp_ch r_le r_le))))))) (s_one (s_ret p_non.p)) s_nil)
    (s_cons (s_if (b_not (b_val ((pe_callB (cr_all rfl) (by rfl) T.z_all (by rfl) (a_e (e_comp rfl sc_read_part.nd (e_fr 3) (own := [("name", 7)]) (blk_ok (N := ["line", "words", "numbers", "names", "n", "word", "number", "name"]) (sc := defScope (top 27)) (by decide +kernel)) (gt_n 7 (hp 7 (by decide)) (by show 7 < 8; decide) (by simp)) (by intro i hi; simp only [List.map_cons, List.map_nil, List.mem_cons, List.not_mem_nil, or_false] at hi; exact hp i (by omega)) (fun _ _ _ _ _ => (pg_name sc_read_part.nd rfl (Or.inl rfl) (Or.inr rfl))) (fun _ _ _ _ _ => ts_nil) (fun _ _ _ _ _ => (e_callC c_is_word hr (by decide) (a_s 7 a_nil)))) a_nil)).imp (imp_biE r_all)))) (s_one (s_ret p_non.p)) s_nil)
    (s_one (s_ret (e_tup (a_e (p_ix (h1_of hr) (p_var 1) p_int).p (a_e (e_tup (a_e (p_ix (h1_of hr) (p_var 1) p_int).p (a_e ((pe_callTy c_tuple (by rfl) T.z_tuple (by rfl) (ap_cons (p_var 3) ap_nil)).imp (imp_bi r_tuple)).p a_nil))) (a_e (p_ix (h1_of hr) (p_var 2) p_int).p (a_e (p_ix (h1_of hr) (p_var 2) p_int).p a_nil)))))))))))))))
theorem sc_read_book : FnScope ["text", "lines", "found", "book", "number", "line", "part"] ["text"] (defScope (top 28)) := ⟨rfl, rfl, rfl, by decide +kernel, rfl, by decide +kernel, by decide +kernel⟩
theorem ok_read_book (T : Txt K w mg) {f : Addr} {fd : FuncData} (F : Fun K "read_book" "read_book" (top 28) f fd) (hm : mg "read_book" = some (.ref f)) (b : Binds K fd ["text"] []) (c_read_part : Cl P w K mg base 2 "read_part" m_read_part) (c_NoText___init__ : XcI P w K mg base 1 "NoText" "line") (c_need_book : ClX P w K mg base 5 "need_book" m_need_book) : ClX P w K mg base 6 "read_book" m_read_book :=
  clX_of F hm F.kp b sc_read_book rfl (by decide) (by decide) fun cdv A outer s H E vs0 hr hp hq tk po =>
    (s_cons (s_set 1 (hp 1 (by decide)) sc_read_book.nd ((pe_bm PySem.F.plainAttrs_str PySem.F.slot_str_split PySem.F.type_str_split mt_splitS (p_var 0) (a_e p_str.p a_nil)).imp (imp_sm rs_split)))
    (s_cons (s_set 2 (hp 2 (by decide)) sc_read_book.nd (e_lst a_nil))
    (s_cons (s_wp (s_forE rfl po T.z_enumerate (e_sl (p_var 1) o_none (o_some ((pe_un un_neg p_int).imp (imp_p1 r_neg)))) (g_tup [4, 5] (by intro i hi; simp only [List.mem_cons, List.not_mem_nil, or_false] at hi; exact ⟨hp i (by omega), by show i < 7; omega⟩) rfl (gs_cons 4 sc_read_book.nd (gs_cons 5 sc_read_book.nd gs_nil))) (s_wpB (s_cons (s_set 6 (hp 6 (by decide)) sc_read_book.nd (e_callC c_read_part hr (by decide) (a_s 5 a_nil)))
    (s_cons (s_if (PW.pt (b_or ((pt_cmpR op_isN (p_var 6) p_non (nomark _)).imp (imp_bPt (imp_p2 r_isN))) (pw_or1 ((pt_cmpR op_ge (p_var 4) (p_globI T.g_MOST_PARTS) (nomark _)).imp (imp_bPt (imp_p2 r_ge)))))) (s_one (s_rz1 rfl tk c_NoText___init__ hr (by decide) (p_var 4))) s_nil)
    (s_one (s_exp ((pe_bm PySem.F.plainAttrs_list PySem.F.slot_list_append PySem.F.type_list_append mt_append (pv 2) (a_e (p_var 6).p a_nil)).imp (imp_mt rm_append ty_append)))))))))
    (s_cons (s_if (PW.pt (b_or ((pt_cmpR (op_neA (h64_of hr)) (p_ix (h1_of hr) (p_var 1) ((pe_un un_neg p_int).imp (imp_p1 r_neg))) p_str (nomark _)).imp (imp_bPt (imp_p2 r_ne))) (pw_or1 ((pt_cmpR (op_eqA (h64_of hr)) (pv 2) (e_lst a_nil) (nomark _)).imp (imp_bVt (imp_opN r_eq)))))) (s_one (s_rz1 rfl tk c_NoText___init__ hr (by decide) ((pe_callB c_len (by rfl) T.z_len (by rfl) (ap_cons (p_var 2) ap_nil)).imp (imp_bi r_len)))) s_nil)
    (s_cons (s_set 3 (hp 3 (by decide)) sc_read_book.nd ((pe_callTy c_tuple (by rfl) T.z_tuple (by rfl) (ap_cons (p_var 2) ap_nil)).imp (imp_bi r_tuple)).p)
    (s_cons (s_expX c_need_book hr (by decide) tk (a_s 3 a_nil))
    (s_one (s_ret (p_var 3).p))))))))
theorem sc__law_cell_at : FnScope ["script", "k"] ["script", "k"] (defScope (top 30)) := ⟨rfl, rfl, rfl, by decide +kernel, rfl, by decide +kernel, by decide +kernel⟩
theorem ok__law_cell_at (T : Txt K w mg) {f : Addr} {fd : FuncData} (F : Fun K "_law_cell_at" "_law_cell_at" (top 30) f fd) (hm : mg "_law_cell_at" = some (.ref f)) (b : Binds K fd ["script", "k"] []) : Cl P w K mg base 1 "_law_cell_at" m__law_cell_at :=
  cl_of F hm F.kp b sc__law_cell_at rfl (by decide) (by decide) fun cdv A outer s H E vs0 hr hp hq =>
    (s_cons (s_if ((pt_cmpR op_lt (p_var 1) ((pe_callB c_len (by rfl) T.z_len (by rfl) (ap_cons (p_var 0) ap_nil)).imp (imp_bi r_len)) (nomark _)).imp (imp_bPt (imp_p2 r_lt))) (s_one (s_ret (p_ix (h1_of hr) (p_var 0) (p_var 1)).p)) s_nil)
    (s_one (s_ret p_int.p)))
theorem sc__law_tape : FnScope ["script", "k", "cell", "p", "one", "found", "turn"] ["script", "k"] (defScope (top 31)) := ⟨rfl, rfl, rfl, by decide +kernel, rfl, by decide +kernel, by decide +kernel⟩
theorem ok__law_tape (T : Txt K w mg) {f : Addr} {fd : FuncData} (F : Fun K "_law_tape" "_law_tape" (top 31) f fd) (hm : mg "_law_tape" = some (.ref f)) (b : Binds K fd ["script", "k"] []) (c__law_cell_at : Cl P w K mg base 1 "_law_cell_at" m__law_cell_at) : Cl P w K mg base 2 "_law_tape" m__law_tape :=
  cl_of F hm F.kp b sc__law_tape rfl (by decide) (by decide) fun cdv A outer s H E vs0 hr hp hq =>
    (s_cons (s_set 2 (hp 2 (by decide)) sc__law_tape.nd (e_callC c__law_cell_at hr (by decide) (a_s 0 (a_s 1 a_nil))))
    (s_cons (s_if ((pt_cmpR (op_eqA (h64_of hr)) (p_var 2) p_int (nomark _)).imp (imp_bPt (imp_p2 r_eq))) (s_one (s_ret (e_lst (a_e p_int.p a_nil)))) s_nil)
    (s_cons (s_if ((pt_cmpR op_ge (p_var 2) ((pe_op op_pow p_int p_int).imp (imp_p2 r_pow)) (nomark _)).imp (imp_bPt (imp_p2 r_ge))) (s_one (s_ret (e_lst (a_e ((pe_op op_sub (p_var 2) ((pe_op op_pow p_int p_int).imp (imp_p2 r_pow))).imp (imp_p2 r_sub)).p a_nil)))) s_nil)
    (s_cons (s_set 3 (hp 3 (by decide)) sc__law_tape.nd p_int.p)
    (s_cons (s_set 4 (hp 4 (by decide)) sc__law_tape.nd ((pe_op op_mod ((pe_op op_addD ((pe_op op_addD ((pe_op op_mulA (p_var 2) p_int).imp (imp_p2 r_mulA)) ((pe_op op_mulA p_int (p_var 1)).imp (imp_p2 r_mulA))).imp (imp_p2 r_add)) p_int).imp (imp_p2 r_add)) (p_var 3)).imp (imp_p2 r_mod)).p)
    (s_cons (s_set 5 (hp 5 (by decide)) sc__law_tape.nd (p_var 4).p)
    (s_cons (s_for1 rfl PassesOwn.never T.z_range p_int.p (g_name 6 (hp 6 (by decide)) sc__law_tape.nd) (s_cons (s_set 4 (hp 4 (by decide)) sc__law_tape.nd ((pe_op op_mod ((pe_op op_addD ((pe_op op_addD ((pe_op op_addD ((pe_op op_mulA (p_var 4) (p_var 4)).imp (imp_p2 r_mulA)) ((pe_op op_mulA p_int (p_var 6)).imp (imp_p2 r_mulA))).imp (imp_p2 r_add)) (p_var 2)).imp (imp_p2 r_add)) p_int).imp (imp_p2 r_add)) (p_var 3)).imp (imp_p2 r_mod)).p)
    (s_one (s_set 5 (hp 5 (by decide)) sc__law_tape.nd ((pe_op op_addD ((pe_op op_mulA (p_var 5) (p_var 3)).imp (imp_p2 r_mulA)) (p_var 4)).imp (imp_p2 r_add)).p))))
    (s_one (s_ret (e_lst (a_e (p_var 5).p a_nil)))))))))))
theorem sc__law_digit : FnScope ["tape", "many", "found"] ["tape", "many"] (defScope (top 32)) := ⟨rfl, rfl, rfl, by decide +kernel, rfl, by decide +kernel, by decide +kernel⟩
theorem ok__law_digit (T : Txt K w mg) {f : Addr} {fd : FuncData} (F : Fun K "_law_digit" "_law_digit" (top 32) f fd) (hm : mg "_law_digit" = some (.ref f)) (b : Binds K fd ["tape", "many"] []) : Cl P w K mg base 1 "_law_digit" m__law_digit :=
  cl_of F hm F.kp b sc__law_digit rfl (by decide) (by decide) fun cdv A outer s H E vs0 hr hp hq =>
    (s_cons (s_set 2 (hp 2 (by decide)) sc__law_digit.nd ((pe_op op_mod (p_ix (h1_of hr) (p_var 0) p_int) (p_var 1)).imp (imp_p2 r_mod)).p)
    (s_cons (s_asg ((pe_op op_fdiv (p_ix (h1_of hr) (p_var 0) p_int) (p_var 1)).imp (imp_p2 r_fdiv)).p (g_st (h1_of hr) (l_var 0) p_int))
    (s_one (s_ret (p_var 2).p))))
theorem sc__law_words : FnScope ["tape", "many", "letters", "way", "turn", "some", "ends", "step", "found", "k", "first"] ["tape", "many"] (defScope (top 33)) := ⟨rfl, rfl, rfl, by decide +kernel, rfl, by decide +kernel, by decide +kernel⟩
theorem ok__law_words (T : Txt K w mg) {f : Addr} {fd : FuncData} (F : Fun K "_law_words" "_law_words" (top 33) f fd) (hm : mg "_law_words" = some (.ref f)) (b : Binds K fd ["tape", "many"] []) (c__law_digit : Cl P w K mg base 1 "_law_digit" m__law_digit) : Cl P w K mg base 2 "_law_words" m__law_words :=
  cl_of F hm F.kp b sc__law_words rfl (by decide) (by decide) fun cdv A outer s H E vs0 hr hp hq =>
    (s_cons (s_set 2 (hp 2 (by decide)) sc__law_words.nd p_str.p)
    (s_cons (s_set 3 (hp 3 (by decide)) sc__law_words.nd (e_callC c__law_digit hr (by decide) (a_s 0 (a_e p_int.p a_nil))))
    (s_cons (s_set 4 (hp 4 (by decide)) sc__law_words.nd (e_callC c__law_digit hr (by decide) (a_s 0 (a_e p_int.p a_nil))))
    (s_cons (s_if ((pt_cmpR (op_eqA (h64_of hr)) (p_var 3) p_int (nomark _)).imp (imp_bPt (imp_p2 r_eq))) (s_cons (s_set 6 (hp 6 (by decide)) sc__law_words.nd (e_ix (h1_of hr) (e_lst (a_e p_str.p (a_e p_str.p (a_e p_str.p a_nil)))) (e_callC c__law_digit hr (by decide) (a_s 0 (a_e p_int.p a_nil)))))
    (s_one (s_ret (e_comp1 rfl sc__law_words.nd T.z_range (p_var 1).p (own := [("k", 9)]) (blk_ok (N := ["tape", "many", "letters", "way", "turn", "some", "ends", "step", "found", "k", "first"]) (sc := defScope (top 33)) (by decide +kernel)) (gt_n 9 (hp 9 (by decide)) (by show 9 < 11; decide) (by simp)) (by intro i hi; simp only [List.map_cons, List.map_nil, List.mem_cons, List.not_mem_nil, or_false] at hi; exact hp i (by omega)) (fun _ _ _ _ _ => (pg_name sc__law_words.nd rfl (Or.inl rfl) (Or.inr rfl))) (fun _ _ _ _ _ => ts_nil) (fun _ _ _ _ _ => ((pe_op op_addD (p_ix (h1_of hr) (p_var 2) ((pe_op op_mod ((pe_op op_addD (p_var 4) (p_var 9)).imp (imp_p2 r_add)) p_int).imp (imp_p2 r_mod))) (p_var 6)).imp (imp_p2 r_add)).p))))) s_nil)
    (s_cons (s_if ((pt_cmpR (op_eqA (h64_of hr)) (p_var 3) p_int (nomark _)).imp (imp_bPt (imp_p2 r_eq))) (s_one (s_ret (e_comp1 rfl sc__law_words.nd T.z_range (p_var 1).p (own := [("k", 9)]) (blk_ok (N := ["tape", "many", "letters", "way", "turn", "some", "ends", "step", "found", "k", "first"]) (sc := defScope (top 33)) (by decide +kernel)) (gt_n 9 (hp 9 (by decide)) (by show 9 < 11; decide) (by simp)) (by intro i hi; simp only [List.map_cons, List.map_nil, List.mem_cons, List.not_mem_nil, or_false] at hi; exact hp i (by omega)) (fun _ _ _ _ _ => (pg_name sc__law_words.nd rfl (Or.inl rfl) (Or.inr rfl))) (fun _ _ _ _ _ => ts_nil) (fun _ _ _ _ _ => ((pe_op op_mulA (p_ix (h1_of hr) (p_var 2) ((pe_op op_mod ((pe_op op_addD (p_var 4) ((pe_op op_fdiv (p_var 9) p_int).imp (imp_p2 r_fdiv))).imp (imp_p2 r_add)) p_int).imp (imp_p2 r_mod))) ((pe_op op_addD p_int ((pe_op op_mod (p_var 9) p_int).imp (imp_p2 r_mod))).imp (imp_p2 r_add))).imp (imp_p2 r_mulA)).p)))) s_nil)
    (s_cons (s_if ((pt_cmpR (op_eqA (h64_of hr)) (p_var 3) p_int (nomark _)).imp (imp_bPt (imp_p2 r_eq))) (s_cons (s_set 7 (hp 7 (by decide)) sc__law_words.nd (e_ix (h1_of hr) (e_lst (a_e p_int.p (a_e p_int.p (a_e p_int.p (a_e p_int.p a_nil))))) (e_callC c__law_digit hr (by decide) (a_s 0 (a_e p_int.p a_nil)))))
    (s_cons (s_set 8 (hp 8 (by decide)) sc__law_words.nd (e_lst a_nil))
    (s_cons (s_for1 rfl PassesOwn.never T.z_range (p_var 1).p (g_name 9 (hp 9 (by decide)) sc__law_words.nd) (s_cons (s_set 10 (hp 10 (by decide)) sc__law_words.nd (p_ix (h1_of hr) (p_var 2) ((pe_op op_mod ((pe_op op_addD (p_var 4) ((pe_op op_mulA (p_var 7) ((pe_op op_sub (p_var 1) (p_var 9)).imp (imp_p2 r_sub))).imp (imp_p2 r_mulA))).imp (imp_p2 r_add)) p_int).imp (imp_p2 r_mod))).p)
    (s_one (s_exp ((pe_bm PySem.F.plainAttrs_list PySem.F.slot_list_append PySem.F.type_list_append mt_append (pv 8) (a_e ((pe_op op_addD (p_var 10) ((pe_op op_mulA (p_ix (h1_of hr) (p_var 2) (p_var 4)) ((pe_op op_mod (p_var 9) p_int).imp (imp_p2 r_mod))).imp (imp_p2 r_mulA))).imp (imp_p2 r_add)).p a_nil)).imp (imp_mt rm_append ty_append))))))
    (s_one (s_ret (e_mv 8)))))) s_nil)
    (s_cons (s_set 5 (hp 5 (by decide)) sc__law_words.nd (e_lst (a_e p_str.p (a_e p_str.p (a_e p_str.p (a_e p_str.p (a_e p_str.p (a_e p_str.p (a_e p_str.p (a_e p_str.p (a_e p_str.p (a_e p_str.p (a_e p_str.p (a_e p_str.p a_nil))))))))))))))
    (s_cons (s_set 5 (hp 5 (by decide)) sc__law_words.nd ((pe_op op_addD (pv 5) (e_lst (a_e p_str.p (a_e p_str.p (a_e p_str.p (a_e p_str.p (a_e p_str.p (a_e p_str.p (a_e p_str.p (a_e p_str.p (a_e p_str.p (a_e p_str.p (a_e p_str.p (a_e p_str.p a_nil)))))))))))))).imp (imp_opN r_add)))
    (s_one (s_ret (e_comp1 rfl sc__law_words.nd T.z_range (p_var 1).p (own := [("k", 9)]) (blk_ok (N := ["tape", "many", "letters", "way", "turn", "some", "ends", "step", "found", "k", "first"]) (sc := defScope (top 33)) (by decide +kernel)) (gt_n 9 (hp 9 (by decide)) (by show 9 < 11; decide) (by simp)) (by intro i hi; simp only [List.map_cons, List.map_nil, List.mem_cons, List.not_mem_nil, or_false] at hi; exact hp i (by omega)) (fun _ _ _ _ _ => (pg_name sc__law_words.nd rfl (Or.inl rfl) (Or.inr rfl))) (fun _ _ _ _ _ => ts_nil) (fun _ _ _ _ _ => (p_ix (h1_of hr) (p_var 5) ((pe_op op_mod ((pe_op op_addD (p_var 4) (p_var 9)).imp (imp_p2 r_add)) p_int).imp (imp_p2 r_mod))).p))))))))))))
theorem sc__law_recipe : FnScope ["tape", "ahead", "way", "word", "many", "found", "k"] ["tape", "ahead"] (defScope (top 34)) := ⟨rfl, rfl, rfl, by decide +kernel, rfl, by decide +kernel, by decide +kernel⟩
theorem ok__law_recipe (T : Txt K w mg) {f : Addr} {fd : FuncData} (F : Fun K "_law_recipe" "_law_recipe" (top 34) f fd) (hm : mg "_law_recipe" = some (.ref f)) (b : Binds K fd ["tape", "ahead"] []) (c__law_digit : Cl P w K mg base 1 "_law_digit" m__law_digit) : Cl P w K mg base 2 "_law_recipe" m__law_recipe :=
  cl_of F hm F.kp b sc__law_recipe rfl (by decide) (by decide) fun cdv A outer s H E vs0 hr hp hq =>
    (s_cons (s_set 2 (hp 2 (by decide)) sc__law_recipe.nd (e_callC c__law_digit hr (by decide) (a_s 0 (a_e p_int.p a_nil))))
    (s_cons (s_if (PW.pt (b_or ((pt_cmpR (op_eqA (h64_of hr)) (pv 1) (e_lst a_nil) (nomark _)).imp (imp_bVt (imp_opN r_eq))) (pw_or1 ((pt_cmpR op_lt (p_var 2) p_int (nomark _)).imp (imp_bPt (imp_p2 r_lt)))))) (s_one (s_ret (e_tup (a_e p_str.p (a_e (e_ix (h1_of hr) (e_lst (a_e p_int.p (a_e p_int.p (a_e p_int.p (a_e p_int.p (a_e p_int.p (a_e p_int.p (a_e (e_callC c__law_digit hr (by decide) (a_s 0 (a_e p_int.p a_nil))) a_nil)))))))) (e_callC c__law_digit hr (by decide) (a_s 0 (a_e p_int.p a_nil)))) a_nil))))) s_nil)
    (s_cons (s_set 3 (hp 3 (by decide)) sc__law_recipe.nd (e_ixP (h1_of hr) (e_lst (a_e p_str.p (a_e p_str.p (a_e p_str.p (a_e p_str.p (a_e p_str.p (a_e p_str.p a_nil))))))) ((pe_op op_sub (p_var 2) p_int).imp (imp_p2 r_sub))))
    (s_cons (s_set 4 (hp 4 (by decide)) sc__law_recipe.nd (e_ix (h1_of hr) (e_lst (a_e p_int.p (a_e p_int.p (a_e p_int.p (a_e p_int.p (a_e p_int.p (a_e p_int.p a_nil))))))) (e_callC c__law_digit hr (by decide) (a_s 0 (a_e p_int.p a_nil)))))
    (s_cons (s_if ((pt_cmpR (op_eqA (h64_of hr)) (p_var 3) p_str (nomark _)).imp (imp_bPt (imp_p2 r_eq))) (s_one (s_set 4 (hp 4 (by decide)) sc__law_recipe.nd p_int.p)) s_nil)
    (s_cons (s_set 5 (hp 5 (by decide)) sc__law_recipe.nd (e_lst a_nil))
    (s_cons (s_for1 rfl PassesOwn.never T.z_range (p_var 4).p (g_name 6 (hp 6 (by decide)) sc__law_recipe.nd) (s_one (s_exp ((pe_bm PySem.F.plainAttrs_list PySem.F.slot_list_append PySem.F.type_list_append mt_append (pv 5) (a_e (e_ixV 1 (h1_of hr) ((pe_op op_sub ((pe_op op_sub ((pe_callB c_len (by rfl) T.z_len (by rfl) (ap_cons (p_var 1) ap_nil)).imp (imp_bi r_len)) p_int).imp (imp_p2 r_sub)).p (e_callC c__law_digit hr (by decide) (a_s 0 (a_e ((pe_callB (c_min rfl) (by rfl) T.z_min (by rfl) (a_e ((pe_callB c_len (by rfl) T.z_len (by rfl) (ap_cons (p_var 1) ap_nil)).imp (imp_bi r_len)).p (a_e (e_ix (h1_of hr) (e_lst (a_e p_int.p (a_e p_int.p (a_e p_int.p a_nil)))) (e_callC c__law_digit hr (by decide) (a_s 0 (a_e p_int.p a_nil)))) a_nil))).imp (imp_biE r_min)) a_nil)))).imp (imp_e2 r_sub))) a_nil)).imp (imp_mt rm_append ty_append)))))
    (s_one (s_ret (e_tup (a_e (p_var 3).p (a_e ((pe_callTy c_tuple (by rfl) T.z_tuple (by rfl) (ap_cons (p_var 5) ap_nil)).imp (imp_bi r_tuple)).p a_nil))))))))))))
theorem sc__law_number : FnScope ["tape"] ["tape"] (defScope (top 35)) := ⟨rfl, rfl, rfl, by decide +kernel, rfl, by decide +kernel, by decide +kernel⟩
theorem ok__law_number (T : Txt K w mg) {f : Addr} {fd : FuncData} (F : Fun K "_law_number" "_law_number" (top 35) f fd) (hm : mg "_law_number" = some (.ref f)) (b : Binds K fd ["tape"] []) (c__law_digit : Cl P w K mg base 1 "_law_digit" m__law_digit) : Cl P w K mg base 2 "_law_number" m__law_number :=
  cl_of F hm F.kp b sc__law_number rfl (by decide) (by decide) fun cdv A outer s H E vs0 hr hp hq =>
    (s_one (s_ret (e_ix (h1_of hr) (e_lst (a_e p_int.p (a_e p_int.p (a_e p_int.p (a_e p_int.p (a_e ((pe_op op_addD p_int.p (e_callC c__law_digit hr (by decide) (a_s 0 (a_e p_int.p a_nil)))).imp (imp_e2 r_add)) a_nil)))))) (e_callC c__law_digit hr (by decide) (a_s 0 (a_e p_int.p a_nil))))))
theorem sc__law_again : FnScope ["tape", "recipe", "names", "at"] ["tape", "recipe"] (defScope (top 36)) := ⟨rfl, rfl, rfl, by decide +kernel, rfl, by decide +kernel, by decide +kernel⟩
theorem ok__law_again (T : Txt K w mg) {f : Addr} {fd : FuncData} (F : Fun K "_law_again" "_law_again" (top 36) f fd) (hm : mg "_law_again" = some (.ref f)) (b : Binds K fd ["tape", "recipe"] []) (c__law_digit : Cl P w K mg base 1 "_law_digit" m__law_digit) : Cl P w K mg base 2 "_law_again" m__law_again :=
  cl_of F hm F.kp b sc__law_again rfl (by decide) (by decide) fun cdv A outer s H E vs0 hr hp hq =>
    (s_cons (s_if ((pt_cmpR (op_eqA (h64_of hr)) (p_ix (h1_of hr) (p_var 1) p_int) p_str (nomark _)).imp (imp_bPt (imp_p2 r_eq))) (s_one (s_ret (p_var 1).p)) s_nil)
    (s_cons (s_if ((pt_cmpR (op_eqA (h64_of hr)) (p_ix (h1_of hr) (p_var 1) p_int) p_str (nomark _)).imp (imp_bPt (imp_p2 r_eq))) (s_one (s_ret (e_tup (a_e p_str.p (a_e (e_stp (p_ix (h1_of hr) (p_var 1) p_int).p (e_ix (h1_of hr) (e_lst (a_e p_int.p (a_e p_int.p (a_e ((pe_un un_neg p_int).imp (imp_p1 r_neg)).p a_nil)))) (e_callC c__law_digit hr (by decide) (a_s 0 (a_e p_int.p a_nil))))) a_nil))))) s_nil)
    (s_cons (s_set 2 (hp 2 (by decide)) sc__law_again.nd ((pe_callTy (c_list rfl) (by rfl) T.z_list (by rfl) (ap_cons (p_ix (h1_of hr) (p_var 1) p_int) ap_nil)).imp (imp_biP r_list)))
    (s_cons (s_set 3 (hp 3 (by decide)) sc__law_again.nd (e_callC c__law_digit hr (by decide) (a_s 0 (a_e ((pe_callB c_len (by rfl) T.z_len (by rfl) (ap_cons (p_var 2) ap_nil)).imp (imp_bi r_len)).p a_nil))))
    (s_cons (s_if ((pt_cmpR (op_eqA (h64_of hr)) (e_callC c__law_digit hr (by decide) (a_s 0 (a_e p_int.p a_nil))) p_int (nomark _)).imp (imp_bVt (imp_eP2 r_eq))) (s_one (s_asg (e_ixV 2 (h1_of hr) (e_callC c__law_digit hr (by decide) (a_s 0 (a_e ((pe_callB c_len (by rfl) T.z_len (by rfl) (ap_cons (p_var 2) ap_nil)).imp (imp_bi r_len)).p a_nil)))) (g_st (h1_of hr) (l_var 2) (p_var 3)))) s_nil)
    (s_one (s_ret (e_tup (a_e (p_ix (h1_of hr) (p_var 1) p_int).p (a_e ((pe_callTy c_tuple (by rfl) T.z_tuple (by rfl) (a_e ((pe_op op_addD (e_sl (p_var 2) (o_some (p_var 3)) o_none) (e_sl (p_var 2) o_none (o_some (p_var 3)))).imp (imp_e2 r_add)) a_nil)).imp (imp_biE r_tuple)) a_nil))))))))))
theorem sc__law_book : FnScope ["script", "start", "most", "tape", "many", "words", "found", "k", "part", "elder"] ["script", "start", "most"] (defScope (top 37)) := ⟨rfl, rfl, rfl, by decide +kernel, rfl, by decide +kernel, by decide +kernel⟩
theorem ok__law_book (T : Txt K w mg) {f : Addr} {fd : FuncData} (F : Fun K "_law_book" "_law_book" (top 37) f fd) (hm : mg "_law_book" = some (.ref f)) (b : Binds K fd ["script", "start", "most"] []) (c__law_tape : Cl P w K mg base 2 "_law_tape" m__law_tape) (c__law_digit : Cl P w K mg base 1 "_law_digit" m__law_digit) (c__law_words : Cl P w K mg base 2 "_law_words" m__law_words) (c__law_number : Cl P w K mg base 2 "_law_number" m__law_number) (c__law_recipe : Cl P w K mg base 2 "_law_recipe" m__law_recipe) (c__law_again : Cl P w K mg base 2 "_law_again" m__law_again) : Cl P w K mg base 3 "_law_book" m__law_book :=
  cl_of F hm F.kp b sc__law_book rfl (by decide) (by decide) fun cdv A outer s H E vs0 hr hp hq =>
    (s_cons (s_set 3 (hp 3 (by decide)) sc__law_book.nd (e_callC c__law_tape hr (by decide) (a_s 0 (a_s 1 a_nil))))
    (s_cons (s_set 4 (hp 4 (by decide)) sc__law_book.nd ((pe_op op_addD p_int.p (e_callC c__law_digit hr (by decide) (a_s 3 (a_s 2 a_nil)))).imp (imp_e2 r_add)))
    (s_cons (s_set 5 (hp 5 (by decide)) sc__law_book.nd (e_callC c__law_words hr (by decide) (a_s 3 (a_s 4 a_nil))))
    (s_cons (s_set 6 (hp 6 (by decide)) sc__law_book.nd (e_lst a_nil))
    (s_cons (s_for1 rfl PassesOwn.never T.z_range (p_var 4).p (g_name 7 (hp 7 (by decide)) sc__law_book.nd) (s_cons (s_set 8 (hp 8 (by decide)) sc__law_book.nd (e_tup (a_e (p_ix (h1_of hr) (p_var 5) (p_var 7)).p (a_e (e_callC c__law_recipe hr (by decide) (a_s 3 (a_e (e_sl (p_var 5) o_none (o_some (p_var 7))) a_nil))) (a_e (e_callC c__law_number hr (by decide) (a_s 3 a_nil)) (a_e (e_callC c__law_number hr (by decide) (a_s 3 a_nil)) a_nil))))))
    (s_cons (s_if (PW.pt (b_and ((pt_cmpR op_gt (p_var 7) p_int (nomark _)).imp (imp_bPt (imp_p2 r_gt))) (pw_and1 ((pt_cmpR (op_eqA (h64_of hr)) (e_callC c__law_digit hr (by decide) (a_s 3 (a_e p_int.p a_nil))) p_int (nomark _)).imp (imp_bVt (imp_eP2 r_eq)))))) (s_cons (s_set 9 (hp 9 (by decide)) sc__law_book.nd (e_ixV 6 (h1_of hr) (e_callC c__law_digit hr (by decide) (a_s 3 (a_s 7 a_nil)))))
    (s_one (s_set 8 (hp 8 (by decide)) sc__law_book.nd (e_tup (a_e (p_ix (h1_of hr) (p_var 5) (p_var 7)).p (a_e (e_callC c__law_again hr (by decide) (a_s 3 (a_e (p_ix (h1_of hr) (p_var 9) p_int).p a_nil))) (a_e (p_ix (h1_of hr) (p_var 9) p_int).p (a_e (p_ix (h1_of hr) (p_var 9) p_int).p a_nil)))))))) s_nil)
    (s_one (s_exp ((pe_bm PySem.F.plainAttrs_list PySem.F.slot_list_append PySem.F.type_list_append mt_append (pv 6) (a_e (p_var 8).p a_nil)).imp (imp_mt rm_append ty_append)))))))
    (s_one (s_ret ((pe_callTy c_tuple (by rfl) T.z_tuple (by rfl) (ap_cons (p_var 6) ap_nil)).imp (imp_bi r_tuple)).p)))))))
theorem sc__law_needs : FnScope ["part"] ["part"] (defScope (top 38)) := ⟨rfl, rfl, rfl, by decide +kernel, rfl, by decide +kernel, by decide +kernel⟩
theorem ok__law_needs (T : Txt K w mg) {f : Addr} {fd : FuncData} (F : Fun K "_law_needs" "_law_needs" (top 38) f fd) (hm : mg "_law_needs" = some (.ref f)) (b : Binds K fd ["part"] []) : Cl P w K mg base 1 "_law_needs" m__law_needs :=
  cl_of F hm F.kp b sc__law_needs rfl (by decide) (by decide) fun cdv A outer s H E vs0 hr hp hq =>
    (s_cons (s_if ((pt_cmpR (op_eqA (h64_of hr)) (p_ix (h1_of hr) (p_ix (h1_of hr) (p_var 0) p_int) p_int) p_str (nomark _)).imp (imp_bPt (imp_p2 r_eq))) (s_one (s_ret (e_lst a_nil))) s_nil)
    (s_one (s_ret ((pe_callTy (c_list rfl) (by rfl) T.z_list (by rfl) (ap_cons (p_ix (h1_of hr) (p_ix (h1_of hr) (p_var 0) p_int) p_int) ap_nil)).imp (imp_biP r_list)))))
theorem sc__law_kind : FnScope ["caught", "word", "names", "kinds", "name"] ["caught", "word"] (defScope (top 39)) := ⟨rfl, rfl, rfl, by decide +kernel, rfl, by decide +kernel, by decide +kernel⟩
theorem ok__law_kind (T : Txt K w mg) {f : Addr} {fd : FuncData} (F : Fun K "_law_kind" "_law_kind" (top 39) f fd) (hm : mg "_law_kind" = some (.ref f)) (b : Binds K fd ["caught", "word"] []) : Cl P w K mg base 1 "_law_kind" m__law_kind :=
  cl_of F hm F.kp b sc__law_kind rfl (by decide) (by decide) fun cdv A outer s H E vs0 hr hp hq =>
    (s_cons (s_if ((pt_cmpR (op_eqA (h64_of hr)) (p_var 1) p_str (nomark _)).imp (imp_bPt (imp_p2 r_eq))) (s_one (s_ret ((pe_cmpR op_isN (p_var 0) p_non (nomark _)).imp (imp_p2 r_isN)).p)) s_nil)
    (s_cons (s_set 2 (hp 2 (by decide)) sc__law_kind.nd (e_lst (a_e p_str.p (a_e p_str.p (a_e p_str.p (a_e p_str.p (a_e p_str.p (a_e p_str.p (a_e p_str.p (a_e p_str.p (a_e p_str.p a_nil)))))))))))
    (s_cons (s_set 3 (hp 3 (by decide)) sc__law_kind.nd (e_lst (a_e (p_isX T.z_isinstance T.i_Needed (p_var 0)).p (a_e (p_isX T.z_isinstance T.i_NoBook (p_var 0)).p (a_e (p_isX T.z_isinstance T.i_NoDeed (p_var 0)).p a_nil)))))
    (s_cons (s_set 3 (hp 3 (by decide)) sc__law_kind.nd ((pe_op op_addD (pv 3) (e_lst (a_e (p_isX T.z_isinstance T.i_NoLeaf (p_var 0)).p (a_e (p_isX T.z_isinstance T.i_NoPart (p_var 0)).p a_nil)))).imp (imp_opN r_add)))
    (s_cons (s_set 3 (hp 3 (by decide)) sc__law_kind.nd ((pe_op op_addD (pv 3) (e_lst (a_e (p_isX T.z_isinstance T.i_NoRow (p_var 0)).p a_nil))).imp (imp_opN r_add)))
    (s_cons (s_set 3 (hp 3 (by decide)) sc__law_kind.nd ((pe_op op_addD (pv 3) (e_lst (a_e (p_isX T.z_isinstance T.i_NoStand (p_var 0)).p (a_e (p_isX T.z_isinstance T.i_NoText (p_var 0)).p a_nil)))).imp (imp_opN r_add)))
    (s_cons (s_set 3 (hp 3 (by decide)) sc__law_kind.nd ((pe_op op_addD (pv 3) (e_lst (a_e (p_isX T.z_isinstance T.i_NoTree (p_var 0)).p a_nil))).imp (imp_opN r_add)))
    (s_one (s_ret ((pe_and (p_isV T.z_isinstance T.i_ValueError (p_var 0) (pe_bltn (by rfl) T.z_ValueError (by rfl) (by rfl))).p (pe_one ((pe_cmpR (op_eqA (h64_of hr)) (pv 3) (e_comp rfl sc__law_kind.nd (e_fr 2) (own := [("name", 4)]) (blk_ok (N := ["caught", "word", "names", "kinds", "name"]) (sc := defScope (top 39)) (by decide +kernel)) (gt_n 4 (hp 4 (by decide)) (by show 4 < 5; decide) (by simp)) (by intro i hi; simp only [List.map_cons, List.map_nil, List.mem_cons, List.not_mem_nil, or_false] at hi; exact hp i (by omega)) (fun _ _ _ _ _ => (pg_name sc__law_kind.nd rfl (Or.inl rfl) (Or.inr rfl))) (fun _ _ _ _ _ => ts_nil) (fun _ _ _ _ _ => ((pe_cmpR (op_eqA (h64_of hr)) (p_var 4) (p_var 1) (nomark _)).imp (imp_p2 r_eq)).p)) (nomark _)).imp (imp_opN r_eq)))).imp imp_eAndV))))))))))
theorem sc__law_line : FnScope ["part", "words"] ["part"] (defScope (top 40)) := ⟨rfl, rfl, rfl, by decide +kernel, rfl, by decide +kernel, by decide +kernel⟩
theorem ok__law_line (T : Txt K w mg) {f : Addr} {fd : FuncData} (F : Fun K "_law_line" "_law_line" (top 40) f fd) (hm : mg "_law_line" = some (.ref f)) (b : Binds K fd ["part"] []) (c__law_needs : Cl P w K mg base 1 "_law_needs" m__law_needs) : Cl P w K mg base 2 "_law_line" m__law_line :=
  cl_of F hm F.kp b sc__law_line rfl (by decide) (by decide) fun cdv A outer s H E vs0 hr hp hq =>
    (s_cons (s_set 1 (hp 1 (by decide)) sc__law_line.nd (e_lst (a_e (p_ix (h1_of hr) (p_var 0) p_int).p (a_e ((pe_callTy c_str (by rfl) T.z_str (by rfl) (ap_cons (p_ix (h1_of hr) (p_var 0) p_int) ap_nil)).imp (imp_bi r_str)).p (a_e ((pe_callTy c_str (by rfl) T.z_str (by rfl) (ap_cons (p_ix (h1_of hr) (p_var 0) p_int) ap_nil)).imp (imp_bi r_str)).p (a_e (p_ix (h1_of hr) (p_ix (h1_of hr) (p_var 0) p_int) p_int).p a_nil))))))
    (s_cons (s_if ((pt_cmpR (op_eqA (h64_of hr)) (p_ix (h1_of hr) (p_ix (h1_of hr) (p_var 0) p_int) p_int) p_str (nomark _)).imp (imp_bPt (imp_p2 r_eq))) (s_one (s_ret ((pe_bm PySem.F.plainAttrs_str PySem.F.slot_str_join PySem.F.type_str_join mt_joinS p_str (a_e ((pe_op op_addD (pv 1) (e_lst (a_e ((pe_callTy c_str (by rfl) T.z_str (by rfl) (ap_cons (p_ix (h1_of hr) (p_ix (h1_of hr) (p_var 0) p_int) p_int) ap_nil)).imp (imp_bi r_str)).p a_nil))).imp (imp_opN r_add)) a_nil)).imp (imp_sm rs_join)))) s_nil)
    (s_one (s_ret ((pe_bm PySem.F.plainAttrs_str PySem.F.slot_str_join PySem.F.type_str_join mt_joinS p_str (a_e ((pe_op op_addD (pv 1) (e_callC c__law_needs hr (by decide) (a_s 0 a_nil))).imp (imp_opN r_add)) a_nil)).imp (imp_sm rs_join))))))
theorem sc__law_text : FnScope ["book", "part"] ["book"] (defScope (top 41)) := ⟨rfl, rfl, rfl, by decide +kernel, rfl, by decide +kernel, by decide +kernel⟩
theorem ok__law_text (T : Txt K w mg) {f : Addr} {fd : FuncData} (F : Fun K "_law_text" "_law_text" (top 41) f fd) (hm : mg "_law_text" = some (.ref f)) (b : Binds K fd ["book"] []) (c__law_line : Cl P w K mg base 2 "_law_line" m__law_line) : Cl P w K mg base 3 "_law_text" m__law_text :=
  cl_of F hm F.kp b sc__law_text rfl (by decide) (by decide) fun cdv A outer s H E vs0 hr hp hq =>
    (s_one (s_ret ((pe_bm PySem.F.plainAttrs_str PySem.F.slot_str_join PySem.F.type_str_join mt_joinS p_str (a_e (e_comp rfl sc__law_text.nd (p_var 0).p (own := [("part", 1)]) (blk_ok (N := ["book", "part"]) (sc := defScope (top 41)) (by decide +kernel)) (gt_n 1 (hp 1 (by decide)) (by show 1 < 2; decide) (by simp)) (by intro i hi; simp only [List.map_cons, List.map_nil, List.mem_cons, List.not_mem_nil, or_false] at hi; exact hp i (by omega)) (fun _ _ _ _ _ => (pg_name sc__law_text.nd rfl (Or.inl rfl) (Or.inr rfl))) (fun _ _ _ _ _ => ts_nil) (fun _ _ _ _ _ => ((pe_op op_addD (e_callC c__law_line hr (by decide) (a_s 1 a_nil)) p_str).imp (imp_eP2 r_add)))) a_nil)).imp (imp_sm rs_join))))
theorem sc__law_is_word : FnScope ["thing", "sign"] ["thing"] (defScope (top 42)) := ⟨rfl, rfl, rfl, by decide +kernel, rfl, by decide +kernel, by decide +kernel⟩
theorem ok__law_is_word (T : Txt K w mg) {f : Addr} {fd : FuncData} (F : Fun K "_law_is_word" "_law_is_word" (top 42) f fd) (hm : mg "_law_is_word" = some (.ref f)) (b : Binds K fd ["thing"] []) : Cl P w K mg base 1 "_law_is_word" m__law_is_word :=
  cl_of F hm F.kp b sc__law_is_word rfl (by decide) (by decide) fun cdv A outer s H E vs0 hr hp hq =>
    (s_cons (s_if (PW.pt (b_or (b_not (b_valP (p_isi T.z_isinstance (p_var 0) (pe_bltn (by rfl) T.z_str (by rfl) (by rfl))))) (pw_or1 (b_not ((pt_chain op_le op_le p_int ((pe_callB c_len (by rfl) T.z_len (by rfl) (ap_cons (p_var 0) ap_nil)).imp (imp_bi r_len)) p_int).imp (imp_bPt (imp_ch r_le r_le))))))) (s_one (s_ret p_bl.p)) s_nil)
    (s_one (s_ret ((pe_callB (cr_all rfl) (by rfl) T.z_all (by rfl) (a_e (e_compS rfl sc__law_is_word.nd (p_var 0) (own := [("sign", 1)]) (blk_ok (N := ["thing", "sign"]) (sc := defScope (top 42)) (by decide +kernel)) (gt_n 1 (hp 1 (by decide)) (by show 1 < 2; decide) (by simp)) (by intro i hi; simp only [List.map_cons, List.map_nil, List.mem_cons, List.not_mem_nil, or_false] at hi; exact hp i (by omega)) (fun _ _ _ _ _ => (pg_name sc__law_is_word.nd rfl (Or.inl rfl) (Or.inr rfl))) (fun _ _ _ _ _ => ts_nil) (fun _ _ _ _ _ => ((pe_cmpR (op_inAll (h65_of hr)) (p_var 1) p_str (by rfl)).imp (imp_p2 r_in)).p)) a_nil)).imp (imp_biE r_all)))))
theorem sc__law_number_of : FnScope ["word", "sign"] ["word"] (defScope (top 43)) := ⟨rfl, rfl, rfl, by decide +kernel, rfl, by decide +kernel, by decide +kernel⟩
theorem ok__law_number_of (T : Txt K w mg) {f : Addr} {fd : FuncData} (F : Fun K "_law_number_of" "_law_number_of" (top 43) f fd) (hm : mg "_law_number_of" = some (.ref f)) (b : Binds K fd ["word"] []) : Cl P w K mg base 1 "_law_number_of" m__law_number_of :=
  cl_of F hm F.kp b sc__law_number_of rfl (by decide) (by decide) fun cdv A outer s H E vs0 hr hp hq =>
    (s_cons (s_if (PW.pt (b_or ((pt_cmpR (op_niAll (h65_of hr)) ((pe_callB c_len (by rfl) T.z_len (by rfl) (ap_cons (p_var 0) ap_nil)).imp (imp_bi r_len)) (p_tup (ap_cons p_int (ap_cons p_int ap_nil))) (by rfl)).imp (imp_bPt (imp_p2 r_ni))) (pw_or1 (b_not (b_val ((pe_callB (cr_all rfl) (by rfl) T.z_all (by rfl) (a_e (e_compS rfl sc__law_number_of.nd (p_var 0) (own := [("sign", 1)]) (blk_ok (N := ["word", "sign"]) (sc := defScope (top 43)) (by decide +kernel)) (gt_n 1 (hp 1 (by decide)) (by show 1 < 2; decide) (by simp)) (by intro i hi; simp only [List.map_cons, List.map_nil, List.mem_cons, List.not_mem_nil, or_false] at hi; exact hp i (by omega)) (fun _ _ _ _ _ => (pg_name sc__law_number_of.nd rfl (Or.inl rfl) (Or.inr rfl))) (fun _ _ _ _ _ => ts_nil) (fun _ _ _ _ _ => ((pe_cmpR (op_inAll (h65_of hr)) (p_var 1) p_str (by rfl)).imp (imp_p2 r_in)).p)) a_nil)).imp (imp_biE r_all))))))) (s_one (s_ret p_non.p)) s_nil)
    (s_cons (s_if (PW.pt (b_and ((pt_cmpR (op_eqA (h64_of hr)) ((pe_callB c_len (by rfl) T.z_len (by rfl) (ap_cons (p_var 0) ap_nil)).imp (imp_bi r_len)) p_int (nomark _)).imp (imp_bPt (imp_p2 r_eq))) (pw_and1 ((pt_cmpR (op_eqA (h64_of hr)) (p_ix (h1_of hr) (p_var 0) p_int) p_str (nomark _)).imp (imp_bPt (imp_p2 r_eq)))))) (s_one (s_ret p_non.p)) s_nil)
    (s_one (s_ret ((pe_callTy c_int (by rfl) T.z_int (by rfl) (ap_cons (p_var 0) ap_nil)).imp (imp_bi r_int)).p))))
theorem sc__law_part_of : FnScope ["line", "words", "many", "size", "cost", "word"] ["line"] (defScope (top 44)) := ⟨rfl, rfl, rfl, by decide +kernel, rfl, by decide +kernel, by decide +kernel⟩
theorem ok__law_part_of (T : Txt K w mg) {f : Addr} {fd : FuncData} (F : Fun K "_law_part_of" "_law_part_of" (top 44) f fd) (hm : mg "_law_part_of" = some (.ref f)) (b : Binds K fd ["line"] []) (c__law_is_word : Cl P w K mg base 1 "_law_is_word" m__law_is_word) (c__law_number_of : Cl P w K mg base 1 "_law_number_of" m__law_number_of) : Cl P w K mg base 2 "_law_part_of" m__law_part_of :=
  cl_of F hm F.kp b sc__law_part_of rfl (by decide) (by decide) fun cdv A outer s H E vs0 hr hp hq =>
    (s_cons (s_set 1 (hp 1 (by decide)) sc__law_part_of.nd ((pe_bm PySem.F.plainAttrs_str PySem.F.slot_str_split PySem.F.type_str_split mt_splitS (p_var 0) (a_e p_str.p a_nil)).imp (imp_sm rs_split)))
    (s_cons (s_if (PW.pt (b_or ((pt_cmpR op_lt ((pe_callB c_len (by rfl) T.z_len (by rfl) (ap_cons (p_var 1) ap_nil)).imp (imp_bi r_len)) p_int (nomark _)).imp (imp_bPt (imp_p2 r_lt))) (pw_or1 (b_not (b_val (e_callC c__law_is_word hr (by decide) (a_e (p_ix (h1_of hr) (p_var 1) p_int).p a_nil))))))) (s_one (s_ret p_non.p)) s_nil)
    (s_cons (s_par 3 4 (hp 3 (by decide)) (hp 4 (by decide)) (by decide) rfl sc__law_part_of.nd (a_e (e_callC c__law_number_of hr (by decide) (a_e (p_ix (h1_of hr) (p_var 1) p_int).p a_nil)) (a_e (e_callC c__law_number_of hr (by decide) (a_e (p_ix (h1_of hr) (p_var 1) p_int).p a_nil)) a_nil)))
    (s_cons (s_if (PW.pt (b_or ((pt_cmpR op_isN (p_var 3) p_non (nomark _)).imp (imp_bPt (imp_p2 r_isN))) (b_or ((pt_cmpR op_isN (p_var 4) p_non (nomark _)).imp (imp_bPt (imp_p2 r_isN))) (b_or (b_not ((pt_chain op_le op_le p_int (p_var 3) p_int).imp (imp_bPt (imp_ch r_le r_le)))) (pw_or1 (b_not ((pt_chain op_le op_le p_int (p_var 4) p_int).imp (imp_bPt (imp_ch r_le r_le))))))))) (s_one (s_ret p_non.p)) s_nil)
    (s_cons (s_if ((pt_cmpR (op_eqA (h64_of hr)) (p_ix (h1_of hr) (p_var 1) p_int) p_str (nomark _)).imp (imp_bPt (imp_p2 r_eq))) (s_cons (s_if (PW.pt (b_or ((pt_cmpR (op_neA (h64_of hr)) ((pe_callB c_len (by rfl) T.z_len (by rfl) (ap_cons (p_var 1) ap_nil)).imp (imp_bi r_len)) p_int (nomark _)).imp (imp_bPt (imp_p2 r_ne))) (pw_or1 ((pt_cmpR op_isN (e_callC c__law_number_of hr (by decide) (a_e (p_ix (h1_of hr) (p_var 1) p_int).p a_nil)) p_non (nomark _)).imp (imp_bVt (imp_eP2 r_isN)))))) (s_one (s_ret p_non.p)) s_nil)
    (s_one (s_ret (e_tup (a_e (p_ix (h1_of hr) (p_var 1) p_int).p (a_e (e_tup (a_e p_str.p (a_e (e_callC c__law_number_of hr (by decide) (a_e (p_ix (h1_of hr) (p_var 1) p_int).p a_nil)) a_nil))) (a_e (p_var 3).p (a_e (p_var 4).p a_nil)))))))) s_nil)
    (s_cons (s_set 2 (hp 2 (by decide)) sc__law_part_of.nd ((pe_bmG PySem.F.slot_dict_get PySem.F.type_dict_get (mt_get (h65_of hr)) (e_disp (l := [((pC (.str "plus")), (eTup (aE (eP (pC (.int 1))) (aE (eP (pC (.int 4))) aNil)))), ((pC (.str "times")), (eTup (aE (eP (pC (.int 1))) (aE (eP (pC (.int 4))) aNil)))), ((pC (.str "most")), (eTup (aE (eP (pC (.int 1))) (aE (eP (pC (.int 4))) aNil)))), ((pC (.str "less")), (eTup (aE (eP (pC (.int 2))) (aE (eP (pC (.int 2))) aNil))))]) (pps_cons p_str (e_tup (a_e p_int.p (a_e p_int.p a_nil))) (pps_cons p_str (e_tup (a_e p_int.p (a_e p_int.p a_nil))) (pps_cons p_str (e_tup (a_e p_int.p (a_e p_int.p a_nil))) (pps_cons p_str (e_tup (a_e p_int.p (a_e p_int.p a_nil))) pps_nil))))) (ap_cons (p_ix (h1_of hr) (p_var 1) p_int) (ap_cons (p_tup (ap_cons p_int (ap_cons p_int ap_nil))) ap_nil))).imp imp_getD))
    (s_cons (s_if (b_not ((pt_chain op_le op_le (p_ix (h1_of hr) (p_var 2) p_int) ((pe_op op_sub ((pe_callB c_len (by rfl) T.z_len (by rfl) (ap_cons (p_var 1) ap_nil)).imp (imp_bi r_len)) p_int).imp (imp_p2 r_sub)) (p_ix (h1_of hr) (p_var 2) p_int)).imp (imp_bPt (imp_ch r_le r_le)))) (s_one (s_ret p_non.p)) s_nil)
    (s_cons (s_if (b_not (b_val ((pe_callB (cr_all rfl) (by rfl) T.z_all (by rfl) (a_e (e_comp rfl sc__law_part_of.nd (e_sl (p_var 1) (o_some p_int) o_none) (own := [("word", 5)]) (blk_ok (N := ["line", "words", "many", "size", "cost", "word"]) (sc := defScope (top 44)) (by decide +kernel)) (gt_n 5 (hp 5 (by decide)) (by show 5 < 6; decide) (by simp)) (by intro i hi; simp only [List.map_cons, List.map_nil, List.mem_cons, List.not_mem_nil, or_false] at hi; exact hp i (by omega)) (fun _ _ _ _ _ => (pg_name sc__law_part_of.nd rfl (Or.inl rfl) (Or.inr rfl))) (fun _ _ _ _ _ => ts_nil) (fun _ _ _ _ _ => (e_callC c__law_is_word hr (by decide) (a_s 5 a_nil)))) a_nil)).imp (imp_biE r_all)))) (s_one (s_ret p_non.p)) s_nil)
    (s_one (s_ret (e_tup (a_e (p_ix (h1_of hr) (p_var 1) p_int).p (a_e (e_tup (a_e (p_ix (h1_of hr) (p_var 1) p_int).p (a_e ((pe_callTy c_tuple (by rfl) T.z_tuple (by rfl) (a_e (e_sl (p_var 1) (o_some p_int) o_none) a_nil)).imp (imp_biE r_tuple)) a_nil))) (a_e (p_var 3).p (a_e (p_var 4).p a_nil)))))))))))))))
theorem sc__law_read : FnScope ["text", "found", "rest", "ahead", "part", "at", "strange", "name"] ["text"] (defScope (top 45)) := ⟨rfl, rfl, rfl, by decide +kernel, rfl, by decide +kernel, by decide +kernel⟩
theorem ok__law_read (T : Txt K w mg) {f : Addr} {fd : FuncData} (F : Fun K "_law_read" "_law_read" (top 45) f fd) (hm : mg "_law_read" = some (.ref f)) (b : Binds K fd ["text"] []) (c__law_part_of : Cl P w K mg base 2 "_law_part_of" m__law_part_of) (c__law_needs : Cl P w K mg base 1 "_law_needs" m__law_needs) : Cl P w K mg base 3 "_law_read" m__law_read :=
  cl_of F hm F.kp b sc__law_read rfl (by decide) (by decide) fun cdv A outer s H E vs0 hr hp hq =>
    (s_cons (s_set 1 (hp 1 (by decide)) sc__law_read.nd (e_lst a_nil))
    (s_cons (s_set 2 (hp 2 (by decide)) sc__law_read.nd (p_var 0).p)
    (s_cons (s_wp (s_while PassesOwn.never ((pt_cmpR (op_inAll (h65_of hr)) p_str (p_var 2) (by rfl)).imp (imp_bPt (imp_p2 r_in))) (s_wpB (s_cons (s_set 5 (hp 5 (by decide)) sc__law_read.nd ((pe_bm PySem.F.plainAttrs_str PySem.F.slot_str_index PySem.F.type_str_index mt_sixS (p_var 2) (ap_cons p_str ap_nil)).imp imp_six).p)
    (s_cons (s_set 4 (hp 4 (by decide)) sc__law_read.nd (e_callC c__law_part_of hr (by decide) (a_e (p_sl (p_var 2) o_none (o_some (p_var 5))).p a_nil)))
    (s_cons (s_if (PW.pt (b_or ((pt_cmpR op_isN (p_var 4) p_non (nomark _)).imp (imp_bPt (imp_p2 r_isN))) (pw_or1 ((pt_cmpR (op_eqA (h64_of hr)) ((pe_callB c_len (by rfl) T.z_len (by rfl) (ap_cons (p_var 1) ap_nil)).imp (imp_bi r_len)) p_int (nomark _)).imp (imp_bPt (imp_p2 r_eq)))))) (s_one (s_ret (e_tup (a_e p_str.p (a_e ((pe_callB c_len (by rfl) T.z_len (by rfl) (ap_cons (p_var 1) ap_nil)).imp (imp_bi r_len)).p a_nil))))) s_nil)
    (s_cons (s_exp ((pe_bm PySem.F.plainAttrs_list PySem.F.slot_list_append PySem.F.type_list_append mt_append (pv 1) (a_e (p_var 4).p a_nil)).imp (imp_mt rm_append ty_append)))
    (s_one (s_set 2 (hp 2 (by decide)) sc__law_read.nd (p_sl (p_var 2) (o_some ((pe_op op_addD (p_var 5) p_int).imp (imp_p2 r_add))) o_none).p)))))))))
    (s_cons (s_if (PW.pt (b_or ((pt_cmpR (op_neA (h64_of hr)) (p_var 2) p_str (nomark _)).imp (imp_bPt (imp_p2 r_ne))) (pw_or1 ((pt_cmpR (op_eqA (h64_of hr)) (pv 1) (e_lst a_nil) (nomark _)).imp (imp_bVt (imp_opN r_eq)))))) (s_one (s_ret (e_tup (a_e p_str.p (a_e ((pe_callB c_len (by rfl) T.z_len (by rfl) (ap_cons (p_var 1) ap_nil)).imp (imp_bi r_len)).p a_nil))))) s_nil)
    (s_cons (s_set 3 (hp 3 (by decide)) sc__law_read.nd (e_lst a_nil))
    (s_cons (s_wp (s_for rfl PassesOwn.never (e_fr 1) (g_name 4 (hp 4 (by decide)) sc__law_read.nd) (s_wpB (s_cons (s_comp 6 (hp 6 (by decide)) rfl sc__law_read.nd (e_callC c__law_needs hr (by decide) (a_s 4 a_nil)) (own := [("name", 7)]) (blk_ok (N := ["text", "found", "rest", "ahead", "part", "at", "strange", "name"]) (sc := defScope (top 45)) (by decide +kernel)) (gt_n 7 (hp 7 (by decide)) (by show 7 < 8; decide) (by simp)) (by intro i hi; simp only [List.map_cons, List.map_nil, List.mem_cons, List.not_mem_nil, or_false] at hi; exact hp i (by omega)) (fun _ _ _ _ _ => (pg_name sc__law_read.nd rfl (Or.inl rfl) (Or.inr rfl))) (fun _ _ _ _ _ => (ts_one ((pt_cmpR (op_niAll (h65_of hr)) (p_var 7) (p_var 3) (by rfl)).imp (imp_bPt (imp_p2 r_ni))))) (fun _ _ _ _ _ => (p_var 7).p) (by rfl))
    (s_cons (s_if (PW.pt (b_or ((pt_cmpR (op_inAll (h65_of hr)) (p_ix (h1_of hr) (p_var 4) p_int) (p_var 3) (by rfl)).imp (imp_bPt (imp_p2 r_in))) (pw_or1 ((pt_cmpR (op_neA (h64_of hr)) (pv 6) (e_lst a_nil) (nomark _)).imp (imp_bVt (imp_opN r_ne)))))) (s_one (s_ret (e_tup (a_e p_str.p a_nil)))) s_nil)
    (s_one (s_exp ((pe_bm PySem.F.plainAttrs_list PySem.F.slot_list_append PySem.F.type_list_append mt_append (pv 3) (a_e (p_ix (h1_of hr) (p_var 4) p_int).p a_nil)).imp (imp_mt rm_append ty_append)))))))))
    (s_one (s_ret (e_tup (a_e p_str.p (a_e ((pe_callTy c_tuple (by rfl) T.z_tuple (by rfl) (ap_cons (p_var 1) ap_nil)).imp (imp_bi r_tuple)).p a_nil)))))))))))
theorem sc__law_right : FnScope ["text", "due", "told", "caught", "e"] ["text"] (defScope (top 46)) := ⟨rfl, rfl, rfl, by decide +kernel, rfl, by decide +kernel, by decide +kernel⟩
theorem ok__law_right (T : Txt K w mg) {f : Addr} {fd : FuncData} (F : Fun K "_law_right" "_law_right" (top 46) f fd) (hm : mg "_law_right" = some (.ref f)) (b : Binds K fd ["text"] []) (c__law_read : Cl P w K mg base 3 "_law_read" m__law_read) (c_read_book : ClX P w K mg base 6 "read_book" m_read_book) (c__law_kind : Cl P w K mg base 1 "_law_kind" m__law_kind) : ClG P w K mg base 7 "_law_right" m__law_right :=
  clG_of F hm F.kp b sc__law_right rfl (by decide) (by decide) fun cdv A outer s H E vs0 hgd hr hp hq =>
    (s_cons (s_set 1 (hp 1 (by decide)) sc__law_right.nd (e_callC c__law_read hr (by decide) (a_s 0 a_nil)))
    (s_cons (s_set 2 (hp 2 (by decide)) sc__law_right.nd p_non.p)
    (s_cons (s_set 3 (hp 3 (by decide)) sc__law_right.nd p_non.p)
    (s_cons (s_try 4 3 (hp 4 (by decide)) (hp 3 (by decide)) sc__law_right.nd T.t_ShelfError (fun W pn xe tk po => (s_one (s_setX 2 (hp 2 (by decide)) sc__law_right.nd c_read_book hr (by decide) tk (a_s 0 a_nil)))))
    (s_cons (s_if ((pt_cmpR (op_eqA (h64_of hr)) (p_ix (h1_of hr) (p_var 1) p_int) p_str (nomark _)).imp (imp_bPt (imp_p2 r_eq))) (s_one (s_ret ((pe_and ((pe_cmpR op_isN (p_var 3) p_non (nomark _)).imp (imp_p2 r_isN)) (pe_one ((pe_cmpR (op_eqA (h64_of hr)) ((pe_callB (c_repr hgd (h65_of hr)) (by rfl) T.z_repr (by rfl) (ap_cons (p_var 2) ap_nil)).imp (imp_bi r_repr)) ((pe_callB (c_repr hgd (h65_of hr)) (by rfl) T.z_repr (by rfl) (ap_cons (p_ix (h1_of hr) (p_var 1) p_int) ap_nil)).imp (imp_bi r_repr)) (nomark _)).imp (imp_p2 r_eq)))).imp imp_pAndV).p)) s_nil)
    (s_cons (s_if ((pt_cmpR (op_eqA (h64_of hr)) (p_ix (h1_of hr) (p_var 1) p_int) p_str (nomark _)).imp (imp_bPt (imp_p2 r_eq))) (s_one (s_ret ((pe_and (e_callC c__law_kind hr (by decide) (a_s 3 (a_e p_str.p a_nil))) (pe_one ((pe_cmpR (op_eqA (h64_of hr)) (p_xf T.f_NoBook_fault (p_var 3)) p_str (nomark _)).imp (imp_p2 r_eq)).p)).imp imp_eAndV))) s_nil)
    (s_one (s_ret ((pe_and (e_callC c__law_kind hr (by decide) (a_s 3 (a_e p_str.p a_nil))) (pe_one ((pe_cmpR (op_eqA (h64_of hr)) (p_xf T.f_NoText_line (p_var 3)) (p_ix (h1_of hr) (p_var 1) p_int) (nomark _)).imp (imp_p2 r_eq)).p)).imp imp_eAndV)))))))))
theorem sc__law_bent : FnScope ["tape", "piece", "way", "at", "more", "whole", "signs", "sign", "words", "rows", "row", "some"] ["tape", "piece"] (defScope (top 47)) := ⟨rfl, rfl, rfl, by decide +kernel, rfl, by decide +kernel, by decide +kernel⟩
theorem ok__law_bent (T : Txt K w mg) {f : Addr} {fd : FuncData} (F : Fun K "_law_bent" "_law_bent" (top 47) f fd) (hm : mg "_law_bent" = some (.ref f)) (b : Binds K fd ["tape", "piece"] []) (c__law_digit : Cl P w K mg base 1 "_law_digit" m__law_digit) : Cl P w K mg base 2 "_law_bent" m__law_bent :=
  cl_of F hm F.kp b sc__law_bent rfl (by decide) (by decide) fun cdv A outer s H E vs0 hr hp hq =>
    (s_cons (s_set 2 (hp 2 (by decide)) sc__law_bent.nd (e_callC c__law_digit hr (by decide) (a_s 0 (a_e p_int.p a_nil))))
    (s_cons (s_set 3 (hp 3 (by decide)) sc__law_bent.nd (e_callC c__law_digit hr (by decide) (a_s 0 (a_e ((pe_callB c_len (by rfl) T.z_len (by rfl) (ap_cons (p_var 1) ap_nil)).imp (imp_bi r_len)).p a_nil))))
    (s_cons (s_set 4 (hp 4 (by decide)) sc__law_bent.nd (e_callC c__law_digit hr (by decide) (a_s 0 (a_e p_int.p a_nil))))
    (s_cons (s_set 5 (hp 5 (by decide)) sc__law_bent.nd p_str.p)
    (s_cons (s_set 6 (hp 6 (by decide)) sc__law_bent.nd ((pe_op op_addD ((pe_op op_mulA p_str p_int).imp (imp_p2 r_mulA)) (p_var 5)).imp (imp_p2 r_add)).p)
    (s_cons (s_set 7 (hp 7 (by decide)) sc__law_bent.nd (e_ixV 6 (h1_of hr) (e_callC c__law_digit hr (by decide) (a_s 0 (a_e ((pe_callB c_len (by rfl) T.z_len (by rfl) (ap_cons (p_var 6) ap_nil)).imp (imp_bi r_len)).p a_nil)))))
    (s_cons (s_set 8 (hp 8 (by decide)) sc__law_bent.nd (e_lst (a_e p_str.p (a_e p_str.p (a_e p_str.p (a_e p_str.p (a_e p_str.p (a_e p_str.p (a_e p_str.p (a_e p_str.p (a_e p_str.p (a_e p_str.p (a_e p_str.p a_nil)))))))))))))
    (s_cons (s_set 8 (hp 8 (by decide)) sc__law_bent.nd ((pe_op op_addD (pv 8) (e_lst (a_e p_str.p a_nil))).imp (imp_opN r_add)))
    (s_cons (s_set 9 (hp 9 (by decide)) sc__law_bent.nd ((pe_bm PySem.F.plainAttrs_str PySem.F.slot_str_split PySem.F.type_str_split mt_splitS (p_var 1) (a_e p_str.p a_nil)).imp (imp_sm rs_split)))
    (s_cons (s_set 10 (hp 10 (by decide)) sc__law_bent.nd (e_callC c__law_digit hr (by decide) (a_s 0 (a_e ((pe_callB c_len (by rfl) T.z_len (by rfl) (ap_cons (p_var 9) ap_nil)).imp (imp_bi r_len)).p a_nil))))
    (s_cons (s_set 11 (hp 11 (by decide)) sc__law_bent.nd (e_lst (a_e ((pe_op op_addD (p_sl (p_var 1) o_none (o_some (p_var 3))) (p_sl (p_var 1) (o_some ((pe_op op_addD (p_var 3) p_int).imp (imp_p2 r_add))) o_none)).imp (imp_p2 r_add)).p a_nil)))
    (s_cons (s_set 11 (hp 11 (by decide)) sc__law_bent.nd ((pe_op op_addD (pv 11) (e_lst (a_e ((pe_op op_addD ((pe_op op_addD (p_sl (p_var 1) o_none (o_some (p_var 3))) (p_var 7)).imp (imp_p2 r_add)) (p_sl (p_var 1) (o_some (p_var 3)) o_none)).imp (imp_p2 r_add)).p a_nil))).imp (imp_opN r_add)))
    (s_cons (s_set 11 (hp 11 (by decide)) sc__law_bent.nd ((pe_op op_addD (pv 11) (e_lst (a_e ((pe_op op_addD ((pe_op op_addD (p_sl (p_var 1) o_none (o_some (p_var 3))) (p_var 7)).imp (imp_p2 r_add)) (p_sl (p_var 1) (o_some ((pe_op op_addD (p_var 3) p_int).imp (imp_p2 r_add))) o_none)).imp (imp_p2 r_add)).p a_nil))).imp (imp_opN r_add)))
    (s_cons (s_set 11 (hp 11 (by decide)) sc__law_bent.nd ((pe_op op_addD (pv 11) (e_lst (a_e ((pe_op op_addD ((pe_op op_addD (p_sl (p_var 1) o_none (o_some (p_var 3))) (p_stpS (p_sl (p_var 1) (o_some (p_var 3)) (o_some ((pe_op op_addD (p_var 3) p_int).imp (imp_p2 r_add)))) ((pe_un un_neg p_int).imp (imp_p1 r_neg)))).imp (imp_p2 r_add)) (p_sl (p_var 1) (o_some ((pe_op op_addD (p_var 3) p_int).imp (imp_p2 r_add))) o_none)).imp (imp_p2 r_add)).p a_nil))).imp (imp_opN r_add)))
    (s_cons (s_set 11 (hp 11 (by decide)) sc__law_bent.nd ((pe_op op_addD (pv 11) (e_lst (a_e ((pe_op op_addD ((pe_op op_addD (p_sl (p_var 1) o_none (o_some (p_var 3))) (p_ix (h1_of hr) (p_var 8) (p_var 4))).imp (imp_p2 r_add)) (p_sl (p_var 1) (o_some (p_var 3)) o_none)).imp (imp_p2 r_add)).p a_nil))).imp (imp_opN r_add)))
    (s_cons (s_set 11 (hp 11 (by decide)) sc__law_bent.nd ((pe_op op_addD (pv 11) (e_lst (a_e ((pe_op op_addD ((pe_op op_addD (p_sl (p_var 1) o_none (o_some (p_var 3))) (p_sl (p_var 1) (o_some (p_var 3)) (o_some ((pe_op op_addD (p_var 3) (p_var 4)).imp (imp_p2 r_add))))).imp (imp_p2 r_add)) (p_sl (p_var 1) (o_some (p_var 3)) o_none)).imp (imp_p2 r_add)).p a_nil))).imp (imp_opN r_add)))
    (s_cons (s_set 11 (hp 11 (by decide)) sc__law_bent.nd ((pe_op op_addD (pv 11) (e_lst (a_e (p_sl (p_var 1) o_none (o_some (p_var 3))).p (a_e (p_sl (p_var 1) (o_some (p_var 3)) o_none).p a_nil)))).imp (imp_opN r_add)))
    (s_cons (s_set 11 (hp 11 (by decide)) sc__law_bent.nd ((pe_op op_addD (pv 11) (e_lst (a_e ((pe_bm PySem.F.plainAttrs_str PySem.F.slot_str_join PySem.F.type_str_join mt_joinS p_str (a_e ((pe_op op_addD ((pe_op op_addD (e_sl (p_var 9) o_none (o_some (p_var 10))) (e_sl (p_var 9) (o_some (p_var 10)) (o_some ((pe_op op_addD (p_var 10) p_int).imp (imp_p2 r_add))))).imp (imp_e2 r_add)) (e_sl (p_var 9) (o_some (p_var 10)) o_none)).imp (imp_e2 r_add)) a_nil)).imp (imp_sm rs_join)) a_nil))).imp (imp_opN r_add)))
    (s_cons (s_set 11 (hp 11 (by decide)) sc__law_bent.nd ((pe_op op_addD (pv 11) (e_lst (a_e ((pe_bm PySem.F.plainAttrs_str PySem.F.slot_str_join PySem.F.type_str_join mt_joinS p_str (a_e ((pe_op op_addD (e_sl (p_var 9) o_none (o_some (p_var 10))) (e_sl (p_var 9) (o_some ((pe_op op_addD (p_var 10) p_int).imp (imp_p2 r_add))) o_none)).imp (imp_e2 r_add)) a_nil)).imp (imp_sm rs_join)) a_nil))).imp (imp_opN r_add)))
    (s_one (s_ret (p_ix (h1_of hr) (p_var 11) (p_var 2)).p)))))))))))))))))))))
theorem sc__law_fixed : FnScope ["some", "one", "letters", "many", "k"] [] (defScope (top 48)) := ⟨rfl, rfl, rfl, by decide +kernel, rfl, by decide +kernel, by decide +kernel⟩
theorem ok__law_fixed (T : Txt K w mg) {f : Addr} {fd : FuncData} (F : Fun K "_law_fixed" "_law_fixed" (top 48) f fd) (hm : mg "_law_fixed" = some (.ref f)) (b : Binds K fd [] []) : Cl P w K mg base 1 "_law_fixed" m__law_fixed :=
  cl_of F hm F.kp b sc__law_fixed rfl (by decide) (by decide) fun cdv A outer s H E vs0 hr hp hq =>
    (s_cons (s_set 0 (hp 0 (by decide)) sc__law_fixed.nd (e_lst (a_e p_str.p (a_e p_str.p (a_e p_str.p (a_e p_str.p (a_e p_str.p (a_e p_str.p (a_e p_str.p a_nil)))))))))
    (s_cons (s_set 0 (hp 0 (by decide)) sc__law_fixed.nd ((pe_op op_addD (pv 0) (e_lst (a_e p_str.p a_nil))).imp (imp_opN r_add)))
    (s_cons (s_set 0 (hp 0 (by decide)) sc__law_fixed.nd ((pe_op op_addD (pv 0) (e_lst (a_e p_str.p (a_e p_str.p (a_e p_str.p (a_e p_str.p a_nil)))))).imp (imp_opN r_add)))
    (s_cons (s_set 0 (hp 0 (by decide)) sc__law_fixed.nd ((pe_op op_addD (pv 0) (e_lst (a_e p_str.p (a_e p_str.p a_nil)))).imp (imp_opN r_add)))
    (s_cons (s_set 0 (hp 0 (by decide)) sc__law_fixed.nd ((pe_op op_addD (pv 0) (e_lst (a_e p_str.p (a_e p_str.p (a_e p_str.p (a_e p_str.p a_nil)))))).imp (imp_opN r_add)))
    (s_cons (s_set 0 (hp 0 (by decide)) sc__law_fixed.nd ((pe_op op_addD (pv 0) (e_lst (a_e p_str.p (a_e p_str.p a_nil)))).imp (imp_opN r_add)))
    (s_cons (s_set 0 (hp 0 (by decide)) sc__law_fixed.nd ((pe_op op_addD (pv 0) (e_lst (a_e p_str.p (a_e p_str.p (a_e p_str.p (a_e p_str.p a_nil)))))).imp (imp_opN r_add)))
    (s_cons (s_set 0 (hp 0 (by decide)) sc__law_fixed.nd ((pe_op op_addD (pv 0) (e_lst (a_e p_str.p (a_e p_str.p a_nil)))).imp (imp_opN r_add)))
    (s_cons (s_set 1 (hp 1 (by decide)) sc__law_fixed.nd p_str.p)
    (s_cons (s_set 0 (hp 0 (by decide)) sc__law_fixed.nd ((pe_op op_addD (pv 0) (e_lst (a_e ((pe_op op_addD (p_var 1) p_str).imp (imp_p2 r_add)).p (a_e ((pe_op op_addD (p_var 1) p_str).imp (imp_p2 r_add)).p a_nil)))).imp (imp_opN r_add)))
    (s_cons (s_set 0 (hp 0 (by decide)) sc__law_fixed.nd ((pe_op op_addD (pv 0) (e_lst (a_e ((pe_op op_addD (p_var 1) p_str).imp (imp_p2 r_add)).p (a_e ((pe_op op_addD (p_var 1) p_str).imp (imp_p2 r_add)).p a_nil)))).imp (imp_opN r_add)))
    (s_cons (s_set 0 (hp 0 (by decide)) sc__law_fixed.nd ((pe_op op_addD (pv 0) (e_lst (a_e ((pe_op op_addD (p_var 1) p_str).imp (imp_p2 r_add)).p (a_e ((pe_op op_addD (p_var 1) p_str).imp (imp_p2 r_add)).p a_nil)))).imp (imp_opN r_add)))
    (s_cons (s_set 0 (hp 0 (by decide)) sc__law_fixed.nd ((pe_op op_addD (pv 0) (e_lst (a_e ((pe_op op_addD (p_var 1) p_str).imp (imp_p2 r_add)).p (a_e ((pe_op op_addD (p_var 1) (p_var 1)).imp (imp_p2 r_add)).p (a_e ((pe_op op_addD (p_var 1) p_str).imp (imp_p2 r_add)).p a_nil))))).imp (imp_opN r_add)))
    (s_cons (s_set 2 (hp 2 (by decide)) sc__law_fixed.nd p_str.p)
    (s_cons (s_comp1 3 (hp 3 (by decide)) rfl sc__law_fixed.nd T.z_range p_int.p (own := [("k", 4)]) (blk_ok (N := ["some", "one", "letters", "many", "k"]) (sc := defScope (top 48)) (by decide +kernel)) (gt_n 4 (hp 4 (by decide)) (by show 4 < 5; decide) (by simp)) (by intro i hi; simp only [List.map_cons, List.map_nil, List.mem_cons, List.not_mem_nil, or_false] at hi; exact hp i (by omega)) (fun _ _ _ _ _ => (pg_name sc__law_fixed.nd rfl (Or.inl rfl) (Or.inr rfl))) (fun _ _ _ _ _ => ts_nil) (fun _ _ _ _ _ => ((pe_op op_addD (p_ix (h1_of hr) (p_var 2) (p_var 4)) p_str).imp (imp_p2 r_add)).p) (by rfl))
    (s_cons (s_set 0 (hp 0 (by decide)) sc__law_fixed.nd ((pe_op op_addD (pv 0) (e_lst (a_e ((pe_bm PySem.F.plainAttrs_str PySem.F.slot_str_join PySem.F.type_str_join mt_joinS p_str (a_e ((pe_op op_addD ((pe_op op_addD (e_sl (p_var 3) o_none (o_some p_int)) (e_lst (a_e p_str.p a_nil))).imp (imp_e2 r_add)) (e_sl (p_var 3) (o_some p_int) o_none)).imp (imp_e2 r_add)) a_nil)).imp (imp_sm rs_join)) a_nil))).imp (imp_opN r_add)))
    (s_cons (s_set 0 (hp 0 (by decide)) sc__law_fixed.nd ((pe_op op_addD (pv 0) (e_lst (a_e ((pe_bm PySem.F.plainAttrs_str PySem.F.slot_str_join PySem.F.type_str_join mt_joinS p_str (a_e ((pe_op op_addD (e_sl (p_var 3) o_none (o_some p_int)) (e_lst (a_e p_str.p a_nil))).imp (imp_e2 r_add)) a_nil)).imp (imp_sm rs_join)) a_nil))).imp (imp_opN r_add)))
    (s_cons (s_wp (s_for rfl PassesOwn.never (e_tup (a_e p_int.p (a_e p_int.p (a_e p_int.p (a_e p_int.p a_nil))))) (g_name 3 (hp 3 (by decide)) sc__law_fixed.nd) (s_wpB (s_cons (s_exp ((pe_bm PySem.F.plainAttrs_list PySem.F.slot_list_append PySem.F.type_list_append mt_append (pv 0) (a_e ((pe_bm PySem.F.plainAttrs_str PySem.F.slot_str_join PySem.F.type_str_join mt_joinS p_str (a_e (e_comp1 rfl sc__law_fixed.nd T.z_range (p_var 3).p (own := [("k", 4)]) (blk_ok (N := ["some", "one", "letters", "many", "k"]) (sc := defScope (top 48)) (by decide +kernel)) (gt_n 4 (hp 4 (by decide)) (by show 4 < 5; decide) (by simp)) (by intro i hi; simp only [List.map_cons, List.map_nil, List.mem_cons, List.not_mem_nil, or_false] at hi; exact hp i (by omega)) (fun _ _ _ _ _ => (pg_name sc__law_fixed.nd rfl (Or.inl rfl) (Or.inr rfl))) (fun _ _ _ _ _ => ts_nil) (fun _ _ _ _ _ => ((pe_op op_addD (p_ix (h1_of hr) (p_var 2) (p_var 4)) p_str).imp (imp_p2 r_add)).p)) a_nil)).imp (imp_sm rs_join)) a_nil)).imp (imp_mt rm_append ty_append)))
    (s_one (s_exp ((pe_bm PySem.F.plainAttrs_list PySem.F.slot_list_append PySem.F.type_list_append mt_append (pv 0) (a_e ((pe_op op_addD ((pe_bm PySem.F.plainAttrs_str PySem.F.slot_str_join PySem.F.type_str_join mt_joinS p_str (a_e (e_comp1 rfl sc__law_fixed.nd T.z_range (p_var 3).p (own := [("k", 4)]) (blk_ok (N := ["some", "one", "letters", "many", "k"]) (sc := defScope (top 48)) (by decide +kernel)) (gt_n 4 (hp 4 (by decide)) (by show 4 < 5; decide) (by simp)) (by intro i hi; simp only [List.map_cons, List.map_nil, List.mem_cons, List.not_mem_nil, or_false] at hi; exact hp i (by omega)) (fun _ _ _ _ _ => (pg_name sc__law_fixed.nd rfl (Or.inl rfl) (Or.inr rfl))) (fun _ _ _ _ _ => ts_nil) (fun _ _ _ _ _ => ((pe_op op_addD (p_ix (h1_of hr) (p_var 2) (p_var 4)) p_str).imp (imp_p2 r_add)).p)) a_nil)).imp (imp_sm rs_join)) p_str).imp (imp_eP2 r_add)) a_nil)).imp (imp_mt rm_append ty_append))))))))
    (s_one (s_ret (e_mv 0)))))))))))))))))))))
theorem sc_law : FnScope ["script", "book", "text", "k", "tape", "turn", "some"] ["script"] (defScope (top 49)) := ⟨rfl, rfl, rfl, by decide +kernel, rfl, by decide +kernel, by decide +kernel⟩
theorem ok_law (T : Txt K w mg) {f : Addr} {fd : FuncData} (F : Fun K "law" "law" (top 49) f fd) (b : ∀ (s : Shared) (u : Value), BindsTo s fd ⟨[u], []⟩ [("script", u)]) (cs : ∀ base : Heap, K.In base → base.Ns mainGlobals mg → Cl P w K mg base 3 "_law_book" m__law_book ∧ Cl P w K mg base 3 "_law_text" m__law_text ∧ ClG P w K mg base 7 "_law_right" m__law_right ∧ Cl P w K mg base 2 "_law_tape" m__law_tape ∧ Cl P w K mg base 2 "_law_bent" m__law_bent ∧ Cl P w K mg base 1 "_law_fixed" m__law_fixed) (hr : Room 8 callerA) : LawAt P w K mg f m_law :=
  law_of F b sc_law (by decide) hr fun base hK hg cdv A s H E vs0 hgd hr hp => by
    obtain ⟨c__law_book, c__law_text, c__law_right, c__law_tape, c__law_bent, c__law_fixed⟩ := cs base hK hg
    exact (s_cons (s_set 1 (hp 1 (by decide)) sc_law.nd (e_callC c__law_book hr (by decide) (a_s 0 (a_e p_int.p (a_e p_int.p a_nil)))))
    (s_cons (s_set 2 (hp 2 (by decide)) sc_law.nd (e_callC c__law_text hr (by decide) (a_s 1 a_nil)))
    (s_cons (s_if (b_not (b_val (e_callG c__law_right hgd hr (by decide) (a_s 2 a_nil)))) (s_one (s_ret p_bl.p)) s_nil)
    (s_cons (s_wp (s_for2 rfl PassesOwn.never T.z_range p_int.p ((pe_callB (c_max rfl) (by rfl) T.z_max (by rfl) (ap_cons p_int (ap_cons ((pe_callB (c_min rfl) (by rfl) T.z_min (by rfl) (ap_cons p_int (ap_cons ((pe_callB c_len (by rfl) T.z_len (by rfl) (ap_cons (p_var 0) ap_nil)).imp (imp_bi r_len)) ap_nil))).imp (imp_bi r_min)) ap_nil))).imp (imp_bi r_max)).p (g_name 3 (hp 3 (by decide)) sc_law.nd) (s_wpB (s_cons (s_set 4 (hp 4 (by decide)) sc_law.nd (e_callC c__law_tape hr (by decide) (a_s 0 (a_s 3 a_nil))))
    (s_one (s_wp (s_for1 rfl PassesOwn.never T.z_range p_int.p (g_name 5 (hp 5 (by decide)) sc_law.nd) (s_wpB (s_one (s_if (b_not (b_val (e_callG c__law_right hgd hr (by decide) (a_e (e_callC c__law_bent hr (by decide) (a_s 4 (a_s 2 a_nil))) a_nil)))) (s_one (s_ret p_bl.p)) s_nil))))))))))
    (s_one (s_ret ((pe_callB (cr_all rfl) (by rfl) T.z_all (by rfl) (a_e (e_comp rfl sc_law.nd (e_callC0 c__law_fixed hr (by decide)) (own := [("some", 6)]) (blk_ok (N := ["script", "book", "text", "k", "tape", "turn", "some"]) (sc := defScope (top 49)) (by decide +kernel)) (gt_n 6 (hp 6 (by decide)) (by show 6 < 7; decide) (by simp)) (by intro i hi; simp only [List.map_cons, List.map_nil, List.mem_cons, List.not_mem_nil, or_false] at hi; exact hp i (by omega)) (fun _ _ _ _ _ => (pg_name sc_law.nd rfl (Or.inl rfl) (Or.inr rfl))) (fun _ _ _ _ _ => ts_nil) (fun _ _ _ _ _ => (e_callG c__law_right hgd hr (by decide) (a_s 6 a_nil)))) a_nil)).imp (imp_biE r_all))))))))
end
end Lk
/-! SHIM: mirrors of other laws -/
namespace Lk
open PySem PySem.Spec PyProof.Rows L2 Dl
def b_show_part : SM := (sSeq (sAsg (eLst (aE (eP (pOp2 opIx (pVar 0) (pC (.int 0)))) (aE (eP (pBi opStr [(pOp2 opIx (pVar 0) (pC (.int 2)))])) (aE (eP (pBi opStr [(pOp2 opIx (pVar 0) (pC (.int 3)))])) (aE (eP (pOp2 opIx (pOp2 opIx (pVar 0) (pC (.int 1))) (pC (.int 0)))) aNil))))) (gN 1))
    (sSeq (sIf (bP (pOp2 opEq (pOp2 opIx (pOp2 opIx (pVar 0) (pC (.int 1))) (pC (.int 0))) (pC (.str "leaf")))) (sRet (eSm mJoin (pC (.str " ")) (aE (eOpN opAdd 1 (eLst (aE (eP (pBi opStr [(pOp2 opIx (pOp2 opIx (pVar 0) (pC (.int 1))) (pC (.int 1)))])) aNil))) aNil))) sNil)
    (sRet (eSm mJoin (pC (.str " ")) (aE (eOpN opAdd 1 (eBi opList (aE (eCall m_needs_of (aS 0 aNil)) aNil))) aNil)))))
def m_show_part : FnM := fnM 1 1 2 b_show_part
def x1_show_book : EM := (eOpP opAdd (eCall m_show_part (aS 1 aNil)) (pC (.str "\n")))
def b_show_book : SM := (sRet (eSm mJoin (pC (.str "")) (aE (eComp (eP (pVar 0)) (gN 1) bYes x1_show_book [1]) aNil)))
def m_show_book : FnM := fnM 1 1 2 b_show_book
end Lk

set_option Elab.async false
set_option linter.all false
set_option maxRecDepth 100000
set_option maxHeartbeats 1000000
/-! DS: how mirrors run: loops, blocks. Plain Lean. -/
namespace Dl
open PySem

theorem forL_inv {g : GM} {body : SM} (I : Nat → DEnv → Prop) : ∀ {ds : List D} {ρ : DEnv} {k : Nat}, I k ρ → (∀ i (h : i < ds.length) ρ, I (k + i) ρ → ∃ ρ1 ρ2, g ds[i] ρ = some ρ1 ∧ (body ρ1 = some (.nx, ρ2) ∨ body ρ1 = some (.ct, ρ2)) ∧ I (k + i + 1) ρ2) →
    ∃ ρ', forL g body ds ρ = some (.nx, ρ') ∧ I (k + ds.length) ρ'
  | [], ρ, k, h0, _ => ⟨ρ, rfl, h0⟩
  | d :: ds, ρ, k, h0, hs => by
    obtain ⟨ρ1, ρ2, h1, h2, h3⟩ := hs 0 (by simp) ρ h0
    obtain ⟨ρ', h4, h5⟩ := forL_inv (g := g) (body := body) I (ds := ds) (ρ := ρ2) (k := k + 1) h3 (fun i h ρ q => by
      have e : k + 1 + i = k + (i + 1) := by omega
      rw [e] at q
      obtain ⟨ρ1, ρ2, q1, q2, q3⟩ := hs (i + 1) (by simpa using h) ρ q
      refine ⟨ρ1, ρ2, by simpa using q1, q2, ?_⟩
      rw [e]
      exact q3)
    refine ⟨ρ', ?_, ?_⟩
    · simp only [List.getElem_cons_zero] at h1
      simp only [forL, h1]
      rcases h2 with h2 | h2 <;> simp only [h2, h4]
    · rw [List.length_cons, show k + (ds.length + 1) = k + 1 + ds.length by omega]
      exact h5
/-- a block that reads alone -/
theorem compL_pure {g : GM} {t : BM} {e : EM} {vs : List Nat} {ρ : DEnv} {p : D → Bool} {f : D → D} : ∀ {ds : List D}, (∀ d ∈ ds, ∃ ρ1, g d ρ = some ρ1 ∧ ∃ ρ2, t ρ1 = some (p d, ρ2) ∧ if p d = true then ∃ ρ3, e ρ2 = some (f d, ρ3) ∧ wipeD ρ3 vs = ρ else wipeD ρ2 vs = ρ) →
    compL g t e vs ds ρ = some ((ds.filter p).map f, ρ)
  | [], _ => rfl
  | d :: ds, h => by
    obtain ⟨ρ1, h1, ρ2, h2, h3⟩ := h d (by simp)
    have ih := compL_pure (g := g) (t := t) (e := e) (vs := vs) (ρ := ρ) (p := p) (f := f) (ds := ds) fun x hx => h x (by simp [hx])
    cases hp : p d with
    | true =>
      rw [hp] at h2 h3
      rw [if_pos rfl] at h3
      obtain ⟨ρ3, h4, h5⟩ := h3
      simp only [compL, h1, h2, h4, h5, ih, List.filter_cons, hp, if_true, List.map_cons]
    | false =>
      rw [hp] at h2 h3
      rw [if_neg (by simp)] at h3
      simp only [compL, h1, h2, h3, ih, List.filter_cons, hp, Bool.false_eq_true, if_false]
theorem compL_map {g : GM} {e : EM} {vs : List Nat} {ρ : DEnv} {f : D → D} {ds : List D} (h : ∀ d ∈ ds, ∃ ρ1, g d ρ = some ρ1 ∧ ∃ ρ3, e ρ1 = some (f d, ρ3) ∧ wipeD ρ3 vs = ρ) : compL g bYes e vs ds ρ = some (ds.map f, ρ) := by
  have := compL_pure (g := g) (t := bYes) (e := e) (vs := vs) (ρ := ρ) (p := fun _ => true) (f := f) (ds := ds) fun d hd => by
    obtain ⟨ρ1, h1, ρ3, h2, h3⟩ := h d hd
    exact ⟨ρ1, h1, ρ1, rfl, by rw [if_pos rfl]; exact ⟨ρ3, h2, h3⟩⟩
  rw [this, List.filter_eq_self.mpr (by simp)]
theorem range_len (lo : Int) (n : Nat) : (rangeD lo n).length = n := by simp [rangeD]
theorem range_at (lo : Int) (n i : Nat) (h : i < (rangeD lo n).length) : (rangeD lo n)[i] = .int (lo + (i : Int)) := by simp [rangeD]
theorem compE_of {g : GM} {t : BM} {e : EM} {vs : List Nat} {ds ys : List D} {ρ ρ' : DEnv} (hz : ds.length ≤ 10000) (h : compL g t e vs ds (wipeD ρ vs) = some (ys, ρ')) : compE g t e vs ds ρ = some (.lst true ys, ρ') := by
  unfold compE
  rw [if_pos (by rw [sizeLine_eq]; omega), h]
/-- [e for k in range(j)] -/
theorem compR1_map {it : EM} {g : GM} {e : EM} {vs : List Nat} {ρ ρ1 : DEnv} {j : Int} {f : D → D} (hi : it ρ = some (.int j, ρ1)) (h1 : 0 ≤ j) (h2 : j ≤ 10000)
    (h : ∀ k : Nat, (k : Int) < j → ∃ ρ2, g (.int k) (wipeD ρ1 vs) = some ρ2 ∧ ∃ ρ3, e ρ2 = some (f (.int k), ρ3) ∧ wipeD ρ3 vs = wipeD ρ1 vs) :
    eCompR1 it g bYes e vs ρ = some (.lst true ((List.range j.toNat).map fun (k : Nat) => f (.int (k : Int))), wipeD ρ1 vs) := by
  unfold eCompR1
  rw [hi]
  show (if okR j = true then _ else none) = _
  rw [if_pos (show okR j = true from lg_of (by omega) (by decide))]
  have := compL_map (g := g) (e := e) (vs := vs) (ρ := wipeD ρ1 vs) (f := f) (ds := rangeD 0 j.toNat) fun d hd => by
    simp only [rangeD, List.mem_map, List.mem_range] at hd
    obtain ⟨k, hk, rfl⟩ := hd
    rw [Int.zero_add]
    exact h k (by omega)
  rw [compE_of (by rw [range_len]; omega) this]
  simp [rangeD, Function.comp_def]
theorem forR1_of {it : EM} {g : GM} {body : SM} {ρ ρ1 : DEnv} {j : Int} {r : Option (Fl × DEnv)} (hi : it ρ = some (.int j, ρ1)) (h1 : 0 ≤ j) (h2 : j ≤ 10000) (h : forL g body (rangeD 0 j.toNat) ρ1 = r) : sForR1 it g body ρ = r := by
  unfold sForR1
  rw [hi]
  show (if okR j = true then _ else none) = _
  rw [if_pos (show okR j = true from lg_of (by omega) (by decide)), h]
theorem sSeq_nx {f g : SM} {ρ ρ1 : DEnv} (h : f ρ = some (.nx, ρ1)) : sSeq f g ρ = g ρ1 := by unfold sSeq; rw [h]
theorem sSeq_rt {f g : SM} {ρ ρ1 : DEnv} {d : D} (h : f ρ = some (.rt d, ρ1)) : sSeq f g ρ = some (.rt d, ρ1) := by unfold sSeq; rw [h]
theorem sAsg_of {e : EM} {g : GM} {ρ ρ1 ρ2 : DEnv} {d : D} (h : e ρ = some (d, ρ1)) (hg : g d ρ1 = some ρ2) : sAsg e g ρ = some (.nx, ρ2) := by unfold sAsg; rw [h]; show (match g d ρ1 with | some ρ2 => _ | none => _) = _; rw [hg]
theorem sExp_of {e : EM} {ρ ρ1 : DEnv} {d : D} (h : e ρ = some (d, ρ1)) : sExp e ρ = some (.nx, ρ1) := by unfold sExp; rw [h]
theorem sRet_of {e : EM} {ρ ρ1 : DEnv} {d : D} (h : e ρ = some (d, ρ1)) : sRet e ρ = some (.rt d, ρ1) := by unfold sRet; rw [h]
theorem sIf_t {c : BM} {f g : SM} {ρ ρ1 : DEnv} (h : c ρ = some (true, ρ1)) : sIf c f g ρ = f ρ1 := by unfold sIf; rw [h]
theorem sIf_f {c : BM} {f g : SM} {ρ ρ1 : DEnv} (h : c ρ = some (false, ρ1)) : sIf c f g ρ = g ρ1 := by unfold sIf; rw [h]
theorem eP_of {a : PM} {ρ : DEnv} {d : D} (h : a ρ = some d) (hs : d.stable = true) : eP a ρ = some (d, ρ) := by unfold eP; rw [h]; show (if d.stable = true then _ else _) = _; rw [if_pos hs]
theorem pOp2_of {op : D → D → Option D} {a b : PM} {ρ : DEnv} {x y : D} (ha : a ρ = some x) (hb : b ρ = some y) : pOp2 op a b ρ = op x y := by unfold pOp2; rw [ha, hb]
theorem append_of {i : Nat} {e : EM} {ρ ρ1 : DEnv} {y : D} {ds0 ds : List D} (h0 : ρ.getD i none = some (.lst true ds0)) (ha : e ρ = some (y, ρ1)) (h1 : ρ1.getD i none = some (.lst true ds)) (hl : ds.length < 10000) (hl0 : ds0.length < 10000) :
    eMt mAppend i (aE e aNil) ρ = some (.non, ρ1.set i (some (.lst true (ds ++ [y])))) := by
  simp only [eMt, h0, aE, ha, aNil, valsA, h1, mAppend, hl, hl0, if_true, Option.isSome_some]
theorem mulL {i j : Int} (h1 : -1000000000 ≤ i) (h2 : i ≤ 1000000000) : opMulA (.int i) (.int j) = some (.int (i * j)) := by
  show opMul (.int i) (.int j) = _
  unfold opMul
  exact if_pos (.inl (lg_of (by omega) (by decide)))
theorem mulR {i j : Int} (h1 : -1000000000 ≤ j) (h2 : j ≤ 1000000000) : opMulA (.int i) (.int j) = some (.int (i * j)) := by
  show opMul (.int i) (.int j) = _
  unfold opMul
  exact if_pos (.inr (lg_of (by omega) (by decide)))
theorem mulS {s : Str} {n : Int} (h0 : 0 ≤ n) (h1 : n ≤ 500) (h2 : s.length ≤ 1000) : opMulA (.str s) (.int n) = some (.str (Txt.mul s n)) := by
  show (if lg 9 n = true ∧ s.length ≤ 1000 then _ else _) = _
  exact if_pos ⟨lg_of (by omega) (by decide), h2⟩
theorem divI {i j : Int} (h0 : 0 < j) (h1 : j < 1073741824) : opFdiv (.int i) (.int j) = some (.int (i / j)) := by
  show (if 0 < j ∧ lg 30 j = true then _ else _) = _
  exact if_pos ⟨h0, lg_of (by omega) (by decide)⟩
theorem modI {i j : Int} (h0 : 0 < j) : opMod (.int i) (.int j) = some (.int (i % j)) := by
  show (if 0 < j then _ else _) = _
  exact if_pos h0
theorem addS {a b : Str} (h : a.length + b.length ≤ 100000) : opAdd (.str a) (.str b) = some (.str (a ++ b)) := by
  show (if a.length + b.length ≤ sizeLine then _ else _) = _
  exact if_pos (by rw [sizeLine_eq]; omega)
theorem addI (i j : Int) : opAdd (.int i) (.int j) = some (.int (i + j)) := rfl
theorem eqI (i j : Int) : opEq (.int i) (.int j) = some (.bl (decide (i = j))) := by simp [opEq, eqB, D.sv, L2.scal]
theorem eqS (i j : Str) : opEq (.str i) (.str j) = some (.bl (decide (i = j))) := by simp [opEq, eqB, D.sv, L2.scal]
theorem neI (i j : Int) : opNe (.int i) (.int j) = some (.bl (!decide (i = j))) := by simp [opNe, eqB, D.sv, L2.scal]
theorem neS (i j : Str) : opNe (.str i) (.str j) = some (.bl (!decide (i = j))) := by simp [opNe, eqB, D.sv, L2.scal]
theorem nodup_range_map {α : Type} {f : Nat → α} {n : Nat} (h : ∀ i j, i < j → j < n → f i ≠ f j) : ((List.range n).map f).Nodup := by
  unfold List.Nodup
  rw [List.pairwise_map]
  exact (List.pairwise_lt_range (n := n)).imp_of_mem fun {a b} _ hb hab => h a b hab (List.mem_range.mp hb)
end Dl

set_option Elab.async false
set_option linter.all false
set_option maxRecDepth 100000
set_option maxHeartbeats 2000000
namespace Lk
open PySem Dl
theorem digit_ok (t m : Int) (h : 0 < m) (h2 : m < 1073741824) : m__law_digit [.lst true [.int t], .int m] = some (.int (t % m), [.lst true [.int (t / m)], .int m]) := by
  have e := divI (i := t) h h2
  have e' := modI (i := t) h
  simp [m__law_digit, b__law_digit, fnM, outs, sSeq, sIf, sAsg, sRet, sRetN, sNil, sExp, sNo, bP, bV, bAnd, bOr, bNot, bYes, eP, eMv, eFr, pVar, pC, pOp2, pOp1, eOp2, eOpP, eOpPP, eOpN, eOpV, eIx, eIxP, pBi, pAll, eBi, eBiP, takeA, valsA, aE, aS, aNil, eTup, eLst, eCall, callA, putA, gN, gT, gTu, gSt, lVar, lIx, getP, putP, getS, putS, eMt, eMt0, mAppend, opPut, opIx, atD, L2.atI, L2.ixN, opLen, opLt, opLe, opGt, opGe, opSub, eqI, eqS, neI, neS, opIsN, opNotN, D.stable, stableL, D.imm, immL, D.frz, frzL, pSl, pPart, ePO, opSl, List.set_cons_zero, List.set_cons_succ, List.getD_cons_zero, List.getD_cons_succ, e, e']
theorem cell_ok (ns : List Int) (k : Nat) (hn : ns.length ≤ 63) : m__law_cell_at [.scr ns, .int k] = some (.int (ns.getD k 0), [.scr ns, .int k]) := by
  by_cases hk : k < ns.length
  · have hk' : (k : Int) < (ns.length : Int) := by omega
    simp [m__law_cell_at, b__law_cell_at, fnM, outs, sSeq, sIf, sAsg, sRet, sRetN, sNil, sExp, sNo, bP, bV, bAnd, bOr, bNot, bYes, eP, eMv, eFr, pVar, pC, pOp2, pOp1, eOp2, eOpP, eOpPP, eOpN, eOpV, eIx, eIxP, pBi, pAll, eBi, eBiP, takeA, valsA, aE, aS, aNil, eTup, eLst, eCall, callA, putA, gN, gT, gTu, gSt, lVar, lIx, getP, putP, getS, putS, eMt, eMt0, mAppend, opPut, opIx, atD, L2.atI, L2.ixN, opLen, opLt, opLe, opGt, opGe, opSub, modI, eqI, eqS, neI, neS, opIsN, opNotN, D.stable, stableL, D.imm, immL, D.frz, frzL, pSl, pPart, ePO, opSl, List.set_cons_zero, List.set_cons_succ, List.getD_cons_zero, List.getD_cons_succ, hk, hk']
  · have hk' : ¬ (k : Int) < (ns.length : Int) := by omega
    simp [m__law_cell_at, b__law_cell_at, fnM, outs, sSeq, sIf, sAsg, sRet, sRetN, sNil, sExp, sNo, bP, bV, bAnd, bOr, bNot, bYes, eP, eMv, eFr, pVar, pC, pOp2, pOp1, eOp2, eOpP, eOpPP, eOpN, eOpV, eIx, eIxP, pBi, pAll, eBi, eBiP, takeA, valsA, aE, aS, aNil, eTup, eLst, eCall, callA, putA, gN, gT, gTu, gSt, lVar, lIx, getP, putP, getS, putS, eMt, eMt0, mAppend, opPut, opIx, atD, L2.atI, L2.ixN, opLen, opLt, opLe, opGt, opGe, opSub, modI, eqI, eqS, neI, neS, opIsN, opNotN, D.stable, stableL, D.imm, immL, D.frz, frzL, pSl, pPart, ePO, opSl, List.set_cons_zero, List.set_cons_succ, List.getD_cons_zero, List.getD_cons_succ, hk, hk']
theorem tape_loop (ns : List Int) (k : Nat) (c o f : Int) (h1 : 0 ≤ o) (h2 : o < 2305843009213693951) : ∃ o' f' x, forL (gN 6) w1__law_tape (rangeD 0 20) [some (.scr ns), some (.int k), some (.int c), some (.int 2305843009213693951), some (.int o), some (.int f), none] =
    some (.nx, [some (.scr ns), some (.int k), some (.int c), some (.int 2305843009213693951), some (.int o'), some (.int f'), x]) := by
  obtain ⟨ρ', e1, o', f', x, _, _, e2⟩ := forL_inv (g := gN 6) (body := w1__law_tape) (fun _ ρ => ∃ (o f : Int) (x : Option D), 0 ≤ o ∧ o < 2305843009213693951 ∧ ρ = [some (.scr ns), some (.int k), some (.int c), some (.int 2305843009213693951), some (.int o), some (.int f), x])
    (ds := rangeD 0 20) (k := 0) (ρ := [some (.scr ns), some (.int k), some (.int c), some (.int 2305843009213693951), some (.int o), some (.int f), none]) ⟨o, f, none, h1, h2, rfl⟩ (fun i hi ρ q => by
      obtain ⟨o, f, x, h1, h2, rfl⟩ := q
      rw [range_at]
      refine ⟨_, _, rfl, .inl ?_, (o * o + 69621 * (0 + (i : Int)) + c + 7) % 2305843009213693951, f * 2305843009213693951 + (o * o + 69621 * (0 + (i : Int)) + c + 7) % 2305843009213693951, some (.int (0 + (i : Int))), Int.emod_nonneg _ (by decide), Int.emod_lt_of_pos _ (by decide), rfl⟩
      have b1 : opMulA (.int o) (.int o) = some (.int (o * o)) := by
        show opMul (.int o) (.int o) = _
        unfold opMul
        exact if_pos (.inl (lg_of (by omega) (by decide)))
      have b2 : opMulA (.int f) (.int 2305843009213693951) = some (.int (f * 2305843009213693951)) := by
        show opMul (.int f) (.int 2305843009213693951) = _
        unfold opMul
        exact if_pos (.inr (lg_of (by decide) (by decide)))
      have b3 := mulL (i := 69621) (j := (i : Int)) (by decide) (by decide)
      have b4 := mulL (i := 69621) (j := 0 + (i : Int)) (by decide) (by decide)
      simp [w1__law_tape, fnM, outs, sSeq, sIf, sAsg, sRet, sRetN, sNil, sExp, sNo, bP, bV, bAnd, bOr, bNot, bYes, eP, eMv, eFr, pVar, pC, pOp2, pOp1, eOp2, eOpP, eOpPP, eOpN, eOpV, eIx, eIxP, pBi, pAll, eBi, eBiP, takeA, valsA, aE, aS, aNil, eTup, eLst, eCall, callA, putA, gN, gT, gTu, gSt, lVar, lIx, getP, putP, getS, putS, eMt, eMt0, mAppend, opPut, opIx, atD, L2.atI, L2.ixN, opLen, opLt, opLe, opGt, opGe, opSub, modI, eqI, eqS, neI, neS, opIsN, opNotN, D.stable, stableL, D.imm, immL, D.frz, frzL, pSl, pPart, ePO, opSl, List.set_cons_zero, List.set_cons_succ, List.getD_cons_zero, List.getD_cons_succ, addI, b1, b2, b3, b4])
  exact ⟨o', f', x, by rw [e1, e2]⟩
theorem tape_ok (ns : List Int) (k : Nat) (hn : ns.length ≤ 63) : ∃ x, m__law_tape [.scr ns, .int k] = some (.lst true [.int x], [.scr ns, .int k]) := by
  have hc := cell_ok ns k hn
  generalize ns.getD k 0 = c at hc
  by_cases h0 : c = 0
  · refine ⟨0, ?_⟩
    subst h0
    simp [m__law_tape, b__law_tape, fnM, outs, sSeq, sIf, sAsg, sRet, sRetN, sNil, sExp, sNo, bP, bV, bAnd, bOr, bNot, bYes, eP, eMv, eFr, pVar, pC, pOp2, pOp1, eOp2, eOpP, eOpPP, eOpN, eOpV, eIx, eIxP, pBi, pAll, eBi, eBiP, takeA, valsA, aE, aS, aNil, eTup, eLst, eCall, callA, putA, gN, gT, gTu, gSt, lVar, lIx, getP, putP, getS, putS, eMt, eMt0, mAppend, opPut, opIx, atD, L2.atI, L2.ixN, opLen, opLt, opLe, opGt, opGe, opSub, modI, eqI, eqS, neI, neS, opIsN, opNotN, D.stable, stableL, D.imm, immL, D.frz, frzL, pSl, pPart, ePO, opSl, List.set_cons_zero, List.set_cons_succ, List.getD_cons_zero, List.getD_cons_succ, hc]
  · by_cases h1 : (1000000000000000000 : Int) ≤ c
    · refine ⟨c - 1000000000000000000, ?_⟩
      have b3 : opPow (.int 10) (.int 18) = some (.int 1000000000000000000) := by decide +kernel
      simp [m__law_tape, b__law_tape, fnM, outs, sSeq, sIf, sAsg, sRet, sRetN, sNil, sExp, sNo, bP, bV, bAnd, bOr, bNot, bYes, eP, eMv, eFr, pVar, pC, pOp2, pOp1, eOp2, eOpP, eOpPP, eOpN, eOpV, eIx, eIxP, pBi, pAll, eBi, eBiP, takeA, valsA, aE, aS, aNil, eTup, eLst, eCall, callA, putA, gN, gT, gTu, gSt, lVar, lIx, getP, putP, getS, putS, eMt, eMt0, mAppend, opPut, opIx, atD, L2.atI, L2.ixN, opLen, opLt, opLe, opGt, opGe, opSub, modI, eqI, eqS, neI, neS, opIsN, opNotN, D.stable, stableL, D.imm, immL, D.frz, frzL, pSl, pPart, ePO, opSl, List.set_cons_zero, List.set_cons_succ, List.getD_cons_zero, List.getD_cons_succ, hc, h0, h1, b3]
    · obtain ⟨o', f', x, e⟩ := tape_loop ns k c ((c * 40692 + 52774 * (k : Int) + 31) % 2305843009213693951) ((c * 40692 + 52774 * (k : Int) + 31) % 2305843009213693951) (Int.emod_nonneg _ (by decide)) (Int.emod_lt_of_pos _ (by decide))
      refine ⟨f', ?_⟩
      have b1 := mulR (i := c) (j := 40692) (by decide) (by decide)
      have b2 := mulL (i := 52774) (j := (k : Int)) (by decide) (by decide)
      have b3 : opPow (.int 10) (.int 18) = some (.int 1000000000000000000) := by decide +kernel
      have fr := forR1_of (it := eP (pC (.int 20))) (g := gN 6) (body := w1__law_tape) (j := 20) (ρ1 := [some (.scr ns), some (.int k), some (.int c), some (.int 2305843009213693951), some (.int ((c * 40692 + 52774 * (k : Int) + 31) % 2305843009213693951)), some (.int ((c * 40692 + 52774 * (k : Int) + 31) % 2305843009213693951)), none]) (eP_of rfl rfl) (by decide) (by decide) e
      simp [m__law_tape, b__law_tape, fnM, outs, sSeq, sIf, sAsg, sRet, sRetN, sNil, sExp, sNo, bP, bV, bAnd, bOr, bNot, bYes, eP, eMv, eFr, pVar, pC, pOp2, pOp1, eOp2, eOpP, eOpPP, eOpN, eOpV, eIx, eIxP, pBi, pAll, eBi, eBiP, takeA, valsA, aE, aS, aNil, eTup, eLst, eCall, callA, putA, gN, gT, gTu, gSt, lVar, lIx, getP, putP, getS, putS, eMt, eMt0, mAppend, opPut, opIx, atD, L2.atI, L2.ixN, opLen, opLt, opLe, opGt, opGe, opSub, modI, eqI, eqS, neI, neS, opIsN, opNotN, D.stable, stableL, D.imm, immL, D.frz, frzL, pSl, pPart, ePO, opSl, List.set_cons_zero, List.set_cons_succ, List.getD_cons_zero, List.getD_cons_succ, hc, h0, h1, addI, b1, b2, b3, fr]
end Lk

set_option Elab.async false
set_option linter.all false
set_option maxRecDepth 100000
set_option maxHeartbeats 2000000
namespace Lk
open PySem Dl
/-! ### words -/
def letr (n : Nat) : Str := ⟨#[97 + n]⟩
theorem letr_ix (i : Int) (h0 : 0 ≤ i) (h1 : i < 26) : opIx (.str "abcdefghijklmnopqrstuvwxyz") (.int i) = some (.str (letr i.toNat)) := by
  have key : ∀ n : Nat, n < 26 → opIx (.str "abcdefghijklmnopqrstuvwxyz") (.int n) = some (.str (letr n)) := by decide +kernel
  have := key i.toNat (by omega)
  rwa [Int.toNat_of_nonneg h0] at this
/-- a word: one to eight small letters -/
def wordB (w : Str) : Bool := decide (1 ≤ w.length ∧ w.length ≤ 8) && w.cps.toList.all fun c => decide (97 ≤ c ∧ c ≤ 122)
def some24 : List Str := ["leaf", "plus", "times", "most", "less", "make", "drop", "book", "worth", "ask", "change", "forget", "joined", "room", "once", "least", "tree", "no", "ok", "shut", "a", "b", "c", "zz"]
def wf0 (t : Nat) (e : Str) (k : Nat) : Str := letr ((t + k) % 26) ++ e
def wf1 (t k : Nat) : Str := Txt.mul (letr ((t + k / 8) % 26)) ((1 + k % 8 : Nat) : Int)
def wf2 (t s m k : Nat) : Str := letr ((t + s * (m - k)) % 26) ++ Txt.mul (letr t) ((k % 3 : Nat) : Int)
def wf3 (t k : Nat) : Str := some24.getD ((t + k) % 24) "a"
/-- no name of a book -/
def oddW : List Str := ["nobodyxx", "nobodyyy", "zyzzyva", "others"]
def wordX (w : Str) : Bool := wordB w && !oddW.contains w
structure WordsOk (ws : List Str) (n : Nat) : Prop where
  len : ws.length = n
  nd : ws.Nodup
  ok : ∀ w ∈ ws, wordB w = true
  odd : ∀ w ∈ ws, w ∉ oddW
theorem wordX_of {w : Str} (h : wordX w = true) : wordB w = true ∧ w ∉ oddW := by
  unfold wordX at h
  rw [Bool.and_eq_true, Bool.not_eq_true'] at h
  exact ⟨h.1, fun hm => by rw [List.contains_iff_mem.mpr hm] at h; cases h.2⟩
theorem wordsOk_of {f : Nat → Str} {n : Nat} (hn : ∀ i j, i < j → j < n → f i ≠ f j) (hw : ∀ i, i < n → wordX (f i) = true) : WordsOk ((List.range n).map f) n :=
  ⟨by simp, nodup_range_map hn, fun w hw' => by
    obtain ⟨k, hk, rfl⟩ := List.mem_map.mp hw'
    exact (wordX_of (hw k (List.mem_range.mp hk))).1, fun w hw' => by
    obtain ⟨k, hk, rfl⟩ := List.mem_map.mp hw'
    exact (wordX_of (hw k (List.mem_range.mp hk))).2⟩
def hd1 (w : Str) : Nat := w.cps.toList.headD 0
theorem hd_letr (n : Nat) (e : Str) : hd1 (letr n ++ e) = 97 + n := by
  show (letr n ++ e).cps.toList.headD 0 = _
  have : (letr n ++ e).cps.toList = (97 + n) :: e.cps.toList := by
    show ((#[97 + n] : Array Nat) ++ e.cps).toList = _
    simp
  rw [this]
  rfl
theorem ok0 : ∀ t : Nat, t < 26 → ∀ e ∈ (["", "a", "omelons"] : List Str), ∀ k, k < 24 → wordX (wf0 t e k) = true := by decide +kernel
theorem ok1 : ∀ t : Nat, t < 26 → ∀ k, k < 24 → wordX (wf1 t k) = true ∧ hd1 (wf1 t k) = 97 + (t + k / 8) % 26 ∧ (wf1 t k).length = 1 + k % 8 := by decide +kernel
theorem ok2a : ∀ n : Nat, n < 26 → ∀ t : Nat, t < 26 → ∀ k, k < 3 → wordX (letr n ++ Txt.mul (letr t) ((k : Nat) : Int)) = true := by decide +kernel
theorem ok3 : some24.Nodup ∧ some24.all wordX = true ∧ some24.length = 24 := by decide +kernel
theorem words0 {t n : Nat} {e : Str} (ht : t < 26) (he : e ∈ (["", "a", "omelons"] : List Str)) (hn : n ≤ 24) : WordsOk ((List.range n).map (wf0 t e)) n :=
  wordsOk_of (fun i j hij hj q => by
    have h := congrArg hd1 q
    unfold wf0 at h
    rw [hd_letr, hd_letr] at h
    omega) fun i hi => ok0 t ht e he i (by omega)
theorem words1 {t n : Nat} (ht : t < 26) (hn : n ≤ 24) : WordsOk ((List.range n).map (wf1 t)) n :=
  wordsOk_of (fun i j hij hj q => by
    have h := congrArg hd1 q
    have h' := congrArg Str.length q
    rw [(ok1 t ht i (by omega)).2.1, (ok1 t ht j (by omega)).2.1] at h
    rw [(ok1 t ht i (by omega)).2.2, (ok1 t ht j (by omega)).2.2] at h'
    omega) fun i hi => (ok1 t ht i (by omega)).1
theorem words2 {t s n : Nat} (ht : t < 26) (hs : s = 1 ∨ s = 3 ∨ s = 5 ∨ s = 7) (hn : n ≤ 24) : WordsOk ((List.range n).map (wf2 t s n)) n :=
  wordsOk_of (fun i j hij hj q => by
    have h := congrArg hd1 q
    unfold wf2 at h
    rw [hd_letr, hd_letr] at h
    rcases hs with rfl | rfl | rfl | rfl <;> omega) fun i hi => ok2a _ (Nat.mod_lt _ (by decide)) t ht _ (Nat.mod_lt _ (by decide))
theorem getD_lt {α : Type} {l : List α} {i : Nat} {d : α} (h : i < l.length) : l.getD i d = l[i] := by simp [List.getD, List.getElem?_eq_getElem h]
theorem words3 {t n : Nat} (hn : n ≤ 24) : WordsOk ((List.range n).map (wf3 t)) n := by
  obtain ⟨h1, h2, h3⟩ := ok3
  refine wordsOk_of (fun i j hij hj q => ?_) fun i hi => ?_
  · unfold wf3 at q
    have a1 : (t + i) % 24 < some24.length := by rw [h3]; exact Nat.mod_lt _ (by decide)
    have a2 : (t + j) % 24 < some24.length := by rw [h3]; exact Nat.mod_lt _ (by decide)
    rw [getD_lt a1, getD_lt a2] at q
    have hp := List.pairwise_iff_getElem.mp h1
    rcases Nat.lt_trichotomy ((t + i) % 24) ((t + j) % 24) with z | z | z
    · exact hp _ _ a1 a2 z q
    · omega
    · exact hp _ _ a2 a1 z q.symm
  · have a1 : (t + i) % 24 < some24.length := by rw [h3]; exact Nat.mod_lt _ (by decide)
    unfold wf3
    rw [getD_lt a1]
    exact List.all_eq_true.mp h2 _ (List.getElem_mem a1)

theorem len_letr (n : Nat) : (letr n).length = 1 := rfl
theorem letr_at (m : Int) (k : Nat) (h : (m % 26).toNat = k % 26) : opIx (.str "abcdefghijklmnopqrstuvwxyz") (.int (m % 26)) = some (.str (letr (k % 26))) := by
  have e1 := letr_ix (m % 26) (Int.emod_nonneg _ (by decide)) (Int.emod_lt_of_pos _ (by decide))
  rwa [h] at e1
theorem way0 (x : D) (n t : Nat) (e : Str) (a b c d f : Option D) (hn : n ≤ 24) (he : e.length ≤ 100) : eCompR1 (eP (pVar 1)) (gN 9) bYes x1__law_words [9] [some x, some (.int n), some (.str "abcdefghijklmnopqrstuvwxyz"), a, some (.int t), b, some (.str e), c, d, none, f] =
    some (.lst true ((List.range n).map fun k => .str (wf0 t e k)), [some x, some (.int n), some (.str "abcdefghijklmnopqrstuvwxyz"), a, some (.int t), b, some (.str e), c, d, none, f]) := by
  refine (compR1_map (f := fun q => match q with | .int k => .str (wf0 t e k.toNat) | _ => .non) (ρ1 := [some x, some (.int n), some (.str "abcdefghijklmnopqrstuvwxyz"), a, some (.int t), b, some (.str e), c, d, none, f]) (j := (n : Int)) rfl (by omega) (by omega) fun k hk => ?_).trans ?_
  · refine ⟨[some x, some (.int n), some (.str "abcdefghijklmnopqrstuvwxyz"), a, some (.int t), b, some (.str e), c, d, some (.int k), f], rfl, [some x, some (.int n), some (.str "abcdefghijklmnopqrstuvwxyz"), a, some (.int t), b, some (.str e), c, d, some (.int k), f], ?_, rfl⟩
    have hz : (letr ((t + k) % 26)).length + e.length ≤ sizeLine := by rw [len_letr, sizeLine_eq]; omega
    have e1 := letr_at ((t : Int) + k) (t + k) (by omega)
    simp [x1__law_words, fnM, outs, eP, pOp2, pVar, pC, opAdd, opMod, D.stable, wipeD, e1, hz, wf0]
  · simp [wipeD]
theorem way1 (x : D) (n t : Nat) (a b c d f g : Option D) (hn : n ≤ 24) : eCompR1 (eP (pVar 1)) (gN 9) bYes x2__law_words [9] [some x, some (.int n), some (.str "abcdefghijklmnopqrstuvwxyz"), a, some (.int t), b, c, d, f, none, g] =
    some (.lst true ((List.range n).map fun k => .str (wf1 t k)), [some x, some (.int n), some (.str "abcdefghijklmnopqrstuvwxyz"), a, some (.int t), b, c, d, f, none, g]) := by
  refine (compR1_map (f := fun q => match q with | .int k => .str (wf1 t k.toNat) | _ => .non) (ρ1 := [some x, some (.int n), some (.str "abcdefghijklmnopqrstuvwxyz"), a, some (.int t), b, c, d, f, none, g]) (j := (n : Int)) rfl (by omega) (by omega) fun k hk => ?_).trans ?_
  · refine ⟨[some x, some (.int n), some (.str "abcdefghijklmnopqrstuvwxyz"), a, some (.int t), b, c, d, f, some (.int k), g], rfl, [some x, some (.int n), some (.str "abcdefghijklmnopqrstuvwxyz"), a, some (.int t), b, c, d, f, some (.int k), g], ?_, rfl⟩
    have e1 := letr_at ((t : Int) + (k : Int) / 8) (t + k / 8) (by omega)
    have e3 := mulS (s := letr ((t + k / 8) % 26)) (n := 1 + (k : Int) % 8) (by omega) (by omega) (by rw [len_letr]; decide)
    have e4 := divI (i := (k : Int)) (j := 8) (by decide) (by decide)
    simp [x2__law_words, eP, pOp2, pVar, pC, addI, modI, D.stable, wipeD, e1, e3, e4, wf1]
  · simp [wipeD]
theorem way3 (x : D) (n t : Nat) (a b c d f g h : Option D) (hn : n ≤ 24) : eCompR1 (eP (pVar 1)) (gN 9) bYes x3__law_words [9] [some x, some (.int n), a, b, some (.int t), some (.lst true (some24.map D.str)), c, d, f, none, g] =
    some (.lst true ((List.range n).map fun k => .str (wf3 t k)), [some x, some (.int n), a, b, some (.int t), some (.lst true (some24.map D.str)), c, d, f, none, g]) := by
  refine (compR1_map (f := fun q => match q with | .int k => .str (wf3 t k.toNat) | _ => .non) (ρ1 := [some x, some (.int n), a, b, some (.int t), some (.lst true (some24.map D.str)), c, d, f, none, g]) (j := (n : Int)) rfl (by omega) (by omega) fun k hk => ?_).trans ?_
  · refine ⟨[some x, some (.int n), a, b, some (.int t), some (.lst true (some24.map D.str)), c, d, f, some (.int k), g], rfl, [some x, some (.int n), a, b, some (.int t), some (.lst true (some24.map D.str)), c, d, f, some (.int k), g], ?_, rfl⟩
    have a1 : (t + k) % 24 < some24.length := by rw [ok3.2.2]; exact Nat.mod_lt _ (by decide)
    have e1 : opIx (.lst true (some24.map D.str)) (.int (((t : Int) + k) % 24)) = some (.str (wf3 t k)) := by
      have e2 : (((t : Int) + k) % 24).toNat = (t + k) % 24 := by omega
      have e3 : (0 : Int) ≤ ((t : Int) + k) % 24 := by omega
      have e4 : ((t : Int) + k) % 24 < 24 := by omega
      have e5 : ((some24.map D.str).length : Int) = 24 := by rw [List.length_map, ok3.2.2]; rfl
      unfold wf3
      rw [getD_lt a1]
      simp only [opIx, atD, L2.atI, L2.ixN, e3, e5, e4, if_true, e2, Option.bind_some, List.getElem?_map, List.getElem?_eq_getElem a1, Option.map_some]
    simp [x3__law_words, eP, pOp2, pVar, pC, opAdd, opMod, D.stable, wipeD, e1]
  · simp [wipeD]
end Lk

set_option Elab.async false
set_option linter.all false
set_option maxRecDepth 100000
set_option maxHeartbeats 4000000
namespace Lk
open PySem Dl
theorem mul3 (t : Nat) (i : Nat) (ht : t < 26) : (Txt.mul (letr t) ((i : Int) % 3)).length ≤ 3 := by
  have : ∀ t : Nat, t < 26 → ∀ k : Nat, k < 3 → (Txt.mul (letr t) (k : Int)).length ≤ 3 := by decide +kernel
  have := this t ht (i % 3) (Nat.mod_lt _ (by decide))
  rwa [show ((i % 3 : Nat) : Int) = (i : Int) % 3 by omega] at this
theorem step2 (x : D) (n t s i : Nat) (a b c u v : Option D) (hi : i < n) (hn : n ≤ 24) (ht : t < 26) (hs : s ≤ 7) (l : List D) (hl : l.length < 10000) :
    w1__law_words [some x, some (.int n), some (.str "abcdefghijklmnopqrstuvwxyz"), a, some (.int t), b, c, some (.int s), some (.lst true l), some (.int i), v] =
    some (.nx, [some x, some (.int n), some (.str "abcdefghijklmnopqrstuvwxyz"), a, some (.int t), b, c, some (.int s), some (.lst true (l ++ [.str (wf2 t s n i)])), some (.int i), some (.str (letr ((t + s * (n - i)) % 26)))]) := by
  have e1 := letr_at ((t : Int) + (s : Int) * ((n : Int) - (i : Int))) (t + s * (n - i)) (by
    have : ((n - i : Nat) : Int) = (n : Int) - i := by omega
    rw [← this]
    omega)
  have e2 := letr_ix (t : Int) (by omega) (by omega)
  rw [Int.toNat_natCast] at e2
  have em := mulL (i := (s : Int)) (j := (n : Int) - (i : Int)) (by omega) (by omega)
  have m1 := mul3 t i ht
  have es := mulS (s := letr t) (n := (i : Int) % 3) (by omega) (by omega) (by rw [len_letr]; decide)
  have ea := addS (a := letr ((t + s * (n - i)) % 26)) (b := Txt.mul (letr t) ((i : Int) % 3)) (by rw [len_letr]; omega)
  unfold w1__law_words
  rw [sSeq_nx (sAsg_of (ρ1 := [some x, some (.int n), some (.str "abcdefghijklmnopqrstuvwxyz"), a, some (.int t), b, c, some (.int s), some (.lst true l), some (.int i), v]) (d := .str (letr ((t + s * (n - i)) % 26))) (eP_of (by
    simp [pOp2, pVar, pC, opSub, em, addI, opMod, e1]) rfl) rfl)]
  refine sExp_of (append_of (y := .str (wf2 t s n i)) rfl (eP_of ?_ rfl) rfl hl hl)
  simp [pOp2, pVar, pC, opMod, e2, es, ea, wf2]
theorem way2 (x : D) (n t s : Nat) (a b c f : Option D) (hn : n ≤ 24) (ht : t < 26) (hs : s ≤ 7) : ∃ u v, forL (gN 9) w1__law_words (rangeD 0 n) [some x, some (.int n), some (.str "abcdefghijklmnopqrstuvwxyz"), a, some (.int t), b, c, some (.int s), some (.lst true []), none, f] =
    some (.nx, [some x, some (.int n), some (.str "abcdefghijklmnopqrstuvwxyz"), a, some (.int t), b, c, some (.int s), some (.lst true ((List.range n).map fun k => .str (wf2 t s n k))), u, v]) := by
  obtain ⟨ρ', e1, _, u, v, e2⟩ := forL_inv (g := gN 9) (body := w1__law_words) (fun i ρ => i ≤ n ∧ ∃ u v, ρ = [some x, some (.int n), some (.str "abcdefghijklmnopqrstuvwxyz"), a, some (.int t), b, c, some (.int s), some (.lst true ((List.range i).map fun k => .str (wf2 t s n k))), u, v])
    (ds := rangeD 0 n) (k := 0) (ρ := [some x, some (.int n), some (.str "abcdefghijklmnopqrstuvwxyz"), a, some (.int t), b, c, some (.int s), some (.lst true []), none, f]) ⟨Nat.zero_le _, none, f, rfl⟩ (fun i hi ρ q => by
      obtain ⟨_, u, v, rfl⟩ := q
      rw [range_len] at hi
      rw [range_at, Nat.zero_add, Int.zero_add]
      refine ⟨_, _, rfl, .inl (step2 x n t s i a b c u v hi hn ht hs _ (by rw [List.length_map, List.length_range]; omega)), by omega, some (.int (i : Int)), some (.str (letr ((t + s * (n - i)) % 26))), ?_⟩
      rw [List.range_succ, List.map_append]
      rfl)
  exact ⟨u, v, by rw [e1, e2, Nat.zero_add, range_len]⟩
end Lk

set_option Elab.async false
set_option linter.all false
set_option maxRecDepth 100000
set_option maxHeartbeats 4000000
namespace Lk
open PySem Dl
theorem dig (m : Int) (h : 0 < m) (h2 : m < 1073741824) : ∀ t, m__law_digit [.lst true [.int t], .int m] = some (.int (t % m), [.lst true [.int (t / m)], .int m]) := fun t => digit_ok t m h h2
theorem some24_eq : some24.map D.str = [.str "leaf", .str "plus", .str "times", .str "most", .str "less", .str "make", .str "drop", .str "book", .str "worth", .str "ask", .str "change", .str "forget", .str "joined", .str "room", .str "once", .str "least", .str "tree", .str "no", .str "ok", .str "shut", .str "a", .str "b", .str "c", .str "zz"] := rfl
theorem map_some (l : List Nat) (f : Nat → Str) : l.map (fun k => D.str (f k)) = (l.map f).map D.str := by rw [List.map_map]; rfl
theorem words_ok (t : Int) (n : Nat) (h1 : 1 ≤ n) (hn : n ≤ 24) : ∃ ws t', WordsOk ws n ∧ m__law_words [.lst true [.int t], .int n] = some (.lst true (ws.map D.str), [.lst true [.int t'], .int n]) := by
  have d4 := dig 4 (by decide) (by decide)
  have d26 := dig 26 (by decide) (by decide)
  have d3 := dig 3 (by decide) (by decide)
  obtain ⟨u, hu, hu2⟩ : ∃ u : Nat, t / 4 % 26 = (u : Int) ∧ u < 26 := ⟨(t / 4 % 26).toNat, by omega, by omega⟩
  have h4 : t % 4 = 0 ∨ t % 4 = 1 ∨ t % 4 = 2 ∨ t % 4 = 3 := by omega
  rcases h4 with h4 | h4 | h4 | h4
  · have h3 : t / 4 / 26 % 3 = 0 ∨ t / 4 / 26 % 3 = 1 ∨ t / 4 / 26 % 3 = 2 := by omega
    rcases h3 with h3 | h3 | h3
    · refine ⟨_, t / 4 / 26 / 3, words0 (e := "") hu2 (by simp) hn, ?_⟩
      have w := way0 (.lst true [.int (t / 4 / 26 / 3)]) n u "" (some (.int 0)) none none none none hn (by decide)
      rw [map_some] at w
      simp [m__law_words, b__law_words, fnM, outs, sSeq, sIf, sAsg, sRet, sRetN, sNil, sExp, sNo, bP, bV, bAnd, bOr, bNot, bYes, eP, eMv, eFr, pVar, pC, pOp2, pOp1, eOp2, eOpP, eOpPP, eOpN, eOpV, eIx, eIxP, pBi, pAll, eBi, eBiP, takeA, valsA, aE, aS, aNil, eTup, eLst, eCall, callA, putA, gN, gT, gTu, gSt, lVar, lIx, getP, putP, getS, putS, eMt, eMt0, mAppend, opPut, opIx, atD, L2.atI, L2.ixN, opLen, opLt, opLe, opGt, opGe, opSub, modI, eqI, eqS, neI, neS, opIsN, opNotN, D.stable, stableL, D.imm, immL, D.frz, frzL, pSl, pPart, ePO, opSl, List.set_cons_zero, List.set_cons_succ, List.getD_cons_zero, List.getD_cons_succ, d4, d26, d3, h4, hu, h3, w]
    · refine ⟨_, t / 4 / 26 / 3, words0 (e := "a") hu2 (by simp) hn, ?_⟩
      have w := way0 (.lst true [.int (t / 4 / 26 / 3)]) n u "a" (some (.int 0)) none none none none hn (by decide)
      rw [map_some] at w
      simp [m__law_words, b__law_words, fnM, outs, sSeq, sIf, sAsg, sRet, sRetN, sNil, sExp, sNo, bP, bV, bAnd, bOr, bNot, bYes, eP, eMv, eFr, pVar, pC, pOp2, pOp1, eOp2, eOpP, eOpPP, eOpN, eOpV, eIx, eIxP, pBi, pAll, eBi, eBiP, takeA, valsA, aE, aS, aNil, eTup, eLst, eCall, callA, putA, gN, gT, gTu, gSt, lVar, lIx, getP, putP, getS, putS, eMt, eMt0, mAppend, opPut, opIx, atD, L2.atI, L2.ixN, opLen, opLt, opLe, opGt, opGe, opSub, modI, eqI, eqS, neI, neS, opIsN, opNotN, D.stable, stableL, D.imm, immL, D.frz, frzL, pSl, pPart, ePO, opSl, List.set_cons_zero, List.set_cons_succ, List.getD_cons_zero, List.getD_cons_succ, d4, d26, d3, h4, hu, h3, w]
    · refine ⟨_, t / 4 / 26 / 3, words0 (e := "omelons") hu2 (by simp) hn, ?_⟩
      have w := way0 (.lst true [.int (t / 4 / 26 / 3)]) n u "omelons" (some (.int 0)) none none none none hn (by decide)
      rw [map_some] at w
      simp [m__law_words, b__law_words, fnM, outs, sSeq, sIf, sAsg, sRet, sRetN, sNil, sExp, sNo, bP, bV, bAnd, bOr, bNot, bYes, eP, eMv, eFr, pVar, pC, pOp2, pOp1, eOp2, eOpP, eOpPP, eOpN, eOpV, eIx, eIxP, pBi, pAll, eBi, eBiP, takeA, valsA, aE, aS, aNil, eTup, eLst, eCall, callA, putA, gN, gT, gTu, gSt, lVar, lIx, getP, putP, getS, putS, eMt, eMt0, mAppend, opPut, opIx, atD, L2.atI, L2.ixN, opLen, opLt, opLe, opGt, opGe, opSub, modI, eqI, eqS, neI, neS, opIsN, opNotN, D.stable, stableL, D.imm, immL, D.frz, frzL, pSl, pPart, ePO, opSl, List.set_cons_zero, List.set_cons_succ, List.getD_cons_zero, List.getD_cons_succ, d4, d26, d3, h4, hu, h3, w]
  · refine ⟨_, t / 4 / 26, words1 hu2 hn, ?_⟩
    have w := way1 (.lst true [.int (t / 4 / 26)]) n u (some (.int 1)) none none none none none hn
    rw [map_some] at w
    simp [m__law_words, b__law_words, fnM, outs, sSeq, sIf, sAsg, sRet, sRetN, sNil, sExp, sNo, bP, bV, bAnd, bOr, bNot, bYes, eP, eMv, eFr, pVar, pC, pOp2, pOp1, eOp2, eOpP, eOpPP, eOpN, eOpV, eIx, eIxP, pBi, pAll, eBi, eBiP, takeA, valsA, aE, aS, aNil, eTup, eLst, eCall, callA, putA, gN, gT, gTu, gSt, lVar, lIx, getP, putP, getS, putS, eMt, eMt0, mAppend, opPut, opIx, atD, L2.atI, L2.ixN, opLen, opLt, opLe, opGt, opGe, opSub, modI, eqI, eqS, neI, neS, opIsN, opNotN, D.stable, stableL, D.imm, immL, D.frz, frzL, pSl, pPart, ePO, opSl, List.set_cons_zero, List.set_cons_succ, List.getD_cons_zero, List.getD_cons_succ, d4, d26, h4, hu, w]
  · obtain ⟨s, hs, e3⟩ : ∃ s : Nat, (s = 1 ∨ s = 3 ∨ s = 5 ∨ s = 7) ∧ opIx (.lst true [.int 1, .int 3, .int 5, .int 7]) (.int (t / 4 / 26 % 4)) = some (.int s) := by
      have h5 : t / 4 / 26 % 4 = 0 ∨ t / 4 / 26 % 4 = 1 ∨ t / 4 / 26 % 4 = 2 ∨ t / 4 / 26 % 4 = 3 := by omega
      rcases h5 with h5 | h5 | h5 | h5 <;> rw [h5]
      · exact ⟨1, by simp, rfl⟩
      · exact ⟨3, by simp, rfl⟩
      · exact ⟨5, by simp, rfl⟩
      · exact ⟨7, by simp, rfl⟩
    refine ⟨_, t / 4 / 26 / 4, words2 hu2 hs hn, ?_⟩
    obtain ⟨p, q, w⟩ := way2 (.lst true [.int (t / 4 / 26 / 4)]) n u s (some (.int 2)) none none none hn hu2 (by omega)
    rw [map_some] at w
    have fr := forR1_of (it := eP (pVar 1)) (g := gN 9) (body := w1__law_words) (j := (n : Int)) (ρ1 := [some (.lst true [.int (t / 4 / 26 / 4)]), some (.int n), some (.str "abcdefghijklmnopqrstuvwxyz"), some (.int 2), some (.int u), none, none, some (.int s), some (.lst true []), none, none]) (eP_of rfl rfl) (by omega) (by omega) w
    simp [m__law_words, b__law_words, fnM, outs, sSeq, sIf, sAsg, sRet, sRetN, sNil, sExp, sNo, bP, bV, bAnd, bOr, bNot, bYes, eP, eMv, eFr, pVar, pC, pOp2, pOp1, eOp2, eOpP, eOpPP, eOpN, eOpV, eIx, eIxP, pBi, pAll, eBi, eBiP, takeA, valsA, aE, aS, aNil, eTup, eLst, eCall, callA, putA, gN, gT, gTu, gSt, lVar, lIx, getP, putP, getS, putS, eMt, eMt0, mAppend, opPut, opLen, opLt, opLe, opGt, opGe, opSub, modI, eqI, eqS, neI, neS, opIsN, opNotN, D.stable, stableL, D.imm, immL, D.frz, frzL, pSl, pPart, ePO, opSl, List.set_cons_zero, List.set_cons_succ, List.getD_cons_zero, List.getD_cons_succ, d4, d26, h4, hu, e3, fr]
  · refine ⟨_, t / 4 / 26, words3 (t := u) hn, ?_⟩
    have w := way3 (.lst true [.int (t / 4 / 26)]) n u (some (.str "abcdefghijklmnopqrstuvwxyz")) (some (.int 3)) none none none none none hn
    rw [map_some, some24_eq] at w
    have z24 : 24 ≤ sizeLine := by rw [sizeLine_eq]; decide
    simp [m__law_words, b__law_words, fnM, outs, sSeq, sIf, sAsg, sRet, sRetN, sNil, sExp, sNo, bP, bV, bAnd, bOr, bNot, bYes, eP, eMv, eFr, pVar, pC, pOp2, pOp1, eOp2, eOpP, eOpPP, eOpN, eOpV, eIx, eIxP, pBi, pAll, eBi, eBiP, takeA, valsA, aE, aS, aNil, eTup, eLst, eCall, callA, putA, gN, gT, gTu, gSt, lVar, lIx, getP, putP, getS, putS, eMt, eMt0, mAppend, opPut, opIx, atD, L2.atI, L2.ixN, opLen, opLt, opLe, opGt, opGe, opSub, modI, eqI, eqS, neI, neS, opIsN, opNotN, D.stable, stableL, D.imm, immL, D.frz, frzL, pSl, pPart, ePO, opSl, List.set_cons_zero, List.set_cons_succ, List.getD_cons_zero, List.getD_cons_succ, d4, d26, h4, hu, opAdd, z24, w]
end Lk

set_option Elab.async false
set_option linter.all false
set_option maxRecDepth 100000
set_option maxHeartbeats 1000000
/-! DS2: equality of data without truths, by structure. -/
namespace Dl
open PySem

/-- numbers, texts, None, lists and tuples of these, n deep at most -/
def nic : Nat → D → Bool
  | _, .non => true
  | _, .int _ => true
  | _, .str s => PyData.strOk s
  | n + 1, .tup xs => xs.all (nic n)
  | n + 1, .lst _ xs => xs.all (nic n)
  | _, _ => false
theorem canLayAll_all : ∀ l : List PyData, PyData.canLayAll0 l = l.all PyData.canLay0
  | [] => by simp [PyData.canLayAll0]
  | d :: l => by rw [PyData.canLayAll0, canLayAll_all l, List.all_cons]
theorem datL_all : ∀ l : List D, datL l = l.all D.dat
  | [] => by simp [datL]
  | d :: l => by rw [datL, datL_all l, List.all_cons]
theorem pyL_map : ∀ l : List D, pyL l = l.map D.py
  | [] => by simp [pyL]
  | d :: l => by rw [pyL, pyL_map l, List.map_cons]
theorem depthAll_le {k : Nat} : ∀ {l : List PyData}, (∀ d ∈ l, d.depth ≤ k) → PyData.depthAll l ≤ k
  | [], _ => by simp [PyData.depthAll]
  | d :: l, h => by
    rw [PyData.depthAll]
    have h1 := h d (by simp)
    have h2 := depthAll_le (k := k) (l := l) fun x hx => h x (by simp [hx])
    omega
theorem nic_ok : ∀ (n : Nat) (d : D), nic n d = true → d.dat = true ∧ d.py.canLay0 = true ∧ d.py.depth ≤ n
  | 0, .non, _ => by simp [D.dat, D.py, PyData.canLay0, PyData.depth]
  | n + 1, .non, _ => by simp [D.dat, D.py, PyData.canLay0, PyData.depth]
  | 0, .int _, _ => by simp [D.dat, D.py, PyData.canLay0, PyData.depth]
  | n + 1, .int _, _ => by simp [D.dat, D.py, PyData.canLay0, PyData.depth]
  | 0, .str s, h => by simpa [D.dat, D.py, PyData.canLay0, PyData.depth, nic] using h
  | n + 1, .str s, h => by simpa [D.dat, D.py, PyData.canLay0, PyData.depth, nic] using h
  | n + 1, .tup xs, h => by
    have h' := List.all_eq_true.mp (show xs.all (nic n) = true by simpa [nic] using h)
    have hh := fun x hx => nic_ok n x (h' x hx)
    refine ⟨?_, ?_, ?_⟩
    · rw [D.dat, datL_all]; exact List.all_eq_true.mpr fun x hx => (hh x hx).1
    · rw [D.py, PyData.canLay0, canLayAll_all, pyL_map, List.all_map]; exact List.all_eq_true.mpr fun x hx => (hh x hx).2.1
    · rw [D.py, PyData.depth, pyL_map]
      have := depthAll_le (k := n) (l := xs.map D.py) fun y hy => by obtain ⟨x, hx, rfl⟩ := List.mem_map.mp hy; exact (hh x hx).2.2
      omega
  | n + 1, .lst _ xs, h => by
    have h' := List.all_eq_true.mp (show xs.all (nic n) = true by simpa [nic] using h)
    have hh := fun x hx => nic_ok n x (h' x hx)
    refine ⟨?_, ?_, ?_⟩
    · rw [D.dat, datL_all]; exact List.all_eq_true.mpr fun x hx => (hh x hx).1
    · rw [D.py, PyData.canLay0, canLayAll_all, pyL_map, List.all_map]; exact List.all_eq_true.mpr fun x hx => (hh x hx).2.1
    · rw [D.py, PyData.depth, pyL_map]
      have := depthAll_le (k := n) (l := xs.map D.py) fun y hy => by obtain ⟨x, hx, rfl⟩ := List.mem_map.mp hy; exact (hh x hx).2.2
      omega
  | 0, .bl _, h => by simp [nic] at h
  | n + 1, .bl _, h => by simp [nic] at h
  | 0, .tup _, h => by simp [nic] at h
  | 0, .lst _ _, h => by simp [nic] at h
  | 0, .dic _ _ _ _, h => by simp [nic] at h
  | n + 1, .dic _ _ _ _, h => by simp [nic] at h
  | 0, .obj _ _ _ _, h => by simp [nic] at h
  | n + 1, .obj _ _ _ _, h => by simp [nic] at h
  | 0, .scr _, h => by simp [nic] at h
  | n + 1, .scr _, h => by simp [nic] at h
theorem nic_cmp {n : Nat} {d : D} (h : nic n d = true) (hn : n ≤ 60) : d.cmp = true := by
  obtain ⟨h1, h2, h3⟩ := nic_ok n d h
  unfold D.cmp SeqAt.shaped
  rw [h1, h2]
  simp
  omega
theorem eqv_strs : ∀ (xs ys : List Str), PyData.eqvAll ((xs.map D.str).map D.py) ((ys.map D.str).map D.py) = decide (xs = ys)
  | [], [] => by simp [PyData.eqvAll]
  | x :: xs, [] => by simp [PyData.eqvAll]
  | [], y :: ys => by simp [PyData.eqvAll]
  | x :: xs, y :: ys => by
    rw [List.map_cons, List.map_cons, List.map_cons, List.map_cons, PyData.eqvAll, eqv_strs xs ys]
    simp only [D.py, PyData.eqv]
    by_cases h : x = y
    · subst h; simp
    · have : (x == y) = false := by simpa using h
      simp [this, h]
theorem nic_strs {o : Bool} {xs : List Str} (h : ∀ x ∈ xs, PyData.strOk x = true) : nic 1 (.lst o (xs.map D.str)) = true := by
  simp only [nic, List.all_map, List.all_eq_true, Function.comp]
  exact fun x hx => h x hx
theorem eq_lstS {o o' : Bool} {xs ys : List Str} (h : ∀ x ∈ xs, PyData.strOk x = true) (h' : ∀ x ∈ ys, PyData.strOk x = true) : opEq (.lst o (xs.map D.str)) (.lst o' (ys.map D.str)) = some (.bl (decide (xs = ys))) := by
  unfold opEq eqB
  simp only [D.sv, nic_cmp (nic_strs (o := o) h) (by decide), nic_cmp (nic_strs (o := o') h') (by decide), and_self, if_true, D.py, pyL_map, PyData.eqv, eqv_strs]
theorem cut_from {α : Type} {xs : List α} {k : Nat} (h : k ≤ xs.length) : cutA xs (some (k : Int)) none = xs.drop k := by
  unfold cutA
  rw [HT.sIx_nat, HT.sIx_none, Nat.min_eq_left h, List.take_of_length_le (by simp)]
theorem cut_to {α : Type} {xs : List α} {k : Nat} (h : k ≤ xs.length) : cutA xs none (some (k : Int)) = xs.take k := by
  unfold cutA
  rw [HT.sIx_nat, HT.sIx_none, Nat.min_eq_left h, List.drop_zero, Nat.sub_zero]
theorem sl_from {o : Bool} {ds : List D} {k : Nat} (h : k ≤ ds.length) (hi : immL ds = true) : opSl (.lst o ds) (some (k : Int)) none = some (.lst true (ds.drop k)) := by
  simp only [opSl, cut_from h, hi, immL_drop k ds hi, if_true]
theorem sl_to {o : Bool} {ds : List D} {k : Nat} (h : k ≤ ds.length) (hi : immL ds = true) : opSl (.lst o ds) none (some (k : Int)) = some (.lst true (ds.take k)) := by
  simp only [opSl, cut_to h, hi, immL_take k ds hi, if_true]
end Dl

set_option Elab.async false
set_option linter.all false
set_option maxRecDepth 100000
set_option maxHeartbeats 4000000
namespace Lk
open PySem Dl
/-! ### recipes, parts, books -/
inductive Rec where
  | leaf (n : Int)
  | op (w : Str) (ns : List Str)
  deriving DecidableEq
def recD : Rec → D
  | .leaf n => .tup [.str "leaf", .int n]
  | .op w ns => .tup [.str w, .tup (ns.map D.str)]
structure Part where
  name : Str
  recp : Rec
  size : Int
  cost : Int
  deriving DecidableEq
def partD (p : Part) : D := .tup [.str p.name, recD p.recp, .int p.size, .int p.cost]
def bookD (ps : List Part) : D := .tup (ps.map partD)
def RecOk (ahead : List Str) : Rec → Prop
  | .leaf n => 0 ≤ n ∧ n ≤ 99
  | .op w ns => (w = "plus" ∨ w = "times" ∨ w = "most" ∨ w = "less") ∧ 1 ≤ ns.length ∧ ns.length ≤ 4 ∧ (w = "less" → ns.length = 2) ∧ ∀ x ∈ ns, x ∈ ahead
theorem ix_lst {o : Bool} {ds : List D} {i : Int} (h0 : 0 ≤ i) (h1 : i < ds.length) : ∃ d, ds[i.toNat]? = some d ∧ d ∈ ds ∧ opIx (.lst o ds) (.int i) = some d := by
  have h2 : i.toNat < ds.length := by omega
  refine ⟨ds[i.toNat], List.getElem?_eq_getElem h2, List.getElem_mem h2, ?_⟩
  simp only [opIx, atD, L2.atI, L2.ixN, h0, h1, if_true, Option.bind_some, List.getElem?_eq_getElem h2]
theorem ix_strs {o : Bool} {l : List Str} {i : Int} (h0 : 0 ≤ i) (h1 : i < l.length) : ∃ x, x ∈ l ∧ opIx (.lst o (l.map D.str)) (.int i) = some (.str x) := by
  obtain ⟨d, _, h2, h3⟩ := ix_lst (o := o) (ds := l.map D.str) h0 (by simpa using h1)
  obtain ⟨x, hx, rfl⟩ := List.mem_map.mp h2
  exact ⟨x, hx, h3⟩
theorem eq_nil : opEq (.lst true []) (.lst true []) = some (.bl true) := by decide +kernel
theorem word_ok {w : Str} (h : wordB w = true) : PyData.strOk w = true := by
  unfold wordB at h
  rw [Bool.and_eq_true] at h
  have h2 := List.all_eq_true.mp h.2
  unfold PyData.strOk
  rw [← Array.all_toList]
  refine List.all_eq_true.mpr fun c hc => ?_
  have := of_decide_eq_true (h2 c hc)
  exact decide_eq_true (by omega)
theorem eq_strs_nil {l : List Str} (h : l ≠ []) (hw : ∀ x ∈ l, PyData.strOk x = true) : opEq (.lst true (l.map D.str)) (.lst true []) = some (.bl false) := by
  have := eq_lstS (o := true) (o' := true) (xs := l) (ys := []) hw (by simp)
  rw [decide_eq_false h] at this
  exact this
end Lk

set_option Elab.async false
set_option linter.all false
set_option maxRecDepth 100000
set_option maxHeartbeats 4000000
namespace Lk
open PySem Dl
/-! drawn recipes -/
theorem recipe_step (t : Int) (ahead : List Str) (l : List D) (a b c k : Option D) (h1 : 1 ≤ ahead.length) (h2 : ahead.length ≤ 24) (hl : l.length < 100) : ∃ t' x, x ∈ ahead ∧
    w1__law_recipe [some (.lst true [.int t]), some (.lst true (ahead.map D.str)), a, b, c, some (.lst true l), k] = some (.nx, [some (.lst true [.int t']), some (.lst true (ahead.map D.str)), a, b, c, some (.lst true (l ++ [.str x])), k]) := by
  have d3 := dig 3 (by decide) (by decide)
  obtain ⟨z, hz, ez⟩ : ∃ z : Int, 2 ≤ z ∧ opIx (.lst true [.int 2, .int 4, .int 24]) (.int (t % 3)) = some (.int z) := by
    have h5 : t % 3 = 0 ∨ t % 3 = 1 ∨ t % 3 = 2 := by omega
    rcases h5 with h5 | h5 | h5 <;> rw [h5]
    · exact ⟨2, by decide, rfl⟩
    · exact ⟨4, by decide, rfl⟩
    · exact ⟨24, by decide, rfl⟩
  obtain ⟨m, hm1, hm2, em⟩ : ∃ m : Int, 1 ≤ m ∧ m ≤ ahead.length ∧ opMin [.int (ahead.length : Int), .int z] = some (.int m) := by
    refine ⟨if z < (ahead.length : Int) then z else (ahead.length : Int), ?_, ?_, rfl⟩ <;> split <;> omega
  have dm := dig m (by omega) (by omega) (t / 3)
  have b1 := Int.emod_nonneg (t / 3) (show m ≠ 0 by omega)
  have b2 := Int.emod_lt_of_pos (t / 3) (show 0 < m by omega)
  obtain ⟨x, hx, ei⟩ := ix_strs (o := true) (l := ahead) (i := (ahead.length : Int) - 1 - t / 3 % m) (by omega) (by omega)
  refine ⟨t / 3 / m, x, hx, ?_⟩
  have hl' : l.length < 10000 := by omega
  simp [w1__law_recipe, fnM, outs, sSeq, sIf, sAsg, sRet, sRetN, sNil, sExp, sNo, bP, bV, bAnd, bOr, bNot, bYes, eP, eMv, eFr, pVar, pC, pOp2, pOp1, eOp2, eOpP, eOpPP, eOpN, eOpV, eIx, eIxP, pBi, pAll, eBi, eBiP, takeA, valsA, aE, aS, aNil, eTup, eLst, eCall, callA, putA, gN, gT, gTu, gSt, lVar, lIx, getP, putP, getS, putS, eMt, eMt0, mAppend, opPut, opLen, opLt, opLe, opGt, opGe, opSub, modI, eqI, eqS, neI, neS, opIsN, opNotN, D.stable, stableL, D.imm, immL, D.frz, frzL, pSl, pPart, ePO, opSl, List.set_cons_zero, List.set_cons_succ, List.getD_cons_zero, List.getD_cons_succ, d3, ez, em, dm, ei, hl']
theorem recipe_loop (ahead : List Str) (a b c : Option D) (h1 : 1 ≤ ahead.length) (h2 : ahead.length ≤ 24) (n : Nat) (hn : n ≤ 4) (t : Int) : ∃ (t' : Int) (ns : List Str) (k : Option D), ns.length = n ∧ (∀ x ∈ ns, x ∈ ahead) ∧
    forL (gN 6) w1__law_recipe (rangeD 0 n) [some (.lst true [.int t]), some (.lst true (ahead.map D.str)), a, b, c, some (.lst true []), none] = some (.nx, [some (.lst true [.int t']), some (.lst true (ahead.map D.str)), a, b, c, some (.lst true (ns.map D.str)), k]) := by
  obtain ⟨ρ', e1, t', ns, k, e2, e3, e4⟩ := forL_inv (g := gN 6) (body := w1__law_recipe) (fun i ρ => ∃ (t : Int) (ns : List Str) (k : Option D), ns.length = i ∧ (∀ x ∈ ns, x ∈ ahead) ∧ ρ = [some (.lst true [.int t]), some (.lst true (ahead.map D.str)), a, b, c, some (.lst true (ns.map D.str)), k])
    (ds := rangeD 0 n) (k := 0) (ρ := [some (.lst true [.int t]), some (.lst true (ahead.map D.str)), a, b, c, some (.lst true []), none]) ⟨t, [], none, rfl, by simp, rfl⟩ (fun i hi ρ q => by
      obtain ⟨t, ns, k, q1, q2, rfl⟩ := q
      rw [range_len] at hi
      rw [range_at]
      obtain ⟨t', x, hx, e⟩ := recipe_step t ahead (ns.map D.str) a b c (some (.int (0 + (i : Int)))) h1 h2 (by rw [List.length_map]; omega)
      refine ⟨_, _, rfl, .inl e, t', ns ++ [x], _, by simp [q1], ?_, by rw [List.map_append]; rfl⟩
      intro y hy
      rcases List.mem_append.mp hy with hy | hy
      · exact q2 y hy
      · rw [List.mem_singleton.mp hy]; exact hx)
  exact ⟨t', ns, k, by rw [e2, range_len]; omega, e3, by rw [e1, e4]⟩
theorem recipe_ok (t : Int) (ahead : List Str) (h2 : ahead.length ≤ 24) (hw : ∀ x ∈ ahead, PyData.strOk x = true) : ∃ r t', RecOk ahead r ∧ m__law_recipe [.lst true [.int t], .lst true (ahead.map D.str)] = some (recD r, [.lst true [.int t'], .lst true (ahead.map D.str)]) := by
  have d8 := dig 8 (by decide) (by decide)
  have d100 := dig 100 (by decide) (by decide)
  have d7 := dig 7 (by decide) (by decide)
  have d6 := dig 6 (by decide) (by decide)
  have leafc : ∀ t : Int, ∃ n t', (0 ≤ n ∧ n ≤ 99) ∧ opIx (.lst true [.int 0, .int 1, .int 2, .int 7, .int 99, .int 50, .int (t % 100)]) (.int (t / 100 % 7)) = some (.int n) ∧ t' = t / 100 / 7 := fun t => by
    have h5 : t / 100 % 7 = 0 ∨ t / 100 % 7 = 1 ∨ t / 100 % 7 = 2 ∨ t / 100 % 7 = 3 ∨ t / 100 % 7 = 4 ∨ t / 100 % 7 = 5 ∨ t / 100 % 7 = 6 := by omega
    rcases h5 with h5 | h5 | h5 | h5 | h5 | h5 | h5 <;> rw [h5]
    · exact ⟨0, _, by decide, rfl, rfl⟩
    · exact ⟨1, _, by decide, rfl, rfl⟩
    · exact ⟨2, _, by decide, rfl, rfl⟩
    · exact ⟨7, _, by decide, rfl, rfl⟩
    · exact ⟨99, _, by decide, rfl, rfl⟩
    · exact ⟨50, _, by decide, rfl, rfl⟩
    · exact ⟨t % 100, _, by omega, rfl, rfl⟩
  obtain ⟨n, _, hn, en, _⟩ := leafc (t / 8)
  by_cases h0 : ahead = []
  · subst h0
    refine ⟨.leaf n, t / 8 / 100 / 7, hn, ?_⟩
    simp [m__law_recipe, b__law_recipe, fnM, outs, sSeq, sIf, sAsg, sRet, sRetN, sNil, sExp, sNo, bP, bV, bAnd, bOr, bNot, bYes, eP, eMv, eFr, pVar, pC, pOp2, pOp1, eOp2, eOpP, eOpPP, eOpN, eOpV, eIx, eIxP, pBi, pAll, eBi, eBiP, takeA, valsA, aE, aS, aNil, eTup, eLst, eCall, callA, putA, gN, gT, gTu, gSt, lVar, lIx, getP, putP, getS, putS, eMt, eMt0, mAppend, opPut, opLen, opLt, opLe, opGt, opGe, opSub, modI, eqI, eqS, neI, neS, opIsN, opNotN, D.stable, stableL, D.imm, immL, D.frz, frzL, pSl, pPart, ePO, opSl, List.set_cons_zero, List.set_cons_succ, List.getD_cons_zero, List.getD_cons_succ, d8, d100, d7, en, recD, eq_nil]
  · have hne : opEq (.lst true (ahead.map D.str)) (.lst true []) = some (.bl false) := eq_strs_nil h0 hw
    by_cases h82 : t % 8 < 2
    · refine ⟨.leaf n, t / 8 / 100 / 7, hn, ?_⟩
      simp [m__law_recipe, b__law_recipe, fnM, outs, sSeq, sIf, sAsg, sRet, sRetN, sNil, sExp, sNo, bP, bV, bAnd, bOr, bNot, bYes, eP, eMv, eFr, pVar, pC, pOp2, pOp1, eOp2, eOpP, eOpPP, eOpN, eOpV, eIx, eIxP, pBi, pAll, eBi, eBiP, takeA, valsA, aE, aS, aNil, eTup, eLst, eCall, callA, putA, gN, gT, gTu, gSt, lVar, lIx, getP, putP, getS, putS, eMt, eMt0, mAppend, opPut, opLen, opLt, opLe, opGt, opGe, opSub, modI, eqI, eqS, neI, neS, opIsN, opNotN, D.stable, stableL, D.imm, immL, D.frz, frzL, pSl, pPart, ePO, opSl, List.set_cons_zero, List.set_cons_succ, List.getD_cons_zero, List.getD_cons_succ, d8, d100, d7, en, recD, hne, h82]
    · have hlen : 1 ≤ ahead.length := by cases ahead with
        | nil => exact absurd rfl h0
        | cons _ _ => simp
      obtain ⟨w, hwd, ew⟩ : ∃ w : Str, (w = "plus" ∨ w = "times" ∨ w = "most" ∨ w = "less") ∧ opIx (.lst true [.str "plus", .str "times", .str "most", .str "less", .str "plus", .str "plus"]) (.int (t % 8 - 2)) = some (.str w) := by
        have h5 : t % 8 - 2 = 0 ∨ t % 8 - 2 = 1 ∨ t % 8 - 2 = 2 ∨ t % 8 - 2 = 3 ∨ t % 8 - 2 = 4 ∨ t % 8 - 2 = 5 := by omega
        rcases h5 with h5 | h5 | h5 | h5 | h5 | h5 <;> rw [h5]
        · exact ⟨_, .inl rfl, rfl⟩
        · exact ⟨_, .inr (.inl rfl), rfl⟩
        · exact ⟨_, .inr (.inr (.inl rfl)), rfl⟩
        · exact ⟨_, .inr (.inr (.inr rfl)), rfl⟩
        · exact ⟨_, .inl rfl, rfl⟩
        · exact ⟨_, .inl rfl, rfl⟩
      obtain ⟨m, hm, em⟩ : ∃ m : Nat, (1 ≤ m ∧ m ≤ 4) ∧ opIx (.lst true [.int 1, .int 2, .int 2, .int 3, .int 4, .int 2]) (.int (t / 8 % 6)) = some (.int m) := by
        have h5 : t / 8 % 6 = 0 ∨ t / 8 % 6 = 1 ∨ t / 8 % 6 = 2 ∨ t / 8 % 6 = 3 ∨ t / 8 % 6 = 4 ∨ t / 8 % 6 = 5 := by omega
        rcases h5 with h5 | h5 | h5 | h5 | h5 | h5 <;> rw [h5]
        · exact ⟨1, by decide, rfl⟩
        · exact ⟨2, by decide, rfl⟩
        · exact ⟨2, by decide, rfl⟩
        · exact ⟨3, by decide, rfl⟩
        · exact ⟨4, by decide, rfl⟩
        · exact ⟨2, by decide, rfl⟩
      obtain ⟨n, hn, hn2, hless⟩ : ∃ n : Nat, (1 ≤ n ∧ n ≤ 4) ∧ (w = "less" → n = 2) ∧ n = if w = "less" then 2 else m := by
        by_cases hl : w = "less"
        · exact ⟨2, by decide, fun _ => rfl, by rw [if_pos hl]⟩
        · exact ⟨m, hm, fun q => absurd q hl, by rw [if_neg hl]⟩
      obtain ⟨t', ns, k, q1, q2, q3⟩ := recipe_loop ahead (some (.int (t % 8))) (some (.str w)) (some (.int n)) hlen h2 n hn.2 (t / 8 / 6)
      have fr := forR1_of (it := eP (pVar 4)) (g := gN 6) (body := w1__law_recipe) (j := (n : Int)) (ρ1 := [some (.lst true [.int (t / 8 / 6)]), some (.lst true (ahead.map D.str)), some (.int (t % 8)), some (.str w), some (.int n), some (.lst true []), none]) (eP_of rfl rfl) (by omega) (by omega) q3
      refine ⟨.op w ns, t', ⟨hwd, by omega, by omega, fun q => by rw [q1, hn2 q], q2⟩, ?_⟩
      have ht : opTuple [.lst true (ns.map D.str)] = some (.tup (ns.map D.str)) := by
        show (if immL (ns.map D.str) = true then _ else _) = _
        rw [if_pos (imm_strs ns)]
      have hst : stableL (ns.map D.str) = true := stableL_of_imm _ (imm_strs ns)
      by_cases hl : w = "less"
      · rw [if_pos hl] at hless
        subst hless
        subst hl
        rw [show ((2 : Nat) : Int) = 2 from rfl] at fr
        simp [m__law_recipe, b__law_recipe, fnM, outs, sSeq, sIf, sAsg, sRet, sRetN, sNil, sExp, sNo, bP, bV, bAnd, bOr, bNot, bYes, eP, eMv, eFr, pVar, pC, pOp2, pOp1, eOp2, eOpP, eOpPP, eOpN, eOpV, eIx, eIxP, pBi, pAll, eBi, eBiP, takeA, valsA, aE, aS, aNil, eTup, eLst, eCall, callA, putA, gN, gT, gTu, gSt, lVar, lIx, getP, putP, getS, putS, eMt, eMt0, mAppend, opPut, opLen, opLt, opLe, opGt, opGe, opSub, modI, eqI, eqS, neI, neS, opIsN, opNotN, D.stable, stableL, D.imm, immL, D.frz, frzL, pSl, pPart, ePO, opSl, List.set_cons_zero, List.set_cons_succ, List.getD_cons_zero, List.getD_cons_succ, d8, d6, hne, h82, ew, em, fr, ht, hst, recD]
      · rw [if_neg hl] at hless
        subst hless
        simp [m__law_recipe, b__law_recipe, fnM, outs, sSeq, sIf, sAsg, sRet, sRetN, sNil, sExp, sNo, bP, bV, bAnd, bOr, bNot, bYes, eP, eMv, eFr, pVar, pC, pOp2, pOp1, eOp2, eOpP, eOpPP, eOpN, eOpV, eIx, eIxP, pBi, pAll, eBi, eBiP, takeA, valsA, aE, aS, aNil, eTup, eLst, eCall, callA, putA, gN, gT, gTu, gSt, lVar, lIx, getP, putP, getS, putS, eMt, eMt0, mAppend, opPut, opLen, opLt, opLe, opGt, opGe, opSub, modI, eqI, eqS, neI, neS, opIsN, opNotN, D.stable, stableL, D.imm, immL, D.frz, frzL, pSl, pPart, ePO, opSl, List.set_cons_zero, List.set_cons_succ, List.getD_cons_zero, List.getD_cons_succ, d8, d6, hne, h82, ew, em, hl, fr, ht, hst, recD]
end Lk

set_option Elab.async false
set_option linter.all false
set_option maxRecDepth 100000
set_option maxHeartbeats 4000000
namespace Lk
open PySem Dl
theorem number_ok (t : Int) : ∃ n t' : Int, (1 ≤ n ∧ n ≤ 9) ∧ m__law_number [.lst true [.int t]] = some (.int n, [.lst true [.int t']]) := by
  have d9 := dig 9 (by decide) (by decide)
  have d5 := dig 5 (by decide) (by decide)
  obtain ⟨n, hn, en⟩ : ∃ n : Int, (1 ≤ n ∧ n ≤ 9) ∧ opIx (.lst true [.int 1, .int 1, .int 2, .int 3, .int (1 + t % 9)]) (.int (t / 9 % 5)) = some (.int n) := by
    have h5 : t / 9 % 5 = 0 ∨ t / 9 % 5 = 1 ∨ t / 9 % 5 = 2 ∨ t / 9 % 5 = 3 ∨ t / 9 % 5 = 4 := by omega
    rcases h5 with h5 | h5 | h5 | h5 | h5 <;> rw [h5]
    · exact ⟨1, by decide, rfl⟩
    · exact ⟨1, by decide, rfl⟩
    · exact ⟨2, by decide, rfl⟩
    · exact ⟨3, by decide, rfl⟩
    · exact ⟨1 + t % 9, by omega, rfl⟩
  refine ⟨n, t / 9 / 5, hn, ?_⟩
  simp [m__law_number, b__law_number, fnM, outs, sSeq, sIf, sAsg, sRet, sRetN, sNil, sExp, sNo, bP, bV, bAnd, bOr, bNot, bYes, eP, eMv, eFr, pVar, pC, pOp2, pOp1, eOp2, eOpP, eOpPP, eOpN, eOpV, eIx, eIxP, pBi, pAll, eBi, eBiP, takeA, valsA, aE, aS, aNil, eTup, eLst, eCall, callA, putA, gN, gT, gTu, gSt, lVar, lIx, getP, putP, getS, putS, eMt, eMt0, mAppend, opPut, opLen, opLt, opLe, opGt, opGe, opSub, modI, eqI, eqS, neI, neS, opIsN, opNotN, D.stable, stableL, D.imm, immL, D.frz, frzL, pSl, pPart, ePO, opSl, List.set_cons_zero, List.set_cons_succ, List.getD_cons_zero, List.getD_cons_succ, d9, d5, addI, en]
end Lk

set_option Elab.async false
set_option linter.all false
set_option maxRecDepth 100000
set_option maxHeartbeats 4000000
namespace Lk
open PySem Dl
theorem again_ok (t : Int) (ahead : List Str) (r : Rec) (hr : RecOk ahead r) (hw : ∀ x ∈ ahead, PyData.strOk x = true) : ∃ r' t', RecOk ahead r' ∧ m__law_again [.lst true [.int t], recD r] = some (recD r', [.lst true [.int t'], recD r]) := by
  have d3 := dig 3 (by decide) (by decide)
  have d4 := dig 4 (by decide) (by decide)
  cases r with
  | leaf n =>
    refine ⟨.leaf n, t, hr, ?_⟩
    have e1 : opIx (.tup [.str "leaf", .int n]) (.int 0) = some (.str "leaf") := rfl
    simp [m__law_again, b__law_again, fnM, outs, sSeq, sIf, sAsg, sRet, sRetN, sNil, sExp, sNo, bP, bV, bAnd, bOr, bNot, bYes, eP, eMv, eFr, pVar, pC, pOp2, pOp1, eOp2, eOpP, eOpPP, eOpN, eOpV, eIx, eIxP, pBi, pAll, eBi, eBiP, takeA, valsA, aE, aS, aNil, eTup, eLst, eCall, callA, putA, gN, gT, gTu, gSt, lVar, lIx, getP, putP, getS, putS, eMt, eMt0, mAppend, opPut, opLen, opLt, opLe, opGt, opGe, opSub, modI, eqI, eqS, neI, neS, opIsN, opNotN, D.stable, stableL, D.imm, immL, D.frz, frzL, pSl, pPart, ePO, opSl, List.set_cons_zero, List.set_cons_succ, List.getD_cons_zero, List.getD_cons_succ, recD, e1]
  | op w ns =>
    obtain ⟨h1, h2, h3, h4, h5⟩ := hr
    have hne : ¬ w = "leaf" := by rcases h1 with rfl | rfl | rfl | rfl <;> decide
    have e1 : opIx (.tup [.str w, .tup (ns.map D.str)]) (.int 0) = some (.str w) := rfl
    have e2 : opIx (.tup [.str w, .tup (ns.map D.str)]) (.int 1) = some (.tup (ns.map D.str)) := rfl
    have him := imm_strs ns
    have hst : stableL (ns.map D.str) = true := stableL_of_imm _ him
    by_cases hl : w = "less"
    · subst hl
      have h6 : t % 3 = 0 ∨ t % 3 = 1 ∨ t % 3 = 2 := by omega
      have es1 : opStp (.tup (ns.map D.str)) (.int 1) = some (.tup (ns.map D.str)) := by
        show (if immL (ns.map D.str) = true then _ else _) = _
        rw [if_pos him]
        rfl
      have es2 : opStp (.tup (ns.map D.str)) (.int (-1)) = some (.tup (ns.reverse.map D.str)) := by
        show (if immL (ns.map D.str) = true then _ else _) = _
        rw [if_pos him, List.map_reverse]
        rfl
      rcases h6 with h6 | h6 | h6
      · refine ⟨.op "less" ns, t / 3, ⟨h1, h2, h3, h4, h5⟩, ?_⟩
        have e3 : opIx (.lst true [.int 1, .int 1, .int (-1)]) (.int 0) = some (.int 1) := rfl
        simp [m__law_again, b__law_again, fnM, outs, sSeq, sIf, sAsg, sRet, sRetN, sNil, sExp, sNo, bP, bV, bAnd, bOr, bNot, bYes, eP, eMv, eFr, pVar, pC, pOp2, pOp1, eOp2, eOpP, eOpPP, eOpN, eOpV, eIx, eIxP, pBi, pAll, eBi, eBiP, takeA, valsA, aE, aS, aNil, eTup, eLst, eCall, callA, putA, gN, gT, gTu, gSt, lVar, lIx, getP, putP, getS, putS, eMt, eMt0, mAppend, opPut, opLen, opLt, opLe, opGt, opGe, opSub, modI, eqI, eqS, neI, neS, opIsN, opNotN, D.stable, stableL, D.imm, immL, D.frz, frzL, pSl, pPart, ePO, opSl, List.set_cons_zero, List.set_cons_succ, List.getD_cons_zero, List.getD_cons_succ, opNeg, recD, e1, e2, hne, d3, h6, e3, es1, hst]
      · refine ⟨.op "less" ns, t / 3, ⟨h1, h2, h3, h4, h5⟩, ?_⟩
        have e3 : opIx (.lst true [.int 1, .int 1, .int (-1)]) (.int 1) = some (.int 1) := rfl
        simp [m__law_again, b__law_again, fnM, outs, sSeq, sIf, sAsg, sRet, sRetN, sNil, sExp, sNo, bP, bV, bAnd, bOr, bNot, bYes, eP, eMv, eFr, pVar, pC, pOp2, pOp1, eOp2, eOpP, eOpPP, eOpN, eOpV, eIx, eIxP, pBi, pAll, eBi, eBiP, takeA, valsA, aE, aS, aNil, eTup, eLst, eCall, callA, putA, gN, gT, gTu, gSt, lVar, lIx, getP, putP, getS, putS, eMt, eMt0, mAppend, opPut, opLen, opLt, opLe, opGt, opGe, opSub, modI, eqI, eqS, neI, neS, opIsN, opNotN, D.stable, stableL, D.imm, immL, D.frz, frzL, pSl, pPart, ePO, opSl, List.set_cons_zero, List.set_cons_succ, List.getD_cons_zero, List.getD_cons_succ, opNeg, recD, e1, e2, hne, d3, h6, e3, es1, hst]
      · refine ⟨.op "less" ns.reverse, t / 3, ⟨h1, by simpa using h2, by simpa using h3, fun q => by simpa using h4 q, fun x hx => h5 x (by simpa using hx)⟩, ?_⟩
        have e3 : opIx (.lst true [.int 1, .int 1, .int (-1)]) (.int 2) = some (.int (-1)) := rfl
        simp [m__law_again, b__law_again, fnM, outs, sSeq, sIf, sAsg, sRet, sRetN, sNil, sExp, sNo, bP, bV, bAnd, bOr, bNot, bYes, eP, eMv, eFr, pVar, pC, pOp2, pOp1, eOp2, eOpP, eOpPP, eOpN, eOpV, eIx, eIxP, pBi, pAll, eBi, eBiP, takeA, valsA, aE, aS, aNil, eTup, eLst, eCall, callA, putA, gN, gT, gTu, gSt, lVar, lIx, getP, putP, getS, putS, eMt, eMt0, mAppend, opPut, opLen, opLt, opLe, opGt, opGe, opSub, modI, eqI, eqS, neI, neS, opIsN, opNotN, D.stable, stableL, D.imm, immL, D.frz, frzL, pSl, pPart, ePO, opSl, List.set_cons_zero, List.set_cons_succ, List.getD_cons_zero, List.getD_cons_succ, opNeg, recD, e1, e2, hne, d3, h6, e3, es2, hst]
    · have el : opList [.tup (ns.map D.str)] = some (.lst true (ns.map D.str)) := by
        show (if immL (ns.map D.str) = true then _ else _) = _
        rw [if_pos him]
      have hlen : (ns.map D.str).length = ns.length := List.length_map _
      have dm := dig (ns.length : Int) (by omega) (by omega)
      obtain ⟨k, hk, hk2⟩ : ∃ k : Nat, t % (ns.length : Int) = (k : Int) ∧ k < ns.length := by
        have b1 := Int.emod_nonneg t (show (ns.length : Int) ≠ 0 by omega)
        have b2 := Int.emod_lt_of_pos t (show 0 < (ns.length : Int) by omega)
        exact ⟨(t % (ns.length : Int)).toNat, by omega, by omega⟩
      have fin : ∀ ms : List Str, ms.length = ns.length → (∀ x ∈ ms, x ∈ ahead) → RecOk ahead (.op w (ms.drop k ++ ms.take k)) ∧ opSl (.lst true (ms.map D.str)) (some (k : Int)) none = some (.lst true ((ms.drop k).map D.str)) ∧
          opSl (.lst true (ms.map D.str)) none (some (k : Int)) = some (.lst true ((ms.take k).map D.str)) ∧ opAdd (.lst true ((ms.drop k).map D.str)) (.lst true ((ms.take k).map D.str)) = some (.lst true ((ms.drop k ++ ms.take k).map D.str)) ∧
          opTuple [.lst true ((ms.drop k ++ ms.take k).map D.str)] = some (.tup ((ms.drop k ++ ms.take k).map D.str)) := fun ms hms hma => by
        have hm := imm_strs ms
        have hkl : k ≤ (ms.map D.str).length := by rw [List.length_map]; omega
        have hlen2 : (ms.drop k ++ ms.take k).length = ns.length := by simp; omega
        refine ⟨⟨h1, by omega, by omega, fun q => absurd q hl, fun x hx => ?_⟩, ?_, ?_, ?_, ?_⟩
        · rcases List.mem_append.mp hx with hx | hx
          · exact hma x (List.mem_of_mem_drop hx)
          · exact hma x (List.mem_of_mem_take hx)
        · rw [sl_from hkl hm, List.map_drop]
        · rw [sl_to hkl hm, List.map_take]
        · show (if _ ∧ _ ∧ _ then _ else _) = _
          rw [if_pos ⟨by rw [List.length_map, List.length_map, sizeLine_eq]; simp; omega, imm_strs _, imm_strs _⟩, List.map_append]
        · show (if immL _ = true then _ else _) = _
          rw [if_pos (imm_strs _)]
      by_cases hz : t / (ns.length : Int) % 4 = 0
      · have b1 := Int.emod_nonneg (t / (ns.length : Int) / 4) (show (ns.length : Int) ≠ 0 by omega)
        have b2 := Int.emod_lt_of_pos (t / (ns.length : Int) / 4) (show 0 < (ns.length : Int) by omega)
        obtain ⟨x, hx, ei⟩ := ix_strs (o := true) (l := ns) (i := t / (ns.length : Int) / 4 % (ns.length : Int)) b1 b2
        obtain ⟨f1, f2, f3, f4, f5⟩ := fin (ns.set k x) (by simp) fun y hy => by
          rcases List.mem_or_eq_of_mem_set hy with hy | hy
          · exact h5 y hy
          · rw [hy]; exact h5 x hx
        have ep : opPut (.lst true (ns.map D.str)) (.int (k : Int)) (.str x) = some (.lst true ((ns.set k x).map D.str)) := by
          have e0 : L2.ixN (ns.map D.str).length (k : Int) = some k := by
            unfold L2.ixN
            rw [if_pos (by omega), if_pos (by rw [hlen]; omega), Int.toNat_natCast]
          simp only [opPut, e0, List.map_set]
        refine ⟨_, t / (ns.length : Int) / 4 / (ns.length : Int), f1, ?_⟩
        have hst2 : stableL (((ns.set k x).drop k ++ (ns.set k x).take k).map D.str) = true := stableL_of_imm _ (imm_strs _)
        generalize hms : ns.set k x = ms at *
        simp only [List.map_append, List.map_drop, List.map_take] at f2 f3 f4 f5 hst2
        simp [m__law_again, b__law_again, fnM, outs, sSeq, sIf, sAsg, sRet, sRetN, sNil, sExp, sNo, bP, bV, bAnd, bOr, bNot, bYes, eP, eMv, eFr, pVar, pC, pOp2, pOp1, eOp2, eOpP, eOpPP, eOpN, eOpV, eIx, eIxP, pBi, pAll, eBi, eBiP, takeA, valsA, aE, aS, aNil, eTup, eLst, eCall, callA, putA, gN, gT, gTu, gSt, lVar, lIx, getP, putP, getS, putS, eMt, eMt0, mAppend, opLen, opLt, opLe, opGt, opGe, opSub, modI, eqI, eqS, neI, neS, opIsN, opNotN, D.stable, stableL, D.imm, immL, D.frz, frzL, pSl, pPart, ePO, List.set_cons_zero, List.set_cons_succ, List.getD_cons_zero, List.getD_cons_succ, recD, e1, e2, hne, hl, el, dm, d4, hk, hz, ei, ep, f2, f3, f4, f5, hst2]
      · obtain ⟨f1, f2, f3, f4, f5⟩ := fin ns rfl h5
        refine ⟨_, t / (ns.length : Int) / 4, f1, ?_⟩
        have hst2 : stableL ((ns.drop k ++ ns.take k).map D.str) = true := stableL_of_imm _ (imm_strs _)
        simp only [List.map_append, List.map_drop, List.map_take] at f2 f3 f4 f5 hst2
        simp [m__law_again, b__law_again, fnM, outs, sSeq, sIf, sAsg, sRet, sRetN, sNil, sExp, sNo, bP, bV, bAnd, bOr, bNot, bYes, eP, eMv, eFr, pVar, pC, pOp2, pOp1, eOp2, eOpP, eOpPP, eOpN, eOpV, eIx, eIxP, pBi, pAll, eBi, eBiP, takeA, valsA, aE, aS, aNil, eTup, eLst, eCall, callA, putA, gN, gT, gTu, gSt, lVar, lIx, getP, putP, getS, putS, eMt, eMt0, mAppend, opLen, opLt, opLe, opGt, opGe, opSub, modI, eqI, eqS, neI, neS, opIsN, opNotN, D.stable, stableL, D.imm, immL, D.frz, frzL, pSl, pPart, ePO, List.set_cons_zero, List.set_cons_succ, List.getD_cons_zero, List.getD_cons_succ, recD, e1, e2, hne, hl, el, dm, d4, hk, hz, f2, f3, f4, f5, hst2]
end Lk

set_option Elab.async false
set_option linter.all false
namespace Lk
open PySem Dl
/-! TO: no names of a book's parts; TO30 for law k30, which puts such a part into a book -/
abbrev oddB : List Str := oddW
end Lk

set_option Elab.async false
set_option linter.all false
set_option maxRecDepth 100000
set_option maxHeartbeats 4000000
namespace Lk
open PySem Dl
theorem recD_imm (r : Rec) : (recD r).imm = true := by
  cases r with
  | leaf n => simp [recD, D.imm, immL]
  | op w ns => simp [recD, D.imm, immL, imm_strs]
theorem recD_stable (r : Rec) : (recD r).stable = true := D.stable_of_imm _ (recD_imm r)
theorem partD_imm (p : Part) : (partD p).imm = true := by simp [partD, D.imm, immL, recD_imm]
theorem partD_stable (p : Part) : (partD p).stable = true := D.stable_of_imm _ (partD_imm p)
theorem parts_imm : ∀ (ps : List Part), immL (ps.map partD) = true
  | [] => by simp [immL]
  | p :: ps => by rw [List.map_cons, immL, parts_imm ps, partD_imm]; rfl
theorem RecOk.mono {a b : List Str} {r : Rec} (h : RecOk a r) (hs : ∀ x ∈ a, x ∈ b) : RecOk b r := by
  cases r with
  | leaf n => exact h
  | op w ns => exact ⟨h.1, h.2.1, h.2.2.1, h.2.2.2.1, fun x hx => hs x (h.2.2.2.2 x hx)⟩
/-- parts whose names are the first of these words -/
structure PartsOk (ws : List Str) (ps : List Part) : Prop where
  nm : ps.map Part.name = ws.take ps.length
  le : ps.length ≤ ws.length
  ok : ∀ (i : Nat) (p : Part), ps[i]? = some p → RecOk (ws.take i) p.recp ∧ (1 ≤ p.size ∧ p.size ≤ 9) ∧ (1 ≤ p.cost ∧ p.cost ≤ 9)
theorem PartsOk.snoc {ws : List Str} {ps : List Part} {w : Str} {r : Rec} {a b : Int} (h : PartsOk ws ps) (hw : ws[ps.length]? = some w) (hr : RecOk (ws.take ps.length) r) (ha : 1 ≤ a ∧ a ≤ 9) (hb : 1 ≤ b ∧ b ≤ 9) : PartsOk ws (ps ++ [⟨w, r, a, b⟩]) := by
  obtain ⟨hl, hw'⟩ := List.getElem?_eq_some_iff.mp hw
  refine ⟨?_, ?_, fun i p hp => ?_⟩
  · rw [List.map_append, h.nm, List.length_append, List.length_singleton, List.take_succ, hw]
    rfl
  · rw [List.length_append, List.length_singleton]; omega
  · by_cases hi : i < ps.length
    · rw [List.getElem?_append_left hi] at hp
      exact h.ok i p hp
    · have : i = ps.length := by
        have := (List.getElem?_eq_some_iff.mp hp).1
        rw [List.length_append, List.length_singleton] at this
        omega
      subst this
      rw [List.getElem?_append_right (Nat.le_refl _), Nat.sub_self] at hp
      cases hp
      exact ⟨hr, ha, hb⟩
structure BookOk (ps : List Part) : Prop where
  len : 1 ≤ ps.length ∧ ps.length ≤ 24
  nd : (ps.map Part.name).Nodup
  word : ∀ p ∈ ps, wordB p.name = true
  odd : ∀ p ∈ ps, p.name ∉ oddB
  ok : ∀ (i : Nat) (p : Part), ps[i]? = some p → RecOk ((ps.map Part.name).take i) p.recp ∧ (1 ≤ p.size ∧ p.size ≤ 9) ∧ (1 ≤ p.cost ∧ p.cost ≤ 9)
end Lk

set_option Elab.async false
set_option linter.all false
set_option maxRecDepth 100000
set_option maxHeartbeats 1000000
/-! DS3: dicts with text keys, blocks over typed lists. -/
namespace Dl
open PySem

def kS (l : List (Str × D)) : List D := l.map fun p => D.str p.1
def vS (l : List (Str × D)) : List D := l.map (·.2)
def dicS (l : List (Str × D)) : D := .dic true .k (kS l) (vS l)
def setS (l : List (Str × D)) (x : Str) (v : D) : List (Str × D) := if x ∈ l.map (·.1) then l.map (fun p => if p.1 = x then (p.1, v) else p) else l ++ [(x, v)]
theorem str_inj {a b : Str} : D.str a = D.str b ↔ a = b := ⟨fun e => by cases e; rfl, fun e => by rw [e]⟩
theorem mem_kS {l : List (Str × D)} {x : Str} : D.str x ∈ kS l ↔ x ∈ l.map (·.1) := by
  unfold kS
  simp only [List.mem_map, str_inj]
theorem look_kS : ∀ (l : List (Str × D)) (x : Str), lookD (kS l) (vS l) (.str x) = l.lookup x
  | [], x => rfl
  | (k, v) :: l, x => by
    show (if D.str k = D.str x then some v else lookD (kS l) (vS l) (.str x)) = _
    rw [look_kS l x, List.lookup_cons]
    by_cases h : k = x
    · subst h; simp
    · have h' : (x == k) = false := by simpa using fun e => h e.symm
      rw [if_neg (fun e => h (str_inj.mp e)), h']
theorem lookup_isSome : ∀ (l : List (Str × D)) (x : Str), (l.lookup x).isSome = decide (x ∈ l.map (·.1))
  | [], x => rfl
  | (k, v) :: l, x => by
    rw [List.lookup_cons]
    by_cases h : x = k
    · subst h; simp
    · have h' : (x == k) = false := by simpa using h
      rw [h']
      show (l.lookup x).isSome = _
      rw [lookup_isSome l x]
      simp [h]
theorem in_kS {o : Bool} (l : List (Str × D)) (x : Str) : opIn (.str x) (.dic o .k (kS l) (vS l)) = some (.bl (decide (x ∈ l.map (·.1)))) := by
  show some (D.bl (lookD (kS l) (vS l) (.str x)).isSome) = _
  rw [look_kS, lookup_isSome]
theorem in_dS (l : List (Str × D)) (x : Str) : opIn (.str x) (dicS l) = some (.bl (decide (x ∈ l.map (·.1)))) := in_kS l x
theorem zip_set (v : D) (x : Str) : ∀ (l : List (Str × D)), List.zipWith (fun q u => if q = D.str x then v else u) (kS l) (vS l) = vS (l.map fun p => if p.1 = x then (p.1, v) else p)
  | [] => rfl
  | (k, u) :: l => by
    show (if D.str k = D.str x then v else u) :: List.zipWith _ (kS l) (vS l) = _
    rw [zip_set v x l]
    by_cases h : k = x
    · subst h; simp [vS]
    · rw [if_neg (fun e => h (str_inj.mp e))]
      simp [vS, h]
theorem kS_set (v : D) (x : Str) (l : List (Str × D)) : kS (l.map fun p => if p.1 = x then (p.1, v) else p) = kS l := by
  unfold kS
  rw [List.map_map]
  apply List.map_congr_left
  intro p _
  simp only [Function.comp]
  split <;> rfl
theorem put_dS (l : List (Str × D)) (x : Str) (v : D) (hv : v.stable = true) (hl : l.length < 10000) : opPut (dicS l) (.str x) v = some (dicS (setS l x v)) := by
  unfold dicS setS
  show (if keyOk .k (.str x) = true ∧ (kS l).length < 10000 ∧ (kS l).length = (vS l).length then _ else none) = _
  rw [if_pos ⟨rfl, by unfold kS; rw [List.length_map]; exact hl, by simp [kS, vS]⟩]
  by_cases h : x ∈ l.map (·.1)
  · rw [if_pos (mem_kS.mpr h), if_pos hv, if_pos h, zip_set, kS_set]
  · rw [if_neg (fun q => h (mem_kS.mp q)), if_neg h]
    simp [kS, vS]
theorem setS_new {l : List (Str × D)} {x : Str} {v : D} (h : x ∉ l.map (·.1)) : setS l x v = l ++ [(x, v)] := by unfold setS; rw [if_neg h]
/-! blocks over typed lists -/
theorem compL_T {α : Type} {c : α → D} {p : α → Bool} {f : α → D} {g : GM} {t : BM} {e : EM} {vs : List Nat} {ρ : DEnv} : ∀ {xs : List α}, (∀ x ∈ xs, ∃ ρ1, g (c x) ρ = some ρ1 ∧ ∃ ρ2, t ρ1 = some (p x, ρ2) ∧ if p x = true then ∃ ρ3, e ρ2 = some (f x, ρ3) ∧ wipeD ρ3 vs = ρ else wipeD ρ2 vs = ρ) →
    compL g t e vs (xs.map c) ρ = some ((xs.filter p).map f, ρ)
  | [], _ => rfl
  | x :: xs, h => by
    obtain ⟨ρ1, h1, ρ2, h2, h3⟩ := h x (by simp)
    have ih := compL_T (c := c) (p := p) (f := f) (g := g) (t := t) (e := e) (vs := vs) (ρ := ρ) (xs := xs) fun y hy => h y (by simp [hy])
    rw [List.map_cons]
    cases hp : p x with
    | true =>
      rw [hp] at h2 h3
      rw [if_pos rfl] at h3
      obtain ⟨ρ3, h4, h5⟩ := h3
      simp only [compL, h1, h2, h4, h5, ih, List.filter_cons, hp, if_true, List.map_cons]
    | false =>
      rw [hp] at h2 h3
      rw [if_neg (by simp)] at h3
      simp only [compL, h1, h2, h3, ih, List.filter_cons, hp, Bool.false_eq_true, if_false]
theorem comp_T {α : Type} {c : α → D} {p : α → Bool} {f : α → D} {it : EM} {g : GM} {t : BM} {e : EM} {vs : List Nat} {ρ ρ1 : DEnv} {d : D} {xs : List α} (hi : it ρ = some (d, ρ1)) (hd : itemsD d.frz = some (xs.map c)) (hz : xs.length ≤ 10000)
    (h : ∀ x ∈ xs, ∃ ρ2, g (c x) (wipeD ρ1 vs) = some ρ2 ∧ ∃ ρ3, t ρ2 = some (p x, ρ3) ∧ if p x = true then ∃ ρ4, e ρ3 = some (f x, ρ4) ∧ wipeD ρ4 vs = wipeD ρ1 vs else wipeD ρ3 vs = wipeD ρ1 vs) :
    eComp it g t e vs ρ = some (.lst true ((xs.filter p).map f), wipeD ρ1 vs) := by
  unfold eComp
  rw [hi]
  show (match itemsD d.frz with | some ds => compE g t e vs ds ρ1 | none => none) = _
  rw [hd]
  exact compE_of (by rw [List.length_map]; exact hz) (compL_T h)
theorem comp_M {α : Type} {c : α → D} {f : α → D} {it : EM} {g : GM} {e : EM} {vs : List Nat} {ρ ρ1 : DEnv} {d : D} {xs : List α} (hi : it ρ = some (d, ρ1)) (hd : itemsD d.frz = some (xs.map c)) (hz : xs.length ≤ 10000)
    (h : ∀ x ∈ xs, ∃ ρ2, g (c x) (wipeD ρ1 vs) = some ρ2 ∧ ∃ ρ4, e ρ2 = some (f x, ρ4) ∧ wipeD ρ4 vs = wipeD ρ1 vs) :
    eComp it g bYes e vs ρ = some (.lst true (xs.map f), wipeD ρ1 vs) := by
  have := comp_T (p := fun _ => true) (f := f) hi hd hz (t := bYes) fun x hx => by
    obtain ⟨ρ2, h1, ρ4, h2, h3⟩ := h x hx
    exact ⟨ρ2, h1, ρ2, rfl, by rw [if_pos rfl]; exact ⟨ρ4, h2, h3⟩⟩
  rw [this, List.filter_eq_self.mpr (by simp)]
theorem sFor_of {it : EM} {g : GM} {body : SM} {ρ ρ1 : DEnv} {d : D} {ds : List D} {r : Option (Fl × DEnv)} (hi : it ρ = some (d, ρ1)) (hd : itemsD d.frz = some ds) (h : forL g body ds ρ1 = r) : sFor it g body ρ = r := by
  unfold sFor
  rw [hi]
  show (match itemsD d.frz with | some ds => forL g body ds ρ1 | none => none) = _
  rw [hd, ← h]
theorem strs_imm : ∀ (l : List Str), immL (l.map D.str) = true
  | [] => rfl
  | x :: l => by rw [List.map_cons, immL, strs_imm l]; rfl
theorem frz_tup {l : List D} (h : immL l = true) : (D.tup l).frz = .tup l := D.frz_of_stable _ (by rw [D.stable]; exact stableL_of_imm _ h)
end Dl

set_option Elab.async false
set_option linter.all false
set_option maxRecDepth 100000
set_option maxHeartbeats 1000000
/-! DS4: repr of lists and tuples of small things; sorted(d.items()) as data. -/
namespace Dl
open PySem

/-- as nic, the numbers less than 10 ^ 12 -/
def sml : Nat → D → Bool
  | _, .non => true
  | _, .int i => decide (i.natAbs < 1000000000000)
  | _, .str s => PyData.strOk s
  | n + 1, .tup xs => xs.all (sml n)
  | n + 1, .lst _ xs => xs.all (sml n)
  | _, _ => false
theorem showableAll_all : ∀ l : List PyData, PyData.showableAll l = l.all PyData.showable
  | [] => rfl
  | d :: l => by rw [PyData.showableAll, showableAll_all l, List.all_cons]
theorem intsShortAll_all : ∀ l : List PyData, PyData.intsShortAll 13 l = l.all (PyData.intsShort 13)
  | [] => rfl
  | d :: l => by rw [PyData.intsShortAll, intsShortAll_all l, List.all_cons]
theorem log_lt {i : Int} (h : i.natAbs < 1000000000000) : i.natAbs.log2 < 40 := by
  rcases Nat.eq_zero_or_pos i.natAbs with h0 | h0
  · rw [h0]; decide
  · have : (2 : Nat) ^ 40 = 1099511627776 := by decide
    exact (Nat.log2_lt (by omega)).mpr (by omega)
theorem int_weight {i : Int} (h : i.natAbs < 1000000000000) : (PyData.int i).weight ≤ 40 := by
  have := log_lt h
  rw [PyData.weight]
  split <;> omega
theorem sml_int {i : Int} (h : i.natAbs < 1000000000000) : (PyData.int i).showable = true ∧ (PyData.int i).intsShort 13 = true := by
  have e : (10 : Nat) ^ 12 = 1000000000000 := by decide
  constructor
  · simp only [PyData.showable, decide_eq_true_eq]
    have := log_lt h
    omega
  · simp only [PyData.intsShort, decide_eq_true_eq]
    exact PyData.shown_int_le (by omega)
theorem sml_ok : ∀ (n : Nat) (d : D), sml n d = true → nic n d = true ∧ d.py.showable = true ∧ d.py.intsShort 13 = true
  | 0, .non, _ => by simp [nic, D.py, PyData.showable, PyData.intsShort]
  | n + 1, .non, _ => by simp [nic, D.py, PyData.showable, PyData.intsShort]
  | 0, .int i, h => ⟨by simp [nic], sml_int (by simpa [sml] using h)⟩
  | n + 1, .int i, h => ⟨by simp [nic], sml_int (by simpa [sml] using h)⟩
  | 0, .str s, h => by simpa [nic, D.py, PyData.showable, PyData.intsShort, sml] using h
  | n + 1, .str s, h => by simpa [nic, D.py, PyData.showable, PyData.intsShort, sml] using h
  | n + 1, .tup xs, h => by
    have h' := List.all_eq_true.mp (show xs.all (sml n) = true by simpa [sml] using h)
    have hh := fun x hx => sml_ok n x (h' x hx)
    refine ⟨?_, ?_, ?_⟩
    · rw [nic]; exact List.all_eq_true.mpr fun x hx => (hh x hx).1
    · rw [D.py, PyData.showable, showableAll_all, pyL_map, List.all_map]; exact List.all_eq_true.mpr fun x hx => (hh x hx).2.1
    · rw [D.py, PyData.intsShort, intsShortAll_all, pyL_map, List.all_map]; exact List.all_eq_true.mpr fun x hx => (hh x hx).2.2
  | n + 1, .lst _ xs, h => by
    have h' := List.all_eq_true.mp (show xs.all (sml n) = true by simpa [sml] using h)
    have hh := fun x hx => sml_ok n x (h' x hx)
    refine ⟨?_, ?_, ?_⟩
    · rw [nic]; exact List.all_eq_true.mpr fun x hx => (hh x hx).1
    · rw [D.py, PyData.showable, showableAll_all, pyL_map, List.all_map]; exact List.all_eq_true.mpr fun x hx => (hh x hx).2.1
    · rw [D.py, PyData.intsShort, intsShortAll_all, pyL_map, List.all_map]; exact List.all_eq_true.mpr fun x hx => (hh x hx).2.2
  | 0, .bl _, h => by simp [sml] at h
  | n + 1, .bl _, h => by simp [sml] at h
  | 0, .tup _, h => by simp [sml] at h
  | 0, .lst _ _, h => by simp [sml] at h
  | 0, .dic _ _ _ _, h => by simp [sml] at h
  | n + 1, .dic _ _ _ _, h => by simp [sml] at h
  | 0, .obj _ _ _ _, h => by simp [sml] at h
  | n + 1, .obj _ _ _ _, h => by simp [sml] at h
  | 0, .scr _, h => by simp [sml] at h
  | n + 1, .scr _, h => by simp [sml] at h
theorem weightAll_sum : ∀ l : List PyData, PyData.weightAll l = (l.map fun d => d.weight + 1).sum
  | [] => rfl
  | d :: l => by rw [PyData.weightAll, weightAll_sum l, List.map_cons, List.sum_cons]
theorem sum_le {k : Nat} : ∀ {l : List Nat}, (∀ x ∈ l, x ≤ k) → l.sum ≤ k * l.length
  | [], _ => by simp
  | x :: l, h => by
    have h1 := h x (by simp)
    have h2 := sum_le (k := k) (l := l) fun y hy => h y (by simp [hy])
    rw [List.sum_cons, List.length_cons, Nat.mul_add]
    omega
/-! sorted(d.items()), d of texts and numbers -/
end Dl

set_option Elab.async false
set_option linter.all false
set_option maxRecDepth 100000
set_option maxHeartbeats 1000000
/-! DS5: loops and blocks over ranges, dict loops. -/
namespace Dl
open PySem

theorem okR_mk {i : Int} (h1 : -1000000000 ≤ i) (h2 : i ≤ 1000000000) : okR i = true := lg_of (by omega) (by decide)
theorem forR2_of {a b : EM} {g : GM} {body : SM} {ρ ρ1 ρ2 : DEnv} {i j : Int} {r : Option (Fl × DEnv)} (ha : a ρ = some (.int i, ρ1)) (hb : b ρ1 = some (.int j, ρ2)) (h1 : -1000000000 ≤ i ∧ i ≤ 1000000000) (h2 : -1000000000 ≤ j ∧ j ≤ 1000000000) (h : forL g body (rangeD i (j - i).toNat) ρ2 = r) : sForR2 a b g body ρ = r := by
  unfold sForR2
  rw [ha]
  show (match b ρ1 with | some (.int j, ρ2) => if okR i = true ∧ okR j = true then forL g body (rangeD i (j - i).toNat) ρ2 else none | _ => none) = _
  rw [hb]
  show (if okR i = true ∧ okR j = true then _ else none) = _
  rw [if_pos ⟨okR_mk h1.1 h1.2, okR_mk h2.1 h2.2⟩, h]
/-- a range's turns, all of one invariant -/
theorem forL_rng {g : GM} {body : SM} (I : DEnv → Prop) {lo : Int} {n : Nat} {ρ : DEnv} (h0 : I ρ) (hs : ∀ (i : Nat), i < n → ∀ ρ, I ρ → ∃ ρ1 ρ2, g (.int (lo + i)) ρ = some ρ1 ∧ (body ρ1 = some (.nx, ρ2) ∨ body ρ1 = some (.ct, ρ2)) ∧ I ρ2) : ∃ ρ', forL g body (rangeD lo n) ρ = some (.nx, ρ') ∧ I ρ' := by
  obtain ⟨ρ', h1, h2⟩ := forL_inv (g := g) (body := body) (fun _ ρ => I ρ) (ds := rangeD lo n) (ρ := ρ) (k := 0) h0 fun i hi ρ q => by
    rw [range_at]
    exact hs i (by rw [range_len] at hi; exact hi) ρ q
  exact ⟨ρ', h1, h2⟩
end Dl

set_option Elab.async false
set_option linter.all false
set_option maxRecDepth 100000
set_option maxHeartbeats 1000000
/-! DS6: blocks that read alone, dicts by new keys, repr of tuples, enumerate. -/
namespace Dl
open PySem
theorem getP_nil (d : D) : getP [] d = some d := rfl
theorem putP_nil (d d1 : D) : putP [] d d1 = some d1 := rfl
theorem repr_tup {n : Nat} {xs : List D} (h : sml n (.tup xs) = true) (hn : n ≤ 60) (hw : (D.tup xs).py.weight ≤ 2 ^ 20) : opRepr [.tup xs] = some (.str (D.tup xs).py.shown) := by
  obtain ⟨h1, h2, h3⟩ := sml_ok n _ h
  obtain ⟨h4, h5, h6⟩ := nic_ok n _ h1
  have hl := PyData.leavesShort_of_canLay0 13 _ h5 h3
  have hz := PyData.shown_fits (B := 13) (by decide) (by decide) hl hw
  rw [sizeLine_eq] at hz
  unfold opRepr
  exact if_pos ⟨h4, h2, PyData.hasDict_of_canLay _ h5, by omega, hz⟩
end Dl

set_option Elab.async false
set_option linter.all false
set_option maxRecDepth 100000
set_option maxHeartbeats 4000000
namespace Lk
open PySem Dl
def needs : Rec → List Str
  | .leaf _ => []
  | .op _ ns => ns
def recW : Rec → Str
  | .leaf _ => "leaf"
  | .op w _ => w
def recV : Rec → D
  | .leaf n => .int n
  | .op _ ns => .tup (ns.map D.str)
theorem part_0 (p : Part) : opIx (partD p) (.int 0) = some (.str p.name) := rfl
theorem part_1 (p : Part) : opIx (partD p) (.int 1) = some (recD p.recp) := rfl
theorem rec_0 (r : Rec) : opIx (recD r) (.int 0) = some (.str (recW r)) := by cases r <;> rfl
theorem rec_1 (r : Rec) : opIx (recD r) (.int 1) = some (recV r) := by cases r <;> rfl
theorem recV_imm (r : Rec) : (recV r).imm = true := by
  cases r with
  | leaf n => rfl
  | op w ns => exact strs_imm ns
theorem recV_stable (r : Rec) : (recV r).stable = true := D.stable_of_imm _ (recV_imm r)
theorem book_imm (ps : List Part) : (bookD ps).imm = true := parts_imm ps
theorem book_stable (ps : List Part) : (bookD ps).stable = true := D.stable_of_imm _ (book_imm ps)
theorem book_frz (ps : List Part) : (bookD ps).frz = bookD ps := D.frz_of_stable _ (book_stable ps)
theorem book_items (ps : List Part) : itemsD (bookD ps).frz = some (ps.map partD) := by rw [book_frz]; rfl
theorem op_ne_leaf {a : List Str} {w : Str} {ns : List Str} (h : RecOk a (.op w ns)) : ¬ w = "leaf" := by
  rcases h.1 with h | h | h | h <;> subst h <;> decide +kernel
theorem needs_ok {a : List Str} (p : Part) (h : RecOk a p.recp) : m_needs_of [partD p] = some (.tup ((needs p.recp).map D.str), [partD p]) := by
  cases hr : p.recp with
  | leaf n => simp [m_needs_of, b_needs_of, fnM, outs, sSeq, sIf, sAsg, sRet, sRetN, sNil, sExp, sNo, bP, bV, bAnd, bOr, bNot, bYes, eP, eMv, eFr, pVar, pC, pOp2, pOp1, eOp2, eOpP, eOpPP, eOpN, eOpV, eIx, eIxP, pBi, pAll, eBi, eBiP, takeA, valsA, aE, aS, aNil, eTup, eLst, eCall, callA, putA, gN, gT, gTu, gSt, lVar, lIx, getP, putP, getS, putS, eMt, eMt0, mAppend, opLen, opLt, opLe, opGt, opGe, opSub, modI, eqI, eqS, neI, neS, opIsN, opNotN, D.stable, stableL, D.imm, immL, D.frz, frzL, pSl, pPart, ePO, List.set_cons_zero, List.set_cons_succ, List.getD_cons_zero, List.getD_cons_succ, part_1, rec_0, rec_1, eqS, hr, recW, needs, partD_stable]
  | op w ns =>
    rw [hr] at h
    have hw := op_ne_leaf h
    have hs := recV_stable (.op w ns)
    simp [recV] at hs
    simp [m_needs_of, b_needs_of, fnM, outs, sSeq, sIf, sAsg, sRet, sRetN, sNil, sExp, sNo, bP, bV, bAnd, bOr, bNot, bYes, eP, eMv, eFr, pVar, pC, pOp2, pOp1, eOp2, eOpP, eOpPP, eOpN, eOpV, eIx, eIxP, pBi, pAll, eBi, eBiP, takeA, valsA, aE, aS, aNil, eTup, eLst, eCall, callA, putA, gN, gT, gTu, gSt, lVar, lIx, getP, putP, getS, putS, eMt, eMt0, mAppend, opLen, opLt, opLe, opGt, opGe, opSub, modI, eqI, eqS, neI, neS, opIsN, opNotN, D.stable, stableL, D.imm, immL, D.frz, frzL, pSl, pPart, ePO, List.set_cons_zero, List.set_cons_succ, List.getD_cons_zero, List.getD_cons_succ, part_1, rec_0, rec_1, eqS, hr, recW, needs, partD_stable, hw, recV, strs_imm, stableL_of_imm]
theorem bls_map {α : Type} (f : α → Bool) : ∀ l : List α, blsL (l.map fun x => D.bl (f x)) = some (l.map f)
  | [] => rfl
  | x :: l => by rw [List.map_cons, List.map_cons, blsL, bls_map f l]
/-- a book's part behind the parts ahead of it -/
theorem BookOk.at {ps pre post : List Part} {p : Part} (h : BookOk ps) (e : ps = pre ++ p :: post) : RecOk (pre.map Part.name) p.recp ∧ p.name ∉ pre.map Part.name ∧ pre.length ≤ 23 := by
  have hp : ps[pre.length]? = some p := by rw [e, List.getElem?_append_right (Nat.le_refl _), Nat.sub_self]; rfl
  have h1 := (h.ok _ _ hp).1
  have ht : (ps.map Part.name).take pre.length = pre.map Part.name := by
    rw [e, List.map_append, List.take_left' (by rw [List.length_map])]
  rw [ht] at h1
  refine ⟨h1, fun hm => ?_, ?_⟩
  · have hn := h.nd
    rw [e, List.map_append, List.map_cons] at hn
    exact (List.nodup_append.mp hn).2.2 _ hm _ List.mem_cons_self rfl
  · have := h.len.2
    rw [e, List.length_append, List.length_cons] at this
    omega
theorem svL_strs : ∀ l : List Str, svL (l.map D.str) = some (l.map L2.V.str)
  | [] => rfl
  | x :: l => by rw [List.map_cons, svL, svL_strs l]; rfl
theorem inV_strs (x : Str) (l : List Str) : L2.inV (.str x) (l.map L2.V.str) = decide (x ∈ l) := by
  unfold L2.inV
  rw [List.any_map]
  induction l with
  | nil => simp
  | cons y l ih =>
    rw [List.any_cons, ih]
    have : (Function.comp (fun y => L2.eqV y (.str x)) L2.V.str) y = decide (y = x) := by
      show (y == x) = _
      by_cases e : y = x <;> simp [e]
    rw [this]
    by_cases h : x = y
    · subst h; simp
    · have h' : ¬ y = x := fun e => h e.symm
      simp [h, h']
theorem in_strs {o : Bool} (x : Str) (l : List Str) : opIn (.str x) (.lst o (l.map D.str)) = some (.bl (decide (x ∈ l))) := by
  show (match (match (D.str x).sv, svL (l.map D.str) with | some a, some bs => some (L2.inV a bs) | _, _ => _) with | some b => some (D.bl b) | none => none) = _
  rw [svL_strs]
  show some (D.bl (L2.inV (.str x) (l.map L2.V.str))) = _
  rw [inV_strs]
def trueS (l : List Str) : List (Str × D) := l.map fun x => (x, D.bl true)
theorem trueS_keys (l : List Str) : (trueS l).map (·.1) = l := by unfold trueS; rw [List.map_map]; exact List.map_id l
theorem needs_mem {ps : List Part} (h : BookOk ps) {p : Part} (hp : p ∈ ps) {x : Str} (hx : x ∈ needs p.recp) : x ∈ ps.map Part.name := by
  obtain ⟨i, hi⟩ := List.getElem?_of_mem hp
  have := (h.ok i p hi).1
  cases hr : p.recp with
  | leaf n => rw [hr] at hx; simp [needs] at hx
  | op w ns =>
    rw [hr] at this hx
    exact List.mem_of_mem_take (this.2.2.2.2 x hx)
end Lk

set_option Elab.async false
set_option linter.all false
set_option maxRecDepth 100000
set_option maxHeartbeats 4000000
namespace Lk
open PySem Dl
/-! U4: need_book lets a book by (is_between, is_word, is_recipe, is_part, why_no_book, need_book) -/
theorem compS_M {f : Nat → D} {it : PM} {g : GM} {e : EM} {vs : List Nat} {ρ : DEnv} {x : Str} (hi : it ρ = some (.str x)) (hz : x.length ≤ 10000)
    (h : ∀ c ∈ x.cps.toList, ∃ ρ2, g (.str ⟨#[c]⟩) (wipeD ρ vs) = some ρ2 ∧ ∃ ρ4, e ρ2 = some (f c, ρ4) ∧ wipeD ρ4 vs = wipeD ρ vs) :
    eCompS it g bYes e vs ρ = some (.lst true (x.cps.toList.map f), wipeD ρ vs) := by
  unfold eCompS
  rw [hi]
  show compE g bYes e vs (charsD x) ρ = _
  have hn : (charsD x).length = x.length := by unfold charsD; rw [List.length_map, Array.length_toList]; rfl
  refine compE_of (by rw [hn]; exact hz) ?_
  have := compL_T (c := fun c : Nat => D.str ⟨#[c]⟩) (p := fun _ => true) (f := f) (g := g) (t := bYes) (e := e) (vs := vs) (ρ := wipeD ρ vs) (xs := x.cps.toList) fun c hc => by
    obtain ⟨ρ2, h1, ρ4, h2, h3⟩ := h c hc
    exact ⟨ρ2, h1, ρ2, rfl, by rw [if_pos rfl]; exact ⟨ρ4, h2, h3⟩⟩
  rw [List.filter_eq_self.mpr (by simp)] at this
  exact this
theorem all_true {α : Type} (l : List α) : opAll [.lst true (l.map fun _ => D.bl true)] = some (.bl true) := by
  show (match blsL (l.map fun _ => D.bl true) with | some l => some (D.bl (l.all id)) | none => none) = _
  rw [bls_map (fun _ => true)]
  simp
theorem in_sign {c : Nat} {t : Str} (h : c ∈ t.cps.toList) : opIn (.str ⟨#[c]⟩) (.str t) = some (.bl true) := by
  show some (D.bl (decide (c ∈ t.cps.toList))) = _
  rw [decide_eq_true h]
end Lk

set_option Elab.async false
set_option linter.all false
set_option maxRecDepth 100000
set_option maxHeartbeats 4000000
namespace Lk
open PySem Dl
theorem law_needs_ok {a : List Str} (p : Part) (h : RecOk a p.recp) : m__law_needs [partD p] = some (.lst true ((needs p.recp).map D.str), [partD p]) := by
  cases hr : p.recp with
  | leaf n => simp [m__law_needs, b__law_needs, fnM, outs, sSeq, sIf, sAsg, sRet, sRetN, sNil, sExp, sNo, bP, bV, bAnd, bOr, bNot, bYes, eP, eMv, eFr, pVar, pC, pOp2, pOp1, eOp2, eOpP, eOpPP, eOpN, eOpV, eIx, eIxP, pBi, pAll, eBi, eBiP, takeA, valsA, aE, aS, aNil, eTup, eLst, eCall, callA, putA, gN, gT, gTu, gSt, lVar, lIx, getP, putP, getS, putS, eMt, eMt0, mAppend, opLen, opLt, opLe, opGt, opGe, opSub, modI, eqI, eqS, neI, neS, opIsN, opNotN, D.stable, stableL, D.imm, immL, D.frz, frzL, pSl, pPart, ePO, List.set_cons_zero, List.set_cons_succ, List.getD_cons_zero, List.getD_cons_succ, part_1, rec_0, rec_1, eqS, hr, recW, needs, partD_stable]
  | op w ns =>
    rw [hr] at h
    have hw := op_ne_leaf h
    simp [m__law_needs, b__law_needs, fnM, outs, sSeq, sIf, sAsg, sRet, sRetN, sNil, sExp, sNo, bP, bV, bAnd, bOr, bNot, bYes, eP, eMv, eFr, pVar, pC, pOp2, pOp1, eOp2, eOpP, eOpPP, eOpN, eOpV, eIx, eIxP, pBi, pAll, eBi, eBiP, takeA, valsA, aE, aS, aNil, eTup, eLst, eCall, callA, putA, gN, gT, gTu, gSt, lVar, lIx, getP, putP, getS, putS, eMt, eMt0, mAppend, opLen, opLt, opLe, opGt, opGe, opSub, modI, eqI, eqS, neI, neS, opIsN, opNotN, D.stable, stableL, D.imm, immL, D.frz, frzL, pSl, pPart, ePO, List.set_cons_zero, List.set_cons_succ, List.getD_cons_zero, List.getD_cons_succ, part_1, rec_0, rec_1, eqS, hr, recW, needs, partD_stable, hw, recV, opList, strs_imm]
end Lk

set_option Elab.async false
set_option linter.all false
set_option maxRecDepth 100000
set_option maxHeartbeats 4000000
namespace Dl
open PySem
theorem join_nil : ∀ L : List (List Nat), TL.joinL [] L = L.flatten
  | [] => rfl
  | [p] => by simp [TL.joinL]
  | p :: q :: r => by
    show p ++ ([] ++ TL.joinL [] (q :: r)) = _
    rw [join_nil (q :: r)]
    simp
theorem tl_joinL_len (S : List Nat) : ∀ L : List (List Nat), (TL.joinL S L).length ≤ (L.map List.length).sum + L.length * S.length
  | [] => by simp [TL.joinL]
  | [p] => by simp [TL.joinL]
  | p :: q :: r => by
    have ih := tl_joinL_len S (q :: r)
    show (p ++ (S ++ TL.joinL S (q :: r))).length ≤ _
    rw [List.length_append, List.length_append, List.map_cons, List.sum_cons, List.length_cons (as := q :: r), Nat.succ_mul]
    omega
theorem join_len {y : Str} {ls : List Str} {k : Nat} (h : ∀ l ∈ ls, l.length ≤ k) : (Txt.join y ls).length ≤ (k + y.length) * ls.length := by
  rw [TL.len_tl, TL.join_eq, TL.tl_join]
  have h1 := tl_joinL_len (TL.tl y) (ls.map TL.tl)
  have h2 : ((ls.map TL.tl).map List.length).sum ≤ k * ls.length := by
    have := sum_le (k := k) (l := (ls.map TL.tl).map List.length) fun x hx => by
      rw [List.map_map] at hx
      obtain ⟨l, hl, rfl⟩ := List.mem_map.mp hx
      have := h l hl
      rw [TL.len_tl] at this
      exact this
    simpa using this
  rw [List.length_map, ← TL.len_tl] at h1
  rw [Nat.add_mul, Nat.mul_comm y.length]
  omega
theorem cut_init {α : Type} {xs : List α} (h : xs ≠ []) : cutA xs none (some (-1)) = xs.dropLast := by
  have hp : 0 < xs.length := List.length_pos_iff.mpr h
  unfold cutA
  rw [show HT.sIx xs.length 0 none = 0 from rfl]
  have e : HT.sIx xs.length xs.length (some (-1)) = xs.length - 1 := by
    show (if (-1 : Int) < 0 then (-1 + (xs.length : Int)).toNat else min (-1 : Int).toNat xs.length) = _
    rw [if_pos (by decide)]
    omega
  rw [e, List.drop_zero, Nat.sub_zero, List.dropLast_eq_take]
theorem sl_init {o : Bool} {ds : List D} (h : ds ≠ []) (hi : immL ds = true) : opSl (.lst o ds) none (some (-1)) = some (.lst true ds.dropLast) := by
  simp only [opSl, cut_init h, hi, if_true]
theorem sl_mid {o : Bool} {ds : List D} {a b : Nat} (ha : a ≤ ds.length) (hb : b ≤ ds.length) (hi : immL ds = true) : opSl (.lst o ds) (some (a : Int)) (some (b : Int)) = some (.lst true ((ds.drop a).take (b - a))) := by
  have e : cutA ds (some (a : Int)) (some (b : Int)) = (ds.drop a).take (b - a) := by
    unfold cutA
    rw [HT.sIx_nat, HT.sIx_nat, Nat.min_eq_left ha, Nat.min_eq_left hb]
  simp only [opSl, hi, if_true, e]
theorem ix_last {o : Bool} {ds : List D} {d : D} : opIx (.lst o (ds ++ [d])) (.int (-1)) = some d := by
  show L2.atI (ds ++ [d]) (-1) = _
  unfold L2.atI L2.ixN
  rw [if_neg (by decide), if_pos (by rw [List.length_append, List.length_singleton]; omega)]
  show (ds ++ [d])[((-1 : Int) + ((ds ++ [d]).length : Int)).toNat]? = _
  have e : ((-1 : Int) + ((ds ++ [d]).length : Int)).toNat = ds.length := by rw [List.length_append, List.length_singleton]; omega
  rw [e, List.getElem?_append_right (Nat.le_refl _), Nat.sub_self]
  rfl
theorem strs_of_map : ∀ l : List Str, strsL (l.map D.str) = some l
  | [] => rfl
  | x :: l => by rw [List.map_cons, strsL, strs_of_map l]
theorem mJoin_ok {o : Bool} {a : Str} {l : List Str} (h : (l.map Str.length).sum + l.length * a.length ≤ 16777216) : mJoin (.str a) [.lst o (l.map D.str)] = some (.str (Txt.join a l)) := by
  show (match strsL (l.map D.str) with | some l => if (l.map Str.length).sum + l.length * a.length ≤ 16777216 then some (D.str (Txt.join a l)) else none | none => none) = _
  rw [strs_of_map]
  exact if_pos h
theorem mSplit_ok {a b : Str} (hb : (b.length == 0) = false) (h : a.length + 2 ≤ 100000) : mSplit (.str a) [.str b] = some (.lst true ((Txt.split a b).map D.str)) := by
  show (if (b.length == 0) = false ∧ a.length + 2 ≤ 100000 then _ else none) = _
  exact if_pos ⟨hb, h⟩
end Dl
namespace Lk
open PySem Dl
/-! ### k80: texts -/
def figs (i : Int) : Str := Str.ofString (toString i)
theorem figs_tl (n : Nat) : TL.tl (figs n) = TL.numL n := TL.tl_num n
theorem figs_len {n : Nat} (h : n ≤ 99) : 1 ≤ (figs n).length ∧ (figs n).length ≤ 2 := by
  rw [TL.len_tl, figs_tl]
  by_cases h1 : n < 10
  · rw [TL.numL_lt h1]; simp
  · rw [TL.numL_step (by omega), TL.numL_lt (by omega)]; simp
theorem str_figs (n : Nat) (h : n ≤ 99) : opStr [.int (n : Int)] = some (.str (figs n)) := by
  have hl : ((n : Int)).natAbs.log2 < 1920 := by
    have := log_lt (i := (n : Int)) (by omega)
    omega
  show (if ((n : Int)).natAbs.log2 < 1920 then some (D.str _) else none) = _
  rw [if_pos hl]
  rfl
theorem figures_mem {c : Nat} (h1 : 48 ≤ c) (h2 : c ≤ 57) : c ∈ ("0123456789" : Str).cps.toList := by
  have e : ("0123456789" : Str).cps.toList = List.range' 48 10 := by decide +kernel
  rw [e, List.mem_range'_1]
  omega
theorem number_ok' (n : Nat) (h : n ≤ 99) : m_number_by [.str (figs n)] = some (.int (n : Int), [.str (figs n)]) := by
  obtain ⟨k1, k2⟩ := figs_len h
  have hl : opLen [.str (figs n)] = some (.int ((figs n).length : Int)) := by
    show (if (figs n).length ≤ 16777216 then _ else none) = _
    rw [if_pos (by omega)]
  have l1 : opLe (.int 1) (.int ((figs n).length : Int)) = some (.bl true) := by
    show some (D.bl (decide _)) = _
    rw [decide_eq_true (by omega)]
  have l2 : opLe (.int ((figs n).length : Int)) (.int 2) = some (.bl true) := by
    show some (D.bl (decide _)) = _
    rw [decide_eq_true (by omega)]
  have hdig : ∀ c ∈ (figs n).cps.toList, 48 ≤ c ∧ c ≤ 57 := fun c hc => TL.numL_digits n c (by rw [← figs_tl]; exact hc)
  have hc : eCompS (pVar 0) (gN 1) bYes x1_number_by [1] [some (.str (figs n)), none] = some (.lst true ((figs n).cps.toList.map fun _ => D.bl true), [some (.str (figs n)), none]) := by
    refine compS_M rfl (by omega) fun c hc => ⟨_, rfl, [some (.str (figs n)), some (.str ⟨#[c]⟩)], ?_, rfl⟩
    have hin := in_sign (figures_mem (hdig c hc).1 (hdig c hc).2)
    simp [x1_number_by, fnM, outs, sSeq, sIf, sAsg, sRet, sRetN, sNil, sExp, sNo, bP, bV, bAnd, bOr, bNot, bYes, eP, eMv, eFr, pVar, pC, pOp2, pOp1, eOp2, eOpP, eOpPP, eOpN, eOpV, eIx, eIxP, pBi, pAll, eBi, eBiP, takeA, valsA, aE, aS, aNil, eTup, eLst, eCall, callA, putA, gN, gT, gTu, gSt, lVar, lIx, eMt, eMt0, opLt, opLe, opGt, opGe, opSub, modI, eqI, eqS, neI, neS, opIsN, opNotN, D.stable, stableL, D.imm, immL, D.frz, frzL, pSl, pPart, ePO, List.set_cons_zero, List.set_cons_succ, List.getD_cons_zero, List.getD_cons_succ, getP_nil, putP_nil, eMtL, pAll, wipeD, hin]
  have ha := all_true (figs n).cps.toList
  have hq : bV (eBi opAll (aE (eCompS (pVar 0) (gN 1) bYes x1_number_by [1]) aNil)) [some (.str (figs n)), none] = some (true, [some (.str (figs n)), none]) := by
    simp only [bV, eBi, aE, hc, aNil, takeA]
    rw [ha]
  have hint : opInt [.str (figs n)] = some (.int (n : Int)) := by
    have hi : PySem.intText? (figs n) = some (n : Int) := TL.int_num (by rw [← figs_tl, ← TL.len_tl]; omega)
    simp only [opInt, hi]
    exact if_pos (by omega)
  have hc0 : bOr (bNot (bP (pCh opLe opLe (pC (.int 1)) (pBi opLen [(pVar 0)]) (pC (.int 2))))) (bNot (bV (eBi opAll (aE (eCompS (pVar 0) (gN 1) bYes x1_number_by [1]) aNil)))) [some (.str (figs n)), none] = some (false, [some (.str (figs n)), none]) := by
    simp only [bOr, bNot, bP, pCh, pC, pBi, pAll, pVar, List.getD_cons_zero, hl, l1, l2, Bool.not_true, hq]
  have hc1 : bAnd (bP (pOp2 opGt (pBi opLen [(pVar 0)]) (pC (.int 1)))) (bP (pOp2 opEq (pOp2 opIx (pVar 0) (pC (.int 0))) (pC (.str "0")))) [some (.str (figs n)), none] = some (false, [some (.str (figs n)), none]) := by
    by_cases h1 : n < 10
    · have e : (figs n).length = 1 := by rw [TL.len_tl, figs_tl, TL.numL_lt h1]; rfl
      have g : opGt (.int ((figs n).length : Int)) (.int 1) = some (.bl false) := by rw [e]; rfl
      simp only [bAnd, bP, pOp2, pBi, pAll, pVar, pC, List.getD_cons_zero, hl, g]
    · have et : TL.tl (figs n) = [48 + n / 10, 48 + n % 10] := by rw [figs_tl, TL.numL_step (by omega), TL.numL_lt (by omega)]; rfl
      have e : (figs n).length = 2 := by rw [TL.len_tl, et]; rfl
      have g : opGt (.int ((figs n).length : Int)) (.int 1) = some (.bl true) := by rw [e]; rfl
      have ix : opIx (.str (figs n)) (.int 0) = some (.str ⟨#[48 + n / 10]⟩) := by
        show (if (figs n).length ≤ sizeLine then (L2.atI (figs n).cps.toList 0).map fun c => D.str ⟨#[c]⟩ else none) = _
        rw [if_pos (by rw [sizeLine_eq]; omega), show (figs n).cps.toList = [48 + n / 10, 48 + n % 10] from et]
        rfl
      have ne : ¬ ((⟨#[48 + n / 10]⟩ : Str) = "0") := fun q => by
        have := congrArg TL.tl q
        have h0 : TL.tl ("0" : Str) = [48] := by decide +kernel
        rw [h0] at this
        have h2 : [48 + n / 10] = [48] := this
        injection h2 with h2
        omega
      simp only [bAnd, bP, pOp2, pBi, pAll, pVar, pC, List.getD_cons_zero, hl, g, ix, eqS, decide_eq_false ne]
  simp only [m_number_by, b_number_by, fnM, List.length_cons, List.length_nil, List.drop_succ_cons, List.drop_zero, List.drop_nil, List.all_nil, and_self, if_true, List.map_cons, List.map_nil, List.replicate_one, List.cons_append, List.nil_append, Nat.reduceSub, Nat.zero_add]
  rw [sSeq_nx (sIf_f hc0), sSeq_nx (sIf_f hc1)]
  simp [fnM, outs, sSeq, sIf, sAsg, sRet, sRetN, sNil, sExp, sNo, bP, bV, bAnd, bOr, bNot, bYes, eP, eMv, eFr, pVar, pC, pOp2, pOp1, eOp2, eOpP, eOpPP, eOpN, eOpV, eIx, eIxP, pBi, pAll, eBi, eBiP, takeA, valsA, aE, aS, aNil, eTup, eLst, eCall, callA, putA, gN, gT, gTu, gSt, lVar, lIx, eMt, eMt0, opLt, opLe, opGt, opGe, opSub, modI, eqI, eqS, neI, neS, opIsN, opNotN, D.stable, stableL, D.imm, immL, D.frz, frzL, pSl, pPart, ePO, List.set_cons_zero, List.set_cons_succ, List.getD_cons_zero, List.getD_cons_succ, getP_nil, putP_nil, eMtL, pAll, pBi, hint]
end Lk

set_option Elab.async false
set_option linter.all false
set_option maxRecDepth 100000
set_option maxHeartbeats 4000000
namespace Lk
open PySem Dl
theorem figsI {i : Int} (h : 0 ≤ i ∧ i ≤ 99) : ∃ n : Nat, i = (n : Int) ∧ n ≤ 99 := ⟨i.toNat, by omega, by omega⟩
theorem strI {i : Int} (h : 0 ≤ i ∧ i ≤ 99) : opStr [.int i] = some (.str (figs i)) := by
  obtain ⟨n, rfl, hn⟩ := figsI h
  exact str_figs n hn
def restW : Rec → List Str
  | .leaf n => [figs n]
  | .op _ ns => ns
def lineW (p : Part) : List Str := [p.name, figs p.size, figs p.cost, recW p.recp] ++ restW p.recp
def lineT (p : Part) : Str := Txt.join " " (lineW p)
/-- what a word of a line is: no blank, no line's end, eight signs at most -/
def okW (x : Str) : Prop := (∀ c ∈ TL.tl x, 48 ≤ c) ∧ x.length ≤ 8
theorem okW_fig {i : Int} (h : 0 ≤ i ∧ i ≤ 99) : okW (figs i) := by
  obtain ⟨n, rfl, hn⟩ := figsI h
  refine ⟨fun c hc => ?_, by have := (figs_len hn).2; omega⟩
  rw [figs_tl] at hc
  exact (TL.numL_digits n c hc).1
theorem okW_word {w : Str} (h : wordB w = true) : okW w := by
  unfold wordB at h
  rw [Bool.and_eq_true, decide_eq_true_eq] at h
  refine ⟨fun c hc => ?_, h.1.2⟩
  have := of_decide_eq_true (List.all_eq_true.mp h.2 c hc)
  omega
theorem okW_rec {a : List Str} {r : Rec} (h : RecOk a r) : okW (recW r) := by
  have key : wordB (recW r) = true := by
    cases r with
    | leaf n => show wordB "leaf" = true; decide +kernel
    | op w ns => rcases h.1 with h | h | h | h <;> subst h <;> (show wordB _ = true) <;> simp only [recW] <;> decide +kernel
  exact okW_word key
theorem lineW_ok {a : List Str} {p : Part} (h1 : wordB p.name = true) (h : RecOk a p.recp) (hw : ∀ x ∈ needs p.recp, wordB x = true) (h2 : 1 ≤ p.size ∧ p.size ≤ 9) (h3 : 1 ≤ p.cost ∧ p.cost ≤ 9) : (∀ x ∈ lineW p, okW x) ∧ 5 ≤ (lineW p).length ∧ (lineW p).length ≤ 8 := by
  have hr : (∀ x ∈ restW p.recp, okW x) ∧ 1 ≤ (restW p.recp).length ∧ (restW p.recp).length ≤ 4 := by
    cases hp : p.recp with
    | leaf n =>
      rw [hp] at h
      exact ⟨fun x hx => by rw [restW, List.mem_singleton] at hx; rw [hx]; exact okW_fig h, by simp [restW], by simp [restW]⟩
    | op w ns =>
      rw [hp] at h hw
      exact ⟨fun x hx => okW_word (hw x hx), h.2.1, h.2.2.1⟩
  refine ⟨fun x hx => ?_, ?_, ?_⟩
  · unfold lineW at hx
    rcases List.mem_append.mp hx with hx | hx
    · simp only [List.mem_cons, List.not_mem_nil, or_false] at hx
      rcases hx with rfl | rfl | rfl | rfl
      · exact okW_word h1
      · exact okW_fig (by omega)
      · exact okW_fig (by omega)
      · exact okW_rec h
    · exact hr.1 x hx
  · unfold lineW; rw [List.length_append]; simp only [List.length_cons, List.length_nil]; omega
  · unfold lineW; rw [List.length_append]; simp only [List.length_cons, List.length_nil]; omega
theorem sum8 {l : List Str} (h : ∀ x ∈ l, okW x) : (l.map Str.length).sum ≤ 8 * l.length := by
  have := sum_le (k := 8) (l := l.map Str.length) fun x hx => by
    obtain ⟨y, hy, rfl⟩ := List.mem_map.mp hx
    exact (h y hy).2
  rwa [List.length_map] at this
theorem join_line {p : Part} (h : ∀ x ∈ lineW p, okW x) (hl : (lineW p).length ≤ 8) : mJoin (.str " ") [.lst true ((lineW p).map D.str)] = some (.str (lineT p)) := by
  refine mJoin_ok ?_
  have h1 := sum8 h
  have h2 : (" " : Str).length = 1 := by decide +kernel
  rw [h2]
  omega
theorem lineT_len {p : Part} (h : ∀ x ∈ lineW p, okW x) (hl : (lineW p).length ≤ 8) : (lineT p).length ≤ 72 := by
  have := join_len (y := " ") (ls := lineW p) (k := 8) fun x hx => (h x hx).2
  have h2 : (" " : Str).length = 1 := by decide +kernel
  rw [h2] at this
  unfold lineT
  omega
theorem words_add {o o' : Bool} (a b : List Str) (h : a.length + b.length ≤ 1000) : opAdd (.lst o (a.map D.str)) (.lst o' (b.map D.str)) = some (.lst true ((a ++ b).map D.str)) := by
  show (if (a.map D.str).length + (b.map D.str).length ≤ sizeLine ∧ immL (a.map D.str) = true ∧ immL (b.map D.str) = true then _ else _) = _
  rw [if_pos ⟨by rw [sizeLine_eq, List.length_map, List.length_map]; omega, strs_imm _, strs_imm _⟩, List.map_append]
theorem lines_ok {a : List Str} {p : Part} (h1 : wordB p.name = true) (h : RecOk a p.recp) (hw : ∀ x ∈ needs p.recp, wordB x = true) (h2 : 1 ≤ p.size ∧ p.size ≤ 9) (h3 : 1 ≤ p.cost ∧ p.cost ≤ 9) :
    m_show_part [partD p] = some (.str (lineT p), [partD p]) ∧ m__law_line [partD p] = some (.str (lineT p), [partD p]) := by
  obtain ⟨w1, w2, w3⟩ := lineW_ok h1 h hw h2 h3
  have hj := join_line w1 w3
  have s2 := strI (i := p.size) (by omega)
  have s3 := strI (i := p.cost) (by omega)
  have p2 : opIx (partD p) (.int 2) = some (.int p.size) := rfl
  have p3 : opIx (partD p) (.int 3) = some (.int p.cost) := rfl
  have q0 := part_0 p
  have q1 := part_1 p
  have r0 := rec_0 p.recp
  have r1 := rec_1 p.recp
  have hn := needs_ok p h
  have hn2 := law_needs_ok p h
  cases hr : p.recp with
  | leaf n =>
    rw [hr] at h r0 r1 q1
    have s4 := strI h
    have ha := words_add (o := true) (o' := true) [p.name, figs p.size, figs p.cost, "leaf"] [figs n] (by simp)
    have el : lineW p = [p.name, figs p.size, figs p.cost, "leaf"] ++ [figs n] := by unfold lineW; rw [hr]; rfl
    rw [el] at hj
    simp only [List.map_cons, List.map_nil, List.cons_append, List.nil_append, recW, recV] at ha hj r0 r1
    generalize partD p = P at *
    generalize recD (.leaf n) = R at *
    constructor
    · simp [m_show_part, b_show_part, fnM, outs, sSeq, sIf, sAsg, sRet, sRetN, sNil, sExp, sNo, bP, bV, bAnd, bOr, bNot, bYes, eP, eMv, eFr, pVar, pC, pOp2, pOp1, eOp2, eOpP, eOpPP, eOpN, eOpV, eIx, eIxP, pBi, pAll, eBi, eBiP, takeA, valsA, aE, aS, aNil, eTup, eLst, eCall, callA, putA, gN, gT, gTu, gSt, lVar, lIx, eMt, eMt0, opLt, opLe, opGt, opGe, opSub, modI, eqI, eqS, neI, neS, opIsN, opNotN, D.stable, stableL, D.imm, immL, D.frz, frzL, pSl, pPart, ePO, List.set_cons_zero, List.set_cons_succ, List.getD_cons_zero, List.getD_cons_succ, getP_nil, putP_nil, eMtL, pAll, pBi, eSm, q0, q1, p2, p3, r0, r1, s2, s3, s4, eqS, ha, hj]
    · simp [m__law_line, b__law_line, fnM, outs, sSeq, sIf, sAsg, sRet, sRetN, sNil, sExp, sNo, bP, bV, bAnd, bOr, bNot, bYes, eP, eMv, eFr, pVar, pC, pOp2, pOp1, eOp2, eOpP, eOpPP, eOpN, eOpV, eIx, eIxP, pBi, pAll, eBi, eBiP, takeA, valsA, aE, aS, aNil, eTup, eLst, eCall, callA, putA, gN, gT, gTu, gSt, lVar, lIx, eMt, eMt0, opLt, opLe, opGt, opGe, opSub, modI, eqI, eqS, neI, neS, opIsN, opNotN, D.stable, stableL, D.imm, immL, D.frz, frzL, pSl, pPart, ePO, List.set_cons_zero, List.set_cons_succ, List.getD_cons_zero, List.getD_cons_succ, getP_nil, putP_nil, eMtL, pAll, pBi, eSm, q0, q1, p2, p3, r0, r1, s2, s3, s4, eqS, ha, hj]
  | op w ns =>
    have hne := op_ne_leaf (by rw [hr] at h; exact h)
    rw [hr] at h r0 r1 q1 hn hn2
    have ha := words_add (o := true) (o' := true) [p.name, figs p.size, figs p.cost, w] ns (by have := h.2.2.1; simp; omega)
    have el : lineW p = [p.name, figs p.size, figs p.cost, w] ++ ns := by unfold lineW; rw [hr]; rfl
    rw [el] at hj
    have ho : opList [.tup (ns.map D.str)] = some (.lst true (ns.map D.str)) := by
      show (if immL (ns.map D.str) = true then _ else _) = _
      rw [if_pos (strs_imm _)]
    simp only [List.map_append, List.map_cons, List.map_nil, List.cons_append, List.nil_append, recW, recV, needs] at ha hj r0 r1 hn hn2
    generalize partD p = P at *
    generalize recD (.op w ns) = R at *
    generalize ns.map D.str = N at *
    constructor
    · simp [m_show_part, b_show_part, fnM, outs, sSeq, sIf, sAsg, sRet, sRetN, sNil, sExp, sNo, bP, bV, bAnd, bOr, bNot, bYes, eP, eMv, eFr, pVar, pC, pOp2, pOp1, eOp2, eOpP, eOpPP, eOpN, eOpV, eIx, eIxP, pBi, pAll, eBi, eBiP, takeA, valsA, aE, aS, aNil, eTup, eLst, eCall, callA, putA, gN, gT, gTu, gSt, lVar, lIx, eMt, eMt0, opLt, opLe, opGt, opGe, opSub, modI, eqI, eqS, neI, neS, opIsN, opNotN, D.stable, stableL, D.imm, immL, D.frz, frzL, pSl, pPart, ePO, List.set_cons_zero, List.set_cons_succ, List.getD_cons_zero, List.getD_cons_succ, getP_nil, putP_nil, eMtL, pAll, pBi, eSm, q0, q1, p2, p3, r0, r1, s2, s3, eqS, hne, hn, ho, ha, hj]
    · simp [m__law_line, b__law_line, fnM, outs, sSeq, sIf, sAsg, sRet, sRetN, sNil, sExp, sNo, bP, bV, bAnd, bOr, bNot, bYes, eP, eMv, eFr, pVar, pC, pOp2, pOp1, eOp2, eOpP, eOpPP, eOpN, eOpV, eIx, eIxP, pBi, pAll, eBi, eBiP, takeA, valsA, aE, aS, aNil, eTup, eLst, eCall, callA, putA, gN, gT, gTu, gSt, lVar, lIx, eMt, eMt0, opLt, opLe, opGt, opGe, opSub, modI, eqI, eqS, neI, neS, opIsN, opNotN, D.stable, stableL, D.imm, immL, D.frz, frzL, pSl, pPart, ePO, List.set_cons_zero, List.set_cons_succ, List.getD_cons_zero, List.getD_cons_succ, getP_nil, putP_nil, eMtL, pAll, pBi, eSm, q0, q1, p2, p3, r0, r1, s2, s3, eqS, hne, hn2, ha, hj]
theorem BookOk.facts {ps : List Part} (b : BookOk ps) {p : Part} (hp : p ∈ ps) : ∃ a, wordB p.name = true ∧ RecOk a p.recp ∧ (∀ x ∈ needs p.recp, wordB x = true) ∧ (1 ≤ p.size ∧ p.size ≤ 9) ∧ (1 ≤ p.cost ∧ p.cost ≤ 9) := by
  obtain ⟨i, hi⟩ := List.getElem?_of_mem hp
  obtain ⟨k1, k2, k3⟩ := b.ok i p hi
  exact ⟨_, b.word p hp, k1, fun x hx => by
    obtain ⟨q, hq, rfl⟩ := List.mem_map.mp (needs_mem b hp hx)
    exact b.word q hq, k2, k3⟩
def bookT (ps : List Part) : Str := Txt.join "" (ps.map fun p => lineT p ++ "\n")
theorem nl_len : ("\n" : Str).length = 1 := by decide +kernel
theorem nl_tl : TL.tl ("\n" : Str) = [10] := by decide +kernel
theorem line_nl {ps : List Part} (b : BookOk ps) {p : Part} (hp : p ∈ ps) : opAdd (.str (lineT p)) (.str "\n") = some (.str (lineT p ++ "\n")) ∧ (lineT p ++ "\n").length ≤ 73 := by
  obtain ⟨a, f1, f2, f3, f4, f5⟩ := b.facts hp
  obtain ⟨w1, w2, w3⟩ := lineW_ok f1 f2 f3 f4 f5
  have := lineT_len w1 w3
  refine ⟨addS (by rw [nl_len]; omega), ?_⟩
  rw [Str.length_append, nl_len]
  omega
theorem join_book {ps : List Part} (b : BookOk ps) : mJoin (.str "") [.lst true (ps.map fun p => D.str (lineT p ++ "\n"))] = some (.str (bookT ps)) ∧ (bookT ps).length ≤ 2000 := by
  have hps := b.len.2
  have h0 : ("" : Str).length = 0 := rfl
  constructor
  · have := mJoin_ok (o := true) (a := "") (l := ps.map fun p => lineT p ++ "\n") (by
      have := sum_le (k := 73) (l := (ps.map fun p => lineT p ++ "\n").map Str.length) fun x hx => by
        rw [List.map_map] at hx
        obtain ⟨p, hp, rfl⟩ := List.mem_map.mp hx
        exact (line_nl b hp).2
      rw [List.length_map, List.length_map] at this
      rw [h0]
      omega)
    rw [List.map_map] at this
    exact this
  · have := join_len (y := "") (ls := ps.map fun p => lineT p ++ "\n") (k := 73) fun x hx => by
      obtain ⟨p, hp, rfl⟩ := List.mem_map.mp hx
      exact (line_nl b hp).2
    rw [List.length_map, h0] at this
    unfold bookT
    omega
theorem shows_ok {ps : List Part} (b : BookOk ps) : m_show_book [bookD ps] = some (.str (bookT ps), [bookD ps]) ∧ m__law_text [bookD ps] = some (.str (bookT ps), [bookD ps]) := by
  have hps := b.len.2
  obtain ⟨hj, hl⟩ := join_book b
  constructor
  · have hc : eComp (eP (pVar 0)) (gN 1) bYes x1_show_book [1] [some (bookD ps), none] = some (.lst true (ps.map fun p => D.str (lineT p ++ "\n")), [some (bookD ps), none]) := by
      refine comp_M (c := partD) (f := fun p => D.str (lineT p ++ "\n")) (ρ1 := [some (bookD ps), none]) (eP_of rfl (book_stable ps)) (book_items ps) (by omega) fun p hp => ?_
      obtain ⟨a, f1, f2, f3, f4, f5⟩ := b.facts hp
      have l1 := (lines_ok f1 f2 f3 f4 f5).1
      have l2 := (line_nl b hp).1
      exact ⟨_, rfl, [some (bookD ps), some (partD p)], by simp [x1_show_book, fnM, outs, sSeq, sIf, sAsg, sRet, sRetN, sNil, sExp, sNo, bP, bV, bAnd, bOr, bNot, bYes, eP, eMv, eFr, pVar, pC, pOp2, pOp1, eOp2, eOpP, eOpPP, eOpN, eOpV, eIx, eIxP, pBi, pAll, eBi, eBiP, takeA, valsA, aE, aS, aNil, eTup, eLst, eCall, callA, putA, gN, gT, gTu, gSt, lVar, lIx, eMt, eMt0, opLt, opLe, opGt, opGe, opSub, modI, eqI, eqS, neI, neS, opIsN, opNotN, D.stable, stableL, D.imm, immL, D.frz, frzL, pSl, pPart, ePO, List.set_cons_zero, List.set_cons_succ, List.getD_cons_zero, List.getD_cons_succ, getP_nil, putP_nil, eMtL, pAll, wipeD, l1, l2], rfl⟩
    simp [m_show_book, b_show_book, fnM, outs, sSeq, sIf, sAsg, sRet, sRetN, sNil, sExp, sNo, bP, bV, bAnd, bOr, bNot, bYes, eP, eMv, eFr, pVar, pC, pOp2, pOp1, eOp2, eOpP, eOpPP, eOpN, eOpV, eIx, eIxP, pBi, pAll, eBi, eBiP, takeA, valsA, aE, aS, aNil, eTup, eLst, eCall, callA, putA, gN, gT, gTu, gSt, lVar, lIx, eMt, eMt0, opLt, opLe, opGt, opGe, opSub, modI, eqI, eqS, neI, neS, opIsN, opNotN, D.stable, stableL, D.imm, immL, D.frz, frzL, pSl, pPart, ePO, List.set_cons_zero, List.set_cons_succ, List.getD_cons_zero, List.getD_cons_succ, getP_nil, putP_nil, eMtL, pAll, eSm, hc, hj]
  · have hc : eComp (eP (pVar 0)) (gN 1) bYes x1__law_text [1] [some (bookD ps), none] = some (.lst true (ps.map fun p => D.str (lineT p ++ "\n")), [some (bookD ps), none]) := by
      refine comp_M (c := partD) (f := fun p => D.str (lineT p ++ "\n")) (ρ1 := [some (bookD ps), none]) (eP_of rfl (book_stable ps)) (book_items ps) (by omega) fun p hp => ?_
      obtain ⟨a, f1, f2, f3, f4, f5⟩ := b.facts hp
      have l1 := (lines_ok f1 f2 f3 f4 f5).2
      have l2 := (line_nl b hp).1
      exact ⟨_, rfl, [some (bookD ps), some (partD p)], by simp [x1__law_text, fnM, outs, sSeq, sIf, sAsg, sRet, sRetN, sNil, sExp, sNo, bP, bV, bAnd, bOr, bNot, bYes, eP, eMv, eFr, pVar, pC, pOp2, pOp1, eOp2, eOpP, eOpPP, eOpN, eOpV, eIx, eIxP, pBi, pAll, eBi, eBiP, takeA, valsA, aE, aS, aNil, eTup, eLst, eCall, callA, putA, gN, gT, gTu, gSt, lVar, lIx, eMt, eMt0, opLt, opLe, opGt, opGe, opSub, modI, eqI, eqS, neI, neS, opIsN, opNotN, D.stable, stableL, D.imm, immL, D.frz, frzL, pSl, pPart, ePO, List.set_cons_zero, List.set_cons_succ, List.getD_cons_zero, List.getD_cons_succ, getP_nil, putP_nil, eMtL, pAll, wipeD, l1, l2], rfl⟩
    simp [m__law_text, b__law_text, fnM, outs, sSeq, sIf, sAsg, sRet, sRetN, sNil, sExp, sNo, bP, bV, bAnd, bOr, bNot, bYes, eP, eMv, eFr, pVar, pC, pOp2, pOp1, eOp2, eOpP, eOpPP, eOpN, eOpV, eIx, eIxP, pBi, pAll, eBi, eBiP, takeA, valsA, aE, aS, aNil, eTup, eLst, eCall, callA, putA, gN, gT, gTu, gSt, lVar, lIx, eMt, eMt0, opLt, opLe, opGt, opGe, opSub, modI, eqI, eqS, neI, neS, opIsN, opNotN, D.stable, stableL, D.imm, immL, D.frz, frzL, pSl, pPart, ePO, List.set_cons_zero, List.set_cons_succ, List.getD_cons_zero, List.getD_cons_succ, getP_nil, putP_nil, eMtL, pAll, eSm, hc, hj]
end Lk

set_option Elab.async false
set_option linter.all false
set_option maxRecDepth 100000
set_option maxHeartbeats 4000000
namespace Lk
open PySem Dl
/-! A01: is_between, is_word, is_recipe, is_part of any data -/
/-- what may be asked -/
def pl : D → Bool
  | .non => true
  | .bl _ => true
  | .int _ => true
  | .str s => decide (s.length ≤ 10000)
  | .tup xs => decide (xs.length ≤ 1000)
  | .lst _ _ => true
  | .dic _ .k _ _ => true
  | _ => false
def betB (lo hi : Int) : D → Bool
  | .int i => decide (lo ≤ i) && decide (i ≤ hi)
  | _ => false
def wordD : D → Bool
  | .str s => wordB s
  | _ => false
def lohi (w : Str) : Option (Int × Int) := if w = "plus" then some (1, 4) else if w = "times" then some (1, 4) else if w = "most" then some (1, 4) else if w = "less" then some (2, 2) else none
def opB (w : Str) : D → Bool
  | .tup ns => match lohi w with
    | some (lo, hi) => decide (lo ≤ (ns.length : Int)) && decide ((ns.length : Int) ≤ hi) && ns.all wordD
    | none => false
  | _ => false
def recB2 : D → D → Bool
  | .str w, b => if w = "leaf" then betB 0 99 b else opB w b
  | _, _ => false
def recB : D → Bool
  | .tup [a, b] => recB2 a b
  | _ => false
def partB : D → Bool
  | .tup [a, b, c, e] => wordD a && (recB b && (betB 1 9 c && betB 1 9 e))
  | _ => false
theorem between_any (d : D) (lo hi : Int) (h : pl d = true) (hs : d.stable = true) : m_is_between [d, .int lo, .int hi] = some (.bl (betB lo hi d), [d, .int lo, .int hi]) := by
  cases d with
  | int i =>
    have i1 : opIsi "int" (.int i) = some (.bl true) := rfl
    have i2 : opIsi "bool" (.int i) = some (.bl false) := rfl
    by_cases h1 : lo ≤ i <;> simp [m_is_between, b_is_between, fnM, outs, sSeq, sIf, sAsg, sRet, sRetN, sNil, sExp, sNo, bP, bV, bAnd, bOr, bNot, bYes, eP, eMv, eFr, pVar, pC, pOp2, pOp1, eOp2, eOpP, eOpPP, eOpN, eOpV, eIx, eIxP, pBi, pAll, eBi, eBiP, takeA, valsA, aE, aS, aNil, eTup, eLst, eCall, callA, putA, gN, gT, gTu, gSt, lVar, lIx, getP, putP, getS, putS, eMt, eMt0, mAppend, opPut, opIx, atD, L2.atI, L2.ixN, opLen, opLt, opLe, opGt, opGe, opSub, modI, eqI, eqS, neI, neS, opIsN, opNotN, D.stable, stableL, D.imm, immL, D.frz, frzL, pSl, pPart, ePO, opSl, List.set_cons_zero, List.set_cons_succ, List.getD_cons_zero, List.getD_cons_succ, pAndV, pNotV, pIsi, pCh, i1, i2, betB, h1]
  | bl b =>
    have i1 : opIsi "int" (.bl b) = some (.bl true) := rfl
    have i2 : opIsi "bool" (.bl b) = some (.bl true) := rfl
    simp [m_is_between, b_is_between, fnM, outs, sSeq, sIf, sAsg, sRet, sRetN, sNil, sExp, sNo, bP, bV, bAnd, bOr, bNot, bYes, eP, eMv, eFr, pVar, pC, pOp2, pOp1, eOp2, eOpP, eOpPP, eOpN, eOpV, eIx, eIxP, pBi, pAll, eBi, eBiP, takeA, valsA, aE, aS, aNil, eTup, eLst, eCall, callA, putA, gN, gT, gTu, gSt, lVar, lIx, getP, putP, getS, putS, eMt, eMt0, mAppend, opPut, opIx, atD, L2.atI, L2.ixN, opLen, opLt, opLe, opGt, opGe, opSub, modI, eqI, eqS, neI, neS, opIsN, opNotN, D.stable, stableL, D.imm, immL, D.frz, frzL, pSl, pPart, ePO, opSl, List.set_cons_zero, List.set_cons_succ, List.getD_cons_zero, List.getD_cons_succ, pAndV, pNotV, pIsi, pCh, i1, i2, betB]
  | non =>
    have i1 : opIsi "int" .non = some (.bl false) := rfl
    simp [m_is_between, b_is_between, fnM, outs, sSeq, sIf, sAsg, sRet, sRetN, sNil, sExp, sNo, bP, bV, bAnd, bOr, bNot, bYes, eP, eMv, eFr, pVar, pC, pOp2, pOp1, eOp2, eOpP, eOpPP, eOpN, eOpV, eIx, eIxP, pBi, pAll, eBi, eBiP, takeA, valsA, aE, aS, aNil, eTup, eLst, eCall, callA, putA, gN, gT, gTu, gSt, lVar, lIx, getP, putP, getS, putS, eMt, eMt0, mAppend, opPut, opIx, atD, L2.atI, L2.ixN, opLen, opLt, opLe, opGt, opGe, opSub, modI, eqI, eqS, neI, neS, opIsN, opNotN, D.stable, stableL, D.imm, immL, D.frz, frzL, pSl, pPart, ePO, opSl, List.set_cons_zero, List.set_cons_succ, List.getD_cons_zero, List.getD_cons_succ, pAndV, pNotV, pIsi, pCh, i1, betB]
  | str s =>
    have i1 : opIsi "int" (.str s) = some (.bl false) := rfl
    simp [m_is_between, b_is_between, fnM, outs, sSeq, sIf, sAsg, sRet, sRetN, sNil, sExp, sNo, bP, bV, bAnd, bOr, bNot, bYes, eP, eMv, eFr, pVar, pC, pOp2, pOp1, eOp2, eOpP, eOpPP, eOpN, eOpV, eIx, eIxP, pBi, pAll, eBi, eBiP, takeA, valsA, aE, aS, aNil, eTup, eLst, eCall, callA, putA, gN, gT, gTu, gSt, lVar, lIx, getP, putP, getS, putS, eMt, eMt0, mAppend, opPut, opIx, atD, L2.atI, L2.ixN, opLen, opLt, opLe, opGt, opGe, opSub, modI, eqI, eqS, neI, neS, opIsN, opNotN, D.stable, stableL, D.imm, immL, D.frz, frzL, pSl, pPart, ePO, opSl, List.set_cons_zero, List.set_cons_succ, List.getD_cons_zero, List.getD_cons_succ, pAndV, pNotV, pIsi, pCh, i1, betB]
  | tup s =>
    have i1 : opIsi "int" (.tup s) = some (.bl false) := rfl
    simp [m_is_between, b_is_between, fnM, outs, sSeq, sIf, sAsg, sRet, sRetN, sNil, sExp, sNo, bP, bV, bAnd, bOr, bNot, bYes, eP, eMv, eFr, pVar, pC, pOp2, pOp1, eOp2, eOpP, eOpPP, eOpN, eOpV, eIx, eIxP, pBi, pAll, eBi, eBiP, takeA, valsA, aE, aS, aNil, eTup, eLst, eCall, callA, putA, gN, gT, gTu, gSt, lVar, lIx, getP, putP, getS, putS, eMt, eMt0, mAppend, opPut, opIx, atD, L2.atI, L2.ixN, opLen, opLt, opLe, opGt, opGe, opSub, modI, eqI, eqS, neI, neS, opIsN, opNotN, D.stable, stableL, D.imm, immL, D.frz, frzL, pSl, pPart, ePO, opSl, List.set_cons_zero, List.set_cons_succ, List.getD_cons_zero, List.getD_cons_succ, pAndV, pNotV, pIsi, pCh, i1, betB]
  | lst o s =>
    have i1 : opIsi "int" (.lst o s) = some (.bl false) := rfl
    simp [m_is_between, b_is_between, fnM, outs, sSeq, sIf, sAsg, sRet, sRetN, sNil, sExp, sNo, bP, bV, bAnd, bOr, bNot, bYes, eP, eMv, eFr, pVar, pC, pOp2, pOp1, eOp2, eOpP, eOpPP, eOpN, eOpV, eIx, eIxP, pBi, pAll, eBi, eBiP, takeA, valsA, aE, aS, aNil, eTup, eLst, eCall, callA, putA, gN, gT, gTu, gSt, lVar, lIx, getP, putP, getS, putS, eMt, eMt0, mAppend, opPut, opIx, atD, L2.atI, L2.ixN, opLen, opLt, opLe, opGt, opGe, opSub, modI, eqI, eqS, neI, neS, opIsN, opNotN, D.stable, stableL, D.imm, immL, D.frz, frzL, pSl, pPart, ePO, opSl, List.set_cons_zero, List.set_cons_succ, List.getD_cons_zero, List.getD_cons_succ, pAndV, pNotV, pIsi, pCh, i1, betB]
  | dic o kd ks vs =>
    cases kd with
    | t => simp [pl] at h
    | n => simp [pl] at h
    | k =>
      have i1 : opIsi "int" (.dic o .k ks vs) = some (.bl false) := rfl
      simp [m_is_between, b_is_between, fnM, outs, sSeq, sIf, sAsg, sRet, sRetN, sNil, sExp, sNo, bP, bV, bAnd, bOr, bNot, bYes, eP, eMv, eFr, pVar, pC, pOp2, pOp1, eOp2, eOpP, eOpPP, eOpN, eOpV, eIx, eIxP, pBi, pAll, eBi, eBiP, takeA, valsA, aE, aS, aNil, eTup, eLst, eCall, callA, putA, gN, gT, gTu, gSt, lVar, lIx, getP, putP, getS, putS, eMt, eMt0, mAppend, opPut, opIx, atD, L2.atI, L2.ixN, opLen, opLt, opLe, opGt, opGe, opSub, modI, eqI, eqS, neI, neS, opIsN, opNotN, D.stable, stableL, D.imm, immL, D.frz, frzL, pSl, pPart, ePO, opSl, List.set_cons_zero, List.set_cons_succ, List.getD_cons_zero, List.getD_cons_succ, pAndV, pNotV, pIsi, pCh, i1, betB]
  | obj => simp [pl] at h
  | scr => simp [pl] at h
  | exn => simp [pl] at h
  | ptr => simp [pl] at h
  | lat => simp [pl] at h
  | dlk => simp [pl] at h
theorem letters_eq : ("abcdefghijklmnopqrstuvwxyz" : Str).cps.toList = List.range' 97 26 := by decide +kernel
theorem in_letters (c : Nat) : opIn (.str ⟨#[c]⟩) (.str "abcdefghijklmnopqrstuvwxyz") = some (.bl (decide (97 ≤ c ∧ c ≤ 122))) := by
  show some (D.bl (decide (c ∈ ("abcdefghijklmnopqrstuvwxyz" : Str).cps.toList))) = _
  rw [letters_eq]
  congr 2
  rw [decide_eq_decide, List.mem_range'_1]
  omega
theorem all_bls {α : Type} (l : List α) (p : α → Bool) : opAll [.lst true (l.map fun x => D.bl (p x))] = some (.bl (l.all p)) := by
  show (match blsL (l.map fun x => D.bl (p x)) with | some l => some (D.bl (l.all id)) | none => none) = _
  rw [bls_map p]
  simp [List.all_map, Function.comp_def]
theorem word_any (d : D) (h : pl d = true) (hs : d.stable = true) : m_is_word [d] = some (.bl (wordD d), [d]) := by
  cases d with
  | str w =>
    have hz : w.length ≤ 10000 := by simpa [pl] using h
    have i1 : opIsi "str" (.str w) = some (.bl true) := rfl
    have hl : opLen [.str w] = some (.int (w.length : Int)) := by
      show (if w.length ≤ 16777216 then _ else none) = _
      rw [if_pos (by omega)]
    have l1 : opLe (.int 1) (.int (w.length : Int)) = some (.bl (decide (1 ≤ (w.length : Int)))) := rfl
    have l2 : opLe (.int (w.length : Int)) (.int 8) = some (.bl (decide ((w.length : Int) ≤ 8))) := rfl
    have hc : eCompS (pVar 0) (gN 1) bYes x1_is_word [1] [some (.str w), none] = some (.lst true (w.cps.toList.map fun c => D.bl (decide (97 ≤ c ∧ c ≤ 122))), [some (.str w), none]) := by
      refine compS_M rfl hz fun c hc => ⟨_, rfl, [some (.str w), some (.str ⟨#[c]⟩)], ?_, rfl⟩
      have hin := in_letters c
      generalize decide (97 ≤ c ∧ c ≤ 122) = q at hin ⊢
      simp [x1_is_word, eP, pOp2, pVar, pC, wipeD, hin, D.stable]
    have ha := all_bls w.cps.toList fun c => decide (97 ≤ c ∧ c ≤ 122)
    have hq : eBi opAll (aE (eCompS (pVar 0) (gN 1) bYes x1_is_word [1]) aNil) [some (.str w), none] = some (.bl (w.cps.toList.all fun c => decide (97 ≤ c ∧ c ≤ 122)), [some (.str w), none]) := by
      simp only [eBi, aE, hc, aNil, takeA]
      rw [ha]
    show _ = some (D.bl (wordB w), _)
    unfold wordB
    by_cases h1 : 1 ≤ w.length
    · have h1' : decide (1 ≤ (w.length : Int)) = true := decide_eq_true (by omega)
      rw [h1'] at l1
      by_cases h2 : w.length ≤ 8
      · have h2' : decide ((w.length : Int) ≤ 8) = true := decide_eq_true (by omega)
        rw [h2'] at l2
        rw [decide_eq_true (show 1 ≤ w.length ∧ w.length ≤ 8 from ⟨h1, h2⟩), Bool.true_and]
        generalize (w.cps.toList.all fun c => decide (97 ≤ c ∧ c ≤ 122)) = q at hq
        simp [m_is_word, b_is_word, eAndV, hq, fnM, sRet, eP, pIsi, pOp1, pVar, pCh, pC, pBi, pAll, i1, hl, D.stable, outs, l1, l2]
      · have h2' : decide ((w.length : Int) ≤ 8) = false := decide_eq_false (by omega)
        rw [h2'] at l2
        rw [decide_eq_false (show ¬ (1 ≤ w.length ∧ w.length ≤ 8) from fun z => h2 z.2), Bool.false_and]
        simp [m_is_word, b_is_word, eAndV, fnM, sRet, eP, pIsi, pOp1, pVar, pCh, pC, pBi, pAll, i1, hl, D.stable, outs, l1, l2]
    · have h1' : decide (1 ≤ (w.length : Int)) = false := decide_eq_false (by omega)
      rw [h1'] at l1
      rw [decide_eq_false (show ¬ (1 ≤ w.length ∧ w.length ≤ 8) from fun z => h1 z.1), Bool.false_and]
      simp [m_is_word, b_is_word, eAndV, fnM, sRet, eP, pIsi, pOp1, pVar, pCh, pC, pBi, pAll, i1, hl, D.stable, outs, l1, l2]
  | bl b =>
    have i1 : opIsi "str" (.bl b) = some (.bl false) := rfl
    simp [m_is_word, b_is_word, fnM, outs, sSeq, sIf, sAsg, sRet, sRetN, sNil, sExp, sNo, bP, bV, bAnd, bOr, bNot, bYes, eP, eMv, eFr, pVar, pC, pOp2, pOp1, eOp2, eOpP, eOpPP, eOpN, eOpV, eIx, eIxP, pBi, pAll, eBi, eBiP, takeA, valsA, aE, aS, aNil, eTup, eLst, eCall, callA, putA, gN, gT, gTu, gSt, lVar, lIx, getP, putP, getS, putS, eMt, eMt0, mAppend, opPut, opIx, atD, L2.atI, L2.ixN, opLen, opLt, opLe, opGt, opGe, opSub, modI, eqI, eqS, neI, neS, opIsN, opNotN, D.stable, stableL, D.imm, immL, D.frz, frzL, pSl, pPart, ePO, opSl, List.set_cons_zero, List.set_cons_succ, List.getD_cons_zero, List.getD_cons_succ, pIsi, eAndV, i1, wordD]
  | int b =>
    have i1 : opIsi "str" (.int b) = some (.bl false) := rfl
    simp [m_is_word, b_is_word, fnM, outs, sSeq, sIf, sAsg, sRet, sRetN, sNil, sExp, sNo, bP, bV, bAnd, bOr, bNot, bYes, eP, eMv, eFr, pVar, pC, pOp2, pOp1, eOp2, eOpP, eOpPP, eOpN, eOpV, eIx, eIxP, pBi, pAll, eBi, eBiP, takeA, valsA, aE, aS, aNil, eTup, eLst, eCall, callA, putA, gN, gT, gTu, gSt, lVar, lIx, getP, putP, getS, putS, eMt, eMt0, mAppend, opPut, opIx, atD, L2.atI, L2.ixN, opLen, opLt, opLe, opGt, opGe, opSub, modI, eqI, eqS, neI, neS, opIsN, opNotN, D.stable, stableL, D.imm, immL, D.frz, frzL, pSl, pPart, ePO, opSl, List.set_cons_zero, List.set_cons_succ, List.getD_cons_zero, List.getD_cons_succ, pIsi, eAndV, i1, wordD]
  | non =>
    have i1 : opIsi "str" .non = some (.bl false) := rfl
    simp [m_is_word, b_is_word, fnM, outs, sSeq, sIf, sAsg, sRet, sRetN, sNil, sExp, sNo, bP, bV, bAnd, bOr, bNot, bYes, eP, eMv, eFr, pVar, pC, pOp2, pOp1, eOp2, eOpP, eOpPP, eOpN, eOpV, eIx, eIxP, pBi, pAll, eBi, eBiP, takeA, valsA, aE, aS, aNil, eTup, eLst, eCall, callA, putA, gN, gT, gTu, gSt, lVar, lIx, getP, putP, getS, putS, eMt, eMt0, mAppend, opPut, opIx, atD, L2.atI, L2.ixN, opLen, opLt, opLe, opGt, opGe, opSub, modI, eqI, eqS, neI, neS, opIsN, opNotN, D.stable, stableL, D.imm, immL, D.frz, frzL, pSl, pPart, ePO, opSl, List.set_cons_zero, List.set_cons_succ, List.getD_cons_zero, List.getD_cons_succ, pIsi, eAndV, i1, wordD]
  | tup s =>
    have i1 : opIsi "str" (.tup s) = some (.bl false) := rfl
    simp [m_is_word, b_is_word, fnM, outs, sSeq, sIf, sAsg, sRet, sRetN, sNil, sExp, sNo, bP, bV, bAnd, bOr, bNot, bYes, eP, eMv, eFr, pVar, pC, pOp2, pOp1, eOp2, eOpP, eOpPP, eOpN, eOpV, eIx, eIxP, pBi, pAll, eBi, eBiP, takeA, valsA, aE, aS, aNil, eTup, eLst, eCall, callA, putA, gN, gT, gTu, gSt, lVar, lIx, getP, putP, getS, putS, eMt, eMt0, mAppend, opPut, opIx, atD, L2.atI, L2.ixN, opLen, opLt, opLe, opGt, opGe, opSub, modI, eqI, eqS, neI, neS, opIsN, opNotN, D.stable, stableL, D.imm, immL, D.frz, frzL, pSl, pPart, ePO, opSl, List.set_cons_zero, List.set_cons_succ, List.getD_cons_zero, List.getD_cons_succ, pIsi, eAndV, i1, wordD]
  | lst o s =>
    have i1 : opIsi "str" (.lst o s) = some (.bl false) := rfl
    simp [m_is_word, b_is_word, fnM, outs, sSeq, sIf, sAsg, sRet, sRetN, sNil, sExp, sNo, bP, bV, bAnd, bOr, bNot, bYes, eP, eMv, eFr, pVar, pC, pOp2, pOp1, eOp2, eOpP, eOpPP, eOpN, eOpV, eIx, eIxP, pBi, pAll, eBi, eBiP, takeA, valsA, aE, aS, aNil, eTup, eLst, eCall, callA, putA, gN, gT, gTu, gSt, lVar, lIx, getP, putP, getS, putS, eMt, eMt0, mAppend, opPut, opIx, atD, L2.atI, L2.ixN, opLen, opLt, opLe, opGt, opGe, opSub, modI, eqI, eqS, neI, neS, opIsN, opNotN, D.stable, stableL, D.imm, immL, D.frz, frzL, pSl, pPart, ePO, opSl, List.set_cons_zero, List.set_cons_succ, List.getD_cons_zero, List.getD_cons_succ, pIsi, eAndV, i1, wordD]
  | dic o kd ks vs =>
    cases kd with
    | t => simp [pl] at h
    | n => simp [pl] at h
    | k =>
      have i1 : opIsi "str" (.dic o .k ks vs) = some (.bl false) := rfl
      simp [m_is_word, b_is_word, fnM, outs, sSeq, sIf, sAsg, sRet, sRetN, sNil, sExp, sNo, bP, bV, bAnd, bOr, bNot, bYes, eP, eMv, eFr, pVar, pC, pOp2, pOp1, eOp2, eOpP, eOpPP, eOpN, eOpV, eIx, eIxP, pBi, pAll, eBi, eBiP, takeA, valsA, aE, aS, aNil, eTup, eLst, eCall, callA, putA, gN, gT, gTu, gSt, lVar, lIx, getP, putP, getS, putS, eMt, eMt0, mAppend, opPut, opIx, atD, L2.atI, L2.ixN, opLen, opLt, opLe, opGt, opGe, opSub, modI, eqI, eqS, neI, neS, opIsN, opNotN, D.stable, stableL, D.imm, immL, D.frz, frzL, pSl, pPart, ePO, opSl, List.set_cons_zero, List.set_cons_succ, List.getD_cons_zero, List.getD_cons_succ, pIsi, eAndV, i1, wordD]
  | obj => simp [pl] at h
  | scr => simp [pl] at h
  | exn => simp [pl] at h
  | ptr => simp [pl] at h
  | lat => simp [pl] at h
  | dlk => simp [pl] at h
end Lk

set_option Elab.async false
set_option linter.all false
set_option maxRecDepth 100000
set_option maxHeartbeats 4000000
namespace Lk
open PySem Dl
/-! B01: is_recipe, is_part of any data -/
theorem isi_tup_no (d : D) (h : pl d = true) (hn : ∀ xs, d ≠ .tup xs) : opIsi "tuple" d = some (.bl false) := by
  cases d with
  | tup xs => exact absurd rfl (hn xs)
  | dic o kd ks vs =>
    cases kd with
    | t => simp [pl] at h
    | n => simp [pl] at h
    | k => rfl
  | obj => simp [pl] at h
  | scr => simp [pl] at h
  | exn => simp [pl] at h
  | ptr => simp [pl] at h
  | lat => simp [pl] at h
  | dlk => simp [pl] at h
  | _ => rfl
theorem isi_str_no (d : D) (h : pl d = true) (hn : ∀ s, d ≠ .str s) : opIsi "str" d = some (.bl false) := by
  cases d with
  | str xs => exact absurd rfl (hn xs)
  | dic o kd ks vs =>
    cases kd with
    | t => simp [pl] at h
    | n => simp [pl] at h
    | k => rfl
  | obj => simp [pl] at h
  | scr => simp [pl] at h
  | exn => simp [pl] at h
  | ptr => simp [pl] at h
  | lat => simp [pl] at h
  | dlk => simp [pl] at h
  | _ => rfl
theorem len_tup (xs : List D) : opLen [.tup xs] = some (.int (xs.length : Int)) := rfl
theorem rec_not_tup (d : D) (h : pl d = true) (hn : ∀ xs, d ≠ .tup xs) : m_is_recipe [d] = some (.bl false, [d]) := by
  have i1 := isi_tup_no d h hn
  simp [m_is_recipe, b_is_recipe, fnM, outs, sSeq, sIf, sAsg, sRet, sRetN, sNil, sExp, sNo, bP, bV, bAnd, bOr, bNot, bYes, eP, eMv, eFr, pVar, pC, pOp2, pOp1, eOp2, eOpP, eOpPP, eOpN, eOpV, eIx, eIxP, pBi, pAll, eBi, eBiP, takeA, valsA, aE, aS, aNil, eTup, eLst, eCall, callA, putA, gN, gT, gTu, gSt, lVar, lIx, eMt, eMt0, opLt, opLe, opGt, opGe, opSub, modI, eqI, eqS, neI, neS, opIsN, opNotN, D.stable, stableL, D.imm, immL, D.frz, frzL, pSl, pPart, ePO, List.set_cons_zero, List.set_cons_succ, List.getD_cons_zero, List.getD_cons_succ, getP_nil, putP_nil, eMtL, pAll, pIsi, i1]
theorem rec_not_2 (xs : List D) (hn : xs.length ≠ 2) : m_is_recipe [.tup xs] = some (.bl false, [.tup xs]) := by
  have i1 : opIsi "tuple" (.tup xs) = some (.bl true) := rfl
  have i2 := len_tup xs
  have i3 : opNe (.int (xs.length : Int)) (.int 2) = some (.bl true) := by
    rw [neI, decide_eq_false (show ¬ (xs.length : Int) = 2 by omega)]; rfl
  generalize D.tup xs = X at *
  simp [m_is_recipe, b_is_recipe, fnM, outs, sSeq, sIf, sRet, sNil, bP, bNot, bOr, pOp2, pOp1, pVar, pC, pBi, pAll, pIsi, eP, D.stable, i1, i2, i3]
theorem rec_not_str (a b : D) (h : pl a = true) (hn : ∀ s, a ≠ .str s) : m_is_recipe [.tup [a, b]] = some (.bl false, [.tup [a, b]]) := by
  have i1 : opIsi "tuple" (.tup [a, b]) = some (.bl true) := rfl
  have i2 : opLen [.tup [a, b]] = some (.int 2) := rfl
  have i3 : opNe (.int 2) (.int 2) = some (.bl false) := rfl
  have i4 : opIx (.tup [a, b]) (.int 0) = some a := rfl
  have i5 := isi_str_no a h hn
  generalize D.tup [a, b] = X at *
  simp [m_is_recipe, b_is_recipe, fnM, outs, sSeq, sIf, sRet, sNil, bP, bNot, bOr, pOp2, pOp1, pVar, pC, pBi, pAll, pIsi, eP, D.stable, i1, i2, i3, i4, i5]
theorem rec_leaf (b : D) (h : pl b = true) (hs : b.stable = true) : m_is_recipe [.tup [.str "leaf", b]] = some (.bl (betB 0 99 b), [.tup [.str "leaf", b]]) := by
  have i1 : opIsi "tuple" (.tup [.str "leaf", b]) = some (.bl true) := rfl
  have i2 : opLen [.tup [.str "leaf", b]] = some (.int 2) := rfl
  have i3 : opNe (.int 2) (.int 2) = some (.bl false) := rfl
  have i4 : opIx (.tup [.str "leaf", b]) (.int 0) = some (.str "leaf") := rfl
  have i6 : opIx (.tup [.str "leaf", b]) (.int 1) = some b := rfl
  have i5 : opIsi "str" (.str "leaf") = some (.bl true) := rfl
  have i7 : opSub (.int 100) (.int 1) = some (.int 99) := rfl
  have e : opEq (.str "leaf") (.str "leaf") = some (.bl true) := rfl
  have hb := between_any b 0 99 h hs
  generalize D.tup [.str "leaf", b] = X at *
  simp [m_is_recipe, b_is_recipe, fnM, outs, sSeq, sIf, sAsg, sRet, sRetN, sNil, sExp, sNo, bP, bV, bAnd, bOr, bNot, bYes, eP, eMv, eFr, pVar, pC, pOp2, pOp1, eOp2, eOpP, eOpPP, eOpN, eOpV, eIx, eIxP, pBi, pAll, eBi, eBiP, takeA, valsA, aE, aS, aNil, eTup, eLst, eCall, callA, putA, gN, gT, gTu, gSt, lVar, lIx, eMt, eMt0, opSub, modI, eqI, eqS, neI, neS, opIsN, opNotN, D.stable, stableL, D.imm, immL, D.frz, frzL, pSl, pPart, ePO, List.set_cons_zero, List.set_cons_succ, List.getD_cons_zero, List.getD_cons_succ, getP_nil, putP_nil, eMtL, pAll, pIsi, i1, i2, i3, i4, i5, i6, i7, e, hb, hs]
theorem gin_no (w : Str) (h : lohi w = none) : opGIn true [("plus", 4), ("times", 4), ("most", 4), ("less", 2)] (.str w) = some (.bl true) := by
  unfold lohi at h
  split at h
  · cases h
  · rename_i h1
    split at h
    · cases h
    · rename_i h2
      split at h
      · cases h
      · rename_i h3
        split at h
        · cases h
        · rename_i h4
          simp [opGIn, h1, h2, h3, h4]
theorem gin_yes (w : Str) (lo hi : Int) (h : lohi w = some (lo, hi)) : opGIn true [("plus", 4), ("times", 4), ("most", 4), ("less", 2)] (.str w) = some (.bl false) ∧ opGIx [("plus", 1), ("times", 1), ("most", 1), ("less", 2)] (.str w) = some (.int lo) ∧ opGIx [("plus", 4), ("times", 4), ("most", 4), ("less", 2)] (.str w) = some (.int hi) := by
  unfold lohi at h
  split at h
  · rename_i e; cases h; subst e; exact ⟨by decide +kernel, by decide +kernel, by decide +kernel⟩
  · split at h
    · rename_i e; cases h; subst e; exact ⟨by decide +kernel, by decide +kernel, by decide +kernel⟩
    · split at h
      · rename_i e; cases h; subst e; exact ⟨by decide +kernel, by decide +kernel, by decide +kernel⟩
      · split at h
        · rename_i e; cases h; subst e; exact ⟨by decide +kernel, by decide +kernel, by decide +kernel⟩
        · cases h
theorem rec_op (w : Str) (b : D) (hw : ¬ w = "leaf") (h : pl b = true) (hs : b.stable = true) (hp : ∀ xs, b = .tup xs → ∀ x ∈ xs, pl x = true) : m_is_recipe [.tup [.str w, b]] = some (.bl (opB w b), [.tup [.str w, b]]) := by
  have i1 : opIsi "tuple" (.tup [.str w, b]) = some (.bl true) := rfl
  have i2 : opLen [.tup [.str w, b]] = some (.int 2) := rfl
  have i3 : opNe (.int 2) (.int 2) = some (.bl false) := rfl
  have i4 : opIx (.tup [.str w, b]) (.int 0) = some (.str w) := rfl
  have i6 : opIx (.tup [.str w, b]) (.int 1) = some b := rfl
  have i5 : opIsi "str" (.str w) = some (.bl true) := rfl
  have e : opEq (.str w) (.str "leaf") = some (.bl false) := by rw [eqS, decide_eq_false hw]
  have g0 : ∀ X : D, (D.tup [.str w, b]).stable = true := fun _ => by simp [D.stable, stableL, hs]
  have hst := g0 .non
  cases hl : lohi w with
  | none =>
    have g1 := gin_no w hl
    have hv : opB w b = false := by
      unfold opB
      split
      · rw [hl]
      · rfl
    rw [hv]
    generalize D.tup [.str w, b] = X at *
    simp [m_is_recipe, b_is_recipe, fnM, outs, sSeq, sIf, sRet, sNil, bP, bNot, bOr, pOp2, pOp1, pVar, pC, pBi, pAll, pIsi, eP, D.stable, pGIn, i1, i2, i3, i4, i5, e, g1]
  | some q =>
    obtain ⟨lo, hi⟩ := q
    obtain ⟨g1, g2, g3⟩ := gin_yes w lo hi hl
    by_cases ht : ∃ ns, b = .tup ns
    · obtain ⟨ns, rfl⟩ := ht
      have i8 : opIsi "tuple" (.tup ns) = some (.bl true) := rfl
      have i9 := len_tup ns
      have hz : ns.length ≤ 1000 := by simpa [pl] using h
      have hc : eComp (eP (pOp2 opIx (pVar 0) (pC (.int 1)))) (gN 1) bYes x1_is_recipe [1] [some (.tup [.str w, .tup ns]), none] = some (.lst true (ns.map fun x => D.bl (wordD x)), [some (.tup [.str w, .tup ns]), none]) := by
        refine comp_M (c := id) (f := fun x => D.bl (wordD x)) (ρ1 := [some (.tup [.str w, .tup ns]), none]) (d := .tup ns) (eP_of ((pOp2_of (op := opIx) rfl rfl).trans i6) hs) (by rw [D.frz_of_stable _ hs, List.map_id]; rfl) (by omega) fun x hx => ?_
        have hxs : x.stable = true := by
          have : stableL ns = true := by simpa [D.stable] using hs
          rw [stableL_all] at this
          exact List.all_eq_true.mp this x hx
        have hx' := word_any x (hp ns rfl x hx) hxs
        refine ⟨_, rfl, [some (.tup [.str w, .tup ns]), some x], ?_, rfl⟩
        simp [x1_is_recipe, fnM, outs, sSeq, sIf, sAsg, sRet, sRetN, sNil, sExp, sNo, bP, bV, bAnd, bOr, bNot, bYes, eP, eMv, eFr, pVar, pC, pOp2, pOp1, eOp2, eOpP, eOpPP, eOpN, eOpV, eIx, eIxP, pBi, pAll, eBi, eBiP, takeA, valsA, aE, aS, aNil, eTup, eLst, eCall, callA, putA, gN, gT, gTu, gSt, lVar, lIx, eMt, eMt0, opLt, opLe, opGt, opGe, opSub, modI, eqI, eqS, neI, neS, opIsN, opNotN, D.stable, stableL, D.imm, immL, D.frz, frzL, pSl, pPart, ePO, List.set_cons_zero, List.set_cons_succ, List.getD_cons_zero, List.getD_cons_succ, getP_nil, putP_nil, eMtL, pAll, wipeD, hx']
      have ha := all_bls ns wordD
      have l1 : opLe (.int lo) (.int (ns.length : Int)) = some (.bl (decide (lo ≤ (ns.length : Int)))) := rfl
      have l2 : opLe (.int (ns.length : Int)) (.int hi) = some (.bl (decide ((ns.length : Int) ≤ hi))) := rfl
      have hv : opB w (.tup ns) = (decide (lo ≤ (ns.length : Int)) && decide ((ns.length : Int) ≤ hi) && ns.all wordD) := by
        unfold opB
        simp only [hl]
      rw [hv]
      generalize hX : D.tup [.str w, .tup ns] = X at *
      have hq : eBi opAll (aE (eComp (eP (pOp2 opIx (pVar 0) (pC (.int 1)))) (gN 1) bYes x1_is_recipe [1]) aNil) [some X, none] = some (.bl (ns.all wordD), [some X, none]) := by
        simp only [eBi, aE, hc, aNil, takeA]
        rw [ha]
      generalize D.tup ns = N at *
      generalize ns.all wordD = q at *
      have hst2 : sRet (eBi opAll (aE (eComp (eP (pOp2 opIx (pVar 0) (pC (.int 1)))) (gN 1) bYes x1_is_recipe [1]) aNil)) [some X, none] = some (.rt (.bl q), [some X, none]) := sRet_of hq
      by_cases c1 : lo ≤ (ns.length : Int)
      · rw [decide_eq_true c1] at l1 ⊢
        by_cases c2 : (ns.length : Int) ≤ hi
        · rw [decide_eq_true c2] at l2 ⊢
          rw [Bool.true_and, Bool.true_and]
          simp [m_is_recipe, b_is_recipe, fnM, outs, sSeq, sIf, sNil, bP, bNot, bOr, pOp2, pOp1, pVar, pC, pBi, pAll, pIsi, pGIn, pGIx, pCh, i1, i2, i3, i4, i5, i6, i8, i9, e, g1, g2, g3, l1, l2, hst2]
        · rw [decide_eq_false c2] at l2 ⊢
          simp [m_is_recipe, b_is_recipe, fnM, outs, sSeq, sIf, sNil, sRet, eP, D.stable, bP, bNot, bOr, pOp2, pOp1, pVar, pC, pBi, pAll, pIsi, pGIn, pGIx, pCh, i1, i2, i3, i4, i5, i6, i8, i9, e, g1, g2, g3, l1, l2]
      · rw [decide_eq_false c1] at l1 ⊢
        simp [m_is_recipe, b_is_recipe, fnM, outs, sSeq, sIf, sNil, sRet, eP, D.stable, bP, bNot, bOr, pOp2, pOp1, pVar, pC, pBi, pAll, pIsi, pGIn, pGIx, pCh, i1, i2, i3, i4, i5, i6, i8, i9, e, g1, g2, g3, l1, l2]
    · have hn : ∀ xs, b ≠ .tup xs := fun xs z => ht ⟨xs, z⟩
      have i8 := isi_tup_no b h hn
      have hv : opB w b = false := by
        unfold opB
        split
        · exact absurd rfl (hn _)
        · rfl
      rw [hv]
      generalize D.tup [.str w, b] = X at *
      simp [m_is_recipe, b_is_recipe, fnM, outs, sSeq, sIf, sRet, sNil, bP, bNot, bOr, pOp2, pOp1, pVar, pC, pBi, pAll, pIsi, eP, D.stable, pGIn, i1, i2, i3, i4, i5, i6, i8, e, g1]
/-- plain, three deep -/
def pls : D → Prop
  | .tup xs => pl (.tup xs) = true ∧ ∀ x ∈ xs, pl x = true ∧ ∀ ys, x = .tup ys → ∀ y ∈ ys, pl y = true
  | d => pl d = true
theorem pls_pl {d : D} (h : pls d) : pl d = true := by
  cases d <;> first | exact h.1 | exact h
theorem rec_any (d : D) (h : pls d) (hs : d.stable = true) : m_is_recipe [d] = some (.bl (recB d), [d]) := by
  by_cases ht : ∃ xs, d = .tup xs
  · obtain ⟨xs, rfl⟩ := ht
    by_cases h2 : xs.length = 2
    · obtain ⟨a, b, rfl⟩ : ∃ a b, xs = [a, b] := by
        match xs, h2 with
        | [a, b], _ => exact ⟨a, b, rfl⟩
      have ha := h.2 a (by simp)
      have hb := h.2 b (by simp)
      have hbs : b.stable = true := by
        have : a.stable = true ∧ b.stable = true := by simpa [D.stable, stableL] using hs
        exact this.2
      show _ = some (D.bl (recB2 a b), _)
      by_cases hst : ∃ w, a = .str w
      · obtain ⟨w, rfl⟩ := hst
        show _ = some (D.bl (if w = "leaf" then betB 0 99 b else opB w b), _)
        by_cases hw : w = "leaf"
        · rw [if_pos hw, hw]; exact rec_leaf b hb.1 hbs
        · rw [if_neg hw]; exact rec_op w b hw hb.1 hbs hb.2
      · have hn : ∀ w, a ≠ .str w := fun w z => hst ⟨w, z⟩
        have hv : recB2 a b = false := by
          unfold recB2
          split
          · exact absurd rfl (hn _)
          · rfl
        rw [hv]
        exact rec_not_str a b ha.1 hn
    · have hv : recB (.tup xs) = false := by
        unfold recB
        split
        · rename_i e; cases e; exact absurd rfl h2
        · rfl
      rw [hv]
      exact rec_not_2 xs h2
  · have hn : ∀ xs, d ≠ .tup xs := fun xs z => ht ⟨xs, z⟩
    have hv : recB d = false := by
      unfold recB
      split
      · exact absurd rfl (hn _)
      · rfl
    rw [hv]
    exact rec_not_tup d (pls_pl h) hn
/-- .. four deep -/
def pl4 : D → Prop
  | .tup xs => pl (.tup xs) = true ∧ ∀ x ∈ xs, pls x
  | d => pl d = true
theorem pl4_pl {d : D} (h : pl4 d) : pl d = true := by
  cases d <;> first | exact h.1 | exact h
theorem part_any (d : D) (h : pl4 d) (hs : d.stable = true) : m_is_part [d] = some (.bl (partB d), [d]) := by
  by_cases ht : ∃ xs, d = .tup xs
  · obtain ⟨xs, rfl⟩ := ht
    have i1 : opIsi "tuple" (.tup xs) = some (.bl true) := rfl
    by_cases h2 : xs.length = 4
    · obtain ⟨a, b, c, e, rfl⟩ : ∃ a b c e, xs = [a, b, c, e] := by
        match xs, h2 with
        | [a, b, c, e], _ => exact ⟨a, b, c, e, rfl⟩
      have i2 : opLen [.tup [a, b, c, e]] = some (.int 4) := rfl
      have i3 : opNe (.int 4) (.int 4) = some (.bl false) := rfl
      have p0 : opIx (.tup [a, b, c, e]) (.int 0) = some a := rfl
      have p1 : opIx (.tup [a, b, c, e]) (.int 1) = some b := rfl
      have p2 : opIx (.tup [a, b, c, e]) (.int 2) = some c := rfl
      have p3 : opIx (.tup [a, b, c, e]) (.int 3) = some e := rfl
      obtain ⟨sa, sb, sc, se⟩ : a.stable = true ∧ b.stable = true ∧ c.stable = true ∧ e.stable = true := by simpa [D.stable, stableL] using hs
      have w := word_any a (pls_pl (h.2 a (by simp))) sa
      have r := rec_any b (h.2 b (by simp)) sb
      have b1 := between_any c 1 9 (pls_pl (h.2 c (by simp))) sc
      have b2 := between_any e 1 9 (pls_pl (h.2 e (by simp))) se
      show _ = some (D.bl (wordD a && (recB b && (betB 1 9 c && betB 1 9 e))), _)
      generalize D.tup [a, b, c, e] = X at *
      generalize wordD a = x1 at *
      generalize recB b = x2 at *
      generalize betB 1 9 c = x3 at *
      generalize betB 1 9 e = x4 at *
      cases x1 <;> cases x2 <;> cases x3 <;> cases x4 <;> simp [m_is_part, b_is_part, fnM, outs, sSeq, sIf, sAsg, sRet, sRetN, sNil, sExp, sNo, bP, bV, bAnd, bOr, bNot, bYes, eP, eMv, eFr, pVar, pC, pOp2, pOp1, eOp2, eOpP, eOpPP, eOpN, eOpV, eIx, eIxP, pBi, pAll, eBi, eBiP, takeA, valsA, aE, aS, aNil, eTup, eLst, eCall, callA, putA, gN, gT, gTu, gSt, lVar, lIx, eMt, eMt0, opSub, modI, eqI, eqS, neI, neS, opIsN, opNotN, D.stable, stableL, D.imm, immL, D.frz, frzL, pSl, pPart, ePO, List.set_cons_zero, List.set_cons_succ, List.getD_cons_zero, List.getD_cons_succ, getP_nil, putP_nil, eMtL, pAll, pIsi, eAndV, i1, i2, i3, p0, p1, p2, p3, sa, sb, sc, se, w, r, b1, b2]
    · have i2 := len_tup xs
      have i3 : opNe (.int (xs.length : Int)) (.int 4) = some (.bl true) := by
        rw [neI, decide_eq_false (show ¬ (xs.length : Int) = 4 by omega)]; rfl
      have hv : partB (.tup xs) = false := by
        unfold partB
        split
        · rename_i e; cases e; exact absurd rfl h2
        · rfl
      rw [hv]
      generalize D.tup xs = X at *
      simp [m_is_part, b_is_part, fnM, outs, sSeq, sIf, sAsg, sRet, sRetN, sNil, sExp, sNo, bP, bV, bAnd, bOr, bNot, bYes, eP, eMv, eFr, pVar, pC, pOp2, pOp1, eOp2, eOpP, eOpPP, eOpN, eOpV, eIx, eIxP, pBi, pAll, eBi, eBiP, takeA, valsA, aE, aS, aNil, eTup, eLst, eCall, callA, putA, gN, gT, gTu, gSt, lVar, lIx, eMt, eMt0, opSub, modI, eqI, eqS, neI, neS, opIsN, opNotN, D.stable, stableL, D.imm, immL, D.frz, frzL, pSl, pPart, ePO, List.set_cons_zero, List.set_cons_succ, List.getD_cons_zero, List.getD_cons_succ, getP_nil, putP_nil, eMtL, pAll, pIsi, i1, i2, i3]
  · have hn : ∀ xs, d ≠ .tup xs := fun xs z => ht ⟨xs, z⟩
    have i1 := isi_tup_no d (pl4_pl h) hn
    have hv : partB d = false := by
      unfold partB
      split
      · exact absurd rfl (hn _)
      · rfl
    rw [hv]
    simp [m_is_part, b_is_part, fnM, outs, sSeq, sIf, sAsg, sRet, sRetN, sNil, sExp, sNo, bP, bV, bAnd, bOr, bNot, bYes, eP, eMv, eFr, pVar, pC, pOp2, pOp1, eOp2, eOpP, eOpPP, eOpN, eOpV, eIx, eIxP, pBi, pAll, eBi, eBiP, takeA, valsA, aE, aS, aNil, eTup, eLst, eCall, callA, putA, gN, gT, gTu, gSt, lVar, lIx, eMt, eMt0, opSub, modI, eqI, eqS, neI, neS, opIsN, opNotN, D.stable, stableL, D.imm, immL, D.frz, frzL, pSl, pPart, ePO, List.set_cons_zero, List.set_cons_succ, List.getD_cons_zero, List.getD_cons_succ, getP_nil, putP_nil, eMtL, pAll, pIsi, i1]
end Lk

set_option Elab.async false
set_option linter.all false
set_option maxRecDepth 100000
set_option maxHeartbeats 4000000
namespace Lk
open PySem Dl
/-! CW: why_no_book -/
theorem sWp_cw {vs : List Nat} {b : SM} {ρ ρ1 : DEnv} {f : Fl} (h : b ρ = some (f, ρ1)) : sWp vs b ρ = some (f, wipeD ρ1 vs) := by
  unfold sWp
  rw [h]
/-- the parts looked at -/
theorem parts_any (xs : List D) (hp : ∀ x ∈ xs, pl4 x) (hs : (D.tup xs).stable = true) (hz : xs.length ≤ 24) :
    bV (eBi opAll (aE (eComp (eFr 0) (gN 3) bYes x1_why_no_book [3]) aNil)) [some (.tup xs), none, none, none, none] = some (xs.all partB, [some (.tup xs), none, none, none, none]) := by
  have hc : eComp (eFr 0) (gN 3) bYes x1_why_no_book [3] [some (.tup xs), none, none, none, none] = some (.lst true (xs.map fun x => D.bl (partB x)), [some (.tup xs), none, none, none, none]) := by
    refine comp_M (c := id) (f := fun x => D.bl (partB x)) (ρ1 := [some (.tup xs), none, none, none, none]) (d := .tup xs) ?_ (by rw [D.frz_of_stable _ hs, List.map_id]; rfl) (by omega) fun x hx => ?_
    · simp only [eFr, List.getD_cons_zero, D.frz_of_stable _ hs, List.set_cons_zero]
    · have hxs : x.stable = true := by
        have : stableL xs = true := by simpa [D.stable] using hs
        rw [stableL_all] at this
        exact List.all_eq_true.mp this x hx
      have hx' := part_any x (hp x hx) hxs
      refine ⟨_, rfl, [some (.tup xs), none, none, some x, none], ?_, rfl⟩
      simp [x1_why_no_book, fnM, outs, sSeq, sIf, sAsg, sRet, sRetN, sNil, sExp, sNo, bP, bV, bAnd, bOr, bNot, bYes, eP, eMv, eFr, pVar, pC, pOp2, pOp1, eOp2, eOpP, eOpPP, eOpN, eOpV, eIx, eIxP, pBi, pAll, eBi, eBiP, takeA, valsA, aE, aS, aNil, eTup, eLst, eCall, callA, putA, gN, gT, gTu, gSt, lVar, lIx, eMt, eMt0, opLt, opLe, opGt, opGe, opSub, modI, eqI, eqS, neI, neS, opIsN, opNotN, D.stable, stableL, D.imm, immL, D.frz, frzL, pSl, pPart, ePO, List.set_cons_zero, List.set_cons_succ, List.getD_cons_zero, List.getD_cons_succ, getP_nil, putP_nil, eMtL, pAll, wipeD, hx']
  have ha := all_bls xs partB
  simp only [bV, eBi, aE, hc, aNil, takeA]
  rw [ha]
/-- the names in order -/
def namesOK : List Str → List Part → Bool
  | _, [] => true
  | A, q :: qs => !decide (q.name ∈ A) && ((needs q.recp).all fun x => decide (x ∈ A)) && namesOK (A ++ [q.name]) qs
/-- what a part's data say of it -/
def RecFit : Rec → Prop
  | .leaf _ => True
  | .op w ns => ¬ w = "leaf" ∧ ns.length ≤ 4
theorem needs_any (p : Part) (h : RecFit p.recp) : m_needs_of [partD p] = some (.tup ((needs p.recp).map D.str), [partD p]) := by
  have q1 := part_1 p
  have r0 := rec_0 p.recp
  have r1 := rec_1 p.recp
  cases hr : p.recp with
  | leaf n =>
    rw [hr] at q1 r0 r1
    simp only [recW, recV] at r0 r1
    generalize partD p = P at *
    simp [m_needs_of, b_needs_of, fnM, outs, sSeq, sIf, sAsg, sRet, sRetN, sNil, sExp, sNo, bP, bV, bAnd, bOr, bNot, bYes, eP, eMv, eFr, pVar, pC, pOp2, pOp1, eOp2, eOpP, eOpPP, eOpN, eOpV, eIx, eIxP, pBi, pAll, eBi, eBiP, takeA, valsA, aE, aS, aNil, eTup, eLst, eCall, callA, putA, gN, gT, gTu, gSt, lVar, lIx, eMt, eMt0, opLt, opLe, opGt, opGe, opSub, modI, eqI, eqS, neI, neS, opIsN, opNotN, D.stable, stableL, D.imm, immL, D.frz, frzL, pSl, pPart, ePO, List.set_cons_zero, List.set_cons_succ, List.getD_cons_zero, List.getD_cons_succ, getP_nil, putP_nil, eMtL, pAll, q1, r0, needs]
  | op w ns =>
    rw [hr] at q1 r0 r1 h
    simp only [recW, recV] at r0 r1
    have hst : stableL (ns.map D.str) = true := stableL_of_imm _ (strs_imm ns)
    generalize partD p = P at *
    simp [m_needs_of, b_needs_of, fnM, outs, sSeq, sIf, sAsg, sRet, sRetN, sNil, sExp, sNo, bP, bV, bAnd, bOr, bNot, bYes, eP, eMv, eFr, pVar, pC, pOp2, pOp1, eOp2, eOpP, eOpPP, eOpN, eOpV, eIx, eIxP, pBi, pAll, eBi, eBiP, takeA, valsA, aE, aS, aNil, eTup, eLst, eCall, callA, putA, gN, gT, gTu, gSt, lVar, lIx, eMt, eMt0, opLt, opLe, opGt, opGe, opSub, modI, eqI, eqS, neI, neS, opIsN, opNotN, D.stable, stableL, D.imm, immL, D.frz, frzL, pSl, pPart, ePO, List.set_cons_zero, List.set_cons_succ, List.getD_cons_zero, List.getD_cons_succ, getP_nil, putP_nil, eMtL, pAll, q1, r0, r1, needs, h.1, hst]
theorem names_loop (B : D) (all : List Part) : ∀ (post pre : List Part) (x2 x4 : Option D), (∀ q ∈ post, RecFit q.recp) → pre.length + post.length ≤ 24 →
    ∃ ρ', forL (gN 2) w1_why_no_book (post.map partD) [some B, some (dicS (trueS (pre.map Part.name))), x2, none, x4] = some (if namesOK (pre.map Part.name) post = true then .nx else .rt (.str "names"), some B :: ρ') := by
  intro post
  induction post with
  | nil => intro pre x2 x4 _ _; exact ⟨_, rfl⟩
  | cons p post ih =>
    intro pre x2 x4 hf hz
    have h1 := hf p List.mem_cons_self
    have hn := needs_any p h1
    have hnl : (needs p.recp).length ≤ 4 := by
      cases hr : p.recp with
      | leaf n => simp [needs]
      | op w ns => rw [hr] at h1; exact h1.2
    have hin : ∀ x, opIn (.str x) (dicS (trueS (pre.map Part.name))) = some (.bl (decide (x ∈ pre.map Part.name))) := fun x => by rw [in_dS, trueS_keys]
    have hp := hin p.name
    have q0 := part_0 p
    rw [List.map_cons]
    by_cases hm : p.name ∈ pre.map Part.name
    · rw [decide_eq_true hm] at hp
      have hv : namesOK (pre.map Part.name) (p :: post) = false := by
        unfold namesOK
        rw [decide_eq_true hm]; rfl
      rw [hv]
      have hb : w1_why_no_book [some B, some (dicS (trueS (pre.map Part.name))), some (partD p), none, x4] = some (.rt (.str "names"), [some B, some (dicS (trueS (pre.map Part.name))), none, none, x4]) := by
        unfold w1_why_no_book
        refine sWp_cw (ρ1 := [some B, some (dicS (trueS (pre.map Part.name))), some (partD p), none, x4]) (sSeq_rt ?_)
        rw [sIf_t (ρ1 := [some B, some (dicS (trueS (pre.map Part.name))), some (partD p), none, x4]) (by simp only [bOr, bP, pOp2, pVar, pC, List.getD_cons_succ, List.getD_cons_zero, q0, hp])]
        rfl
      refine ⟨[some (dicS (trueS (pre.map Part.name))), none, none, x4], ?_⟩
      unfold forL
      simp only [gN, List.set_cons_succ, List.set_cons_zero, hb]
      simp
    · rw [decide_eq_false hm] at hp
      have hcc : eComp (eCall m_needs_of (aS 2 aNil)) (gN 4) bYes x2_why_no_book [4] [some B, some (dicS (trueS (pre.map Part.name))), some (partD p), none, x4] = some (.lst true ((needs p.recp).map fun x => D.bl (decide (x ∈ pre.map Part.name))), [some B, some (dicS (trueS (pre.map Part.name))), some (partD p), none, none]) := by
        refine comp_M (c := D.str) (f := fun x => D.bl (decide (x ∈ pre.map Part.name))) (ρ1 := [some B, some (dicS (trueS (pre.map Part.name))), some (partD p), none, x4]) (d := .tup ((needs p.recp).map D.str)) ?_ (by rw [frz_tup (strs_imm _)]; rfl) (by omega) fun x hx => ?_
        · simp [fnM, outs, sSeq, sIf, sAsg, sRet, sRetN, sNil, sExp, sNo, bP, bV, bAnd, bOr, bNot, bYes, eP, eMv, eFr, pVar, pC, pOp2, pOp1, eOp2, eOpP, eOpPP, eOpN, eOpV, eIx, eIxP, pBi, pAll, eBi, eBiP, takeA, valsA, aE, aS, aNil, eTup, eLst, eCall, callA, putA, gN, gT, gTu, gSt, lVar, lIx, eMt, eMt0, opLt, opLe, opGt, opGe, opSub, modI, eqI, eqS, neI, neS, opIsN, opNotN, D.stable, stableL, D.imm, immL, D.frz, frzL, pSl, pPart, ePO, List.set_cons_zero, List.set_cons_succ, List.getD_cons_zero, List.getD_cons_succ, getP_nil, putP_nil, eMtL, pAll, hn]
        · refine ⟨_, rfl, [some B, some (dicS (trueS (pre.map Part.name))), some (partD p), none, some (.str x)], ?_, rfl⟩
          have hx' := hin x
          generalize decide (x ∈ pre.map Part.name) = z at hx' ⊢
          simp [x2_why_no_book, eP, pOp2, pVar, wipeD, hx', D.stable]
      have ha2 := all_bls (needs p.recp) fun x => decide (x ∈ pre.map Part.name)
      have hq2 : bV (eBi opAll (aE (eComp (eCall m_needs_of (aS 2 aNil)) (gN 4) bYes x2_why_no_book [4]) aNil)) [some B, some (dicS (trueS (pre.map Part.name))), some (partD p), none, x4] = some ((needs p.recp).all fun x => decide (x ∈ pre.map Part.name), [some B, some (dicS (trueS (pre.map Part.name))), some (partD p), none, none]) := by
        simp only [bV, eBi, aE, hcc, aNil, takeA]
        rw [ha2]
      cases hall : (needs p.recp).all fun x => decide (x ∈ pre.map Part.name) with
      | false =>
        rw [hall] at hq2
        have hv : namesOK (pre.map Part.name) (p :: post) = false := by
          unfold namesOK
          rw [hall, Bool.and_false, Bool.false_and]
        rw [hv]
        have hc1 : bOr (bP (pOp2 opIn (pOp2 opIx (pVar 2) (pC (.int 0))) (pVar 1))) (bNot (bV (eBi opAll (aE (eComp (eCall m_needs_of (aS 2 aNil)) (gN 4) bYes x2_why_no_book [4]) aNil)))) [some B, some (dicS (trueS (pre.map Part.name))), some (partD p), none, x4] = some (true, [some B, some (dicS (trueS (pre.map Part.name))), some (partD p), none, none]) := by
          simp only [bOr, bP, pOp2, pVar, pC, List.getD_cons_succ, List.getD_cons_zero, q0, hp, bNot, hq2, Bool.not_false]
        have hb : w1_why_no_book [some B, some (dicS (trueS (pre.map Part.name))), some (partD p), none, x4] = some (.rt (.str "names"), [some B, some (dicS (trueS (pre.map Part.name))), none, none, none]) := by
          unfold w1_why_no_book
          refine sWp_cw (ρ1 := [some B, some (dicS (trueS (pre.map Part.name))), some (partD p), none, none]) (sSeq_rt ?_)
          rw [sIf_t hc1]
          rfl
        refine ⟨[some (dicS (trueS (pre.map Part.name))), none, none, none], ?_⟩
        unfold forL
        simp only [gN, List.set_cons_succ, List.set_cons_zero, hb]
        simp
      | true =>
        rw [hall] at hq2
        have hv : namesOK (pre.map Part.name) (p :: post) = namesOK ((pre ++ [p]).map Part.name) post := by
          conv => lhs; unfold namesOK
          rw [hall, decide_eq_false hm, List.map_append]
          rfl
        rw [hv]
        have hc1 : bOr (bP (pOp2 opIn (pOp2 opIx (pVar 2) (pC (.int 0))) (pVar 1))) (bNot (bV (eBi opAll (aE (eComp (eCall m_needs_of (aS 2 aNil)) (gN 4) bYes x2_why_no_book [4]) aNil)))) [some B, some (dicS (trueS (pre.map Part.name))), some (partD p), none, x4] = some (false, [some B, some (dicS (trueS (pre.map Part.name))), some (partD p), none, none]) := by
          simp only [bOr, bP, pOp2, pVar, pC, List.getD_cons_succ, List.getD_cons_zero, q0, hp, bNot, hq2, Bool.not_true]
        have hput : opPut (dicS (trueS (pre.map Part.name))) (.str p.name) (.bl true) = some (dicS (trueS ((pre ++ [p]).map Part.name))) := by
          rw [put_dS _ _ _ rfl (by unfold trueS; rw [List.length_map, List.length_map]; simp only [List.length_cons] at hz; omega), setS_new (by rw [trueS_keys]; exact hm)]
          unfold trueS
          rw [List.map_append, List.map_append]
          rfl
        have hb : w1_why_no_book [some B, some (dicS (trueS (pre.map Part.name))), some (partD p), none, x4] = some (.nx, [some B, some (dicS (trueS ((pre ++ [p]).map Part.name))), none, none, none]) := by
          unfold w1_why_no_book
          refine sWp_cw (ρ1 := [some B, some (dicS (trueS ((pre ++ [p]).map Part.name))), some (partD p), none, none]) ?_
          rw [sSeq_nx (sIf_f hc1)]
          simp [fnM, outs, sSeq, sIf, sAsg, sRet, sRetN, sNil, sExp, sNo, bP, bV, bAnd, bOr, bNot, bYes, eP, eMv, eFr, pVar, pC, pOp2, pOp1, eOp2, eOpP, eOpPP, eOpN, eOpV, eIx, eIxP, pBi, pAll, eBi, eBiP, takeA, valsA, aE, aS, aNil, eTup, eLst, eCall, callA, putA, gN, gT, gTu, gSt, lVar, lIx, eMt, eMt0, opLt, opLe, opGt, opGe, opSub, modI, eqI, eqS, neI, neS, opIsN, opNotN, D.stable, stableL, D.imm, immL, D.frz, frzL, pSl, pPart, ePO, List.set_cons_zero, List.set_cons_succ, List.getD_cons_zero, List.getD_cons_succ, getP_nil, putP_nil, eMtL, pAll, q0, hput]
        obtain ⟨ρ', e⟩ := ih (pre ++ [p]) none none (fun q hq => hf q (List.mem_cons_of_mem _ hq)) (by simp only [List.length_append, List.length_cons, List.length_nil] at hz ⊢; omega)
        refine ⟨ρ', ?_⟩
        rw [← e]
        conv => lhs; unfold forL
        simp only [gN, List.set_cons_succ, List.set_cons_zero, hb]
theorem pl4_part (p : Part) (h : wordB p.name = true) (hr : RecFit p.recp) (hn : ∀ x ∈ needs p.recp, x.length ≤ 10000) (hw : (recW p.recp).length ≤ 10000) : pl4 (partD p) := by
  have hl : p.name.length ≤ 10000 := by
    unfold wordB at h
    rw [Bool.and_eq_true, decide_eq_true_eq] at h
    omega
  refine ⟨rfl, fun x hx => ?_⟩
  simp only [List.mem_cons, List.not_mem_nil, or_false] at hx
  rcases hx with rfl | rfl | rfl | rfl
  · show pl (.str p.name) = true
    simpa [pl] using hl
  · cases hq : p.recp with
    | leaf n =>
      refine ⟨rfl, fun y hy => ?_⟩
      simp only [List.mem_cons, List.not_mem_nil, or_false] at hy
      rcases hy with rfl | rfl
      · exact ⟨by decide +kernel, fun ys e => nomatch e⟩
      · exact ⟨rfl, fun ys e => nomatch e⟩
    | op w ns =>
      rw [hq] at hr hn hw
      refine ⟨rfl, fun y hy => ?_⟩
      simp only [List.mem_cons, List.not_mem_nil, or_false] at hy
      rcases hy with rfl | rfl
      · exact ⟨by have hw' : w.length ≤ 10000 := hw; simpa [pl] using hw', fun ys e => nomatch e⟩
      · refine ⟨by have := hr.2; simp only [pl, List.length_map]; exact decide_eq_true (by omega), fun ys e y hy => ?_⟩
        cases e
        obtain ⟨z, hz, rfl⟩ := List.mem_map.mp hy
        have := hn z hz
        simpa [pl] using this
  · rfl
  · rfl
theorem why_names (ps : List Part) (h1 : 1 ≤ ps.length) (h2 : ps.length ≤ 24) (hp : ∀ p ∈ ps, pl4 (partD p) ∧ partB (partD p) = true ∧ RecFit p.recp) : m_why_no_book [bookD ps] = some (if namesOK [] ps = true then .non else .str "names", [bookD ps]) := by
  have hst : (D.tup (ps.map partD)).stable = true := book_stable ps
  have i1 : opIsi "tuple" (bookD ps) = some (.bl true) := rfl
  have i2 : opLen [bookD ps] = some (.int (ps.length : Int)) := by
    show some (D.int ((ps.map partD).length : Int)) = _
    rw [List.length_map]
  have l1 : opLe (.int 1) (.int (ps.length : Int)) = some (.bl true) := by
    show some (D.bl (decide _)) = _
    rw [decide_eq_true (by omega)]
  have l2 : opLe (.int (ps.length : Int)) (.int 24) = some (.bl true) := by
    show some (D.bl (decide _)) = _
    rw [decide_eq_true (by omega)]
  have hq := parts_any (ps.map partD) (fun x hx => by obtain ⟨p, hp', rfl⟩ := List.mem_map.mp hx; exact (hp p hp').1) hst (by rw [List.length_map]; exact h2)
  have hall : (ps.map partD).all partB = true := by
    rw [List.all_map]
    exact List.all_eq_true.mpr fun p hp' => (hp p hp').2.1
  rw [hall] at hq
  change bV _ [some (bookD ps), none, none, none, none] = some (true, [some (bookD ps), none, none, none, none]) at hq
  obtain ⟨ρ', e1⟩ := names_loop (bookD ps) ps ps [] none none (fun q hq => (hp q hq).2.2) (by simp only [List.length_nil]; omega)
  have hf : sFor (eFr 0) (gN 2) w1_why_no_book [some (bookD ps), some (.dic true .k [] []), none, none, none] = _ := sFor_of (d := bookD ps) (ρ1 := [some (bookD ps), some (.dic true .k [] []), none, none, none]) (by simp only [eFr, List.getD_cons_zero, book_frz, List.set_cons_zero]) (book_items ps) e1
  have hc0 : bOr (bNot (bP (pIsi "tuple" (pVar 0)))) (bOr (bNot (bP (pCh opLe opLe (pC (.int 1)) (pBi opLen [(pVar 0)]) (pC (.int 24))))) (bNot (bV (eBi opAll (aE (eComp (eFr 0) (gN 3) bYes x1_why_no_book [3]) aNil))))) [some (bookD ps), none, none, none, none] = some (false, [some (bookD ps), none, none, none, none]) := by
    simp only [bOr, bP, bNot, pIsi, pOp1, pVar, List.getD_cons_zero, i1, Bool.not_true, pCh, pC, pBi, pAll, i2, l1, l2, hq]
  unfold m_why_no_book b_why_no_book
  show (if _ then (match sSeq _ _ [some (bookD ps), none, none, none, none] with | some (.rt d, ρ') => _ | some (.nx, ρ') => _ | _ => none) else none) = _
  rw [if_pos ⟨rfl, rfl⟩, sSeq_nx (sIf_f hc0)]
  generalize bookD ps = X at *
  simp only [List.map_nil] at hf
  clear e1
  generalize namesOK [] ps = z at hf ⊢
  cases z with
  | true =>
    simp only [if_true] at hf ⊢
    simp [fnM, outs, sSeq, sIf, sAsg, sRet, sRetN, sNil, sExp, sNo, bP, bV, bAnd, bOr, bNot, bYes, eP, eMv, eFr, pVar, pC, pOp2, pOp1, eOp2, eOpP, eOpPP, eOpN, eOpV, eIx, eIxP, pBi, pAll, eBi, eBiP, takeA, valsA, aE, aS, aNil, eTup, eLst, eCall, callA, putA, gN, gT, gTu, gSt, lVar, lIx, eMt, eMt0, opLt, opLe, opGt, opGe, opSub, modI, eqI, eqS, neI, neS, opIsN, opNotN, D.stable, stableL, D.imm, immL, D.frz, frzL, pSl, pPart, ePO, List.set_cons_zero, List.set_cons_succ, List.getD_cons_zero, List.getD_cons_succ, getP_nil, putP_nil, eMtL, pAll, eDicN, hf, sWp, wipeD]
  | false =>
    simp only [if_false, Bool.false_eq_true] at hf ⊢
    simp [fnM, outs, sSeq, sIf, sAsg, sRet, sRetN, sNil, sExp, sNo, bP, bV, bAnd, bOr, bNot, bYes, eP, eMv, eFr, pVar, pC, pOp2, pOp1, eOp2, eOpP, eOpPP, eOpN, eOpV, eIx, eIxP, pBi, pAll, eBi, eBiP, takeA, valsA, aE, aS, aNil, eTup, eLst, eCall, callA, putA, gN, gT, gTu, gSt, lVar, lIx, eMt, eMt0, opLt, opLe, opGt, opGe, opSub, modI, eqI, eqS, neI, neS, opIsN, opNotN, D.stable, stableL, D.imm, immL, D.frz, frzL, pSl, pPart, ePO, List.set_cons_zero, List.set_cons_succ, List.getD_cons_zero, List.getD_cons_succ, getP_nil, putP_nil, eMtL, pAll, eDicN, hf, sWp, wipeD]
end Lk

set_option Elab.async false
set_option linter.all false
set_option maxRecDepth 100000
set_option maxHeartbeats 4000000
namespace Lk
open PySem Dl
/-! F01: books whose names are none -/
/-- a recipe by its data -/
def RecGood : Rec → Prop
  | .leaf n => 0 ≤ n ∧ n ≤ 99
  | .op w ns => ∃ lo hi, lohi w = some (lo, hi) ∧ lo ≤ (ns.length : Int) ∧ (ns.length : Int) ≤ hi ∧ hi ≤ 4 ∧ ∀ x ∈ ns, wordB x = true
theorem recB2_str (w : Str) (b : D) : recB2 (.str w) b = if w = "leaf" then betB 0 99 b else opB w b := rfl
theorem lohi_leaf : lohi "leaf" = none := by decide +kernel
theorem word_len {w : Str} (h : wordB w = true) : w.length ≤ 8 := by
  unfold wordB at h
  rw [Bool.and_eq_true, decide_eq_true_eq] at h
  omega
theorem lohi_len {w : Str} {q : Int × Int} (h : lohi w = some q) : w.length ≤ 8 := by
  unfold lohi at h
  split at h
  · rename_i e; subst e; decide +kernel
  · split at h
    · rename_i e; subst e; decide +kernel
    · split at h
      · rename_i e; subst e; decide +kernel
      · split at h
        · rename_i e; subst e; decide +kernel
        · cases h
theorem good_fit {r : Rec} (h : RecGood r) : RecFit r := by
  cases r with
  | leaf n => trivial
  | op w ns =>
    obtain ⟨lo, hi, h1, h2, h3, h4, h5⟩ := h
    exact ⟨fun e => (by rw [e, lohi_leaf] at h1; cases h1), by omega⟩
/-- a part by its data -/
structure PartGood (p : Part) : Prop where
  nm : wordB p.name = true
  rc : RecGood p.recp
  sz : 1 ≤ p.size ∧ p.size ≤ 9
  co : 1 ≤ p.cost ∧ p.cost ≤ 9
theorem good_all {p : Part} (h : PartGood p) : pl4 (partD p) ∧ partB (partD p) = true ∧ RecFit p.recp := by
  have hf := good_fit h.rc
  refine ⟨pl4_part p h.nm hf (fun x hx => ?_) ?_, ?_, hf⟩
  · cases hr : p.recp with
    | leaf n => rw [hr] at hx; simp [needs] at hx
    | op w ns =>
      have hg := h.rc
      rw [hr] at hg hx
      obtain ⟨lo, hi, _, _, _, _, h5⟩ := hg
      have := word_len (h5 x hx)
      omega
  · cases hr : p.recp with
    | leaf n => show (Str.ofString "leaf").length ≤ 10000; decide +kernel
    | op w ns =>
      have hg := h.rc
      rw [hr] at hg
      obtain ⟨lo, hi, h1, _⟩ := hg
      have := lohi_len h1
      show w.length ≤ 10000
      omega
  · show (wordB p.name && (recB (recD p.recp) && (betB 1 9 (.int p.size) && betB 1 9 (.int p.cost)))) = true
    have b1 : betB 1 9 (.int p.size) = true := by simp [betB, h.sz]
    have b2 : betB 1 9 (.int p.cost) = true := by simp [betB, h.co]
    have b3 : recB (recD p.recp) = true := by
      cases hr : p.recp with
      | leaf n =>
        have hg := h.rc
        rw [hr] at hg
        show recB2 (.str "leaf") (.int n) = true
        rw [recB2_str, if_pos rfl]
        simp [betB, hg.1, hg.2]
      | op w ns =>
        have hg := h.rc
        rw [hr] at hg hf
        obtain ⟨lo, hi, h1, h2, h3, h4, h5⟩ := hg
        show recB2 (.str w) (.tup (ns.map D.str)) = true
        rw [recB2_str, if_neg hf.1]
        unfold opB
        simp only [h1, List.length_map, decide_eq_true h2, decide_eq_true h3, Bool.true_and, List.all_map]
        exact List.all_eq_true.mpr fun x hx => h5 x hx
    rw [h.nm, b1, b2, b3]; rfl
end Lk

set_option Elab.async false
set_option linter.all false
set_option maxRecDepth 100000
set_option maxHeartbeats 8000000
namespace Lk
open PySem Dl
local macro_rules
  | `(tactic| simp_arith [$ls,*]) => `(tactic| simp [fnM, fnX, outs, outX, sSeq, sIf, sAsg, sRet, sRetN, sNil, sExp, sNo, sWp, wipeD, sExpX, sSetX, sRetX, callX, sTry, sRz0, sRz1, bP, bV, bAnd, bOr, bNot, bYes, eP, eMv, eFr, eFz, pVar, pC, pOp2, pOp1, eOp2, eOpP, eOpPP, eOpN, eOpV, eIx, eIxP, pBi, pAll, eBi, eBiP, takeA, valsA, aE, aS, aNil, eTup, eLst, pTup, eCall, callA, putA, gN, gT, gTu, gSt, lVar, lIx, lFld, eMt, eMt0, eMtL, getP_nil, putP_nil, mAppend, pFld, pIsi, pIsE, pXf, pAndV, pOrV, eAndV, eOrV, eIf, pNotV, eNotV, pGet, pSl, pPart, ePO, opIsN, opNotN, D.stable, stableL, D.imm, immL, D.frz, frzL, eqI, eqS, neI, neS, addI, eRevP, eRevE, eFrL, sSetF, eAddM, List.set_cons_zero, List.set_cons_succ, List.getD_cons_zero, List.getD_cons_succ, $ls,*])
/-! KA81: texts cut at a sign; words that write numbers -/
def mkS (l : List Nat) : Str := ⟨l.toArray⟩
theorem tl_mkS (l : List Nat) : TL.tl (mkS l) = l := rfl
theorem mkS_tl (x : Str) : mkS (TL.tl x) = x := TL.mk_tl x
/-- cut at each c -/
def spC (c : Nat) : List Nat → List (List Nat)
  | [] => [[]]
  | x :: l => if x = c then [] :: spC c l else match spC c l with
    | p :: ps => (x :: p) :: ps
    | [] => [[x]]
theorem spC_ne (c : Nat) : ∀ l, spC c l ≠ []
  | [] => by simp [spC]
  | x :: l => by
    unfold spC
    split
    · simp
    · split <;> simp
theorem spC_free (c : Nat) : ∀ l, ∀ p ∈ spC c l, c ∉ p
  | [], p, hp => by simp [spC] at hp; rw [hp]; simp
  | x :: l, p, hp => by
    have ih := spC_free c l
    unfold spC at hp
    split at hp
    · rcases List.mem_cons.mp hp with rfl | hp
      · simp
      · exact ih p hp
    · rename_i hx
      split at hp
      · rename_i q qs e
        rw [e] at ih
        rcases List.mem_cons.mp hp with rfl | hp
        · rw [List.mem_cons]
          rintro (h | h)
          · exact hx h.symm
          · exact ih q (by simp) h
        · exact ih p (by simp [hp])
      · rw [List.mem_singleton.mp hp, List.mem_singleton]
        exact fun h => hx h.symm
theorem spC_join (c : Nat) : ∀ l, TL.joinL [c] (spC c l) = l
  | [] => rfl
  | x :: l => by
    have ih := spC_join c l
    have hne := spC_ne c l
    unfold spC
    split
    · rename_i hx
      cases h : spC c l with
      | nil => exact absurd h hne
      | cons p ps =>
        rw [h] at ih
        rw [TL.joinL, ih]
        simp [hx]
    · split
      · rename_i q qs e
        rw [e] at ih
        cases qs with
        | nil => rw [TL.joinL] at ih ⊢; rw [ih]
        | cons r rs =>
          rw [TL.joinL] at ih ⊢
          rw [← ih]; simp
      · rename_i e
        exact absurd e hne
theorem spC_len (c : Nat) : ∀ l : List Nat, (spC c l).length ≤ l.length + 1
  | [] => by simp [spC]
  | x :: l => by
    have ih := spC_len c l
    unfold spC
    split
    · simp; omega
    · split
      · rename_i q qs e
        rw [e] at ih
        simp at ih ⊢; omega
      · simp
theorem spC_sub (c : Nat) : ∀ (l : List Nat), ∀ p ∈ spC c l, p.length ≤ l.length
  | [], p, hp => by simp [spC] at hp; rw [hp]; simp
  | x :: l, p, hp => by
    have ih := spC_sub c l
    unfold spC at hp
    split at hp
    · rcases List.mem_cons.mp hp with rfl | hp
      · simp
      · have := ih p hp
        simp; omega
    · split at hp
      · rename_i q qs e
        rw [e] at ih
        rcases List.mem_cons.mp hp with rfl | hp
        · have := ih q (by simp)
          simp; omega
        · have := ih p (by simp [hp])
          simp; omega
      · rw [List.mem_singleton.mp hp]; simp
/-- the parts of a text between a sign -/
def cutT (c : Nat) (x : Str) : List Str := (spC c (TL.tl x)).map mkS
theorem cutT_ne (c : Nat) (x : Str) : cutT c x ≠ [] := fun h => spC_ne c _ (List.map_eq_nil_iff.mp h)
theorem split_cut {y : Str} {c : Nat} (hy : TL.tl y = [c]) (hk : y.cps.all (· < 256) = true) (x : Str) : Txt.split x y = cutT c x := by
  have h1 : Txt.join y (cutT c x) = x := by
    rw [TL.join_eq]
    refine TL.ext_tl ?_
    rw [TL.tl_join, hy]
    have : (cutT c x).map TL.tl = spC c (TL.tl x) := by
      unfold cutT
      rw [List.map_map]
      exact (List.map_congr_left fun l _ => tl_mkS l).trans (List.map_id _)
    rw [this, spC_join]
  have h2 := TL.split_join (y := y) (s := c) (S := []) hy hk (cutT_ne c x) fun p hp => by
    unfold cutT at hp
    obtain ⟨l, hl, rfl⟩ := List.mem_map.mp hp
    exact spC_free c _ l hl
  rw [h1] at h2
  exact h2
theorem nl_all : ("\n" : Str).cps.all (· < 256) = true := by decide +kernel
theorem sp_all : (" " : Str).cps.all (· < 256) = true := by decide +kernel
theorem sp_tl : TL.tl (" " : Str) = [32] := by decide +kernel
theorem mSplit_nl {x : Str} (h : x.length ≤ 9000) : mSplit (.str x) [.str "\n"] = some (.lst true ((cutT 10 x).map D.str)) := by
  rw [mSplit_ok (by decide +kernel) (by omega), split_cut nl_tl nl_all]
theorem mSplit_sp {x : Str} (h : x.length ≤ 9000) : mSplit (.str x) [.str " "] = some (.lst true ((cutT 32 x).map D.str)) := by
  rw [mSplit_ok (by decide +kernel) (by omega), split_cut sp_tl sp_all]
theorem cutT_len (c : Nat) (x : Str) : (cutT c x).length ≤ x.length + 1 := by
  unfold cutT
  rw [List.length_map, TL.len_tl]
  exact spC_len c _
theorem cutT_sub {c : Nat} {x w : Str} (h : w ∈ cutT c x) : w.length ≤ x.length := by
  unfold cutT at h
  obtain ⟨l, hl, rfl⟩ := List.mem_map.mp h
  rw [TL.len_tl, TL.len_tl, tl_mkS]
  exact spC_sub c _ l hl
/-- the first line end -/
theorem six_first {x : Str} {p rest : List Nat} (h : TL.tl x = p ++ 10 :: rest) (hp : 10 ∉ p) : ∃ r, Builtin.Str.occurrences x "\n" 0 x.length 1 = p.length :: r := by
  have hy : TL.tl ("\n" : Str) ≠ [] := by rw [nl_tl]; simp
  have hat : ∀ i, StrLaws.At x "\n" x.length i ↔ (TL.tl x)[i]? = some 10 := fun i => by
    rw [TL.at_iff hy, nl_tl]
    unfold TL.pre
    cases hd : (TL.tl x).drop i with
    | nil =>
      have : (TL.tl x)[i]? = none := List.getElem?_eq_none (List.drop_eq_nil_iff.mp hd)
      rw [this]
      simp
    | cons a l =>
      have : (TL.tl x)[i]? = some a := by
        have := congrArg List.head? hd
        rw [List.head?_drop] at this
        simpa using this
      rw [this]
      simp
  rcases StrLaws.occ_head x "\n" 1 (Nat.le_refl _) with ⟨_, h2⟩ | ⟨i, r, h1, h2, h3⟩
  · exact absurd ((hat p.length).mpr (by rw [h, List.getElem?_append_right (Nat.le_refl _), Nat.sub_self]; rfl)) (h2 _)
  · have hi := (hat i).mp h2
    have hle : i = p.length := by
      rcases Nat.lt_trichotomy i p.length with q | q | q
      · rw [h, List.getElem?_append_left q] at hi
        exact absurd (List.mem_of_getElem? hi) hp
      · exact q
      · exact absurd ((hat p.length).mpr (by rw [h, List.getElem?_append_right (Nat.le_refl _), Nat.sub_self]; rfl)) (h3 _ q)
    exact ⟨r, by rw [h1, hle]⟩
theorem in_nl (x : Str) : opIn (.str "\n") (.str x) = some (.bl (decide (10 ∈ TL.tl x))) := by
  have e : ("\n" : Str) = ⟨#[10]⟩ := by decide +kernel
  rw [e]
  rfl
/-! words that write numbers -/
def numP (w : Str) : Option Nat := (List.range 100).find? fun n => decide (figs n = w)
theorem numP_some {w : Str} {n : Nat} (h : numP w = some n) : n ≤ 99 ∧ figs n = w := by
  have h1 := List.find?_some h
  have h2 := List.mem_of_find?_eq_some h
  rw [List.mem_range] at h2
  exact ⟨by omega, by simpa using h1⟩
theorem numP_none {w : Str} (h : numP w = none) : ∀ n : Nat, n ≤ 99 → figs n ≠ w := fun n hn => by
  have := List.find?_eq_none.mp h n (List.mem_range.mpr (by omega))
  simpa using this
theorem figures_iff (c : Nat) : c ∈ ("0123456789" : Str).cps.toList ↔ 48 ≤ c ∧ c ≤ 57 := by
  have : ("0123456789" : Str).cps.toList = List.range' 48 10 := by decide +kernel
  rw [this, List.mem_range'_1]
  omega
theorem in_figs (c : Nat) : opIn (.str ⟨#[c]⟩) (.str "0123456789") = some (.bl (decide (48 ≤ c ∧ c ≤ 57))) := by
  show some (D.bl (decide (c ∈ ("0123456789" : Str).cps.toList))) = _
  congr 2
  rw [decide_eq_decide]
  exact figures_iff c
/-- one or two figures, no nought ahead -/
theorem figs_of {w : Str} (hl : 1 ≤ w.length ∧ w.length ≤ 2) (hd : ∀ c ∈ TL.tl w, 48 ≤ c ∧ c ≤ 57) (h0 : 1 < w.length → (TL.tl w).head? ≠ some 48) : ∃ n : Nat, n ≤ 99 ∧ figs n = w := by
  rw [TL.len_tl] at hl h0
  cases hw : TL.tl w with
  | nil => rw [hw] at hl; simp at hl
  | cons a l =>
    rw [hw] at hl hd h0
    have ha := hd a (by simp)
    cases l with
    | nil =>
      refine ⟨a - 48, by omega, TL.ext_tl ?_⟩
      rw [figs_tl, TL.numL_lt (by omega), hw]
      congr 1
      omega
    | cons b l =>
      have hb := hd b (by simp)
      cases l with
      | cons _ _ => simp at hl
      | nil =>
        have h1 : a ≠ 48 := fun e => h0 (by simp) (by rw [e]; rfl)
        refine ⟨(a - 48) * 10 + (b - 48), by omega, TL.ext_tl ?_⟩
        rw [figs_tl, TL.numL_step (by omega), hw]
        have e1 : ((a - 48) * 10 + (b - 48)) / 10 = a - 48 := by omega
        have e2 : ((a - 48) * 10 + (b - 48)) % 10 = b - 48 := by omega
        rw [e1, e2, TL.numL_lt (by omega)]
        show [48 + (a - 48), 48 + (b - 48)] = [a, b]
        congr 1
        · omega
        · congr 1; omega
end Lk

set_option Elab.async false
set_option linter.all false
set_option maxRecDepth 100000
set_option maxHeartbeats 8000000
namespace Lk
open PySem Dl
local macro_rules
  | `(tactic| simp_arith [$ls,*]) => `(tactic| simp [fnM, fnX, outs, outX, sSeq, sIf, sAsg, sRet, sRetN, sNil, sExp, sNo, sWp, wipeD, sExpX, sSetX, sRetX, callX, sTry, sRz0, sRz1, bP, bV, bAnd, bOr, bNot, bYes, eP, eMv, eFr, eFz, pVar, pC, pOp2, pOp1, eOp2, eOpP, eOpPP, eOpN, eOpV, eIx, eIxP, pBi, pAll, eBi, eBiP, takeA, valsA, aE, aS, aNil, eTup, eLst, pTup, eCall, callA, putA, gN, gT, gTu, gSt, lVar, lIx, lFld, eMt, eMt0, eMtL, getP_nil, putP_nil, mAppend, pFld, pIsi, pIsE, pXf, pAndV, pOrV, eAndV, eOrV, eIf, pNotV, eNotV, pGet, pSl, pPart, ePO, opIsN, opNotN, D.stable, stableL, D.imm, immL, D.frz, frzL, eqI, eqS, neI, neS, addI, eRevP, eRevE, eFrL, sSetF, eAddM, List.set_cons_zero, List.set_cons_succ, List.getD_cons_zero, List.getD_cons_succ, $ls,*])
/-! KB81: words looked at, on both sides -/
def optN : Option Nat → D
  | some n => .int (n : Int)
  | none => .non
theorem len_str {w : Str} (h : w.length ≤ 9001) : opLen [.str w] = some (.int (w.length : Int)) := by
  show (if w.length ≤ 16777216 then _ else none) = _
  rw [if_pos (by omega)]
theorem pT12 (ρ : DEnv) : pTup [(pC (.int 1)), (pC (.int 2))] ρ = some (.tup [.int 1, .int 2]) := rfl
theorem all_figs {w : Str} (hz : w.length ≤ 9000) : bV (eBi opAll (aE (eCompS (pVar 0) (gN 1) bYes (eP (pOp2 opIn (pVar 1) (pC (.str "0123456789")))) [1]) aNil)) [some (.str w), none] = some (w.cps.toList.all fun c => decide (48 ≤ c ∧ c ≤ 57), [some (.str w), none]) := by
  have hc : eCompS (pVar 0) (gN 1) bYes (eP (pOp2 opIn (pVar 1) (pC (.str "0123456789")))) [1] [some (.str w), none] = some (.lst true (w.cps.toList.map fun c => D.bl (decide (48 ≤ c ∧ c ≤ 57))), [some (.str w), none]) := by
    refine compS_M rfl (by omega) fun c hc => ⟨_, rfl, [some (.str w), some (.str ⟨#[c]⟩)], ?_, rfl⟩
    have hin := in_figs c
    generalize decide (48 ≤ c ∧ c ≤ 57) = q at hin ⊢
    simp [eP, pOp2, pVar, pC, wipeD, hin, D.stable]
  have ha := all_bls w.cps.toList fun c => decide (48 ≤ c ∧ c ≤ 57)
  simp only [bV, eBi, aE, hc, aNil, takeA]
  rw [ha]
theorem num_out {w : Str} (hz : w.length ≤ 9000) (h : ¬ (1 ≤ w.length ∧ w.length ≤ 2)) : m_number_by [.str w] = some (.non, [.str w]) ∧ m__law_number_of [.str w] = some (.non, [.str w]) := by
  have hl := len_str (w := w) (by omega)
  have hq := all_figs hz
  have l1 : opLe (.int 1) (.int (w.length : Int)) = some (.bl (decide (1 ≤ (w.length : Int)))) := rfl
  have l2 : opLe (.int (w.length : Int)) (.int 2) = some (.bl (decide ((w.length : Int) ≤ 2))) := rfl
  have ni : opNi (.int (w.length : Int)) (.tup [.int 1, .int 2]) = some (.bl true) := by
    have h1 : ¬ (w.length : Int) = 1 := by omega
    have h2 : ¬ (w.length : Int) = 2 := by omega
    have e1 : ((1 : Int) == (w.length : Int)) = false := by simpa using Ne.symm h1
    have e2 : ((2 : Int) == (w.length : Int)) = false := by simpa using Ne.symm h2
    simp [opNi, inB, D.sv, svL, L2.inV, L2.eqV, e1, e2]
  generalize D.str w = W at *
  generalize hL : (w.length : Int) = L at *
  constructor
  · by_cases c1 : 1 ≤ L
    · rw [decide_eq_true c1] at l1
      rw [decide_eq_false (show ¬ L ≤ 2 by omega)] at l2
      simp_arith [m_number_by, b_number_by, pCh, hl, l1, l2]
    · rw [decide_eq_false c1] at l1
      simp_arith [m_number_by, b_number_by, pCh, hl, l1]
  · simp_arith [m__law_number_of, b__law_number_of, hl, ni]
theorem num_in {w : Str} (hz : w.length ≤ 9000) (h : 1 ≤ w.length ∧ w.length ≤ 2) :
    opLe (.int 1) (.int (w.length : Int)) = some (.bl true) ∧ opLe (.int (w.length : Int)) (.int 2) = some (.bl true) ∧ opNi (.int (w.length : Int)) (.tup [.int 1, .int 2]) = some (.bl false) := by
  refine ⟨?_, ?_, ?_⟩
  · show some (D.bl (decide _)) = _
    rw [decide_eq_true (by omega)]
  · show some (D.bl (decide _)) = _
    rw [decide_eq_true (by omega)]
  · have : w.length = 1 ∨ w.length = 2 := by omega
    rcases this with e | e <;> rw [e] <;> decide +kernel
theorem num_odd {w : Str} (hz : w.length ≤ 9000) (h : 1 ≤ w.length ∧ w.length ≤ 2) (hf : (w.cps.toList.all fun c => decide (48 ≤ c ∧ c ≤ 57)) = false) : m_number_by [.str w] = some (.non, [.str w]) ∧ m__law_number_of [.str w] = some (.non, [.str w]) := by
  have hl := len_str (w := w) (by omega)
  have hq := all_figs hz
  rw [hf] at hq
  obtain ⟨l1, l2, ni⟩ := num_in hz h
  generalize D.str w = W at *
  generalize hL : (w.length : Int) = L at *
  have c0 : bOr (bNot (bP (pCh opLe opLe (pC (.int 1)) (pBi opLen [(pVar 0)]) (pC (.int 2))))) (bNot (bV (eBi opAll (aE (eCompS (pVar 0) (gN 1) bYes x1_number_by [1]) aNil)))) [some W, none] = some (true, [some W, none]) := by
    unfold x1_number_by
    simp only [bOr, bNot, bP, pCh, pC, pBi, pAll, pVar, List.getD_cons_zero, hl, l1, l2, Bool.not_true, hq, Bool.not_false]
  have c1 : bOr (bP (pOp2 opNi (pBi opLen [(pVar 0)]) (pTup [(pC (.int 1)), (pC (.int 2))]))) (bNot (bV (eBi opAll (aE (eCompS (pVar 0) (gN 1) bYes x1__law_number_of [1]) aNil)))) [some W, none] = some (true, [some W, none]) := by
    unfold x1__law_number_of
    simp only [bOr, bNot, bP, pOp2, pT12, pC, pBi, pAll, pVar, List.getD_cons_zero, hl, ni, hq, Bool.not_false]
  constructor
  · show fnM 1 1 2 _ _ = _
    unfold b_number_by
    simp only [fnM, List.length_cons, List.length_nil, List.drop_succ_cons, List.drop_zero, List.drop_nil, List.all_nil, and_self, if_true, List.map_cons, List.map_nil, List.replicate_one, List.cons_append, List.nil_append, Nat.reduceSub, Nat.zero_add]
    rw [sSeq_rt (d := .non) (ρ1 := [some W, none]) (by rw [sIf_t c0]; rfl)]
    rfl
  · show fnM 1 1 2 _ _ = _
    unfold b__law_number_of
    simp only [fnM, List.length_cons, List.length_nil, List.drop_succ_cons, List.drop_zero, List.drop_nil, List.all_nil, and_self, if_true, List.map_cons, List.map_nil, List.replicate_one, List.cons_append, List.nil_append, Nat.reduceSub, Nat.zero_add]
    rw [sSeq_rt (d := .non) (ρ1 := [some W, none]) (by rw [sIf_t c1]; rfl)]
    rfl
theorem num_zero {w : Str} (hf : (w.cps.toList.all fun c => decide (48 ≤ c ∧ c ≤ 57)) = true) (h2 : w.length = 2) (h0 : (TL.tl w).head? = some 48) : m_number_by [.str w] = some (.non, [.str w]) ∧ m__law_number_of [.str w] = some (.non, [.str w]) := by
  have hz : w.length ≤ 9000 := by omega
  have hl := len_str (w := w) (by omega)
  have hq := all_figs hz
  rw [hf] at hq
  obtain ⟨l1, l2, ni⟩ := num_in hz (by omega)
  have ix : opIx (.str w) (.int 0) = some (.str "0") := by
    show (if w.length ≤ sizeLine then (L2.atI w.cps.toList 0).map fun c => D.str ⟨#[c]⟩ else none) = _
    rw [if_pos (by rw [sizeLine_eq]; omega)]
    cases hw : w.cps.toList with
    | nil => rw [show TL.tl w = [] from hw] at h0; cases h0
    | cons a l =>
      rw [show TL.tl w = a :: l from hw] at h0
      cases h0
      have : L2.atI (48 :: l) 0 = some 48 := by simp [L2.atI, L2.ixN]
      rw [this]
      rfl
  have e1 : opGt (.int (w.length : Int)) (.int 1) = some (.bl true) := by rw [h2]; rfl
  have e2 : opEq (.int (w.length : Int)) (.int 2) = some (.bl true) := by rw [h2]; rfl
  have e3 : opEq (.str "0") (.str "0") = some (.bl true) := by decide +kernel
  generalize D.str w = W at *
  generalize hL : (w.length : Int) = L at *
  have c0 : bOr (bNot (bP (pCh opLe opLe (pC (.int 1)) (pBi opLen [(pVar 0)]) (pC (.int 2))))) (bNot (bV (eBi opAll (aE (eCompS (pVar 0) (gN 1) bYes x1_number_by [1]) aNil)))) [some W, none] = some (false, [some W, none]) := by
    unfold x1_number_by
    simp only [bOr, bNot, bP, pCh, pC, pBi, pAll, pVar, List.getD_cons_zero, hl, l1, l2, Bool.not_true, hq, Bool.not_false]
  have c1 : bOr (bP (pOp2 opNi (pBi opLen [(pVar 0)]) (pTup [(pC (.int 1)), (pC (.int 2))]))) (bNot (bV (eBi opAll (aE (eCompS (pVar 0) (gN 1) bYes x1__law_number_of [1]) aNil)))) [some W, none] = some (false, [some W, none]) := by
    unfold x1__law_number_of
    simp only [bOr, bNot, bP, pOp2, pT12, pC, pBi, pAll, pVar, List.getD_cons_zero, hl, ni, hq, Bool.not_true]
  have d0 : bAnd (bP (pOp2 opGt (pBi opLen [(pVar 0)]) (pC (.int 1)))) (bP (pOp2 opEq (pOp2 opIx (pVar 0) (pC (.int 0))) (pC (.str "0")))) [some W, none] = some (true, [some W, none]) := by
    simp only [bAnd, bP, pOp2, pBi, pAll, pVar, pC, List.getD_cons_zero, hl, e1, ix, e3]
  have d1 : bAnd (bP (pOp2 opEq (pBi opLen [(pVar 0)]) (pC (.int 2)))) (bP (pOp2 opEq (pOp2 opIx (pVar 0) (pC (.int 0))) (pC (.str "0")))) [some W, none] = some (true, [some W, none]) := by
    simp only [bAnd, bP, pOp2, pBi, pAll, pVar, pC, List.getD_cons_zero, hl, e2, ix, e3]
  constructor
  · show fnM 1 1 2 _ _ = _
    unfold b_number_by
    simp only [fnM, List.length_cons, List.length_nil, List.drop_succ_cons, List.drop_zero, List.drop_nil, List.all_nil, and_self, if_true, List.map_cons, List.map_nil, List.replicate_one, List.cons_append, List.nil_append, Nat.reduceSub, Nat.zero_add]
    rw [sSeq_nx (sIf_f c0), sSeq_rt (d := .non) (ρ1 := [some W, none]) (by rw [sIf_t d0]; rfl)]
    rfl
  · show fnM 1 1 2 _ _ = _
    unfold b__law_number_of
    simp only [fnM, List.length_cons, List.length_nil, List.drop_succ_cons, List.drop_zero, List.drop_nil, List.all_nil, and_self, if_true, List.map_cons, List.map_nil, List.replicate_one, List.cons_append, List.nil_append, Nat.reduceSub, Nat.zero_add]
    rw [sSeq_nx (sIf_f c1), sSeq_rt (d := .non) (ρ1 := [some W, none]) (by rw [sIf_t d1]; rfl)]
    rfl
theorem num_yes (n : Nat) (h : n ≤ 99) : m__law_number_of [.str (figs n)] = some (.int (n : Int), [.str (figs n)]) := by
  have hk := figs_len h
  have hz : (figs n).length ≤ 9000 := by omega
  have hl := len_str (w := figs n) (by omega)
  have hq := all_figs hz
  have hf : ((figs n).cps.toList.all fun c => decide (48 ≤ c ∧ c ≤ 57)) = true := List.all_eq_true.mpr fun c hc => decide_eq_true (TL.numL_digits n c (by rw [← figs_tl]; exact hc))
  rw [hf] at hq
  obtain ⟨l1, l2, ni⟩ := num_in hz hk
  have hint : opInt [.str (figs n)] = some (.int (n : Int)) := by
    have hi : PySem.intText? (figs n) = some (n : Int) := TL.int_num (by rw [← figs_tl, ← TL.len_tl]; omega)
    simp only [opInt, hi]
    exact if_pos (by omega)
  have d1 : bAnd (bP (pOp2 opEq (pBi opLen [(pVar 0)]) (pC (.int 2)))) (bP (pOp2 opEq (pOp2 opIx (pVar 0) (pC (.int 0))) (pC (.str "0")))) [some (.str (figs n)), none] = some (false, [some (.str (figs n)), none]) := by
    by_cases h1 : n < 10
    · have e : (figs n).length = 1 := by rw [TL.len_tl, figs_tl, TL.numL_lt h1]; rfl
      have g : opEq (.int ((figs n).length : Int)) (.int 2) = some (.bl false) := by rw [e]; rfl
      simp only [bAnd, bP, pOp2, pBi, pAll, pVar, pC, List.getD_cons_zero, hl, g]
    · have et : TL.tl (figs n) = [48 + n / 10, 48 + n % 10] := by rw [figs_tl, TL.numL_step (by omega), TL.numL_lt (by omega)]; rfl
      have e : (figs n).length = 2 := by rw [TL.len_tl, et]; rfl
      have g : opEq (.int ((figs n).length : Int)) (.int 2) = some (.bl true) := by rw [e]; rfl
      have ix : opIx (.str (figs n)) (.int 0) = some (.str ⟨#[48 + n / 10]⟩) := by
        show (if (figs n).length ≤ sizeLine then (L2.atI (figs n).cps.toList 0).map fun c => D.str ⟨#[c]⟩ else none) = _
        rw [if_pos (by rw [sizeLine_eq]; omega), show (figs n).cps.toList = [48 + n / 10, 48 + n % 10] from et]
        rfl
      have ne : ¬ ((⟨#[48 + n / 10]⟩ : Str) = "0") := fun q => by
        have := congrArg TL.tl q
        have h0 : TL.tl ("0" : Str) = [48] := by decide +kernel
        rw [h0] at this
        have h2 : [48 + n / 10] = [48] := this
        injection h2 with h2
        omega
      simp only [bAnd, bP, pOp2, pBi, pAll, pVar, pC, List.getD_cons_zero, hl, g, ix, eqS, decide_eq_false ne]
  generalize D.str (figs n) = W at *
  generalize hL : ((figs n).length : Int) = L at *
  have c1 : bOr (bP (pOp2 opNi (pBi opLen [(pVar 0)]) (pTup [(pC (.int 1)), (pC (.int 2))]))) (bNot (bV (eBi opAll (aE (eCompS (pVar 0) (gN 1) bYes x1__law_number_of [1]) aNil)))) [some W, none] = some (false, [some W, none]) := by
    unfold x1__law_number_of
    simp only [bOr, bNot, bP, pOp2, pT12, pC, pBi, pAll, pVar, List.getD_cons_zero, hl, ni, hq, Bool.not_true]
  show fnM 1 1 2 _ _ = _
  unfold b__law_number_of
  simp only [fnM, List.length_cons, List.length_nil, List.drop_succ_cons, List.drop_zero, List.drop_nil, List.all_nil, and_self, if_true, List.map_cons, List.map_nil, List.replicate_one, List.cons_append, List.nil_append, Nat.reduceSub, Nat.zero_add]
  rw [sSeq_nx (sIf_f c1), sSeq_nx (sIf_f d1)]
  simp_arith [hint]
theorem number_any {w : Str} (hz : w.length ≤ 9000) : m_number_by [.str w] = some (optN (numP w), [.str w]) ∧ m__law_number_of [.str w] = some (optN (numP w), [.str w]) := by
  cases hn : numP w with
  | some n =>
    obtain ⟨h1, rfl⟩ := numP_some hn
    exact ⟨number_ok' n h1, num_yes n h1⟩
  | none =>
    by_cases h : 1 ≤ w.length ∧ w.length ≤ 2
    · cases hf : (w.cps.toList.all fun c => decide (48 ≤ c ∧ c ≤ 57)) with
      | false => exact num_odd hz h hf
      | true =>
        by_cases h2 : w.length = 2 ∧ (TL.tl w).head? = some 48
        · exact num_zero hf h2.1 h2.2
        · obtain ⟨n, q1, q2⟩ := figs_of h (fun c hc => by simpa using List.all_eq_true.mp hf c hc) (fun q e => h2 ⟨by omega, e⟩)
          exact absurd q2 (numP_none hn n q1)
    · exact num_out hz h
theorem word_strK {w : Str} (hz : w.length ≤ 9000) : m_is_word [.str w] = some (.bl (wordB w), [.str w]) := word_any (.str w) (by show decide _ = true; rw [decide_eq_true (by omega)]) rfl
theorem law_word_str {w : Str} (hz : w.length ≤ 9000) : m__law_is_word [.str w] = some (.bl (wordB w), [.str w]) := by
  have i1 : opIsi "str" (.str w) = some (.bl true) := rfl
  have hl := len_str (w := w) (by omega)
  have l1 : opLe (.int 1) (.int (w.length : Int)) = some (.bl (decide (1 ≤ (w.length : Int)))) := rfl
  have l2 : opLe (.int (w.length : Int)) (.int 8) = some (.bl (decide ((w.length : Int) ≤ 8))) := rfl
  have hc : eCompS (pVar 0) (gN 1) bYes x1__law_is_word [1] [some (.str w), none] = some (.lst true (w.cps.toList.map fun c => D.bl (decide (97 ≤ c ∧ c ≤ 122))), [some (.str w), none]) := by
    refine compS_M rfl (by omega) fun c hc => ⟨_, rfl, [some (.str w), some (.str ⟨#[c]⟩)], ?_, rfl⟩
    have hin := in_letters c
    generalize decide (97 ≤ c ∧ c ≤ 122) = q at hin ⊢
    simp [x1__law_is_word, eP, pOp2, pVar, pC, wipeD, hin, D.stable]
  have ha := all_bls w.cps.toList fun c => decide (97 ≤ c ∧ c ≤ 122)
  have hq : eBi opAll (aE (eCompS (pVar 0) (gN 1) bYes x1__law_is_word [1]) aNil) [some (.str w), none] = some (.bl (w.cps.toList.all fun c => decide (97 ≤ c ∧ c ≤ 122)), [some (.str w), none]) := by
    simp only [eBi, aE, hc, aNil, takeA]
    rw [ha]
  unfold wordB
  generalize (w.cps.toList.all fun c => decide (97 ≤ c ∧ c ≤ 122)) = q at hq ⊢
  generalize D.str w = W at *
  have hs : sRet (eBi opAll (aE (eCompS (pVar 0) (gN 1) bYes x1__law_is_word [1]) aNil)) [some W, none] = some (.rt (.bl q), [some W, none]) := sRet_of hq
  by_cases h1 : 1 ≤ w.length
  · rw [decide_eq_true (by omega)] at l1
    by_cases h2 : w.length ≤ 8
    · rw [decide_eq_true (by omega)] at l2
      rw [decide_eq_true (show 1 ≤ w.length ∧ w.length ≤ 8 from ⟨h1, h2⟩), Bool.true_and]
      simp [m__law_is_word, b__law_is_word, fnM, outs, sSeq, sIf, sNil, bP, bNot, bOr, pOp1, pVar, pC, pBi, pAll, pIsi, pCh, i1, hl, l1, l2, hs]
    · rw [decide_eq_false (by omega)] at l2
      rw [decide_eq_false (show ¬ (1 ≤ w.length ∧ w.length ≤ 8) from fun z => h2 z.2), Bool.false_and]
      simp [m__law_is_word, b__law_is_word, fnM, outs, sSeq, sIf, sNil, sRet, eP, D.stable, bP, bNot, bOr, pOp1, pVar, pC, pBi, pAll, pIsi, pCh, i1, hl, l1, l2]
  · rw [decide_eq_false (by omega)] at l1
    rw [decide_eq_false (show ¬ (1 ≤ w.length ∧ w.length ≤ 8) from fun z => h1 z.1), Bool.false_and]
    simp [m__law_is_word, b__law_is_word, fnM, outs, sSeq, sIf, sNil, sRet, eP, D.stable, bP, bNot, bOr, pOp1, pVar, pC, pBi, pAll, pIsi, pCh, i1, hl, l1, l2]
end Lk

set_option Elab.async false
set_option linter.all false
set_option maxRecDepth 100000
set_option maxHeartbeats 8000000
namespace Lk
open PySem Dl
local macro_rules
  | `(tactic| simp_arith [$ls,*]) => `(tactic| simp [fnM, fnX, outs, outX, sSeq, sIf, sAsg, sRet, sRetN, sNil, sExp, sNo, sWp, wipeD, sExpX, sSetX, sRetX, callX, sTry, sRz0, sRz1, bP, bV, bAnd, bOr, bNot, bYes, eP, eMv, eFr, eFz, pVar, pC, pOp2, pOp1, eOp2, eOpP, eOpPP, eOpN, eOpV, eIx, eIxP, pBi, pAll, eBi, eBiP, takeA, valsA, aE, aS, aNil, eTup, eLst, pTup, eCall, callA, putA, gN, gT, gTu, gSt, lVar, lIx, lFld, eMt, eMt0, eMtL, getP_nil, putP_nil, mAppend, pFld, pIsi, pIsE, pXf, pAndV, pOrV, eAndV, eOrV, eIf, pNotV, eNotV, pGet, pSl, pPart, ePO, opIsN, opNotN, D.stable, stableL, D.imm, immL, D.frz, frzL, eqI, eqS, neI, neS, addI, eRevP, eRevE, eFrL, sSetF, eAddM, List.set_cons_zero, List.set_cons_succ, List.getD_cons_zero, List.getD_cons_succ, $ls,*])
/-! KC81: a line read, on both sides -/
def lineP : List Str → Option Part
  | w0 :: w1 :: w2 :: w3 :: w4 :: rest =>
    if wordB w0 = true then
      match numP w1, numP w2 with
      | some a, some b =>
        if (1 ≤ a ∧ a ≤ 9) ∧ (1 ≤ b ∧ b ≤ 9) then
          if w3 = "leaf" then
            match numP w4, rest with
            | some n, [] => some ⟨w0, .leaf n, a, b⟩
            | _, _ => none
          else
            match lohi w3 with
            | some (lo, hi) => if lo ≤ ((w4 :: rest).length : Int) ∧ ((w4 :: rest).length : Int) ≤ hi ∧ (w4 :: rest).all wordB = true then some ⟨w0, .op w3 (w4 :: rest), a, b⟩ else none
            | none => none
        else none
      | _, _ => none
    else none
  | _ => none
def optP : Option Part → D
  | some p => partD p
  | none => .non
theorem lineP_good {ws : List Str} {p : Part} (h : lineP ws = some p) : PartGood p := by
  unfold lineP at h
  split at h
  · rename_i w0 w1 w2 w3 w4 rest
    split at h
    · rename_i h0
      split at h
      · rename_i a b ha hb
        split at h
        · rename_i hab
          split at h
          · split at h
            · rename_i n hn
              cases h
              have := (numP_some hn).1
              exact ⟨h0, ⟨by omega, by omega⟩, by show 1 ≤ (a : Int) ∧ (a : Int) ≤ 9; omega, by show 1 ≤ (b : Int) ∧ (b : Int) ≤ 9; omega⟩
            · cases h
          · split at h
            · rename_i lo hi hl
              split at h
              · rename_i hk
                cases h
                refine ⟨h0, ⟨lo, hi, hl, hk.1, hk.2.1, ?_, fun x hx => List.all_eq_true.mp hk.2.2 x hx⟩, by show 1 ≤ (a : Int) ∧ (a : Int) ≤ 9; omega, by show 1 ≤ (b : Int) ∧ (b : Int) ≤ 9; omega⟩
                have : hi ≤ 4 := by
                  unfold lohi at hl
                  repeat' split at hl
                  all_goals cases hl
                  all_goals omega
                have := hk.2.1
                omega
              · cases h
            · cases h
        · cases h
      · cases h
    · cases h
  · cases h
theorem ixK {o : Bool} {ds : List D} {i : Nat} {d : D} (h : ds[i]? = some d) : opIx (.lst o ds) (.int (i : Int)) = some d := by
  have hi := (List.getElem?_eq_some_iff.mp h).1
  simp [opIx, atD, L2.atI, L2.ixN, hi, h]
  exact (List.getElem?_eq_some_iff.mp h).2
/-- five words and more, as a list -/
theorem five_words (w0 w1 w2 w3 w4 : Str) (rest : List Str) : let W : D := .lst true ((w0 :: w1 :: w2 :: w3 :: w4 :: rest).map D.str)
    opIx W (.int 0) = some (.str w0) ∧ opIx W (.int 1) = some (.str w1) ∧ opIx W (.int 2) = some (.str w2) ∧ opIx W (.int 3) = some (.str w3) ∧ opIx W (.int 4) = some (.str w4) ∧
    opLen [W] = some (.int (rest.length + 5 : Nat)) ∧ opSl W (some 1) (some 3) = some (.lst true [.str w1, .str w2]) ∧ opSl W (some 4) none = some (.lst true ((w4 :: rest).map D.str)) := by
  intro W
  refine ⟨?_, ?_, ?_, ?_, ?_, ?_, ?_, ?_⟩
  · exact ixK (i := 0) rfl
  · exact ixK (i := 1) rfl
  · exact ixK (i := 2) rfl
  · exact ixK (i := 3) rfl
  · exact ixK (i := 4) rfl
  · simp [W, opLen]; omega
  · exact sl_mid (a := 1) (b := 3) (by simp) (by simp) (strs_imm _)
  · show opSl (.lst true _) _ none = _
    simp only [opSl, strs_imm, if_true]
    unfold cutA
    simp [HT.sIx_nat (n := 4), HT.sIx]
    exact List.take_of_length_le (by simp)
theorem few_words (ws : List Str) (h : ws.length < 5) : opLt (.int (ws.length : Int)) (.int 5) = some (.bl true) ∧ lineP ws = none := by
  refine ⟨?_, ?_⟩
  · show some (D.bl (decide _)) = _
    rw [decide_eq_true (by omega)]
  · unfold lineP
    split
    · simp at h; omega
    · rfl
theorem len_words (ws : List Str) : opLen [.lst true (ws.map D.str)] = some (.int (ws.length : Int)) := by
  show some (D.int ((ws.map D.str).length : Int)) = _
  rw [List.length_map]
def inN (lo hi : Int) : Option Nat → Bool
  | some n => decide (lo ≤ (n : Int)) && decide ((n : Int) ≤ hi)
  | none => false
theorem pair_comp {L W : D} {w1 w2 : Str} (h1 : w1.length ≤ 9000) (h2 : w2.length ≤ 9000) (hs : opSl W (some 1) (some 3) = some (.lst true [.str w1, .str w2])) :
    eComp (ePO (pSl (pVar 1) (some (pC (.int 1))) (some (pC (.int 3))))) (gN 5) bYes x1_read_part [5] [some L, some W, none, none, none, none, none, none] = some (.lst true [optN (numP w1), optN (numP w2)], [some L, some W, none, none, none, none, none, none]) := by
  refine comp_M (xs := [w1, w2]) (c := D.str) (f := fun w => optN (numP w)) (ρ1 := [some L, some W, none, none, none, none, none, none]) (d := .lst true [.str w1, .str w2]) ?_ rfl (by simp) fun w hw => ?_
  · simp_arith [hs]
  · have hz : w.length ≤ 9000 := by
      simp at hw
      rcases hw with rfl | rfl <;> assumption
    have hn := (number_any hz).1
    refine ⟨_, rfl, [some L, some W, none, none, none, some (.str w), none, none], ?_, rfl⟩
    generalize optN (numP w) = N at *
    generalize D.str w = Z at *
    simp_arith [x1_read_part, hn]
theorem pair_all {L W : D} {a b : Option Nat} :
    bV (eBi opAll (aE (eComp (eFr 2) (gN 6) bYes x2_read_part [6]) aNil)) [some L, some W, some (.lst true [optN a, optN b]), none, none, none, none, none] = some (inN 1 9 a && inN 1 9 b, [some L, some W, some (.lst false [optN a, optN b]), none, none, none, none, none]) := by
  have hf : ∀ x : Option Nat, (optN x).frz = optN x := fun x => by cases x <;> rfl
  have hc : eComp (eFr 2) (gN 6) bYes x2_read_part [6] [some L, some W, some (.lst true [optN a, optN b]), none, none, none, none, none] = some (.lst true [.bl (inN 1 9 a), .bl (inN 1 9 b)], [some L, some W, some (.lst false [optN a, optN b]), none, none, none, none, none]) := by
    refine comp_M (xs := [a, b]) (c := optN) (f := fun w => D.bl (inN 1 9 w)) (ρ1 := [some L, some W, some (.lst false [optN a, optN b]), none, none, none, none, none]) (d := .lst false [optN a, optN b]) ?_ ?_ (by simp) fun w hw => ?_
    · simp [eFr, D.frz, frzL, hf]
    · simp [D.frz, frzL, hf, itemsD]
    · refine ⟨_, rfl, [some L, some W, some (.lst false [optN a, optN b]), none, none, none, some (optN w), none], ?_, rfl⟩
      cases w with
      | none => simp_arith [x2_read_part, optN, inN, pCh]
      | some n =>
        have l1 : opLe (.int 1) (.int (n : Int)) = some (.bl (decide ((1 : Int) ≤ n))) := rfl
        have l2 : opLe (.int (n : Int)) (.int 9) = some (.bl (decide ((n : Int) ≤ 9))) := rfl
        have no : opNotN (.int (n : Int)) .non = some (.bl true) := rfl
        by_cases c1 : (1 : Int) ≤ n
        · rw [decide_eq_true c1] at l1
          simp_arith [x2_read_part, optN, inN, pCh, l1, l2, no, c1]
        · rw [decide_eq_false c1] at l1
          simp_arith [x2_read_part, optN, inN, pCh, l1, no, c1]
  have ha : opAll [.lst true [.bl (inN 1 9 a), .bl (inN 1 9 b)]] = some (.bl (inN 1 9 a && inN 1 9 b)) := by
    have := all_bls [a, b] (inN 1 9)
    simpa using this
  simp only [bV, eBi, aE, hc, aNil, takeA]
  rw [ha]
theorem names_all {L W N : D} {ns : List Str} (hn : ∀ w ∈ ns, w.length ≤ 9000) (hz : ns.length ≤ 9000) :
    bV (eBi opAll (aE (eComp (eFr 3) (gN 7) bYes x3_read_part [7]) aNil)) [some L, some W, some N, some (.lst true (ns.map D.str)), none, none, none, none] = some (ns.all wordB, [some L, some W, some N, some (.lst false (ns.map D.str)), none, none, none, none]) := by
  have hf : (D.lst true (ns.map D.str)).frz = .lst false (ns.map D.str) := by
    rw [D.frz, frzL_of_stable _ (stableL_of_imm _ (strs_imm ns))]
  have hc : eComp (eFr 3) (gN 7) bYes x3_read_part [7] [some L, some W, some N, some (.lst true (ns.map D.str)), none, none, none, none] = some (.lst true (ns.map fun w => D.bl (wordB w)), [some L, some W, some N, some (.lst false (ns.map D.str)), none, none, none, none]) := by
    refine comp_M (xs := ns) (c := D.str) (f := fun w => D.bl (wordB w)) (ρ1 := [some L, some W, some N, some (.lst false (ns.map D.str)), none, none, none, none]) (d := .lst false (ns.map D.str)) ?_ ?_ (by omega) fun w hw => ?_
    · simp [eFr, hf]
    · rw [D.frz, frzL_of_stable _ (stableL_of_imm _ (strs_imm ns))]; rfl
    · have hq := word_strK (hn w hw)
      refine ⟨_, rfl, [some L, some W, some N, some (.lst false (ns.map D.str)), none, none, none, some (.str w)], ?_, rfl⟩
      generalize D.lst false (ns.map D.str) = M at *
      generalize D.str w = Z at *
      simp_arith [x3_read_part, hq]
  have ha := all_bls ns wordB
  simp only [bV, eBi, aE, hc, aNil, takeA]
  rw [ha]
theorem law_names_all {L W M A B : D} {ns : List Str} (hn : ∀ w ∈ ns, w.length ≤ 9000) (hz : ns.length ≤ 9000) (h4 : opSl W (some 4) none = some (.lst true (ns.map D.str))) :
    bV (eBi opAll (aE (eComp (ePO (pSl (pVar 1) (some (pC (.int 4))) none)) (gN 5) bYes x1__law_part_of [5]) aNil)) [some L, some W, some M, some A, some B, none] = some (ns.all wordB, [some L, some W, some M, some A, some B, none]) := by
  have hc : eComp (ePO (pSl (pVar 1) (some (pC (.int 4))) none)) (gN 5) bYes x1__law_part_of [5] [some L, some W, some M, some A, some B, none] = some (.lst true (ns.map fun w => D.bl (wordB w)), [some L, some W, some M, some A, some B, none]) := by
    refine comp_M (xs := ns) (c := D.str) (f := fun w => D.bl (wordB w)) (ρ1 := [some L, some W, some M, some A, some B, none]) (d := .lst true (ns.map D.str)) ?_ ?_ (by omega) fun w hw => ?_
    · generalize D.lst true (ns.map D.str) = Z at *
      simp_arith [h4]
    · rw [D.frz, frzL_of_stable _ (stableL_of_imm _ (strs_imm ns))]; rfl
    · have hq := law_word_str (hn w hw)
      refine ⟨_, rfl, [some L, some W, some M, some A, some B, some (.str w)], ?_, rfl⟩
      generalize D.str w = Z at *
      simp_arith [x1__law_part_of, hq]
  have ha := all_bls ns wordB
  simp only [bV, eBi, aE, hc, aNil, takeA]
  rw [ha]
end Lk

set_option Elab.async false
set_option linter.all false
set_option maxRecDepth 100000
set_option maxHeartbeats 8000000
namespace Lk
open PySem Dl
local macro_rules
  | `(tactic| simp_arith [$ls,*]) => `(tactic| simp [fnM, fnX, outs, outX, sSeq, sIf, sAsg, sRet, sRetN, sNil, sExp, sNo, sWp, wipeD, sExpX, sSetX, sRetX, callX, sTry, sRz0, sRz1, bP, bV, bAnd, bOr, bNot, bYes, eP, eMv, eFr, eFz, pVar, pC, pOp2, pOp1, eOp2, eOpP, eOpPP, eOpN, eOpV, eIx, eIxP, pBi, pAll, eBi, eBiP, takeA, valsA, aE, aS, aNil, eTup, eLst, pTup, eCall, callA, putA, gN, gT, gTu, gSt, lVar, lIx, lFld, eMt, eMt0, eMtL, getP_nil, putP_nil, mAppend, pFld, pIsi, pIsE, pXf, pAndV, pOrV, eAndV, eOrV, eIf, pNotV, eNotV, pGet, pSl, pPart, ePO, opIsN, opNotN, D.stable, stableL, D.imm, immL, D.frz, frzL, eqI, eqS, neI, neS, addI, eRevP, eRevE, eFrL, sSetF, eAddM, List.set_cons_zero, List.set_cons_succ, List.getD_cons_zero, List.getD_cons_succ, $ls,*])
/-! KD81: read_part and _law_part_of -/
theorem bNotK {c : BM} {ρ ρ1 : DEnv} {b : Bool} (h : c ρ = some (b, ρ1)) : bNot c ρ = some (!b, ρ1) := by unfold bNot; rw [h]
theorem fnM1 {n : Nat} {body : SM} {L L' d : D} (h : ∃ ρ', body (some L :: List.replicate n none) = some (.rt d, some L' :: ρ')) : fnM 1 1 (n + 1) body [L] = some (d, [L']) := by
  obtain ⟨ρ', h⟩ := h
  simp [fnM, h, outs]
theorem if_no {c : BM} {f : SM} {ρ ρ1 : DEnv} (h : c ρ = some (false, ρ1)) : sIf c f sNil ρ = some (.nx, ρ1) := (sIf_f h).trans rfl
theorem if_ret {c : BM} {f g : SM} {ρ ρ1 ρ2 : DEnv} {d : D} (h : c ρ = some (true, ρ1)) (hf : f ρ1 = some (.rt d, ρ2)) : sIf c f g ρ = some (.rt d, ρ2) := (sIf_t h).trans hf
theorem len_more (k : Nat) : opLt (.int ((k + 5 : Nat) : Int)) (.int 5) = some (.bl false) := by
  show some (D.bl (decide _)) = _
  rw [decide_eq_false (by omega)]
theorem gt_five (k : Nat) : opGt (.int ((k + 5 : Nat) : Int)) (.int 5) = some (.bl (decide (0 < k))) := by
  have e : opGt (.int ((k + 5 : Nat) : Int)) (.int 5) = some (.bl (decide (((k + 5 : Nat) : Int) > 5))) := rfl
  rw [e]
  by_cases h : 0 < k
  · rw [decide_eq_true h, decide_eq_true (by omega)]
  · rw [decide_eq_false h, decide_eq_false (by omega)]
theorem ne_five (k : Nat) : opNe (.int ((k + 5 : Nat) : Int)) (.int 5) = some (.bl (decide (0 < k))) := by
  rw [neI]
  by_cases h : 0 < k
  · rw [decide_eq_true h, decide_eq_false (by omega)]; rfl
  · rw [decide_eq_false h, decide_eq_true (by omega)]; rfl
def Ret (s : SM) (ρ : DEnv) (d L : D) : Prop := ∃ ρ', s ρ = some (.rt d, some L :: ρ')
theorem ret_seq {f g : SM} {ρ ρ1 : DEnv} {d L : D} (h : f ρ = some (.nx, ρ1)) (k : Ret g ρ1 d L) : Ret (sSeq f g) ρ d L := by
  obtain ⟨r, e⟩ := k
  exact ⟨r, (sSeq_nx h).trans e⟩
theorem ret_rt {f g : SM} {ρ ρ' : DEnv} {d L : D} (h : f ρ = some (.rt d, some L :: ρ')) : Ret (sSeq f g) ρ d L := ⟨_, sSeq_rt h⟩
theorem sm_words {x : Str} (hz : x.length ≤ 9000) (σ : DEnv) : eSm mSplit (pVar 0) (aE (eP (pC (.str " "))) aNil) (some (.str x) :: σ) = some (.lst true ((cutT 32 x).map D.str), some (.str x) :: σ) := by
  have hsp := mSplit_sp hz
  simp_arith [eSm, hsp]
theorem inN_some {lo hi : Int} {o : Option Nat} (h : inN lo hi o = true) : ∃ n : Nat, o = some n ∧ lo ≤ (n : Int) ∧ (n : Int) ≤ hi := by
  cases o with
  | none => cases h
  | some n => exact ⟨n, rfl, by simpa [inN] using h⟩
theorem lineP_pair {w0 w1 w2 w3 w4 : Str} {rest : List Str} (h0 : wordB w0 = true) (h : (inN 1 9 (numP w1) && inN 1 9 (numP w2)) = false) : lineP (w0 :: w1 :: w2 :: w3 :: w4 :: rest) = none := by
  unfold lineP
  simp only [h0, if_true]
  split
  · rename_i a b ha hb
    rw [if_neg]
    intro q
    rw [ha, hb] at h
    have h1 : inN 1 9 (some a) = true := by simp [inN]; omega
    have h2 : inN 1 9 (some b) = true := by simp [inN]; omega
    rw [h1, h2] at h
    cases h
  · rfl
theorem five_of (ws : List Str) (h : ¬ ws.length < 5) : ∃ w0 w1 w2 w3 w4 rest, ws = w0 :: w1 :: w2 :: w3 :: w4 :: rest := by
  match ws, h with
  | [], h => simp at h
  | [_], h => simp at h
  | [_, _], h => simp at h
  | [_, _, _], h => simp at h
  | [_, _, _, _], h => simp at h
  | w0 :: w1 :: w2 :: w3 :: w4 :: rest, _ => exact ⟨w0, w1, w2, w3, w4, rest, rfl⟩
theorem read_part_any {x : Str} (hz : x.length ≤ 9000) : m_read_part [.str x] = some (optP (lineP (cutT 32 x)), [.str x]) := by
  have hsm := sm_words hz
  have hlen := cutT_len 32 x
  have hsub : ∀ w ∈ cutT 32 x, w.length ≤ 9000 := fun w hw => Nat.le_trans (cutT_sub hw) hz
  have hws : (cutT 32 x).length ≤ 9001 := by omega
  clear hlen
  generalize cutT 32 x = ws at *
  generalize D.str x = L at *
  by_cases h5 : ws.length < 5
  · obtain ⟨l, e⟩ := few_words ws h5
    have hl := len_words ws
    rw [e]
    generalize D.lst true (ws.map D.str) = W at *
    generalize (ws.length : Int) = k at *
    refine fnM1 (n := 7) ?_
    show Ret b_read_part [some L, none, none, none, none, none, none, none] _ _
    unfold b_read_part
    refine ret_seq (ρ1 := [some L, some W, none, none, none, none, none, none]) (sAsg_of (hsm _) rfl) ?_
    exact ret_rt (if_ret (ρ1 := [some L, some W, none, none, none, none, none, none]) (by simp_arith [hl, l]) rfl)
  obtain ⟨w0, w1, w2, w3, w4, rest, rfl⟩ := five_of ws h5
  obtain ⟨i0, i1, i2, i3, i4, hl, s13, s4⟩ := five_words w0 w1 w2 w3 w4 rest
  have lt := len_more rest.length
  have gt := gt_five rest.length
  have z0 := hsub w0 (by simp)
  have z1 := hsub w1 (by simp)
  have z2 := hsub w2 (by simp)
  have z4 := hsub w4 (by simp)
  have k0 := word_strK z0
  have k4 := (number_any z4).1
  have hs4 : (D.str w4).stable = true := rfl
  have e3 : opEq (.str w3) (.str "leaf") = some (.bl (decide (w3 = "leaf"))) := by rw [eqS]
  generalize hW : D.lst true ((w0 :: w1 :: w2 :: w3 :: w4 :: rest).map D.str) = W at *
  generalize (rest.length + 5 : Nat) = k5 at hl lt gt
  have hp := pair_comp (L := L) z1 z2 s13
  have hq := pair_all (L := L) (W := W) (a := numP w1) (b := numP w2)
  refine fnM1 (n := 7) ?_
  show Ret b_read_part [some L, none, none, none, none, none, none, none] _ _
  unfold b_read_part
  refine ret_seq (ρ1 := [some L, some W, none, none, none, none, none, none]) (sAsg_of (hsm _) rfl) ?_
  cases hb : wordB w0 with
  | false =>
    rw [hb] at k0
    have : lineP (w0 :: w1 :: w2 :: w3 :: w4 :: rest) = none := by simp [lineP, hb]
    rw [this]
    exact ret_rt (if_ret (ρ1 := [some L, some W, none, none, none, none, none, none]) (by simp_arith [hl, lt, i0, k0]) rfl)
  | true =>
    rw [hb] at k0
    refine ret_seq (ρ1 := [some L, some W, none, none, none, none, none, none]) (if_no (by simp_arith [hl, lt, i0, k0])) ?_
    refine ret_seq (ρ1 := [some L, some W, some (.lst true [optN (numP w1), optN (numP w2)]), none, none, none, none, none]) (sAsg_of hp rfl) ?_
    cases hab : (inN 1 9 (numP w1) && inN 1 9 (numP w2)) with
    | false =>
      rw [lineP_pair hb hab]
      rw [hab] at hq
      exact ret_rt (if_ret (bNotK hq) rfl)
    | true =>
      rw [hab] at hq
      obtain ⟨a, ea, a1, a2⟩ := inN_some (Bool.and_eq_true_iff.mp hab).1
      obtain ⟨b, eb, b1, b2⟩ := inN_some (Bool.and_eq_true_iff.mp hab).2
      refine ret_seq (if_no (bNotK hq)) ?_
      rw [ea, eb]
      have hcond : (1 ≤ a ∧ a ≤ 9) ∧ (1 ≤ b ∧ b ≤ 9) := by omega
      have n0 : opIx (.lst false [optN (some a), optN (some b)]) (.int 0) = some (.int (a : Int)) := rfl
      have n1 : opIx (.lst false [optN (some a), optN (some b)]) (.int 1) = some (.int (b : Int)) := rfl
      generalize D.lst false [optN (some a), optN (some b)] = N at *
      by_cases hleaf : w3 = "leaf"
      · rw [decide_eq_true hleaf] at e3
        by_cases hr : 0 < rest.length
        · rw [decide_eq_true hr] at gt
          have : lineP (w0 :: w1 :: w2 :: w3 :: w4 :: rest) = none := by
            unfold lineP
            simp only [hb, ea, eb, hcond, hleaf, if_true, and_self]
            split
            · simp at hr
            · rfl
          rw [this]
          generalize optN (numP w4) = N4 at *
          generalize D.str w4 = W4 at *
          exact ⟨[some W, some N, none, none, none, none, none], by simp_arith [hl, i3, i4, e3, k4, hs4, gt, optP]⟩
        · have hrn : rest = [] := by
            cases rest with
            | nil => rfl
            | cons _ _ => simp at hr
          rw [decide_eq_false hr] at gt
          cases h4 : numP w4 with
          | none =>
            have : lineP (w0 :: w1 :: w2 :: w3 :: w4 :: rest) = none := by
              unfold lineP
              simp only [hb, ea, eb, hcond, hleaf, if_true, and_self, h4]
            rw [this]
            rw [h4] at k4
            generalize D.str w4 = W4 at *
            exact ⟨[some W, some N, none, none, none, none, none], by simp_arith [hl, i3, i4, e3, k4, hs4, gt, optP, optN]⟩
          | some n =>
            have : lineP (w0 :: w1 :: w2 :: w3 :: w4 :: rest) = some ⟨w0, .leaf n, a, b⟩ := by
              unfold lineP
              simp only [hb, ea, eb, hcond, hleaf, if_true, and_self, h4, hrn]
            rw [this]
            rw [h4] at k4
            have on : opIsN (.int (n : Int)) .non = some (.bl false) := rfl
            show Ret _ _ (.tup [.str w0, .tup [.str "leaf", .int (n : Int)], .int (a : Int), .int (b : Int)]) _
            generalize D.str w4 = W4 at *
            exact ⟨[some W, some N, none, none, none, none, none], by simp_arith [hl, i3, i4, e3, k4, hs4, gt, optN, on, i0, n0, n1]⟩
      · rw [decide_eq_false hleaf] at e3
        refine ret_seq (ρ1 := [some L, some W, some N, none, none, none, none, none]) (sWp_cw (ρ1 := [some L, some W, some N, none, none, none, none, none]) (if_no (ρ1 := [some L, some W, some N, none, none, none, none, none]) (by simp_arith [i3, e3]))) ?_
        have hna := names_all (L := L) (W := W) (N := N) (ns := w4 :: rest) (fun w hw => hsub w (by simp at hw ⊢; grind)) (by simp at hws ⊢; omega)
        have him := strs_imm (w4 :: rest)
        have hst := stableL_of_imm _ him
        have hln : opLen [.lst true ((w4 :: rest).map D.str)] = some (.int ((w4 :: rest).length : Int)) := len_words _
        have htu : opTuple [.lst false ((w4 :: rest).map D.str)] = some (.tup ((w4 :: rest).map D.str)) := by
          show (if immL _ = true then _ else _) = _
          rw [if_pos him]
        have htl : ((w4 :: rest).map D.str).length ≤ 9000 := by simp at hws ⊢; omega
        generalize hM : (w4 :: rest).map D.str = M at *
        refine ret_seq (ρ1 := [some L, some W, some N, some (.lst true M), none, none, none, none]) (sAsg_of (d := .lst true M) (ρ1 := [some L, some W, some N, none, none, none, none, none]) (by simp_arith [s4]) rfl) ?_
        cases hlo : lohi w3 with
        | none =>
          have g1 := gin_no w3 hlo
          have : lineP (w0 :: w1 :: w2 :: w3 :: w4 :: rest) = none := by
            unfold lineP
            simp only [hb, ea, eb, hcond, hleaf, if_true, if_false, and_self, hlo]
          rw [this]
          generalize D.lst true M = M1 at *
          exact ret_rt (if_ret (ρ1 := [some L, some W, some N, some M1, none, none, none, none]) (by simp_arith [pGIn, i3, g1]) rfl)
        | some q =>
          obtain ⟨lo, hi⟩ := q
          obtain ⟨g1, g2, g3⟩ := gin_yes w3 lo hi hlo
          have l1 : opLe (.int lo) (.int ((w4 :: rest).length : Int)) = some (.bl (decide (lo ≤ ((w4 :: rest).length : Int)))) := rfl
          have l2 : opLe (.int ((w4 :: rest).length : Int)) (.int hi) = some (.bl (decide (((w4 :: rest).length : Int) ≤ hi))) := rfl
          have hv : lineP (w0 :: w1 :: w2 :: w3 :: w4 :: rest) = if lo ≤ ((w4 :: rest).length : Int) ∧ ((w4 :: rest).length : Int) ≤ hi ∧ (w4 :: rest).all wordB = true then some ⟨w0, .op w3 (w4 :: rest), a, b⟩ else none := by
            unfold lineP
            simp only [hb, ea, eb, hcond, hleaf, if_true, if_false, and_self, hlo]
          rw [hv]
          have hfin : some (Fl.rt (.tup [.str w0, .tup [.str w3, .tup M], .int (a : Int), .int (b : Int)]), [some L, some W, some N, some (D.lst false M), none, none, none, none]) = some (Fl.rt (optP (some ⟨w0, .op w3 (w4 :: rest), (a : Int), (b : Int)⟩)), [some L, some W, some N, some (D.lst false M), none, none, none, none]) := by
            rw [← hM]; rfl
          generalize ((w4 :: rest).length : Int) = len at *
          by_cases c1 : lo ≤ len
          · rw [decide_eq_true c1] at l1
            by_cases c2 : len ≤ hi
            · rw [decide_eq_true c2] at l2
              refine ret_seq (ρ1 := [some L, some W, some N, some (.lst true M), none, none, none, none]) (if_no (by
                generalize D.lst true M = M1 at *
                simp_arith [pGIn, pGIx, pCh, i3, g1, g2, g3, hln, l1, l2])) ?_
              cases hal : (w4 :: rest).all wordB with
              | false =>
                rw [hal] at hna
                rw [if_neg (by rintro ⟨_, _, q⟩; cases q)]
                exact ret_rt (if_ret (bNotK hna) rfl)
              | true =>
                rw [hal] at hna
                rw [if_pos ⟨c1, c2, rfl⟩]
                refine ret_seq (if_no (bNotK hna)) ?_
                refine ⟨[some W, some N, some (D.lst false M), none, none, none, none], Eq.trans ?_ hfin⟩
                generalize D.lst false M = M1 at *
                have hsM : (D.tup M).stable = true := by simpa [D.stable] using hst
                have hsN : (D.str w3).stable = true := rfl
                generalize D.tup M = M2 at *
                simp_arith [i0, i3, htu, n0, n1, hsM]
            · rw [decide_eq_false c2] at l2
              rw [if_neg (by rintro ⟨_, q, _⟩; exact c2 q)]
              generalize D.lst true M = M1 at *
              exact ret_rt (if_ret (ρ1 := [some L, some W, some N, some M1, none, none, none, none]) (by simp_arith [pGIn, pGIx, pCh, i3, g1, g2, g3, hln, l1, l2]) rfl)
          · rw [decide_eq_false c1] at l1
            rw [if_neg (by rintro ⟨q, _⟩; exact c1 q)]
            generalize D.lst true M = M1 at *
            exact ret_rt (if_ret (ρ1 := [some L, some W, some N, some M1, none, none, none, none]) (by simp_arith [pGIn, pGIx, pCh, i3, g1, g2, g3, hln, l1, l2]) rfl)
end Lk

set_option Elab.async false
set_option linter.all false
set_option maxRecDepth 100000
set_option maxHeartbeats 8000000
namespace Lk
open PySem Dl
local macro_rules
  | `(tactic| simp_arith [$ls,*]) => `(tactic| simp [fnM, fnX, outs, outX, sSeq, sIf, sAsg, sRet, sRetN, sNil, sExp, sNo, sWp, wipeD, sExpX, sSetX, sRetX, callX, sTry, sRz0, sRz1, bP, bV, bAnd, bOr, bNot, bYes, eP, eMv, eFr, eFz, pVar, pC, pOp2, pOp1, eOp2, eOpP, eOpPP, eOpN, eOpV, eIx, eIxP, pBi, pAll, eBi, eBiP, takeA, valsA, aE, aS, aNil, eTup, eLst, pTup, eCall, callA, putA, gN, gT, gTu, gSt, lVar, lIx, lFld, eMt, eMt0, eMtL, getP_nil, putP_nil, mAppend, pFld, pIsi, pIsE, pXf, pAndV, pOrV, eAndV, eOrV, eIf, pNotV, eNotV, pGet, pSl, pPart, ePO, opIsN, opNotN, D.stable, stableL, D.imm, immL, D.frz, frzL, eqI, eqS, neI, neS, addI, eRevP, eRevE, eFrL, sSetF, eAddM, List.set_cons_zero, List.set_cons_succ, List.getD_cons_zero, List.getD_cons_succ, $ls,*])
/-! KE81: _law_part_of -/
theorem le_int (i j : Int) : opLe (.int i) (.int j) = some (.bl (decide (i ≤ j))) := rfl
theorem par_cond {L W : D} (a b : Option Nat) : (bOr (bP (pOp2 opIsN (pVar 3) (pC .non))) (bOr (bP (pOp2 opIsN (pVar 4) (pC .non))) (bOr (bNot (bP (pCh opLe opLe (pC (.int 1)) (pVar 3) (pC (.int 9))))) (bNot (bP (pCh opLe opLe (pC (.int 1)) (pVar 4) (pC (.int 9)))))))) [some L, some W, none, some (optN a), some (optN b), none] = some (!(inN 1 9 a && inN 1 9 b), [some L, some W, none, some (optN a), some (optN b), none]) := by
  cases a with
  | none => simp_arith [optN, inN]
  | some n =>
    have o1 : opIsN (.int (n : Int)) .non = some (.bl false) := rfl
    cases b with
    | none => simp_arith [optN, inN, o1]
    | some m =>
      have o2 : opIsN (.int (m : Int)) .non = some (.bl false) := rfl
      have l1 := le_int 1 n
      have l2 := le_int n 9
      have l3 := le_int 1 m
      have l4 := le_int m 9
      have e1 : inN 1 9 (some n) = (decide (1 ≤ (n : Int)) && decide ((n : Int) ≤ 9)) := rfl
      have e2 : inN 1 9 (some m) = (decide (1 ≤ (m : Int)) && decide ((m : Int) ≤ 9)) := rfl
      rw [e1, e2]
      show _ = some (_, [some L, some W, none, some (D.int n), some (D.int m), none])
      show (bOr _ _) [some L, some W, none, some (D.int n), some (D.int m), none] = _
      generalize decide (1 ≤ (n : Int)) = q1 at *
      generalize decide ((n : Int) ≤ 9) = q2 at *
      generalize decide (1 ≤ (m : Int)) = q3 at *
      generalize decide ((m : Int) ≤ 9) = q4 at *
      cases q1 <;> cases q2 <;> cases q3 <;> cases q4 <;> simp_arith [pCh, o1, o2, l1, l2, l3, l4]
def tabD : D := .dic true .k [.str "plus", .str "times", .str "most", .str "less"] [.tup [.int 1, .int 4], .tup [.int 1, .int 4], .tup [.int 1, .int 4], .tup [.int 2, .int 2]]
theorem tab_nodup : ([.inr "plus", .inr "times", .inr "most", .inr "less"] : List L2.Key).Nodup ∧ ([.inr "plus", .inr "times", .inr "most", .inr "less"] : List L2.Key).length ≤ 15 := by decide +kernel
theorem disp_tab (ρ : DEnv) : eDisp [((pC (.str "plus")), (eTup (aE (eP (pC (.int 1))) (aE (eP (pC (.int 4))) aNil)))), ((pC (.str "times")), (eTup (aE (eP (pC (.int 1))) (aE (eP (pC (.int 4))) aNil)))), ((pC (.str "most")), (eTup (aE (eP (pC (.int 1))) (aE (eP (pC (.int 4))) aNil)))), ((pC (.str "less")), (eTup (aE (eP (pC (.int 2))) (aE (eP (pC (.int 2))) aNil))))] ρ = some (tabD, ρ) := by
  have h : dispM [((pC (.str "plus")), (eTup (aE (eP (pC (.int 1))) (aE (eP (pC (.int 4))) aNil)))), ((pC (.str "times")), (eTup (aE (eP (pC (.int 1))) (aE (eP (pC (.int 4))) aNil)))), ((pC (.str "most")), (eTup (aE (eP (pC (.int 1))) (aE (eP (pC (.int 4))) aNil)))), ((pC (.str "less")), (eTup (aE (eP (pC (.int 2))) (aE (eP (pC (.int 2))) aNil))))] ρ = some ([.inr "plus", .inr "times", .inr "most", .inr "less"], [.tup [.int 1, .int 4], .tup [.int 1, .int 4], .tup [.int 1, .int 4], .tup [.int 2, .int 2]], ρ) := by
    simp [dispM, D.key, eTup, aE, eP, aNil, pC, valsA, D.stable]
  unfold eDisp
  rw [h]
  show (if _ then _ else _) = _
  rw [if_pos tab_nodup]
  rfl
def boundD (w : Str) : D := match lohi w with
  | some (lo, hi) => .tup [.int lo, .int hi]
  | none => .tup [.int 9, .int 0]
theorem get_tab (w : Str) : opGet tabD (.str w) (.tup [.int 9, .int 0]) = some (boundD w) := by
  unfold boundD lohi
  by_cases h1 : w = "plus"
  · subst h1; decide +kernel
  by_cases h2 : w = "times"
  · subst h2; decide +kernel
  by_cases h3 : w = "most"
  · subst h3; decide +kernel
  by_cases h4 : w = "less"
  · subst h4; decide +kernel
  simp only [h1, h2, h3, h4, if_false]
  simp [opGet, tabD, lookD, keyOk, Ne.symm h1, Ne.symm h2, Ne.symm h3, Ne.symm h4, D.imm, immL, D.key]
theorem bound_cond (w : Str) (k : Nat) : ∃ lo hi : Int, boundD w = .tup [.int lo, .int hi] ∧ ((decide (lo ≤ ((k + 1 : Nat) : Int)) && decide (((k + 1 : Nat) : Int) ≤ hi)) = match lohi w with
    | some (lo, hi) => decide (lo ≤ ((k + 1 : Nat) : Int)) && decide (((k + 1 : Nat) : Int) ≤ hi)
    | none => false) := by
  unfold boundD
  cases lohi w with
  | some q => exact ⟨q.1, q.2, rfl, rfl⟩
  | none =>
    refine ⟨9, 0, rfl, ?_⟩
    rw [decide_eq_false (p := ((k + 1 : Nat) : Int) ≤ 0) (by omega), Bool.and_false]
theorem law_part_any {x : Str} (hz : x.length ≤ 9000) : m__law_part_of [.str x] = some (optP (lineP (cutT 32 x)), [.str x]) := by
  have hsm := sm_words hz
  have hlen := cutT_len 32 x
  have hsub : ∀ w ∈ cutT 32 x, w.length ≤ 9000 := fun w hw => Nat.le_trans (cutT_sub hw) hz
  have hws : (cutT 32 x).length ≤ 9001 := by omega
  clear hlen
  generalize cutT 32 x = ws at *
  generalize D.str x = L at *
  by_cases h5 : ws.length < 5
  · obtain ⟨l, e⟩ := few_words ws h5
    have hl := len_words ws
    rw [e]
    generalize D.lst true (ws.map D.str) = W at *
    generalize (ws.length : Int) = k at *
    refine fnM1 (n := 5) ?_
    show Ret b__law_part_of [some L, none, none, none, none, none] _ _
    unfold b__law_part_of
    refine ret_seq (ρ1 := [some L, some W, none, none, none, none]) (sAsg_of (hsm _) rfl) ?_
    exact ret_rt (if_ret (ρ1 := [some L, some W, none, none, none, none]) (by simp_arith [hl, l]) rfl)
  obtain ⟨w0, w1, w2, w3, w4, rest, rfl⟩ := five_of ws h5
  obtain ⟨i0, i1, i2, i3, i4, hl, s13, s4⟩ := five_words w0 w1 w2 w3 w4 rest
  have lt := len_more rest.length
  have ne := ne_five rest.length
  have z0 := hsub w0 (by simp)
  have z1 := hsub w1 (by simp)
  have z2 := hsub w2 (by simp)
  have z4 := hsub w4 (by simp)
  have k0 := law_word_str z0
  have k1 := (number_any z1).2
  have k2 := (number_any z2).2
  have k4 := (number_any z4).2
  have e3 : opEq (.str w3) (.str "leaf") = some (.bl (decide (w3 = "leaf"))) := by rw [eqS]
  have sb : opSub (.int ((rest.length + 5 : Nat) : Int)) (.int 4) = some (.int ((rest.length + 1 : Nat) : Int)) := by
    simp [opSub]; omega
  have hna := fun M A B => law_names_all (L := L) (M := M) (A := A) (B := B) (ns := w4 :: rest) (fun w hw => hsub w (by simp at hw ⊢; grind)) (by simp at hws ⊢; omega) s4
  generalize hW : D.lst true ((w0 :: w1 :: w2 :: w3 :: w4 :: rest).map D.str) = W at *
  generalize hk5 : (rest.length + 5 : Nat) = k5 at hl lt ne sb
  refine fnM1 (n := 5) ?_
  show Ret b__law_part_of [some L, none, none, none, none, none] _ _
  unfold b__law_part_of
  refine ret_seq (ρ1 := [some L, some W, none, none, none, none]) (sAsg_of (hsm _) rfl) ?_
  cases hb : wordB w0 with
  | false =>
    rw [hb] at k0
    have : lineP (w0 :: w1 :: w2 :: w3 :: w4 :: rest) = none := by simp [lineP, hb]
    rw [this]
    exact ret_rt (if_ret (ρ1 := [some L, some W, none, none, none, none]) (by simp_arith [hl, lt, i0, k0]) rfl)
  | true =>
    rw [hb] at k0
    refine ret_seq (ρ1 := [some L, some W, none, none, none, none]) (if_no (by simp_arith [hl, lt, i0, k0])) ?_
    refine ret_seq (ρ1 := [some L, some W, none, some (optN (numP w1)), some (optN (numP w2)), none]) (by simp_arith [sPar, i1, i2, k1, k2]) ?_
    have hq := par_cond (L := L) (W := W) (numP w1) (numP w2)
    cases hab : (inN 1 9 (numP w1) && inN 1 9 (numP w2)) with
    | false =>
      rw [lineP_pair hb hab]
      rw [hab] at hq
      exact ret_rt (if_ret hq rfl)
    | true =>
      rw [hab] at hq
      obtain ⟨a, ea, a1, a2⟩ := inN_some (Bool.and_eq_true_iff.mp hab).1
      obtain ⟨b, eb, b1, b2⟩ := inN_some (Bool.and_eq_true_iff.mp hab).2
      refine ret_seq (if_no hq) ?_
      rw [ea, eb]
      have hcond : (1 ≤ a ∧ a ≤ 9) ∧ (1 ≤ b ∧ b ≤ 9) := by omega
      show Ret _ [some L, some W, none, some (.int (a : Int)), some (.int (b : Int)), none] _ _
      by_cases hleaf : w3 = "leaf"
      · rw [decide_eq_true hleaf] at e3
        by_cases hr : 0 < rest.length
        · rw [decide_eq_true hr] at ne
          have : lineP (w0 :: w1 :: w2 :: w3 :: w4 :: rest) = none := by
            unfold lineP
            simp only [hb, ea, eb, hcond, hleaf, if_true, and_self]
            split
            · simp at hr
            · rfl
          rw [this]
          exact ret_rt (if_ret (ρ1 := [some L, some W, none, some (.int (a : Int)), some (.int (b : Int)), none]) (by simp_arith [i3, e3]) (sSeq_rt (if_ret (ρ1 := [some L, some W, none, some (.int (a : Int)), some (.int (b : Int)), none]) (by simp_arith [hl, ne]) rfl)))
        · have hrn : rest = [] := by
            cases rest with
            | nil => rfl
            | cons _ _ => simp at hr
          rw [decide_eq_false hr] at ne
          have hs4 : (D.str w4).stable = true := rfl
          cases h4 : numP w4 with
          | none =>
            have : lineP (w0 :: w1 :: w2 :: w3 :: w4 :: rest) = none := by
              unfold lineP
              simp only [hb, ea, eb, hcond, hleaf, if_true, and_self, h4]
            rw [this]
            rw [h4] at k4
            exact ret_rt (if_ret (ρ1 := [some L, some W, none, some (.int (a : Int)), some (.int (b : Int)), none]) (by simp_arith [i3, e3]) (sSeq_rt (if_ret (ρ1 := [some L, some W, none, some (.int (a : Int)), some (.int (b : Int)), none]) (by simp_arith [hl, ne, i4, hs4, k4, optN]) rfl)))
          | some n =>
            have : lineP (w0 :: w1 :: w2 :: w3 :: w4 :: rest) = some ⟨w0, .leaf n, a, b⟩ := by
              unfold lineP
              simp only [hb, ea, eb, hcond, hleaf, if_true, and_self, h4, hrn]
            rw [this]
            rw [h4] at k4
            have on : opIsN (.int (n : Int)) .non = some (.bl false) := rfl
            show Ret _ _ (.tup [.str w0, .tup [.str "leaf", .int (n : Int)], .int (a : Int), .int (b : Int)]) _
            refine ret_rt (ρ' := [some W, none, some (.int (a : Int)), some (.int (b : Int)), none]) (if_ret (ρ1 := [some L, some W, none, some (.int (a : Int)), some (.int (b : Int)), none]) (by simp_arith [i3, e3]) ?_)
            refine (sSeq_nx (ρ1 := [some L, some W, none, some (.int (a : Int)), some (.int (b : Int)), none]) (if_no (by simp_arith [hl, ne, i4, hs4, k4, optN, on]))).trans ?_
            refine sRet_of ?_
            generalize D.str w4 = W4 at *
            simp_arith [i4, hs4, k4, i0, optN]
      · rw [decide_eq_false hleaf] at e3
        refine ret_seq (ρ1 := [some L, some W, none, some (.int (a : Int)), some (.int (b : Int)), none]) (if_no (by simp_arith [i3, e3])) ?_
        have hg := get_tab w3
        obtain ⟨lo, hi, hbd, hbc⟩ := bound_cond w3 rest.length
        refine ret_seq (ρ1 := [some L, some W, some (boundD w3), some (.int (a : Int)), some (.int (b : Int)), none]) (sAsg_of (d := boundD w3) (ρ1 := [some L, some W, none, some (.int (a : Int)), some (.int (b : Int)), none]) (by
          have hp : pAll [(pOp2 opIx (pVar 1) (pC (.int 3))), (pTup [(pC (.int 9)), (pC (.int 0))])] [some L, some W, none, some (.int (a : Int)), some (.int (b : Int)), none] = some [.str w3, .tup [.int 9, .int 0]] := by
            simp_arith [i3]
          have hbi : (boundD w3).imm = true := by rw [hbd]; rfl
          unfold eGetD
          rw [disp_tab]
          simp only [hp, hg, hbi, if_true]) rfl) ?_
        have hln : opLen [.lst true ((w4 :: rest).map D.str)] = some (.int ((w4 :: rest).length : Int)) := len_words _
        have him := strs_imm (w4 :: rest)
        have hst := stableL_of_imm _ him
        have htu : opTuple [.lst true ((w4 :: rest).map D.str)] = some (.tup ((w4 :: rest).map D.str)) := by
          show (if immL _ = true then _ else _) = _
          rw [if_pos him]
        have htl : ((w4 :: rest).map D.str).length ≤ 9000 := by simp at hws ⊢; omega
        have hlr : ((w4 :: rest).length : Int) = ((rest.length + 1 : Nat) : Int) := rfl
        have hv : lineP (w0 :: w1 :: w2 :: w3 :: w4 :: rest) = if (decide (lo ≤ ((rest.length + 1 : Nat) : Int)) && decide (((rest.length + 1 : Nat) : Int) ≤ hi)) = true ∧ (w4 :: rest).all wordB = true then some ⟨w0, .op w3 (w4 :: rest), a, b⟩ else none := by
          rw [hbc]
          unfold lineP
          simp only [hb, ea, eb, hcond, hleaf, if_true, if_false, and_self, hlr]
          cases lohi w3 with
          | none => simp
          | some q =>
            simp only [Bool.and_eq_true, decide_eq_true_eq, and_assoc]
        rw [hv]
        have hfin : some (Fl.rt (.tup [.str w0, .tup [.str w3, .tup ((w4 :: rest).map D.str)], .int (a : Int), .int (b : Int)]), [some L, some W, some (boundD w3), some (D.int (a : Int)), some (D.int (b : Int)), none]) = some (Fl.rt (optP (some ⟨w0, .op w3 (w4 :: rest), (a : Int), (b : Int)⟩)), [some L, some W, some (boundD w3), some (D.int (a : Int)), some (D.int (b : Int)), none]) := rfl
        have l1 := le_int lo ((rest.length + 1 : Nat) : Int)
        have l2 := le_int ((rest.length + 1 : Nat) : Int) hi
        have d0 : opIx (boundD w3) (.int 0) = some (.int lo) := by rw [hbd]; rfl
        have d1 : opIx (boundD w3) (.int 1) = some (.int hi) := by rw [hbd]; rfl
        have hn2 := hna (boundD w3) (.int (a : Int)) (.int (b : Int))
        clear hna hv hbc hlr hg hbd
        generalize boundD w3 = BD at *
        generalize ((rest.length + 1 : Nat) : Int) = len at *
        generalize hM : (w4 :: rest).map D.str = M at *
        have hc : bNot (bP (pCh opLe opLe (pOp2 opIx (pVar 2) (pC (.int 0))) (pOp2 opSub (pBi opLen [(pVar 1)]) (pC (.int 4))) (pOp2 opIx (pVar 2) (pC (.int 1))))) [some L, some W, some BD, some (.int (a : Int)), some (.int (b : Int)), none] = some (!(decide (lo ≤ len) && decide (len ≤ hi)), [some L, some W, some BD, some (.int (a : Int)), some (.int (b : Int)), none]) := by
          generalize decide (lo ≤ len) = q1 at *
          generalize decide (len ≤ hi) = q2 at *
          cases q1 <;> cases q2 <;> simp [bNot, bP, pCh, pOp2, pVar, pC, pBi, pAll, hl, sb, d0, d1, l1, l2]
        cases hcc : (decide (lo ≤ len) && decide (len ≤ hi)) with
        | false =>
          rw [hcc] at hc
          rw [if_neg (by rintro ⟨q, _⟩; cases q)]
          exact ret_rt (if_ret hc rfl)
        | true =>
          rw [hcc] at hc
          refine ret_seq (if_no hc) ?_
          cases hal : (w4 :: rest).all wordB with
          | false =>
            rw [hal] at hn2
            rw [if_neg (by rintro ⟨_, q⟩; cases q)]
            exact ret_rt (if_ret (bNotK hn2) rfl)
          | true =>
            rw [hal] at hn2
            rw [if_pos ⟨rfl, rfl⟩]
            refine ret_seq (if_no (bNotK hn2)) ?_
            refine ⟨[some W, some BD, some (D.int (a : Int)), some (D.int (b : Int)), none], Eq.trans ?_ hfin⟩
            have hsM : (D.tup M).stable = true := by simpa [D.stable] using hst
            generalize D.lst true M = M1 at *
            generalize D.tup M = M2 at *
            simp_arith [i0, i3, s4, htu, hsM]
end Lk

set_option Elab.async false
set_option linter.all false
set_option maxRecDepth 100000
set_option maxHeartbeats 8000000
namespace Lk
open PySem Dl
local macro_rules
  | `(tactic| simp_arith [$ls,*]) => `(tactic| simp [fnM, fnX, outs, outX, sSeq, sIf, sAsg, sRet, sRetN, sNil, sExp, sNo, sWp, wipeD, sExpX, sSetX, sRetX, callX, sTry, sRz0, sRz1, bP, bV, bAnd, bOr, bNot, bYes, eP, eMv, eFr, eFz, pVar, pC, pOp2, pOp1, eOp2, eOpP, eOpPP, eOpN, eOpV, eIx, eIxP, pBi, pAll, eBi, eBiP, takeA, valsA, aE, aS, aNil, eTup, eLst, pTup, eCall, callA, putA, gN, gT, gTu, gSt, lVar, lIx, lFld, eMt, eMt0, eMtL, getP_nil, putP_nil, mAppend, pFld, pIsi, pIsE, pXf, pAndV, pOrV, eAndV, eOrV, eIf, pNotV, eNotV, pGet, pSl, pPart, ePO, opIsN, opNotN, D.stable, stableL, D.imm, immL, D.frz, frzL, eqI, eqS, neI, neS, addI, eRevP, eRevE, eFrL, sSetF, eAddM, List.set_cons_zero, List.set_cons_succ, List.getD_cons_zero, List.getD_cons_succ, $ls,*])
/-! KF81: good parts as data; the lines taken one by one -/
theorem good_facts {p : Part} (h : PartGood p) : ∃ a, wordB p.name = true ∧ RecOk a p.recp ∧ (∀ x ∈ needs p.recp, wordB x = true) ∧ (1 ≤ p.size ∧ p.size ≤ 9) ∧ (1 ≤ p.cost ∧ p.cost ≤ 9) := by
  have hr := h.rc
  cases hq : p.recp with
  | leaf n =>
    rw [hq] at hr
    exact ⟨[], h.nm, hr, fun x hx => by simp [needs] at hx, h.sz, h.co⟩
  | op w ns =>
    rw [hq] at hr
    obtain ⟨lo, hi, h1, h2, h3, h4, h5⟩ := hr
    refine ⟨ns, h.nm, ?_, h5, h.sz, h.co⟩
    unfold lohi at h1
    split at h1
    · rename_i e; cases h1; exact ⟨.inl e, by omega, by omega, fun q => by rw [e] at q; exact absurd q (by decide +kernel), fun x hx => hx⟩
    · split at h1
      · rename_i e; cases h1; exact ⟨.inr (.inl e), by omega, by omega, fun q => by rw [e] at q; exact absurd q (by decide +kernel), fun x hx => hx⟩
      · split at h1
        · rename_i e; cases h1; exact ⟨.inr (.inr (.inl e)), by omega, by omega, fun q => by rw [e] at q; exact absurd q (by decide +kernel), fun x hx => hx⟩
        · split at h1
          · rename_i e; cases h1; exact ⟨.inr (.inr (.inr e)), by omega, by omega, fun q => by omega, fun x hx => hx⟩
          · cases h1
theorem good_nic {ps : List Part} (b : ∀ p ∈ ps, PartGood p) {o : Bool} : sml 5 (.lst o (ps.map partD)) = true ∧ sml 5 (bookD ps) = true := by
  have key : (ps.map partD).all (sml 4) = true := by
    rw [List.all_map, List.all_eq_true]
    intro p hp
    obtain ⟨a, f1, f2, f3, f4, f5⟩ := good_facts (b p hp)
    have s1 : p.size.natAbs < 1000000000000 := by omega
    have s2 : p.cost.natAbs < 1000000000000 := by omega
    have hr : sml 3 (recD p.recp) = true := by
      cases hq : p.recp with
      | leaf n =>
        rw [hq] at f2
        have : n.natAbs < 1000000000000 := by have := f2.1; have := f2.2; omega
        have h0 : PyData.strOk ("leaf" : Str) = true := by decide +kernel
        simp [recD, sml, this, h0]
      | op w ns =>
        rw [hq] at f2 f3
        have h0 : PyData.strOk w = true := by rcases f2.1 with h | h | h | h <;> subst h <;> decide +kernel
        have h1 : ∀ x ∈ ns, PyData.strOk x = true := fun x hx => word_ok (f3 x hx)
        simp [recD, sml, h0]
        exact h1
    simp [Function.comp, partD, sml, word_ok f1, s1, s2, hr]
  exact ⟨by simpa [sml] using key, by simpa [sml, bookD] using key⟩
theorem good_weight {ps : List Part} (b : ∀ p ∈ ps, PartGood p) (hps : ps.length ≤ 24) : (bookD ps).py.weight ≤ 24000 := by
  rw [bookD, D.py, PyData.weight, weightAll_sum, pyL_map, List.map_map, List.map_map]
  refine Nat.le_trans (sum_le (k := 1000) fun x hx => ?_) ?_
  · obtain ⟨p, hp, rfl⟩ := List.mem_map.mp hx
    obtain ⟨a, f1, f2, f3, f4, f5⟩ := good_facts (b p hp)
    have z0 := word_len f1
    have z0' : p.name.cps.size ≤ 8 := z0
    have z1 := int_weight (i := p.size) (by omega)
    have z2 := int_weight (i := p.cost) (by omega)
    have z3 : (recD p.recp).py.weight ≤ 200 := by
      cases hq : p.recp with
      | leaf n =>
        rw [hq] at f2
        have := int_weight (i := n) (by have := f2.1; have := f2.2; omega)
        have h4 : ("leaf" : Str).cps.size = 4 := by decide +kernel
        simp only [recD, D.py, pyL, PyData.weight, PyData.weightAll] at this ⊢
        omega
      | op w ns =>
        rw [hq] at f2 f3
        have hw : w.cps.size ≤ 8 := by rcases f2.1 with h | h | h | h <;> subst h <;> decide +kernel
        have : (D.tup (ns.map D.str)).py.weight ≤ 9 * 4 := by
          rw [D.py, PyData.weight, weightAll_sum, pyL_map, List.map_map, List.map_map]
          refine Nat.le_trans (sum_le (k := 9) fun y hy => ?_) ?_
          · obtain ⟨z, hz, rfl⟩ := List.mem_map.mp hy
            have := word_len (f3 z hz)
            have h8 : z.cps.size ≤ 8 := this
            simp only [Function.comp, D.py, PyData.weight]
            omega
          · rw [List.length_map]
            have := f2.2.2.1
            omega
        show PyData.weightAll (pyL [.str w, .tup (ns.map D.str)]) ≤ 200
        simp only [pyL, PyData.weightAll]
        have h9 : (D.str w).py.weight ≤ 8 := hw
        omega
    show PyData.weightAll (pyL [.str p.name, recD p.recp, .int p.size, .int p.cost]) + 1 ≤ 1000
    simp only [pyL, PyData.weightAll]
    have h9 : (D.str p.name).py.weight ≤ 8 := z0'
    have h10 : (D.int p.size).py.weight ≤ 40 := z1
    have h11 : (D.int p.cost).py.weight ≤ 40 := z2
    omega
  · rw [List.length_map]
    omega
theorem good_repr {ps : List Part} (b : ∀ p ∈ ps, PartGood p) (h : ps.length ≤ 24) : ∃ x, opRepr [bookD ps] = some (.str x) := ⟨_, repr_tup (n := 5) (good_nic b (o := true)).2 (by decide) (Nat.le_trans (good_weight b h) (by decide))⟩
theorem eq_parts {ps : List Part} (b : ∀ p ∈ ps, PartGood p) : opEq (.lst true (ps.map partD)) (.lst true []) = some (.bl (decide (ps = []))) := by
  have c1 : (D.lst true (ps.map partD)).cmp = true := nic_cmp (sml_ok 5 _ (good_nic b (o := true)).1).1 (by decide)
  have c2 : (D.lst true []).cmp = true := by decide +kernel
  have s1 : (D.lst true (ps.map partD)).sv = none := rfl
  unfold opEq eqB
  rw [s1]
  simp only [c1, c2, and_self, if_true]
  cases ps with
  | nil => simp [D.py, pyL, PyData.eqv, PyData.eqvAll]
  | cons x l => simp [D.py, pyL, PyData.eqv, PyData.eqvAll]
/-- the lines taken one by one: the parts, or the first bad line -/
def readL : List Str → List Part → Sum Nat (List Part)
  | [], acc => .inr acc
  | l :: ls, acc => match lineP (cutT 32 l) with
    | some p => if 24 ≤ acc.length then .inl acc.length else readL ls (acc ++ [p])
    | none => .inl acc.length
theorem readL_ok : ∀ (ls : List Str) (acc : List Part), acc.length ≤ 24 → (∀ p ∈ acc, PartGood p) → match readL ls acc with
    | .inr ps => ps.length ≤ 24 ∧ ∀ p ∈ ps, PartGood p
    | .inl k => k ≤ 24
  | [], acc, h, hg => ⟨h, hg⟩
  | l :: ls, acc, h, hg => by
    unfold readL
    cases hl : lineP (cutT 32 l) with
    | none => exact h
    | some p =>
      by_cases h24 : 24 ≤ acc.length
      · simp only [h24, if_true]
        exact h
      · simp only [h24, if_false]
        refine readL_ok ls (acc ++ [p]) (by simp; omega) fun q hq => ?_
        rcases List.mem_append.mp hq with q1 | q1
        · exact hg q q1
        · rw [List.mem_singleton.mp q1]; exact lineP_good hl
inductive Out where
  | text (k : Nat)
  | names
  | book (ps : List Part)
def outOf (ls : List Str) : Out := match readL ls.dropLast [] with
  | .inl k => .text k
  | .inr ps => if ¬ ls.getLast? = some "" ∨ ps = [] then .text ps.length else if namesOK [] ps = true then .book ps else .names
def outX81 : Out → Rs
  | .text k => .x (.exn "NoText" ["line"] [.int (k : Int)])
  | .names => .x (.exn "NoBook" ["fault"] [.str "names"])
  | .book ps => .v (bookD ps)
def outL81 : Out → D
  | .text k => .tup [.str "text", .int (k : Int)]
  | .names => .tup [.str "names"]
  | .book ps => .tup [.str "book", bookD ps]
def rdF : Sum Nat (List Part) → Fl
  | .inl k => .xc (.exn "NoText" ["line"] [.int (k : Int)])
  | .inr _ => .nx
theorem ge_24 (k : Nat) : opGe (.int (k : Int)) (.int 24) = some (.bl (decide (24 ≤ k))) := by
  have e : opGe (.int (k : Int)) (.int 24) = some (.bl (decide ((k : Int) ≥ 24))) := rfl
  rw [e]
  by_cases h : 24 ≤ k
  · rw [decide_eq_true h, decide_eq_true (by omega)]
  · rw [decide_eq_false h, decide_eq_false (by omega)]
theorem appD (acc : List Part) (p : Part) (h : acc.length ≤ 100) : mAppend (.lst true (acc.map partD)) [partD p] = some (.lst true ((acc ++ [p]).map partD), .non) := by
  rw [List.map_append]
  simp [mAppend]
  omega
theorem read_loop (X LS : D) : ∀ (ls : List Str) (acc : List Part), (∀ l ∈ ls, l.length ≤ 9000) → acc.length ≤ 24 → ∃ ρ', forL (gTu [4, 5]) w1_read_book (enumD acc.length (ls.map D.str)) [some X, some LS, some (.lst true (acc.map partD)), none, none, none, none] = some (rdF (readL ls acc), some X :: ρ') ∧
    ∀ ps, readL ls acc = .inr ps → ρ' = [some LS, some (.lst true (ps.map partD)), none, none, none, none]
  | [], acc, _, _ => ⟨_, rfl, fun ps e => by cases e; rfl⟩
  | l :: ls, acc, hz, hk => by
    have hl := hz l (by simp)
    have hp := read_part_any hl
    have hg := ge_24 acc.length
    have hap := fun p => appD acc p (by omega)
    rw [List.map_cons, enumD]
    unfold readL
    cases hq : lineP (cutT 32 l) with
    | none =>
      rw [hq] at hp
      refine ⟨[some LS, some (.lst true (acc.map partD)), none, none, none, none], ?_, fun ps e => by cases e⟩
      have hb : w1_read_book [some X, some LS, some (.lst true (acc.map partD)), none, some (.int (acc.length : Int)), some (.str l), none] = some (.xc (.exn "NoText" ["line"] [.int (acc.length : Int)]), [some X, some LS, some (.lst true (acc.map partD)), none, none, none, none]) := by
        unfold w1_read_book
        refine sWp_cw (ρ1 := [some X, some LS, some (.lst true (acc.map partD)), none, some (.int (acc.length : Int)), some (.str l), some .non]) ?_
        generalize D.lst true (acc.map partD) = A at *
        generalize D.str l = Z at *
        simp only [optP] at hp
        simp_arith [hp]
      have hgt : gTu [4, 5] (.tup [.int (acc.length : Int), .str l]) [some X, some LS, some (.lst true (acc.map partD)), none, none, none, none] = some [some X, some LS, some (.lst true (acc.map partD)), none, some (.int (acc.length : Int)), some (.str l), none] := rfl
      simp only [forL, hgt, hb]
      rfl
    | some p =>
      rw [hq] at hp
      have hn : opIsN (partD p) .non = some (.bl false) := rfl
      have hst : (partD p).stable = true := partD_stable p
      have hgt : gTu [4, 5] (.tup [.int (acc.length : Int), .str l]) [some X, some LS, some (.lst true (acc.map partD)), none, none, none, none] = some [some X, some LS, some (.lst true (acc.map partD)), none, some (.int (acc.length : Int)), some (.str l), none] := rfl
      have c1 : bOr (bP (pOp2 opIsN (pVar 6) (pC .non))) (bP (pOp2 opGe (pVar 4) (pC (.int 24)))) [some X, some LS, some (.lst true (acc.map partD)), none, some (.int (acc.length : Int)), some (.str l), some (partD p)] = some (decide (24 ≤ acc.length), [some X, some LS, some (.lst true (acc.map partD)), none, some (.int (acc.length : Int)), some (.str l), some (partD p)]) := by
        simp only [bOr, bP, pOp2, pVar, pC, List.getD_cons_succ, List.getD_cons_zero, hn, hg]
      have c0 : sAsg (eCall m_read_part (aS 5 aNil)) (gN 6) [some X, some LS, some (.lst true (acc.map partD)), none, some (.int (acc.length : Int)), some (.str l), none] = some (.nx, [some X, some LS, some (.lst true (acc.map partD)), none, some (.int (acc.length : Int)), some (.str l), some (partD p)]) := by
        generalize D.lst true (acc.map partD) = A at *
        generalize D.str l = Z at *
        simp only [optP] at hp
        generalize partD p = P at *
        simp_arith [hp]
      by_cases h24 : 24 ≤ acc.length
      · simp only [h24, if_true]
        rw [decide_eq_true h24] at c1
        refine ⟨[some LS, some (.lst true (acc.map partD)), none, none, none, none], ?_, fun ps e => by cases e⟩
        have hb : w1_read_book [some X, some LS, some (.lst true (acc.map partD)), none, some (.int (acc.length : Int)), some (.str l), none] = some (.xc (.exn "NoText" ["line"] [.int (acc.length : Int)]), [some X, some LS, some (.lst true (acc.map partD)), none, none, none, none]) := by
          unfold w1_read_book
          refine sWp_cw (ρ1 := [some X, some LS, some (.lst true (acc.map partD)), none, some (.int (acc.length : Int)), some (.str l), some (partD p)]) ?_
          refine (sSeq_nx c0).trans ?_
          have : sIf (bOr (bP (pOp2 opIsN (pVar 6) (pC .non))) (bP (pOp2 opGe (pVar 4) (pC (.int 24))))) (sRz1 "NoText" "line" (pVar 4)) sNil [some X, some LS, some (.lst true (acc.map partD)), none, some (.int (acc.length : Int)), some (.str l), some (partD p)] = some (.xc (.exn "NoText" ["line"] [.int (acc.length : Int)]), [some X, some LS, some (.lst true (acc.map partD)), none, some (.int (acc.length : Int)), some (.str l), some (partD p)]) := (sIf_t c1).trans rfl
          unfold sSeq
          rw [this]
        simp only [forL, hgt, hb]
        rfl
      · simp only [h24, if_false]
        rw [decide_eq_false h24] at c1
        obtain ⟨ρ', e1, e2⟩ := read_loop X LS ls (acc ++ [p]) (fun l hl => hz l (by simp [hl])) (by simp; omega)
        refine ⟨ρ', ?_, e2⟩
        have hb : w1_read_book [some X, some LS, some (.lst true (acc.map partD)), none, some (.int (acc.length : Int)), some (.str l), none] = some (.nx, [some X, some LS, some (.lst true ((acc ++ [p]).map partD)), none, none, none, none]) := by
          unfold w1_read_book
          refine sWp_cw (ρ1 := [some X, some LS, some (.lst true ((acc ++ [p]).map partD)), none, some (.int (acc.length : Int)), some (.str l), some (partD p)]) ?_
          refine (sSeq_nx c0).trans ((sSeq_nx (if_no c1)).trans ?_)
          have ha := hap p
          generalize D.lst true (acc.map partD) = A at *
          generalize D.lst true ((acc ++ [p]).map partD) = A2 at *
          generalize partD p = P at *
          simp [sExp, eMt, eMtL, aE, aNil, eP, pVar, lVar, getP_nil, putP_nil, takeA, valsA, hst, ha]
        have hlen : (acc ++ [p]).length = acc.length + 1 := by simp
        rw [hlen] at e1
        simp only [forL, hgt, hb]
        exact e1
end Lk

set_option Elab.async false
set_option linter.all false
set_option maxRecDepth 100000
set_option maxHeartbeats 8000000
namespace Lk
open PySem Dl
local macro_rules
  | `(tactic| simp_arith [$ls,*]) => `(tactic| simp [fnM, fnX, outs, outX, sSeq, sIf, sAsg, sRet, sRetN, sNil, sExp, sNo, sWp, wipeD, sExpX, sSetX, sRetX, callX, sTry, sRz0, sRz1, bP, bV, bAnd, bOr, bNot, bYes, eP, eMv, eFr, eFz, pVar, pC, pOp2, pOp1, eOp2, eOpP, eOpPP, eOpN, eOpV, eIx, eIxP, pBi, pAll, eBi, eBiP, takeA, valsA, aE, aS, aNil, eTup, eLst, pTup, eCall, callA, putA, gN, gT, gTu, gSt, lVar, lIx, lFld, eMt, eMt0, eMtL, getP_nil, putP_nil, mAppend, pFld, pIsi, pIsE, pXf, pAndV, pOrV, eAndV, eOrV, eIf, pNotV, eNotV, pGet, pSl, pPart, ePO, opIsN, opNotN, D.stable, stableL, D.imm, immL, D.frz, frzL, eqI, eqS, neI, neS, addI, eRevP, eRevE, eFrL, sSetF, eAddM, List.set_cons_zero, List.set_cons_succ, List.getD_cons_zero, List.getD_cons_succ, $ls,*])
/-! KG81: read_book on any text -/
theorem need_nonK (d : D) (h : m_why_no_book [d] = some (.non, [d])) : m_need_book [d] = some (.v .non, [d]) := by
  simp [m_need_book, b_need_book, fnX, outX, fnM, outs, sSeq, sIf, sAsg, sRet, sRetN, sNil, sExp, sNo, bP, bV, bAnd, bOr, bNot, bYes, eP, eMv, eFr, pVar, pC, pOp2, pOp1, eOp2, eOpP, eOpPP, eOpN, eOpV, eIx, eIxP, pBi, pAll, eBi, eBiP, takeA, valsA, aE, aS, aNil, eTup, eLst, eCall, callA, putA, gN, gT, gTu, gSt, lVar, lIx, eMt, eMt0, opLt, opLe, opGt, opGe, opSub, modI, eqI, eqS, neI, neS, opIsN, opNotN, D.stable, stableL, D.imm, immL, D.frz, frzL, pSl, pPart, ePO, List.set_cons_zero, List.set_cons_succ, List.getD_cons_zero, List.getD_cons_succ, getP_nil, putP_nil, eMtL, pAll, h]
theorem need_strK (d : D) (s : Str) (h : m_why_no_book [d] = some (.str s, [d])) : m_need_book [d] = some (.x (.exn "NoBook" ["fault"] [.str s]), [d]) := by
  simp [m_need_book, b_need_book, fnX, outX, sRz1, fnM, outs, sSeq, sIf, sAsg, sRet, sRetN, sNil, sExp, sNo, bP, bV, bAnd, bOr, bNot, bYes, eP, eMv, eFr, pVar, pC, pOp2, pOp1, eOp2, eOpP, eOpPP, eOpN, eOpV, eIx, eIxP, pBi, pAll, eBi, eBiP, takeA, valsA, aE, aS, aNil, eTup, eLst, eCall, callA, putA, gN, gT, gTu, gSt, lVar, lIx, eMt, eMt0, opLt, opLe, opGt, opGe, opSub, modI, eqI, eqS, neI, neS, opIsN, opNotN, D.stable, stableL, D.imm, immL, D.frz, frzL, pSl, pPart, ePO, List.set_cons_zero, List.set_cons_succ, List.getD_cons_zero, List.getD_cons_succ, getP_nil, putP_nil, eMtL, pAll, h]
theorem fnX1_rt {n : Nat} {body : SM} {L L' d : D} (h : ∃ ρ', body (some L :: List.replicate n none) = some (.rt d, some L' :: ρ')) : fnX 1 1 (n + 1) body [L] = some (.v d, [L']) := by
  obtain ⟨ρ', h⟩ := h
  simp [fnX, h, outX, outs]
theorem fnX1_xc {n : Nat} {body : SM} {L L' x : D} (h : ∃ ρ', body (some L :: List.replicate n none) = some (.xc x, some L' :: ρ')) : fnX 1 1 (n + 1) body [L] = some (.x x, [L']) := by
  obtain ⟨ρ', h⟩ := h
  simp [fnX, h, outX, outs]
theorem seq_xc {f g : SM} {ρ ρ1 : DEnv} {x : D} (h : f ρ = some (.xc x, ρ1)) : sSeq f g ρ = some (.xc x, ρ1) := by
  unfold sSeq
  rw [h]
theorem last_of {ls : List Str} (h : ls ≠ []) : ∃ init last, ls = init ++ [last] := ⟨ls.dropLast, ls.getLast h, (List.dropLast_concat_getLast h).symm⟩
theorem outOf_snoc (init : List Str) (last : Str) : outOf (init ++ [last]) = match readL init [] with
  | .inl k => .text k
  | .inr ps => if ¬ last = "" ∨ ps = [] then .text ps.length else if namesOK [] ps = true then .book ps else .names := by
  unfold outOf
  rw [List.dropLast_concat, List.getLast?_concat]
  cases readL init [] <;> simp
theorem sm_lines {x : Str} (hz : x.length ≤ 9000) (σ : DEnv) : eSm mSplit (pVar 0) (aE (eP (pC (.str "\n"))) aNil) (some (.str x) :: σ) = some (.lst true ((cutT 10 x).map D.str), some (.str x) :: σ) := by
  have hsp := mSplit_nl hz
  simp_arith [eSm, hsp]
theorem len_parts {o : Bool} (ps : List Part) : opLen [.lst o (ps.map partD)] = some (.int (ps.length : Int)) := by
  show some (D.int ((ps.map partD).length : Int)) = _
  rw [List.length_map]
theorem tup_parts {o : Bool} (ps : List Part) : opTuple [.lst o (ps.map partD)] = some (bookD ps) := by
  show (if immL (ps.map partD) = true then _ else _) = _
  rw [if_pos (parts_imm ps)]
  rfl
theorem why_good {ps : List Part} (h1 : 1 ≤ ps.length) (h2 : ps.length ≤ 24) (hg : ∀ p ∈ ps, PartGood p) : m_why_no_book [bookD ps] = some (if namesOK [] ps = true then .non else .str "names", [bookD ps]) := why_names ps h1 h2 fun p hp => good_all (hg p hp)
theorem read_book_any {x : Str} (hz : x.length ≤ 9000) : m_read_book [.str x] = some (outX81 (outOf (cutT 10 x)), [.str x]) := by
  have hsm := sm_lines hz
  have hsub : ∀ w ∈ cutT 10 x, w.length ≤ 9000 := fun w hw => Nat.le_trans (cutT_sub hw) hz
  obtain ⟨init, last, hls⟩ := last_of (cutT_ne 10 x)
  rw [hls] at hsm hsub ⊢
  rw [outOf_snoc]
  have hsl : opSl (.lst true ((init ++ [last]).map D.str)) none (some (-1)) = some (.lst true (init.map D.str)) := by
    rw [sl_init (by simp) (strs_imm _)]
    rw [List.map_append, List.map_cons, List.map_nil, List.dropLast_concat]
  have hix : opIx (.lst true ((init ++ [last]).map D.str)) (.int (-1)) = some (.str last) := by
    rw [List.map_append]
    exact ix_last
  have hfr : (D.lst true (init.map D.str)).frz = .lst false (init.map D.str) := by rw [D.frz, frzL_of_stable _ (stableL_of_imm _ (strs_imm init))]
  have hloop := fun X LS => read_loop X LS init [] (fun l hl => hsub l (by simp [hl])) (by simp)
  have hro := readL_ok init [] (by simp) (by simp)
  have hng : opNeg (.int 1) = some (.int (-1)) := rfl
  have hne : opNe (.str last) (.str "") = some (.bl (!decide (last = ""))) := by rw [neS]
  generalize D.lst true ((init ++ [last]).map D.str) = LS at *
  generalize D.str x = X at *
  obtain ⟨ρ', h1, h2⟩ := hloop X LS
  have hit : ePO (pSl (pVar 1) none (some (pOp1 opNeg (pC (.int 1))))) [some X, some LS, some (.lst true []), none, none, none, none] = some (.lst true (init.map D.str), [some X, some LS, some (.lst true []), none, none, none, none]) := by
    generalize D.lst true (init.map D.str) = Z at *
    simp [ePO, pSl, pPart, pVar, pOp1, pC, hng, hsl]
  have hfor : sForE (ePO (pSl (pVar 1) none (some (pOp1 opNeg (pC (.int 1)))))) (gTu [4, 5]) w1_read_book [some X, some LS, some (.lst true []), none, none, none, none] = some (rdF (readL init []), some X :: ρ') := by
    unfold sForE
    rw [hit]
    simp only [hfr]
    exact h1
  have s1 : sAsg (eSm mSplit (pVar 0) (aE (eP (pC (.str "\n"))) aNil)) (gN 1) [some X, none, none, none, none, none, none] = some (.nx, [some X, some LS, none, none, none, none, none]) := sAsg_of (hsm _) rfl
  have s2 : sAsg (eLst aNil) (gN 2) [some X, some LS, none, none, none, none, none] = some (.nx, [some X, some LS, some (.lst true []), none, none, none, none]) := rfl
  cases hr : readL init [] with
  | inl k =>
    rw [hr] at hfor
    refine fnX1_xc (n := 6) ?_
    show ∃ ρ', b_read_book [some X, none, none, none, none, none, none] = _
    unfold b_read_book
    exact ⟨_, (sSeq_nx s1).trans ((sSeq_nx s2).trans (seq_xc (sWp_cw hfor)))⟩
  | inr ps =>
    rw [hr] at hfor hro
    rw [h2 ps hr] at hfor
    obtain ⟨hk, hg⟩ := hro
    have s3 : sWp [4, 5, 6] (sForE (ePO (pSl (pVar 1) none (some (pOp1 opNeg (pC (.int 1)))))) (gTu [4, 5]) w1_read_book) [some X, some LS, some (.lst true []), none, none, none, none] = some (.nx, [some X, some LS, some (.lst true (ps.map partD)), none, none, none, none]) := sWp_cw hfor
    have he := eq_parts hg
    have hln := len_parts (o := true) ps
    have htu := tup_parts (o := true) ps
    have hc : bOr (bP (pOp2 opNe (pOp2 opIx (pVar 1) (pOp1 opNeg (pC (.int 1)))) (pC (.str "")))) (bV (eOpN opEq 2 (eLst aNil))) [some X, some LS, some (.lst true (ps.map partD)), none, none, none, none] = some (!decide (last = "") || decide (ps = []), [some X, some LS, some (.lst true (ps.map partD)), none, none, none, none]) := by
      have hel : (eLst aNil) [some X, some LS, some (.lst true (ps.map partD)), none, none, none, none] = some (.lst true [], [some X, some LS, some (.lst true (ps.map partD)), none, none, none, none]) := rfl
      by_cases hl : last = ""
      · rw [decide_eq_true hl] at hne
        simp only [bOr, bP, pOp2, pVar, pOp1, pC, List.getD_cons_succ, List.getD_cons_zero, hng, hix, hne, bV, eOpN, hel, he, decide_eq_true hl, Bool.not_true, Bool.false_or]
      · rw [decide_eq_false hl] at hne
        simp only [bOr, bP, pOp2, pVar, pOp1, pC, List.getD_cons_succ, List.getD_cons_zero, hng, hix, hne, decide_eq_false hl, Bool.not_false, Bool.true_or]
    by_cases hb : ¬ last = "" ∨ ps = []
    · simp only [hb, if_true]
      have hbb : (!decide (last = "") || decide (ps = [])) = true := by simpa using hb
      rw [hbb] at hc
      refine fnX1_xc (n := 6) ?_
      show ∃ ρ', b_read_book [some X, none, none, none, none, none, none] = _
      unfold b_read_book
      refine ⟨[some LS, some (.lst true (ps.map partD)), none, none, none, none], (sSeq_nx s1).trans ((sSeq_nx s2).trans ((sSeq_nx s3).trans (seq_xc ((sIf_t hc).trans ?_))))⟩
      generalize D.lst true (ps.map partD) = PS at *
      simp [sRz1, pBi, pAll, pVar, hln, D.imm]
    · simp only [hb, if_false]
      have hbb : (!decide (last = "") || decide (ps = [])) = false := by
        rw [Bool.eq_false_iff]
        intro q
        exact hb (by simpa using q)
      rw [hbb] at hc
      have hp1 : 1 ≤ ps.length := by
        cases ps with
        | nil => exact absurd (.inr rfl) hb
        | cons _ _ => simp
      have hw := why_good hp1 hk hg
      have hst := book_stable ps
      have s5 : sAsg (eP (pBi opTuple [(pVar 2)])) (gN 3) [some X, some LS, some (.lst true (ps.map partD)), none, none, none, none] = some (.nx, [some X, some LS, some (.lst true (ps.map partD)), some (bookD ps), none, none, none]) := by
        generalize D.lst true (ps.map partD) = PS at *
        generalize bookD ps = B at *
        simp_arith [htu, hst]
      by_cases hn : namesOK [] ps = true
      · simp only [hn, if_true] at hw ⊢
        have hnb := need_nonK _ hw
        refine fnX1_rt (n := 6) ?_
        show ∃ ρ', b_read_book [some X, none, none, none, none, none, none] = _
        unfold b_read_book
        refine ⟨[some LS, some (.lst true (ps.map partD)), some (bookD ps), none, none, none], (sSeq_nx s1).trans ((sSeq_nx s2).trans ((sSeq_nx s3).trans ((sSeq_nx (if_no hc)).trans ((sSeq_nx s5).trans ?_))))⟩
        generalize D.lst true (ps.map partD) = PS at *
        generalize bookD ps = B at *
        simp_arith [hnb, hst]
      · simp only [hn, if_false] at hw ⊢
        have hnb := need_strK _ "names" hw
        refine fnX1_xc (n := 6) ?_
        show ∃ ρ', b_read_book [some X, none, none, none, none, none, none] = _
        unfold b_read_book
        refine ⟨[some LS, some (.lst true (ps.map partD)), some (bookD ps), none, none, none], (sSeq_nx s1).trans ((sSeq_nx s2).trans ((sSeq_nx s3).trans ((sSeq_nx (if_no hc)).trans ((sSeq_nx s5).trans ?_))))⟩
        generalize D.lst true (ps.map partD) = PS at *
        generalize bookD ps = B at *
        simp_arith [hnb, hst]
end Lk

set_option Elab.async false
set_option linter.all false
set_option maxRecDepth 100000
set_option maxHeartbeats 8000000
namespace Lk
open PySem Dl
local macro_rules
  | `(tactic| simp_arith [$ls,*]) => `(tactic| simp [fnM, fnX, outs, outX, sSeq, sIf, sAsg, sRet, sRetN, sNil, sExp, sNo, sWp, wipeD, sExpX, sSetX, sRetX, callX, sTry, sRz0, sRz1, bP, bV, bAnd, bOr, bNot, bYes, eP, eMv, eFr, eFz, pVar, pC, pOp2, pOp1, eOp2, eOpP, eOpPP, eOpN, eOpV, eIx, eIxP, pBi, pAll, eBi, eBiP, takeA, valsA, aE, aS, aNil, eTup, eLst, pTup, eCall, callA, putA, gN, gT, gTu, gSt, lVar, lIx, lFld, eMt, eMt0, eMtL, getP_nil, putP_nil, mAppend, pFld, pIsi, pIsE, pXf, pAndV, pOrV, eAndV, eOrV, eIf, pNotV, eNotV, pGet, pSl, pPart, ePO, opIsN, opNotN, D.stable, stableL, D.imm, immL, D.frz, frzL, eqI, eqS, neI, neS, addI, eRevP, eRevE, eFrL, sSetF, eAddM, List.set_cons_zero, List.set_cons_succ, List.getD_cons_zero, List.getD_cons_succ, $ls,*])
/-! KH81: _law_read on any text -/
theorem spC_cons {c : Nat} : ∀ {L p q : List Nat} {qs : List (List Nat)}, spC c L = p :: q :: qs → ∃ rest, L = p ++ c :: rest ∧ c ∉ p ∧ spC c rest = q :: qs
  | [], p, q, qs, h => by simp [spC] at h
  | x :: L, p, q, qs, h => by
    unfold spC at h
    split at h
    · rename_i hx
      injection h with h1 h2
      exact ⟨L, by rw [← h1, hx]; rfl, by rw [← h1]; simp, h2⟩
    · rename_i hx
      split at h
      · rename_i r rs e
        injection h with h1 h2
        subst h2
        obtain ⟨rest, e1, e2, e3⟩ := spC_cons e
        refine ⟨rest, by rw [← h1, e1]; rfl, ?_, e3⟩
        rw [← h1, List.mem_cons, not_or]
        exact ⟨fun z => hx z.symm, e2⟩
      · injection h with h1 h2
        cases h2
theorem spC_one {c : Nat} {L p : List Nat} (h : spC c L = [p]) : L = p ∧ c ∉ L := by
  have hj := spC_join c L
  rw [h] at hj
  have h1 : p = L := hj
  refine ⟨h1.symm, ?_⟩
  rw [← h1]
  exact spC_free c L p (by rw [h]; simp)
theorem cut_cons {x l m : Str} {ls : List Str} (h : cutT 10 x = l :: m :: ls) : ∃ r : Str, TL.tl x = TL.tl l ++ 10 :: TL.tl r ∧ 10 ∉ TL.tl l ∧ cutT 10 r = m :: ls := by
  unfold cutT at h
  cases hs : spC 10 (TL.tl x) with
  | nil => rw [hs] at h; cases h
  | cons p ps =>
    rw [hs] at h
    cases ps with
    | nil => simp at h
    | cons q qs =>
      injection h with h1 h2
      obtain ⟨rest, e1, e2, e3⟩ := spC_cons hs
      refine ⟨mkS rest, ?_, ?_, ?_⟩
      · rw [← h1, tl_mkS, tl_mkS]; exact e1
      · rw [← h1, tl_mkS]; exact e2
      · unfold cutT
        rw [tl_mkS, e3]
        exact h2
theorem cut_one {x l : Str} (h : cutT 10 x = [l]) : x = l ∧ 10 ∉ TL.tl x := by
  unfold cutT at h
  cases hs : spC 10 (TL.tl x) with
  | nil => rw [hs] at h; cases h
  | cons p ps =>
    rw [hs] at h
    cases ps with
    | cons q qs => simp at h
    | nil =>
      injection h with h1 h2
      obtain ⟨e1, e2⟩ := spC_one hs
      exact ⟨by rw [← h1, ← e1, mkS_tl], e2⟩
theorem cut_head {x l r : Str} (h : TL.tl x = TL.tl l ++ 10 :: TL.tl r) : L2.cutS x none (some ((TL.tl l).length : Int)) = l ∧ L2.cutS x (some (((TL.tl l).length : Int) + 1)) none = r ∧ r.length ≤ x.length := by
  have hl : x.length = (TL.tl l).length + 1 + (TL.tl r).length := by rw [TL.len_tl, h]; simp; omega
  have hc : x.cps.toList = TL.tl l ++ 10 :: TL.tl r := h
  refine ⟨?_, ?_, ?_⟩
  · apply TL.ext_tl
    show ((x.cps.toList.drop (HT.sIx x.length 0 none)).take (HT.sIx x.length x.length (some ((TL.tl l).length : Int)) - HT.sIx x.length 0 none)) = _
    rw [HT.sIx_nat, HT.sIx_none, hc, List.drop_zero, Nat.sub_zero, Nat.min_eq_left (by omega), List.take_left']
    rfl
  · apply TL.ext_tl
    show ((x.cps.toList.drop (HT.sIx x.length 0 (some (((TL.tl l).length : Int) + 1)))).take (HT.sIx x.length x.length none - HT.sIx x.length 0 (some (((TL.tl l).length : Int) + 1)))) = _
    have e : (((TL.tl l).length : Int) + 1) = (((TL.tl l).length + 1 : Nat) : Int) := rfl
    rw [e, HT.sIx_nat, HT.sIx_none, hc, Nat.min_eq_left (by omega)]
    have : (TL.tl l ++ 10 :: TL.tl r).drop ((TL.tl l).length + 1) = TL.tl r := by
      rw [List.drop_append]
      simp
    rw [this]
    exact List.take_of_length_le (by omega)
  · rw [TL.len_tl r]; omega
def rdL : Sum Nat (List Part) → Fl
  | .inl k => .rt (.tup [.str "text", .int (k : Int)])
  | .inr _ => .nx
theorem eq_24 {k : Nat} (h : k ≤ 24) : opEq (.int (k : Int)) (.int 24) = some (.bl (decide (24 ≤ k))) := by
  rw [eqI]
  by_cases h : 24 ≤ k
  · rw [decide_eq_true h, decide_eq_true (by omega)]
  · rw [decide_eq_false h, decide_eq_false (by omega)]
theorem law_loop (X : D) : ∀ (init : List Str) (last x : Str) (acc : List Part), cutT 10 x = init ++ [last] → x.length ≤ 9000 → acc.length ≤ 24 → ∃ n ρ', whileN q1__law_read w1__law_read n [some X, some (.lst true (acc.map partD)), some (.str x), none, none, none, none, none] = some (rdL (readL init acc), some X :: ρ') ∧
    ∀ ps, readL init acc = .inr ps → ρ' = [some (.lst true (ps.map partD)), some (.str last), none, none, none, none, none]
  | [], last, x, acc, hc, hz, hk => by
    obtain ⟨rfl, h10⟩ := cut_one hc
    have hin := in_nl x
    rw [decide_eq_false h10] at hin
    refine ⟨1, [some (.lst true (acc.map partD)), some (.str x), none, none, none, none, none], ?_, fun ps e => by cases e; rfl⟩
    have hq : q1__law_read [some X, some (.lst true (acc.map partD)), some (.str x), none, none, none, none, none] = some (false, [some X, some (.lst true (acc.map partD)), some (.str x), none, none, none, none, none]) := by
      generalize D.str x = Z at *
      simp_arith [q1__law_read, hin]
    simp only [whileN, hq]
    rfl
  | m :: init, last, x, acc, hc, hz, hk => by
    obtain ⟨m2, init2, he⟩ : ∃ m2 init2, init ++ [last] = m2 :: init2 := by
      cases init with
      | nil => exact ⟨_, _, rfl⟩
      | cons a b => exact ⟨_, _, rfl⟩
    rw [List.cons_append, he] at hc
    obtain ⟨r, e1, e2, e3⟩ := cut_cons hc
    obtain ⟨f1, f2, f3⟩ := cut_head e1
    obtain ⟨occ, hocc⟩ := six_first e1 e2
    rw [← he] at e3
    have hin := in_nl x
    rw [decide_eq_true (by rw [e1]; simp)] at hin
    have hmz : m.length ≤ 9000 := Nat.le_trans (cutT_sub (c := 10) (by rw [hc]; simp)) hz
    have hp := law_part_any hmz
    have hln := len_parts (o := true) acc
    have h24 := eq_24 hk
    have hsx : pSix (pVar 2) (pC (.str "\n")) [some X, some (.lst true (acc.map partD)), some (.str x), none, none, none, none, none] = some (.int ((TL.tl m).length : Int)) := by
      simp only [pSix, pVar, pC, List.getD_cons_succ, List.getD_cons_zero]
      rw [hocc]
    have hsz : x.length ≤ sizeLine := by rw [sizeLine_eq]; omega
    have g1 : opSl (.str x) none (some ((TL.tl m).length : Int)) = some (.str m) := by
      show (if x.length ≤ sizeLine then some (D.str _) else none) = _
      rw [if_pos hsz, f1]
    have g2 : opSl (.str x) (some (((TL.tl m).length : Int) + 1)) none = some (.str r) := by
      show (if x.length ≤ sizeLine then some (D.str _) else none) = _
      rw [if_pos hsz, f2]
    have hadd : opAdd (.int ((TL.tl m).length : Int)) (.int 1) = some (.int (((TL.tl m).length : Int) + 1)) := rfl
    have hsr : (D.str r).stable = true := rfl
    have hsm : (D.str m).stable = true := rfl
    have hq : q1__law_read [some X, some (.lst true (acc.map partD)), some (.str x), none, none, none, none, none] = some (true, [some X, some (.lst true (acc.map partD)), some (.str x), none, none, none, none, none]) := by
      generalize D.str x = Z at *
      simp_arith [q1__law_read, hin]
    have s1 : sAsg (eP (pSix (pVar 2) (pC (.str "\n")))) (gN 5) [some X, some (.lst true (acc.map partD)), some (.str x), none, none, none, none, none] = some (.nx, [some X, some (.lst true (acc.map partD)), some (.str x), none, none, some (.int ((TL.tl m).length : Int)), none, none]) := sAsg_of (eP_of hsx rfl) rfl
    generalize ((TL.tl m).length : Int) = K at *
    have s2 : sAsg (eCall m__law_part_of (aE (eP (pSl (pVar 2) none (some (pVar 5)))) aNil)) (gN 4) [some X, some (.lst true (acc.map partD)), some (.str x), none, none, some (.int K), none, none] = some (.nx, [some X, some (.lst true (acc.map partD)), some (.str x), none, some (optP (lineP (cutT 32 m))), some (.int K), none, none]) := by
      generalize D.lst true (acc.map partD) = A at *
      generalize D.str x = Z at *
      generalize D.str m = M at *
      generalize optP (lineP (cutT 32 m)) = O at *
      simp_arith [g1, hsm, hp]
    unfold readL
    cases hq2 : lineP (cutT 32 m) with
    | none =>
      rw [hq2] at s2
      refine ⟨1, [some (.lst true (acc.map partD)), some (.str x), none, none, none, none, none], ?_, fun ps e => by cases e⟩
      have hb : w1__law_read [some X, some (.lst true (acc.map partD)), some (.str x), none, none, none, none, none] = some (.rt (.tup [.str "text", .int (acc.length : Int)]), [some X, some (.lst true (acc.map partD)), some (.str x), none, none, none, none, none]) := by
        unfold w1__law_read
        refine sWp_cw (ρ1 := [some X, some (.lst true (acc.map partD)), some (.str x), none, some .non, some (.int K), none, none]) ((sSeq_nx s1).trans ((sSeq_nx s2).trans (sSeq_rt ?_)))
        simp only [optP]
        generalize D.lst true (acc.map partD) = A at *
        generalize D.str x = Z at *
        simp_arith [hln]
      simp only [whileN, hq, hb]
      rfl
    | some p =>
      rw [hq2] at s2
      have hn : opIsN (partD p) .non = some (.bl false) := rfl
      have hst : (partD p).stable = true := partD_stable p
      have hap := appD acc p (by omega)
      have c1 : bOr (bP (pOp2 opIsN (pVar 4) (pC .non))) (bP (pOp2 opEq (pBi opLen [(pVar 1)]) (pC (.int 24)))) [some X, some (.lst true (acc.map partD)), some (.str x), none, some (partD p), some (.int K), none, none] = some (decide (24 ≤ acc.length), [some X, some (.lst true (acc.map partD)), some (.str x), none, some (partD p), some (.int K), none, none]) := by
        simp only [bOr, bP, pOp2, pVar, pC, pBi, pAll, List.getD_cons_succ, List.getD_cons_zero, hn, hln, h24]
      by_cases c24 : 24 ≤ acc.length
      · simp only [c24, if_true]
        rw [decide_eq_true c24] at c1
        refine ⟨1, [some (.lst true (acc.map partD)), some (.str x), none, none, none, none, none], ?_, fun ps e => by cases e⟩
        have hb : w1__law_read [some X, some (.lst true (acc.map partD)), some (.str x), none, none, none, none, none] = some (.rt (.tup [.str "text", .int (acc.length : Int)]), [some X, some (.lst true (acc.map partD)), some (.str x), none, none, none, none, none]) := by
          unfold w1__law_read
          refine sWp_cw (ρ1 := [some X, some (.lst true (acc.map partD)), some (.str x), none, some (partD p), some (.int K), none, none]) ((sSeq_nx s1).trans ((sSeq_nx s2).trans (sSeq_rt ((sIf_t c1).trans ?_))))
          generalize D.lst true (acc.map partD) = A at *
          generalize D.str x = Z at *
          generalize partD p = P at *
          simp_arith [hln]
        simp only [whileN, hq, hb]
        rfl
      · simp only [c24, if_false]
        rw [decide_eq_false c24] at c1
        obtain ⟨n, ρ', h1, h2⟩ := law_loop X init last r (acc ++ [p]) e3 (by omega) (by simp; omega)
        refine ⟨n + 1, ρ', ?_, h2⟩
        have hb : w1__law_read [some X, some (.lst true (acc.map partD)), some (.str x), none, none, none, none, none] = some (.nx, [some X, some (.lst true ((acc ++ [p]).map partD)), some (.str r), none, none, none, none, none]) := by
          unfold w1__law_read
          refine sWp_cw (ρ1 := [some X, some (.lst true ((acc ++ [p]).map partD)), some (.str r), none, some (partD p), some (.int K), none, none]) ((sSeq_nx s1).trans ((sSeq_nx s2).trans ((sSeq_nx (if_no c1)).trans ?_)))
          generalize D.lst true (acc.map partD) = A at *
          generalize D.lst true ((acc ++ [p]).map partD) = A2 at *
          generalize D.str x = Z at *
          generalize D.str r = R at *
          generalize partD p = P at *
          have sap : sExp (eMt mAppend 1 (aE (eP (pVar 4)) aNil)) [some X, some A, some Z, none, some P, some (.int K), none, none] = some (.nx, [some X, some A2, some Z, none, some P, some (.int K), none, none]) := by
            simp [sExp, eMt, eMtL, aE, aNil, eP, pVar, lVar, getP_nil, putP_nil, takeA, valsA, hst, hap]
          refine (sSeq_nx sap).trans ?_
          simp_arith [g2, hadd, hsr]
        simp only [whileN, hq, hb]
        exact h1
theorem ni_strsK {o : Bool} (x : Str) (l : List Str) : opNi (.str x) (.lst o (l.map D.str)) = some (.bl (!decide (x ∈ l))) := by
  have h := in_strs (o := o) x l
  unfold opIn at h
  unfold opNi
  split at h
  · cases h; rfl
  · cases h
theorem ne_strs {l : List Str} (h : ∀ x ∈ l, wordB x = true) : opNe (.lst true (l.map D.str)) (.lst true []) = some (.bl (!decide (l = []))) := by
  have hs : sml 5 (.lst true (l.map D.str)) = true := by
    have : (l.map D.str).all (sml 4) = true := by
      rw [List.all_map, List.all_eq_true]
      intro x hx
      simp [sml, word_ok (h x hx)]
    simpa [sml] using this
  have c1 : (D.lst true (l.map D.str)).cmp = true := nic_cmp (sml_ok 5 _ hs).1 (by decide)
  have c2 : (D.lst true []).cmp = true := by decide +kernel
  have s1 : (D.lst true (l.map D.str)).sv = none := rfl
  unfold opNe eqB
  rw [s1]
  simp only [c1, c2, and_self, if_true]
  cases l with
  | nil => simp [D.py, pyL, PyData.eqv, PyData.eqvAll]
  | cons x l => simp [D.py, pyL, PyData.eqv, PyData.eqvAll]
theorem appS (acc : List Str) (x : Str) (h : acc.length ≤ 100) : mAppend (.lst true (acc.map D.str)) [.str x] = some (.lst true ((acc ++ [x]).map D.str), .non) := by
  rw [List.map_append]
  simp [mAppend]
  omega
theorem law_names (X P R : D) : ∀ (ps : List Part) (seen : List Str), (∀ p ∈ ps, PartGood p) → seen.length + ps.length ≤ 24 → ∃ ρ', forL (gN 4) w2__law_read (ps.map partD) [some X, some P, some R, some (.lst true (seen.map D.str)), none, none, none, none] = some (if namesOK seen ps = true then .nx else .rt (.tup [.str "names"]), some X :: ρ') ∧ (namesOK seen ps = true → ∃ S, ρ' = [some P, some R, S, none, none, none, none])
  | [], seen, _, _ => ⟨_, rfl, fun _ => ⟨_, rfl⟩⟩
  | q :: qs, seen, hg, hk => by
    have hk' : seen.length + qs.length + 1 ≤ 24 := by simp at hk; omega
    obtain ⟨a, f1, f2, f3, _, _⟩ := good_facts (hg q (by simp))
    have hn := law_needs_ok q f2
    have hnl : (needs q.recp).length ≤ 4 := by
      cases hr : q.recp with
      | leaf n => simp [needs]
      | op w ns => rw [hr] at f2; exact f2.2.2.1
    have q0 := part_0 q
    have hst : (partD q).stable = true := partD_stable q
    have hcc : eComp (eCall m__law_needs (aS 4 aNil)) (gN 7) t1__law_read x1__law_read [7] [some X, some P, some R, some (.lst true (seen.map D.str)), some (partD q), none, none, none] = some (.lst true (((needs q.recp).filter fun n => !decide (n ∈ seen)).map D.str), [some X, some P, some R, some (.lst true (seen.map D.str)), some (partD q), none, none, none]) := by
      refine comp_T (xs := needs q.recp) (c := D.str) (f := D.str) (p := fun n => !decide (n ∈ seen)) (ρ1 := [some X, some P, some R, some (.lst true (seen.map D.str)), some (partD q), none, none, none]) (d := .lst true ((needs q.recp).map D.str)) ?_ (by rw [D.frz, frzL_of_stable _ (stableL_of_imm _ (strs_imm _))]; rfl) (by omega) fun x hx => ?_
      · generalize D.lst true ((needs q.recp).map D.str) = N at *
        generalize D.lst true (seen.map D.str) = S at *
        generalize partD q = Q at *
        simp_arith [hn]
      · have hni := ni_strsK (o := true) x seen
        refine ⟨_, rfl, [some X, some P, some R, some (.lst true (seen.map D.str)), some (partD q), none, none, some (.str x)], ?_, ?_⟩
        · generalize D.lst true (seen.map D.str) = S at *
          generalize partD q = Q at *
          simp_arith [t1__law_read, hni]
        · split
          · exact ⟨_, rfl, rfl⟩
          · rfl
    have hms : ∀ x ∈ (needs q.recp).filter (fun n => !decide (n ∈ seen)), wordB x = true := fun x hx => f3 x (List.mem_filter.mp hx).1
    have hne := ne_strs hms
    have hin := in_strs (o := true) q.name seen
    have hem : decide ((needs q.recp).filter (fun n => !decide (n ∈ seen)) = []) = (needs q.recp).all fun x => decide (x ∈ seen) := by
      rw [Bool.eq_iff_iff, decide_eq_true_eq, List.filter_eq_nil_iff, List.all_eq_true]
      simp
    rw [hem] at hne
    generalize (needs q.recp).filter (fun n => !decide (n ∈ seen)) = ms at *
    have c1 : bOr (bP (pOp2 opIn (pOp2 opIx (pVar 4) (pC (.int 0))) (pVar 3))) (bV (eOpN opNe 6 (eLst aNil))) [some X, some P, some R, some (.lst true (seen.map D.str)), some (partD q), none, some (.lst true (ms.map D.str)), none] = some (!(!decide (q.name ∈ seen) && ((needs q.recp).all fun x => decide (x ∈ seen))), [some X, some P, some R, some (.lst true (seen.map D.str)), some (partD q), none, some (.lst true (ms.map D.str)), none]) := by
      have hel : (eLst aNil) [some X, some P, some R, some (.lst true (seen.map D.str)), some (partD q), none, some (.lst true (ms.map D.str)), none] = some (.lst true [], [some X, some P, some R, some (.lst true (seen.map D.str)), some (partD q), none, some (.lst true (ms.map D.str)), none]) := rfl
      by_cases hm : q.name ∈ seen
      · rw [decide_eq_true hm] at hin
        simp only [bOr, bP, pOp2, pVar, pC, List.getD_cons_succ, List.getD_cons_zero, q0, hin, decide_eq_true hm, Bool.not_true, Bool.false_and, Bool.not_false]
      · rw [decide_eq_false hm] at hin
        simp only [bOr, bP, pOp2, pVar, pC, List.getD_cons_succ, List.getD_cons_zero, q0, hin, decide_eq_false hm, Bool.not_false, Bool.true_and, bV, eOpN, hel, hne]
    have s1 : sAsg (eComp (eCall m__law_needs (aS 4 aNil)) (gN 7) t1__law_read x1__law_read [7]) (gN 6) [some X, some P, some R, some (.lst true (seen.map D.str)), some (partD q), none, none, none] = some (.nx, [some X, some P, some R, some (.lst true (seen.map D.str)), some (partD q), none, some (.lst true (ms.map D.str)), none]) := sAsg_of hcc rfl
    rw [List.map_cons]
    have hgn : gN 4 (partD q) [some X, some P, some R, some (.lst true (seen.map D.str)), none, none, none, none] = some [some X, some P, some R, some (.lst true (seen.map D.str)), some (partD q), none, none, none] := rfl
    unfold namesOK
    cases hb : (!decide (q.name ∈ seen) && ((needs q.recp).all fun x => decide (x ∈ seen))) with
    | false =>
      rw [hb] at c1
      refine ⟨[some P, some R, some (.lst true (seen.map D.str)), none, none, none, none], ?_, fun h => by simp at h⟩
      have hbd : w2__law_read [some X, some P, some R, some (.lst true (seen.map D.str)), some (partD q), none, none, none] = some (.rt (.tup [.str "names"]), [some X, some P, some R, some (.lst true (seen.map D.str)), none, none, none, none]) := by
        unfold w2__law_read
        exact sWp_cw (ρ1 := [some X, some P, some R, some (.lst true (seen.map D.str)), some (partD q), none, some (.lst true (ms.map D.str)), none]) ((sSeq_nx s1).trans (sSeq_rt ((sIf_t c1).trans rfl)))
      simp only [forL, hgn, hbd]
      rfl
    | true =>
      rw [hb] at c1
      rw [Bool.true_and]
      obtain ⟨ρ', h1, h2⟩ := law_names X P R qs (seen ++ [q.name]) (fun p hp => hg p (by simp [hp])) (by simp; omega)
      refine ⟨ρ', ?_, h2⟩
      have hap := appS seen q.name (by omega)
      have hsn : (D.str q.name).stable = true := rfl
      have hbd : w2__law_read [some X, some P, some R, some (.lst true (seen.map D.str)), some (partD q), none, none, none] = some (.nx, [some X, some P, some R, some (.lst true ((seen ++ [q.name]).map D.str)), none, none, none, none]) := by
        unfold w2__law_read
        refine sWp_cw (ρ1 := [some X, some P, some R, some (.lst true ((seen ++ [q.name]).map D.str)), some (partD q), none, some (.lst true (ms.map D.str)), none]) ((sSeq_nx s1).trans ((sSeq_nx (if_no c1)).trans ?_))
        generalize D.lst true (seen.map D.str) = S at *
        generalize D.lst true ((seen ++ [q.name]).map D.str) = S2 at *
        generalize D.lst true (ms.map D.str) = M at *
        generalize partD q = Q at *
        generalize D.str q.name = W at *
        simp [sExp, eMt, eMtL, aE, aNil, eP, pVar, pC, pOp2, lVar, getP_nil, putP_nil, takeA, valsA, q0, hsn, hap]
      simp only [forL, hgn, hbd]
      exact h1
theorem law_read_any {x : Str} (hz : x.length ≤ 9000) : m__law_read [.str x] = some (outL81 (outOf (cutT 10 x)), [.str x]) := by
  obtain ⟨init, last, hls⟩ := last_of (cutT_ne 10 x)
  rw [hls, outOf_snoc]
  have hro := readL_ok init [] (by simp) (by simp)
  have hne : opNe (.str last) (.str "") = some (.bl (!decide (last = ""))) := by rw [neS]
  have hsx : (D.str x).stable = true := rfl
  have hloop := fun X => law_loop X init last x [] hls hz (by simp)
  generalize D.str x = X at *
  obtain ⟨n, ρ', h1, h2⟩ := hloop X
  have hw := sWhile_of h1
  have s1 : sAsg (eLst aNil) (gN 1) [some X, none, none, none, none, none, none, none] = some (.nx, [some X, some (.lst true []), none, none, none, none, none, none]) := rfl
  have s2 : sAsg (eP (pVar 0)) (gN 2) [some X, some (.lst true []), none, none, none, none, none, none] = some (.nx, [some X, some (.lst true []), some X, none, none, none, none, none]) := by simp_arith [hsx]
  refine fnM1 (n := 7) ?_
  show Ret b__law_read [some X, none, none, none, none, none, none, none] _ _
  unfold b__law_read
  refine ret_seq s1 (ret_seq s2 ?_)
  cases hr : readL init [] with
  | inl k =>
    rw [hr] at hw
    exact ret_rt (sWp_cw hw)
  | inr ps =>
    rw [hr] at hw hro
    rw [h2 ps hr] at hw
    obtain ⟨hk, hg⟩ := hro
    refine ret_seq (ρ1 := [some X, some (.lst true (ps.map partD)), some (.str last), none, none, none, none, none]) (sWp_cw hw) ?_
    have he := eq_parts hg
    have hln := len_parts (o := true) ps
    have htu := tup_parts (o := false) ps
    have hc : bOr (bP (pOp2 opNe (pVar 2) (pC (.str "")))) (bV (eOpN opEq 1 (eLst aNil))) [some X, some (.lst true (ps.map partD)), some (.str last), none, none, none, none, none] = some (!decide (last = "") || decide (ps = []), [some X, some (.lst true (ps.map partD)), some (.str last), none, none, none, none, none]) := by
      have hel : (eLst aNil) [some X, some (.lst true (ps.map partD)), some (.str last), none, none, none, none, none] = some (.lst true [], [some X, some (.lst true (ps.map partD)), some (.str last), none, none, none, none, none]) := rfl
      by_cases hl : last = ""
      · rw [decide_eq_true hl] at hne
        simp only [bOr, bP, pOp2, pVar, pC, List.getD_cons_succ, List.getD_cons_zero, hne, bV, eOpN, hel, he, decide_eq_true hl, Bool.not_true, Bool.false_or]
      · rw [decide_eq_false hl] at hne
        simp only [bOr, bP, pOp2, pVar, pC, List.getD_cons_succ, List.getD_cons_zero, hne, decide_eq_false hl, Bool.not_false, Bool.true_or]
    by_cases hb : ¬ last = "" ∨ ps = []
    · simp only [hb, if_true]
      have hbb : (!decide (last = "") || decide (ps = [])) = true := by simpa using hb
      rw [hbb] at hc
      refine ret_rt (ρ' := [some (.lst true (ps.map partD)), some (.str last), none, none, none, none, none]) ((sIf_t hc).trans ?_)
      generalize D.lst true (ps.map partD) = PS at *
      generalize D.str last = LA at *
      simp_arith [hln, outL81]
    · simp only [hb, if_false]
      have hbb : (!decide (last = "") || decide (ps = [])) = false := by
        rw [Bool.eq_false_iff]
        intro q
        exact hb (by simpa using q)
      rw [hbb] at hc
      refine ret_seq (if_no hc) ?_
      refine ret_seq (ρ1 := [some X, some (.lst true (ps.map partD)), some (.str last), some (.lst true []), none, none, none, none]) rfl ?_
      obtain ⟨ρ2, g1, g2⟩ := law_names X (.lst false (ps.map partD)) (.str last) ps [] hg (by simpa using hk)
      have hfor : sFor (eFr 1) (gN 4) w2__law_read [some X, some (.lst true (ps.map partD)), some (.str last), some (.lst true []), none, none, none, none] = some (if namesOK [] ps = true then .nx else .rt (.tup [.str "names"]), some X :: ρ2) := by
        refine sFor_of (d := .lst false (ps.map partD)) (ρ1 := [some X, some (.lst false (ps.map partD)), some (.str last), some (.lst true []), none, none, none, none]) (ds := ps.map partD) ?_ ?_ g1
        · show some ((D.lst true (ps.map partD)).frz, _) = _
          rw [D.frz, frzL_of_stable _ (stableL_of_imm _ (parts_imm ps))]
          rfl
        · rw [D.frz, frzL_of_stable _ (stableL_of_imm _ (parts_imm ps))]; rfl
      by_cases hn : namesOK [] ps = true
      · simp only [hn, if_true] at hfor ⊢
        obtain ⟨S, e⟩ := g2 hn
        rw [e] at hfor
        refine ret_seq (ρ1 := [some X, some (.lst false (ps.map partD)), some (.str last), S, none, none, none, none]) (sWp_cw hfor) ?_
        have hst := book_stable ps
        refine ⟨[some (.lst false (ps.map partD)), some (.str last), S, none, none, none, none], sRet_of ?_⟩
        generalize D.lst false (ps.map partD) = PS at *
        simp only [outL81]
        generalize bookD ps = B at *
        generalize D.str last = LA at *
        simp_arith [htu, hst]
      · simp only [hn, if_false] at hfor ⊢
        exact ret_rt (sWp_cw hfor)
end Lk

set_option Elab.async false
set_option linter.all false
set_option maxRecDepth 100000
set_option maxHeartbeats 8000000
namespace Lk
open PySem Dl
local macro_rules
  | `(tactic| simp_arith [$ls,*]) => `(tactic| simp [fnM, fnX, outs, outX, sSeq, sIf, sAsg, sRet, sRetN, sNil, sExp, sNo, sWp, wipeD, sExpX, sSetX, sRetX, callX, sTry, sRz0, sRz1, bP, bV, bAnd, bOr, bNot, bYes, eP, eMv, eFr, eFz, pVar, pC, pOp2, pOp1, eOp2, eOpP, eOpPP, eOpN, eOpV, eIx, eIxP, pBi, pAll, eBi, eBiP, takeA, valsA, aE, aS, aNil, eTup, eLst, pTup, eCall, callA, putA, gN, gT, gTu, gSt, lVar, lIx, lFld, eMt, eMt0, eMtL, getP_nil, putP_nil, mAppend, pFld, pIsi, pIsE, pXf, pAndV, pOrV, eAndV, eOrV, eIf, pNotV, eNotV, pGet, pSl, pPart, ePO, opIsN, opNotN, D.stable, stableL, D.imm, immL, D.frz, frzL, eqI, eqS, neI, neS, addI, eRevP, eRevE, eFrL, sSetF, eAddM, List.set_cons_zero, List.set_cons_succ, List.getD_cons_zero, List.getD_cons_succ, $ls,*])
/-! KI81: _law_right holds of any text -/
def xText (k : Nat) : D := .exn "NoText" ["line"] [.int (k : Int)]
def xNames : D := .exn "NoBook" ["fault"] [.str "names"]
theorem kind_names : m__law_kind [xNames, .str "book"] = some (.bl true, [xNames, .str "book"]) := by kernel_rfl
theorem kind_text (k : Nat) : m__law_kind [xText k, .str "text"] = some (.bl true, [xText k, .str "text"]) := by kernel_rfl
theorem text_right {x : Str} (hz : x.length ≤ 9000) : m__law_right [.str x] = some (.bl true, [.str x]) := by
  have hr := read_book_any hz
  have hl := law_read_any hz
  have hro := readL_ok (cutT 10 x).dropLast [] (by simp) (by simp)
  have hps : ∀ ps, outOf (cutT 10 x) = .book ps → ps.length ≤ 24 ∧ ∀ p ∈ ps, PartGood p := fun ps e => by
    unfold outOf at e
    split at e
    · cases e
    · rename_i qs hq
      rw [hq] at hro
      split at e
      · cases e
      · split at e
        · cases e; exact hro
        · cases e
  clear hro
  generalize outOf (cutT 10 x) = O at *
  have hst : (D.str x).stable = true := rfl
  generalize D.str x = X at *
  refine fnM1 (n := 4) ?_
  show Ret b__law_right [some X, none, none, none, none] _ _
  unfold b__law_right
  have s1 : sAsg (eCall m__law_read (aS 0 aNil)) (gN 1) [some X, none, none, none, none] = some (.nx, [some X, some (outL81 O), none, none, none]) := by
    generalize outL81 O = W at *
    simp_arith [hl]
  refine ret_seq s1 (ret_seq (ρ1 := [some X, some (outL81 O), some .non, none, none]) rfl (ret_seq (ρ1 := [some X, some (outL81 O), some .non, some .non, none]) rfl ?_))
  cases O with
  | book ps =>
    obtain ⟨h1, h2⟩ := hps ps rfl
    obtain ⟨z, hz2⟩ := good_repr h2 h1
    have s2 : sTry ["NoBook", "NoText"] 4 3 w1__law_right [some X, some (outL81 (.book ps)), some .non, some .non, none] = some (.nx, [some X, some (outL81 (.book ps)), some (bookD ps), some .non, none]) := by
      simp only [outX81] at hr
      generalize outL81 (.book ps) = W at *
      generalize bookD ps = B at *
      simp [sTry, w1__law_right, sSetX, aS, aNil, takeA, callX, putA, hr]
    refine ret_seq s2 ?_
    have i0 : opIx (outL81 (.book ps)) (.int 0) = some (.str "book") := rfl
    have i1 : opIx (outL81 (.book ps)) (.int 1) = some (bookD ps) := rfl
    have e0 : opEq (.str "book") (.str "book") = some (.bl true) := by decide +kernel
    have e1 : opEq (.str z) (.str z) = some (.bl true) := by rw [eqS, decide_eq_true rfl]
    have e2 : opIsN .non .non = some (.bl true) := rfl
    generalize outL81 (.book ps) = W at *
    generalize bookD ps = B at *
    refine ret_rt (ρ' := [some W, some B, some .non, none]) ((sIf_t (ρ1 := [some X, some W, some B, some .non, none]) ?_).trans ?_)
    · simp only [bP, pOp2, pVar, pC, List.getD_cons_succ, List.getD_cons_zero, i0, e0]
    · refine sRet_of (eP_of ?_ rfl)
      simp only [pAndV, pOp2, pVar, pC, pBi, pAll, List.getD_cons_succ, List.getD_cons_zero, e2, i1, hz2, e1]
  | names =>
    have s2 : sTry ["NoBook", "NoText"] 4 3 w1__law_right [some X, some (outL81 .names), some .non, some .non, none] = some (.nx, [some X, some (outL81 .names), some .non, some xNames, none]) := by
      have hr' : m_read_book [X] = some (.x (.exn "NoBook" ["fault"] [.str "names"]), [X]) := hr
      generalize outL81 .names = W at *
      simp [sTry, w1__law_right, sSetX, aS, aNil, takeA, callX, putA, hr', xNames]
    refine ret_seq s2 ?_
    have i0 : opIx (outL81 .names) (.int 0) = some (.str "names") := rfl
    have e0 : opEq (.str "names") (.str "book") = some (.bl false) := by decide +kernel
    have e1 : opEq (.str "names") (.str "names") = some (.bl true) := by decide +kernel
    have hk := kind_names
    have hf : ∀ ρ : DEnv, ρ.getD 3 none = some xNames → pXf "NoBook" "fault" (pVar 3) ρ = some (.str "names") := fun ρ h => by
      unfold pXf pVar
      rw [h]
      rfl
    have hxs : xNames.stable = true := rfl
    have hf1 := hf [some X, some (outL81 .names), some .non, some xNames, none] rfl
    generalize outL81 .names = W at *
    generalize xNames = N at *
    refine ret_seq (ρ1 := [some X, some W, some .non, some N, none]) (if_no (by simp only [bP, pOp2, pVar, pC, List.getD_cons_succ, List.getD_cons_zero, i0, e0])) ?_
    refine ret_rt (ρ' := [some W, some .non, some N, none]) ((sIf_t (ρ1 := [some X, some W, some .non, some N, none]) ?_).trans ?_)
    · simp only [bP, pOp2, pVar, pC, List.getD_cons_succ, List.getD_cons_zero, i0, e1]
    · refine sRet_of ?_
      have hc : eCall m__law_kind (aS 3 (aE (eP (pC (.str "book"))) aNil)) [some X, some W, some .non, some N, none] = some (.bl true, [some X, some W, some .non, some N, none]) := by
        simp_arith [hk]
      unfold eAndV
      rw [hc]
      simp only [eP, pOp2, hf1, pC, e1, D.stable, if_true]
  | text k =>
    have s2 : sTry ["NoBook", "NoText"] 4 3 w1__law_right [some X, some (outL81 (.text k)), some .non, some .non, none] = some (.nx, [some X, some (outL81 (.text k)), some .non, some (xText k), none]) := by
      have hr' : m_read_book [X] = some (.x (.exn "NoText" ["line"] [.int (k : Int)]), [X]) := hr
      generalize outL81 (.text k) = W at *
      simp [sTry, w1__law_right, sSetX, aS, aNil, takeA, callX, putA, hr', xText]
    refine ret_seq s2 ?_
    have i0 : opIx (outL81 (.text k)) (.int 0) = some (.str "text") := rfl
    have i1 : opIx (outL81 (.text k)) (.int 1) = some (.int (k : Int)) := rfl
    have e0 : opEq (.str "text") (.str "book") = some (.bl false) := by decide +kernel
    have e1 : opEq (.str "text") (.str "names") = some (.bl false) := by decide +kernel
    have e2 : opEq (.int (k : Int)) (.int (k : Int)) = some (.bl true) := by rw [eqI, decide_eq_true rfl]
    have hk := kind_text k
    have hf : ∀ ρ : DEnv, ρ.getD 3 none = some (xText k) → pXf "NoText" "line" (pVar 3) ρ = some (.int (k : Int)) := fun ρ h => by
      unfold pXf pVar
      rw [h]
      rfl
    have hf1 := hf [some X, some (outL81 (.text k)), some .non, some (xText k), none] rfl
    have hxs : (xText k).stable = true := rfl
    generalize outL81 (.text k) = W at *
    generalize xText k = N at *
    refine ret_seq (ρ1 := [some X, some W, some .non, some N, none]) (if_no (by simp only [bP, pOp2, pVar, pC, List.getD_cons_succ, List.getD_cons_zero, i0, e0])) ?_
    refine ret_seq (ρ1 := [some X, some W, some .non, some N, none]) (if_no (by simp only [bP, pOp2, pVar, pC, List.getD_cons_succ, List.getD_cons_zero, i0, e1])) ?_
    refine ⟨[some W, some .non, some N, none], sRet_of ?_⟩
    have hc : eCall m__law_kind (aS 3 (aE (eP (pC (.str "text"))) aNil)) [some X, some W, some .non, some N, none] = some (.bl true, [some X, some W, some .non, some N, none]) := by
      simp_arith [hk]
    unfold eAndV
    rw [hc]
    simp only [eP, pOp2, hf1, pC, pVar, List.getD_cons_succ, List.getD_cons_zero, i1, e2, D.stable, if_true]
end Lk

set_option Elab.async false
set_option linter.all false
set_option maxRecDepth 100000
set_option maxHeartbeats 4000000
namespace Lk
open PySem Dl
theorem book_step (ns : List Int) (st mo t : Int) (n : Option D) (ws : List Str) (ps : List Part) (u v : Option D) (hw : ∀ x ∈ ws, PyData.strOk x = true) (h24 : ws.length ≤ 24) (hp : PartsOk ws ps) (hk : ps.length < ws.length) :
    ∃ (t' : Int) (p : Part) (u' v' : Option D), PartsOk ws (ps ++ [p]) ∧ w1__law_book [some (.scr ns), some (.int st), some (.int mo), some (.lst true [.int t]), n, some (.lst true (ws.map D.str)), some (.lst true (ps.map partD)), some (.int (ps.length : Int)), u, v] =
      some (.nx, [some (.scr ns), some (.int st), some (.int mo), some (.lst true [.int t']), n, some (.lst true (ws.map D.str)), some (.lst true ((ps ++ [p]).map partD)), some (.int (ps.length : Int)), u', v']) := by
  have d4 := dig 4 (by decide) (by decide)
  have hwk : ws[ps.length]? = some ws[ps.length] := List.getElem?_eq_getElem hk
  have ew : opIx (.lst true (ws.map D.str)) (.int (ps.length : Int)) = some (.str ws[ps.length]) := by
    obtain ⟨d, e1, _, e2⟩ := ix_lst (o := true) (ds := ws.map D.str) (i := (ps.length : Int)) (by omega) (by rw [List.length_map]; omega)
    rw [Int.toNat_natCast, List.getElem?_map, hwk] at e1
    cases e1
    exact e2
  have esl : opSl (.lst true (ws.map D.str)) none (some (ps.length : Int)) = some (.lst true ((ws.take ps.length).map D.str)) := by
    rw [sl_to (by rw [List.length_map]; omega) (imm_strs ws), List.map_take]
  have hl10 : ps.length < 10000 := by omega
  obtain ⟨r, t1, hr, er⟩ := recipe_ok t (ws.take ps.length) (by rw [List.length_take]; omega) fun x hx => hw x (List.mem_of_mem_take hx)
  obtain ⟨a, t2, ha, ea⟩ := number_ok t1
  obtain ⟨b, t3, hb, eb⟩ := number_ok t2
  have hrs := recD_stable r
  simp only [List.map_take] at esl er
  by_cases h0 : (0 : Int) < ps.length
  · have hg : opGt (.int (ps.length : Int)) (.int 0) = some (.bl true) := by
      show some (D.bl (decide ((0 : Int) < (ps.length : Int)))) = _
      rw [decide_eq_true h0]
    by_cases hz : t3 % 4 = 0
    · have dk := dig (ps.length : Int) h0 (by omega) (t3 / 4)
      have b1 := Int.emod_nonneg (t3 / 4) (show (ps.length : Int) ≠ 0 by omega)
      have b2 := Int.emod_lt_of_pos (t3 / 4) h0
      obtain ⟨d, q1, _, q2⟩ := ix_lst (o := true) (ds := ps.map partD) (i := t3 / 4 % (ps.length : Int)) b1 (by rw [List.length_map]; exact b2)
      rw [List.getElem?_map] at q1
      obtain ⟨el, hel, rfl⟩ := Option.map_eq_some_iff.mp q1
      obtain ⟨g1, g2, g3⟩ := hp.ok _ _ hel
      have hj : (t3 / 4 % (ps.length : Int)).toNat < ps.length := (List.getElem?_eq_some_iff.mp hel).1
      have g1' : RecOk (ws.take ps.length) el.recp := g1.mono fun x hx => by
        have e : ws.take (t3 / 4 % (ps.length : Int)).toNat = (ws.take ps.length).take (t3 / 4 % (ps.length : Int)).toNat := by rw [List.take_take, Nat.min_eq_left (by omega)]
        rw [e] at hx
        exact List.mem_of_mem_take hx
      obtain ⟨r', t4, hr', er'⟩ := again_ok (t3 / 4 / (ps.length : Int)) (ws.take ps.length) el.recp g1' fun x hx => hw x (List.mem_of_mem_take hx)
      have i1 : opIx (.tup [.str el.name, recD el.recp, .int el.size, .int el.cost]) (.int 1) = some (recD el.recp) := rfl
      have i2 : opIx (.tup [.str el.name, recD el.recp, .int el.size, .int el.cost]) (.int 2) = some (.int el.size) := rfl
      have i3 : opIx (.tup [.str el.name, recD el.recp, .int el.size, .int el.cost]) (.int 3) = some (.int el.cost) := rfl
      have s1 := partD_stable el
      have s2 := recD_stable el.recp
      have s3 := recD_stable r'
      refine ⟨t4, ⟨ws[ps.length], r', el.size, el.cost⟩, some (partD ⟨ws[ps.length], r', el.size, el.cost⟩), some (partD el), hp.snoc hwk hr' g2 g3, ?_⟩
      simp [w1__law_book, fnM, outs, sSeq, sIf, sAsg, sRet, sRetN, sNil, sExp, sNo, bP, bV, bAnd, bOr, bNot, bYes, eP, eMv, eFr, pVar, pC, pOp2, pOp1, eOp2, eOpP, eOpPP, eOpN, eOpV, eIx, eIxP, pBi, pAll, eBi, eBiP, takeA, valsA, aE, aS, aNil, eTup, eLst, eCall, callA, putA, gN, gT, gTu, gSt, lVar, lIx, getP, putP, getS, putS, eMt, eMt0, mAppend, opLen, opLt, opLe, opGe, opSub, modI, eqI, eqS, neI, neS, opIsN, opNotN, D.stable, stableL, D.imm, immL, D.frz, frzL, pSl, pPart, ePO, List.set_cons_zero, List.set_cons_succ, List.getD_cons_zero, List.getD_cons_succ, d4, ew, esl, er, ea, eb, hrs, hg, hz, dk, q2, i1, i2, i3, s1, s2, s3, er', hl10, partD]
    · refine ⟨t3 / 4, ⟨ws[ps.length], r, a, b⟩, some (partD ⟨ws[ps.length], r, a, b⟩), v, hp.snoc hwk hr ha hb, ?_⟩
      simp [w1__law_book, fnM, outs, sSeq, sIf, sAsg, sRet, sRetN, sNil, sExp, sNo, bP, bV, bAnd, bOr, bNot, bYes, eP, eMv, eFr, pVar, pC, pOp2, pOp1, eOp2, eOpP, eOpPP, eOpN, eOpV, eIx, eIxP, pBi, pAll, eBi, eBiP, takeA, valsA, aE, aS, aNil, eTup, eLst, eCall, callA, putA, gN, gT, gTu, gSt, lVar, lIx, getP, putP, getS, putS, eMt, eMt0, mAppend, opLen, opLt, opLe, opGe, opSub, modI, eqI, eqS, neI, neS, opIsN, opNotN, D.stable, stableL, D.imm, immL, D.frz, frzL, pSl, pPart, ePO, List.set_cons_zero, List.set_cons_succ, List.getD_cons_zero, List.getD_cons_succ, d4, ew, esl, er, ea, eb, hrs, hg, hz, hl10, partD]
  · refine ⟨t3, ⟨ws[ps.length], r, a, b⟩, some (partD ⟨ws[ps.length], r, a, b⟩), v, hp.snoc hwk hr ha hb, ?_⟩
    have h0' : opGt (.int (ps.length : Int)) (.int 0) = some (.bl false) := by
      show some (D.bl (decide ((0 : Int) < (ps.length : Int)))) = _
      rw [decide_eq_false h0]
    simp [w1__law_book, fnM, outs, sSeq, sIf, sAsg, sRet, sRetN, sNil, sExp, sNo, bP, bV, bAnd, bOr, bNot, bYes, eP, eMv, eFr, pVar, pC, pOp2, pOp1, eOp2, eOpP, eOpPP, eOpN, eOpV, eIx, eIxP, pBi, pAll, eBi, eBiP, takeA, valsA, aE, aS, aNil, eTup, eLst, eCall, callA, putA, gN, gT, gTu, gSt, lVar, lIx, getP, putP, getS, putS, eMt, eMt0, mAppend, opLen, opLt, opLe, opGe, opSub, modI, eqI, eqS, neI, neS, opIsN, opNotN, D.stable, stableL, D.imm, immL, D.frz, frzL, pSl, pPart, ePO, List.set_cons_zero, List.set_cons_succ, List.getD_cons_zero, List.getD_cons_succ, d4, ew, esl, er, ea, eb, hrs, h0', hl10, partD]
/-- what the laws need of a book -/
theorem book_ok (ns : List Int) (st mo : Nat) (hn : ns.length ≤ 63) (h1 : 1 ≤ mo) (h2 : mo ≤ 24) : ∃ ps, BookOk ps ∧ ps.length ≤ mo ∧ m__law_book [.scr ns, .int st, .int mo] = some (bookD ps, [.scr ns, .int st, .int mo]) := by
  obtain ⟨t, et⟩ := tape_ok ns st hn
  have dm := dig (mo : Int) (by omega) (by omega) t
  obtain ⟨n, hn1, hn2⟩ : ∃ n : Nat, 1 + t % (mo : Int) = (n : Int) ∧ (1 ≤ n ∧ n ≤ mo) := by
    have b1 := Int.emod_nonneg t (show (mo : Int) ≠ 0 by omega)
    have b2 := Int.emod_lt_of_pos t (show 0 < (mo : Int) by omega)
    exact ⟨(1 + t % (mo : Int)).toNat, by omega, by omega⟩
  obtain ⟨ws, t2, hws, ew⟩ := words_ok (t / (mo : Int)) n hn2.1 (by omega)
  have hstr : ∀ x ∈ ws, PyData.strOk x = true := fun x hx => word_ok (hws.ok x hx)
  have hlen := hws.len
  obtain ⟨ρ', e1, t3, ps, u, v, k, q2, q4, q5⟩ := forL_inv (g := gN 7) (body := w1__law_book) (fun i ρ => ∃ (t : Int) (ps : List Part) (u v : Option D) (k : Option D), ps.length = i ∧ PartsOk ws ps ∧
      ρ = [some (.scr ns), some (.int st), some (.int mo), some (.lst true [.int t]), some (.int n), some (.lst true (ws.map D.str)), some (.lst true (ps.map partD)), k, u, v])
    (ds := rangeD 0 n) (k := 0) (ρ := [some (.scr ns), some (.int st), some (.int mo), some (.lst true [.int t2]), some (.int n), some (.lst true (ws.map D.str)), some (.lst true []), none, none, none]) ⟨t2, [], none, none, none, rfl, ⟨by simp, by simp, by simp⟩, rfl⟩ (fun i hi ρ q => by
      obtain ⟨t, ps, u, v, k, q1, q2, rfl⟩ := q
      rw [range_len] at hi
      rw [range_at]
      rw [Nat.zero_add] at q1
      subst q1
      rw [Int.zero_add]
      obtain ⟨t', p, u', v', s1, s2⟩ := book_step ns st mo t (some (.int n)) ws ps u v hstr (by omega) q2 (by omega)
      exact ⟨_, _, rfl, .inl s2, t', ps ++ [p], u', v', _, by simp, s1, rfl⟩)
  rw [Nat.zero_add, range_len] at q2
  subst q5
  have fr := forR1_of (it := eP (pVar 4)) (g := gN 7) (body := w1__law_book) (j := (n : Int)) (ρ1 := [some (.scr ns), some (.int st), some (.int mo), some (.lst true [.int t2]), some (.int n), some (.lst true (ws.map D.str)), some (.lst true []), none, none, none]) (eP_of rfl rfl) (by omega) (by omega) e1
  have hnm : ps.map Part.name = ws := by rw [q4.nm, q2, ← hlen, List.take_length]
  refine ⟨ps, ⟨by omega, by rw [hnm]; exact hws.nd, fun p hp => ?_, fun p hp => ?_, fun i p hp => by rw [hnm]; exact q4.ok i p hp⟩, by omega, ?_⟩
  · exact hws.ok _ (by rw [← hnm]; exact List.mem_map.mpr ⟨p, hp, rfl⟩)
  · have h2 := hws.odd _ (by rw [← hnm]; exact List.mem_map.mpr ⟨p, hp, rfl⟩)
    first | exact h2 | (intro h3; cases h3)
  · have ht : opTuple [.lst true (ps.map partD)] = some (.tup (ps.map partD)) := by
      show (if immL (ps.map partD) = true then _ else _) = _
      rw [if_pos (parts_imm ps)]
    have hst : stableL (ps.map partD) = true := stableL_of_imm _ (parts_imm ps)
    simp [m__law_book, b__law_book, fnM, outs, sSeq, sIf, sAsg, sRet, sRetN, sNil, sExp, sNo, bP, bV, bAnd, bOr, bNot, bYes, eP, eMv, eFr, pVar, pC, pOp2, pOp1, eOp2, eOpP, eOpPP, eOpN, eOpV, eIx, eIxP, pBi, pAll, eBi, eBiP, takeA, valsA, aE, aS, aNil, eTup, eLst, eCall, callA, putA, gN, gT, gTu, gSt, lVar, lIx, getP, putP, getS, putS, eMt, eMt0, mAppend, opLen, opLt, opLe, opGt, opGe, opSub, modI, eqI, eqS, neI, neS, opIsN, opNotN, D.stable, stableL, D.imm, immL, D.frz, frzL, pSl, pPart, ePO, List.set_cons_zero, List.set_cons_succ, List.getD_cons_zero, List.getD_cons_succ, et, dm, addI, hn1, ew, fr, ht, hst, bookD]
end Lk

set_option Elab.async false
set_option linter.all false
set_option maxRecDepth 100000
set_option maxHeartbeats 8000000
namespace Lk
open PySem Dl
local macro_rules
  | `(tactic| simp_arith [$ls,*]) => `(tactic| simp [fnM, fnX, outs, outX, sSeq, sIf, sAsg, sRet, sRetN, sNil, sExp, sNo, sWp, wipeD, sExpX, sSetX, sRetX, callX, sTry, sRz0, sRz1, bP, bV, bAnd, bOr, bNot, bYes, eP, eMv, eFr, eFz, pVar, pC, pOp2, pOp1, eOp2, eOpP, eOpPP, eOpN, eOpV, eIx, eIxP, pBi, pAll, eBi, eBiP, takeA, valsA, aE, aS, aNil, eTup, eLst, pTup, eCall, callA, putA, gN, gT, gTu, gSt, lVar, lIx, lFld, eMt, eMt0, eMtL, getP_nil, putP_nil, mAppend, pFld, pIsi, pIsE, pXf, pAndV, pOrV, eAndV, eOrV, eIf, pNotV, eNotV, pGet, pSl, pPart, ePO, opIsN, opNotN, D.stable, stableL, D.imm, immL, D.frz, frzL, eqI, eqS, neI, neS, addI, eRevP, eRevE, eFrL, sSetF, eAddM, List.set_cons_zero, List.set_cons_succ, List.getD_cons_zero, List.getD_cons_succ, $ls,*])
/-! KJ81: _law_bent gives some text, not long -/
def sumS (ls : List Str) : Nat := (ls.map Str.length).sum
theorem sumS_app (a b : List Str) : sumS (a ++ b) = sumS a + sumS b := by simp [sumS]
theorem sumS_take (n : Nat) (l : List Str) : sumS (l.take n) + sumS (l.drop n) = sumS l := by rw [← sumS_app, List.take_append_drop]
theorem cutA_le (l : List Str) (lo hi : Option Int) : sumS (cutA l lo hi) ≤ sumS l ∧ (cutA l lo hi).length ≤ l.length := by
  unfold cutA
  generalize HT.sIx l.length 0 lo = a
  generalize HT.sIx l.length l.length hi - a = b
  have h1 := sumS_take a l
  have h2 := sumS_take b (l.drop a)
  refine ⟨by omega, ?_⟩
  rw [List.length_take, List.length_drop]
  omega
theorem spC_sum (c : Nat) : ∀ l : List Nat, ((spC c l).map List.length).sum ≤ l.length
  | [] => by simp [spC]
  | x :: l => by
    have ih := spC_sum c l
    unfold spC
    split
    · simp; omega
    · split
      · rename_i q qs e
        rw [e] at ih
        simp at ih ⊢; omega
      · simp
theorem cutT_sum (c : Nat) (x : Str) : sumS (cutT c x) ≤ x.length := by
  have h := spC_sum c (TL.tl x)
  rw [TL.len_tl]
  unfold sumS cutT
  rw [List.map_map]
  have : (Str.length ∘ mkS) = List.length := by
    funext l
    show (mkS l).length = l.length
    rw [TL.len_tl, tl_mkS]
  rw [this]
  exact h
theorem join_sum (y : Str) (ls : List Str) : (Txt.join y ls).length ≤ sumS ls + ls.length * y.length := by
  have h := tl_joinL_len (TL.tl y) (ls.map TL.tl)
  rw [TL.len_tl, TL.join_eq, TL.tl_join]
  rw [List.map_map, List.length_map] at h
  have : (List.length ∘ TL.tl) = Str.length := by
    funext l
    exact (TL.len_tl l).symm
  rw [this, ← TL.len_tl y] at h
  exact h
theorem slS (x : Str) (h : x.length ≤ 9000) (lo hi : Option Int) : opSl (.str x) lo hi = some (.str (L2.cutS x lo hi)) := by
  show (if x.length ≤ sizeLine then _ else none) = _
  rw [if_pos (by rw [sizeLine_eq]; omega)]
theorem cutA_mapS (ls : List Str) (lo hi : Option Int) : cutA (ls.map D.str) lo hi = (cutA ls lo hi).map D.str := by
  unfold cutA
  rw [List.length_map, ← List.map_drop, ← List.map_take]
theorem slL (o : Bool) (ls : List Str) (lo hi : Option Int) : opSl (.lst o (ls.map D.str)) lo hi = some (.lst true ((cutA ls lo hi).map D.str)) := by
  simp only [opSl, strs_imm, if_true, cutA_mapS]
theorem addS {a b : Str} (h : a.length + b.length ≤ 9000) : opAdd (.str a) (.str b) = some (.str (a ++ b)) := by
  show (if a.length + b.length ≤ sizeLine then _ else none) = _
  rw [if_pos (by rw [sizeLine_eq]; omega)]
theorem len_app (a b : Str) : (a ++ b).length = a.length + b.length := by
  rw [TL.len_tl, TL.tl_append, List.length_append, ← TL.len_tl, ← TL.len_tl]
theorem cut_len (x : Str) (lo hi : Option Int) : (L2.cutS x lo hi).length ≤ x.length := L2.cutS_length x lo hi
theorem addL {a b : List Str} (h : a.length + b.length ≤ 9000) : opAdd (.lst true (a.map D.str)) (.lst true (b.map D.str)) = some (.lst true ((a ++ b).map D.str)) := by
  show (if (a.map D.str).length + (b.map D.str).length ≤ sizeLine ∧ _ then _ else none) = _
  rw [if_pos ⟨by rw [sizeLine_eq, List.length_map, List.length_map]; omega, strs_imm _, strs_imm _⟩, List.map_append]
def marksS : Str := "!\"#$&'()*+,-./:;<=>?@ABCDEFGHIJKLMNOPQRSTUVWXYZ[\\]^_`abcdefghijklmnopqrstuvwxyz{|}~"
def headS : Str := " 0123456789\n a"
def signS : Str := Txt.mul headS 6 ++ marksS
theorem mul_head : opMulA (.str headS) (.int 6) = some (.str (Txt.mul headS 6)) := by decide +kernel
theorem sign_len : signS.length ≤ 300 ∧ 0 < signS.length := by decide +kernel
theorem head_len : (Txt.mul headS 6).length + marksS.length ≤ 9000 := by decide +kernel
def wordsS : List Str := [" leaf 5", " 0", "plus ", "z 1 1 leaf 0\n", " a", "less", "\n", " ", "most a", "times", "10 "]
theorem words_len : ∀ w ∈ wordsS ++ [("00" : Str)], w.length ≤ 20 := by decide +kernel
theorem fnM2 {n : Nat} {body : SM} {L L' M M' d : D} (h : ∃ ρ', body (some L :: some M :: List.replicate n none) = some (.rt d, some L' :: some M' :: ρ')) : fnM 2 2 (n + 2) body [L, M] = some (d, [L', M']) := by
  obtain ⟨ρ', h⟩ := h
  simp [fnM, h, outs]
theorem ix_sign {s : Str} (h : s.length ≤ 9000) (i : Int) (h0 : 0 ≤ i) (h1 : i < s.length) : ∃ c : Str, opIx (.str s) (.int i) = some (.str c) ∧ c.length = 1 := by
  have hi : i.toNat < s.cps.toList.length := by
    have : s.length = s.cps.toList.length := by rw [Array.length_toList]; rfl
    omega
  refine ⟨⟨#[s.cps.toList[i.toNat]]⟩, ?_, rfl⟩
  show (if s.length ≤ sizeLine then (L2.atI s.cps.toList i).map fun c => D.str ⟨#[c]⟩ else none) = _
  rw [if_pos (by rw [sizeLine_eq]; omega)]
  have : L2.atI s.cps.toList i = some s.cps.toList[i.toNat] := by
    unfold L2.atI L2.ixN
    rw [if_pos h0, if_pos (by omega)]
    show s.cps.toList[i.toNat]? = _
    rw [List.getElem?_eq_getElem hi]
  rw [this]
  rfl
theorem ix_text {o : Bool} {ls : List Str} (i : Int) (h0 : 0 ≤ i) (h1 : i < ls.length) : ∃ c ∈ ls, opIx (.lst o (ls.map D.str)) (.int i) = some (.str c) := by
  have hi : i.toNat < ls.length := by omega
  refine ⟨ls[i.toNat], List.getElem_mem hi, ?_⟩
  have := ixK (o := o) (ds := ls.map D.str) (i := i.toNat) (d := .str ls[i.toNat]) (by rw [List.getElem?_map, List.getElem?_eq_getElem hi]; rfl)
  rwa [Int.toNat_of_nonneg h0] at this
def RetB (s : SM) (ρ : DEnv) (d L M : D) : Prop := ∃ ρ', s ρ = some (.rt d, some L :: some M :: ρ')
theorem retB_seq {f g : SM} {ρ ρ1 : DEnv} {d L M : D} (h : f ρ = some (.nx, ρ1)) (k : RetB g ρ1 d L M) : RetB (sSeq f g) ρ d L M := by
  obtain ⟨r, e⟩ := k
  exact ⟨r, (sSeq_nx h).trans e⟩
theorem bent_any {x : Str} (h1 : 1 ≤ x.length) (h2 : x.length ≤ 2000) (t : Int) : ∃ (y : Str) (t' : Int), y.length ≤ 9000 ∧ m__law_bent [.lst true [.int t], .str x] = some (.str y, [.lst true [.int t'], .str x]) := by
  have hl := len_str (w := x) (by omega)
  have d10 := digit_ok t 10 (by decide) (by decide)
  generalize hw : t % 10 = what at d10
  generalize ht1 : t / 10 = t1 at d10
  have dl := digit_ok t1 (x.length : Int) (by omega) (by omega)
  generalize ha : t1 % (x.length : Int) = a at dl
  generalize ht2 : t1 / (x.length : Int) = t2 at dl
  have ha0 : 0 ≤ a := by rw [← ha]; exact Int.emod_nonneg _ (by omega)
  have ha1 : a < x.length := by rw [← ha]; exact Int.emod_lt_of_pos _ (by omega)
  have d12 := digit_ok t2 12 (by decide) (by decide)
  generalize hn : t2 % 12 = n at d12
  generalize ht3 : t2 / 12 = t3 at d12
  have hn0 : 0 ≤ n := by rw [← hn]; exact Int.emod_nonneg _ (by omega)
  have hn1 : n < 12 := by rw [← hn]; exact Int.emod_lt_of_pos _ (by omega)
  have ls := len_str (w := signS) (by have := sign_len; omega)
  have dsn := digit_ok t3 (signS.length : Int) (by have := sign_len; omega) (by have := sign_len; omega)
  generalize hg : t3 % (signS.length : Int) = g at dsn
  generalize ht4 : t3 / (signS.length : Int) = t4 at dsn
  obtain ⟨sg, hsg, lsg⟩ := ix_sign (s := signS) (by have := sign_len; omega) g (by rw [← hg]; exact Int.emod_nonneg _ (by have := sign_len; omega)) (by rw [← hg]; exact Int.emod_lt_of_pos _ (by have := sign_len; omega))
  have hmk : opAdd (.str (Txt.mul headS 6)) (.str marksS) = some (.str signS) := addS head_len
  obtain ⟨wd, hwd, ixw⟩ := ix_text (o := true) (ls := wordsS ++ [("00" : Str)]) n hn0 (by show n < ((12 : Nat) : Int); omega)
  have lwd := words_len wd hwd
  have haw := addL (a := wordsS) (b := [("00" : Str)]) (by decide)
  have hmj : (cutT 10 x).length ≤ x.length + 1 := cutT_len 10 x
  have hms : sumS (cutT 10 x) ≤ x.length := cutT_sum 10 x
  have hm1 : 1 ≤ (cutT 10 x).length := List.length_pos_iff.mpr (cutT_ne 10 x)
  have hsm : mSplit (.str x) [.str "\n"] = some (.lst true ((cutT 10 x).map D.str)) := mSplit_nl (by omega)
  have hll := len_words (cutT 10 x)
  have dln := digit_ok t4 ((cutT 10 x).length : Int) (by omega) (by omega)
  generalize hv : t4 % ((cutT 10 x).length : Int) = v at dln
  generalize ht5 : t4 / ((cutT 10 x).length : Int) = t5 at dln
  have hv0 : 0 ≤ v := by rw [← hv]; exact Int.emod_nonneg _ (by omega)
  have hv1 : v < (cutT 10 x).length := by rw [← hv]; exact Int.emod_lt_of_pos _ (by omega)
  have hsl := slS x (by omega)
  have hsll := slL true (cutT 10 x)
  have hz := cut_len x
  generalize hls : cutT 10 x = lns at *
  -- the pieces
  have adI : ∀ i j : Int, opAdd (.int i) (.int j) = some (.int (i + j)) := fun _ _ => rfl
  have ng : opNeg (.int 1) = some (.int (-1)) := rfl
  have p0 := addS (a := L2.cutS x none (some a)) (b := L2.cutS x (some (a + 1)) none) (by have := hz none (some a); have := hz (some (a + 1)) none; omega)
  have p1 := addS (a := L2.cutS x none (some a)) (b := sg) (by have := hz none (some a); omega)
  have p2 := addS (a := L2.cutS x none (some a) ++ sg) (b := L2.cutS x (some a) none) (by rw [len_app]; have := hz none (some a); have := hz (some a) none; omega)
  have p3 := addS (a := L2.cutS x none (some a) ++ sg) (b := L2.cutS x (some (a + 1)) none) (by rw [len_app]; have := hz none (some a); have := hz (some (a + 1)) none; omega)
  have q0 : opStpS (.str (L2.cutS x (some a) (some (a + 2)))) (.int (-1)) = some (.str (stpS (L2.cutS x (some a) (some (a + 2))) (-1))) := by
    show (if _ ∧ _ then _ else none) = _
    rw [if_pos ⟨by decide, by rw [sizeLine_eq]; have := hz (some a) (some (a + 2)); omega⟩]
  have q1 : (stpS (L2.cutS x (some a) (some (a + 2))) (-1)).length ≤ x.length := Nat.le_trans (stpS_len _ (by decide)) (hz _ _)
  generalize stpS (L2.cutS x (some a) (some (a + 2))) (-1) = rv at q0 q1
  have p4 := addS (a := L2.cutS x none (some a)) (b := rv) (by have := hz none (some a); omega)
  have p5 := addS (a := L2.cutS x none (some a) ++ rv) (b := L2.cutS x (some (a + 2)) none) (by rw [len_app]; have := hz none (some a); have := hz (some (a + 2)) none; omega)
  have p6 := addS (a := L2.cutS x none (some a)) (b := wd) (by have := hz none (some a); omega)
  have p7 := addS (a := L2.cutS x none (some a) ++ wd) (b := L2.cutS x (some a) none) (by rw [len_app]; have := hz none (some a); have := hz (some a) none; omega)
  have p8 := addS (a := L2.cutS x none (some a)) (b := L2.cutS x (some a) (some (a + n))) (by have := hz none (some a); have := hz (some a) (some (a + n)); omega)
  have p9 := addS (a := L2.cutS x none (some a) ++ L2.cutS x (some a) (some (a + n))) (b := L2.cutS x (some a) none) (by rw [len_app]; have := hz none (some a); have := hz (some a) (some (a + n)); have := hz (some a) none; omega)
  -- the lines
  have hvn : v = ((v.toNat : Nat) : Int) := (Int.toNat_of_nonneg hv0).symm
  have cA : cutA lns none (some v) = lns.take v.toNat := by rw [hvn]; exact cut_to (by omega)
  have cC : cutA lns (some v) none = lns.drop v.toNat := by rw [hvn]; exact cut_from (by omega)
  have sAC := sumS_take v.toNat lns
  rw [← cA, ← cC] at sAC
  have lAC : (cutA lns none (some v)).length + (cutA lns (some v) none).length = lns.length := by rw [cA, cC, List.length_take, List.length_drop]; omega
  have lB := cutA_le lns (some v) (some (v + 1))
  have lD := cutA_le lns (some (v + 1)) none
  have j0 := addL (a := cutA lns none (some v)) (b := cutA lns (some v) (some (v + 1))) (by omega)
  have j1 := addL (a := cutA lns none (some v) ++ cutA lns (some v) (some (v + 1))) (b := cutA lns (some v) none) (by rw [List.length_append]; omega)
  have j2 := addL (a := cutA lns none (some v)) (b := cutA lns (some (v + 1)) none) (by omega)
  have nl1 : ("\n" : Str).length = 1 := nl_len
  have k1 : (Txt.join "\n" (cutA lns none (some v) ++ cutA lns (some v) (some (v + 1)) ++ cutA lns (some v) none)).length ≤ 9000 := by
    refine Nat.le_trans (join_sum _ _) ?_
    rw [sumS_app, sumS_app, List.length_append, List.length_append, nl1]
    omega
  have k2 : (Txt.join "\n" (cutA lns none (some v) ++ cutA lns (some (v + 1)) none)).length ≤ 9000 := by
    refine Nat.le_trans (join_sum _ _) ?_
    rw [sumS_app, List.length_append, nl1]
    omega
  have m1 : mJoin (.str "\n") [.lst true ((cutA lns none (some v) ++ cutA lns (some v) (some (v + 1)) ++ cutA lns (some v) none).map D.str)] = some (.str (Txt.join "\n" (cutA lns none (some v) ++ cutA lns (some v) (some (v + 1)) ++ cutA lns (some v) none))) := mJoin_ok (by
    show sumS _ + _ ≤ _
    rw [sumS_app, sumS_app, List.length_append, List.length_append, nl1]
    omega)
  have m2 : mJoin (.str "\n") [.lst true ((cutA lns none (some v) ++ cutA lns (some (v + 1)) none).map D.str)] = some (.str (Txt.join "\n" (cutA lns none (some v) ++ cutA lns (some (v + 1)) none))) := mJoin_ok (by
    show sumS _ + _ ≤ _
    rw [sumS_app, List.length_append, nl1]
    omega)
  have l0 : (L2.cutS x none (some a) ++ L2.cutS x (some (a + 1)) none).length ≤ 9000 := by rw [len_app]; have := hz none (some a); have := hz (some (a + 1)) none; omega
  have l1 : (L2.cutS x none (some a) ++ sg ++ L2.cutS x (some a) none).length ≤ 9000 := by rw [len_app, len_app]; have := hz none (some a); have := hz (some a) none; omega
  have l2 : (L2.cutS x none (some a) ++ sg ++ L2.cutS x (some (a + 1)) none).length ≤ 9000 := by rw [len_app, len_app]; have := hz none (some a); have := hz (some (a + 1)) none; omega
  have l3 : (L2.cutS x none (some a) ++ rv ++ L2.cutS x (some (a + 2)) none).length ≤ 9000 := by rw [len_app, len_app]; have := hz none (some a); have := hz (some (a + 2)) none; omega
  have l4 : (L2.cutS x none (some a) ++ wd ++ L2.cutS x (some a) none).length ≤ 9000 := by rw [len_app, len_app]; have := hz none (some a); have := hz (some a) none; omega
  have l5 : (L2.cutS x none (some a) ++ L2.cutS x (some a) (some (a + n)) ++ L2.cutS x (some a) none).length ≤ 9000 := by rw [len_app, len_app]; have := hz none (some a); have := hz (some a) (some (a + n)); have := hz (some a) none; omega
  have l6 : (L2.cutS x none (some a)).length ≤ 9000 := by have := hz none (some a); omega
  have l7 : (L2.cutS x (some a) none).length ≤ 9000 := by have := hz (some a) none; omega
  have s1 := hsl none (some a)
  have s2 := hsl (some (a + 1)) none
  have s3 := hsl (some a) none
  have s4 := hsl (some a) (some (a + 2))
  have s5 := hsl (some (a + 2)) none
  have s6 := hsl (some a) (some (a + n))
  have t1' := hsll none (some v)
  have t2' := hsll (some v) (some (v + 1))
  have t3' := hsll (some v) none
  have t4' := hsll (some (v + 1)) none
  generalize Txt.join "\n" (cutA lns none (some v) ++ cutA lns (some v) (some (v + 1)) ++ cutA lns (some v) none) = z8 at *
  generalize Txt.join "\n" (cutA lns none (some v) ++ cutA lns (some (v + 1)) none) = z9 at *
  generalize L2.cutS x none (some a) ++ L2.cutS x (some (a + 1)) none = z0 at *
  generalize L2.cutS x none (some a) ++ sg ++ L2.cutS x (some a) none = z1 at *
  generalize L2.cutS x none (some a) ++ sg ++ L2.cutS x (some (a + 1)) none = z2 at *
  generalize L2.cutS x none (some a) ++ rv ++ L2.cutS x (some (a + 2)) none = z3 at *
  generalize L2.cutS x none (some a) ++ wd ++ L2.cutS x (some a) none = z4 at *
  generalize L2.cutS x none (some a) ++ L2.cutS x (some a) (some (a + n)) ++ L2.cutS x (some a) none = z5 at *
  generalize L2.cutS x none (some a) ++ sg = y1 at *
  generalize L2.cutS x none (some a) ++ rv = y3 at *
  generalize L2.cutS x none (some a) ++ wd = y4 at *
  generalize L2.cutS x none (some a) ++ L2.cutS x (some a) (some (a + n)) = y5 at *
  generalize (cutA lns none (some v) ++ cutA lns (some v) (some (v + 1)) ++ cutA lns (some v) none).map D.str = Z8 at *
  generalize (cutA lns none (some v) ++ cutA lns (some v) (some (v + 1))).map D.str = Y8 at *
  generalize (cutA lns none (some v) ++ cutA lns (some (v + 1)) none).map D.str = Z9 at *
  generalize L2.cutS x none (some a) = z6 at *
  generalize L2.cutS x (some a) none = z7 at *
  generalize L2.cutS x (some (a + 1)) none = c1 at *
  generalize L2.cutS x (some a) (some (a + 2)) = c2 at *
  generalize L2.cutS x (some (a + 2)) none = c3 at *
  generalize L2.cutS x (some a) (some (a + n)) = c4 at *
  generalize (cutA lns none (some v)).map D.str = LA at *
  generalize (cutA lns (some v) (some (v + 1))).map D.str = LB at *
  generalize (cutA lns (some v) none).map D.str = LC at *
  generalize (cutA lns (some (v + 1)) none).map D.str = LD at *
  obtain ⟨y, hy, ixy⟩ := ix_text (o := true) (ls := [z0, z1, z2, z3, z4, z5, z6, z7, z8, z9]) what (by rw [← hw]; exact Int.emod_nonneg _ (by decide)) (by show what < ((10 : Nat) : Int); rw [← hw]; exact Int.emod_lt_of_pos _ (by decide))
  refine ⟨y, t5, ?_, ?_⟩
  · simp only [List.mem_cons, List.not_mem_nil, or_false] at hy
    rcases hy with rfl | rfl | rfl | rfl | rfl | rfl | rfl | rfl | rfl | rfl <;> assumption
  have e0 : opAdd (.lst true [.str z0]) (.lst true [.str z1]) = some (.lst true [.str z0, .str z1]) := addL (a := [z0]) (b := [z1]) (by simp)
  have e1 : opAdd (.lst true [.str z0, .str z1]) (.lst true [.str z2]) = some (.lst true [.str z0, .str z1, .str z2]) := addL (a := [z0, z1]) (b := [z2]) (by simp)
  have e2 : opAdd (.lst true [.str z0, .str z1, .str z2]) (.lst true [.str z3]) = some (.lst true [.str z0, .str z1, .str z2, .str z3]) := addL (a := [z0, z1, z2]) (b := [z3]) (by simp)
  have e3 : opAdd (.lst true [.str z0, .str z1, .str z2, .str z3]) (.lst true [.str z4]) = some (.lst true [.str z0, .str z1, .str z2, .str z3, .str z4]) := addL (a := [z0, z1, z2, z3]) (b := [z4]) (by simp)
  have e4 : opAdd (.lst true [.str z0, .str z1, .str z2, .str z3, .str z4]) (.lst true [.str z5]) = some (.lst true [.str z0, .str z1, .str z2, .str z3, .str z4, .str z5]) := addL (a := [z0, z1, z2, z3, z4]) (b := [z5]) (by simp)
  have e5 : opAdd (.lst true [.str z0, .str z1, .str z2, .str z3, .str z4, .str z5]) (.lst true [.str z6, .str z7]) = some (.lst true [.str z0, .str z1, .str z2, .str z3, .str z4, .str z5, .str z6, .str z7]) := addL (a := [z0, z1, z2, z3, z4, z5]) (b := [z6, z7]) (by simp)
  have e6 : opAdd (.lst true [.str z0, .str z1, .str z2, .str z3, .str z4, .str z5, .str z6, .str z7]) (.lst true [.str z8]) = some (.lst true [.str z0, .str z1, .str z2, .str z3, .str z4, .str z5, .str z6, .str z7, .str z8]) := addL (a := [z0, z1, z2, z3, z4, z5, z6, z7]) (b := [z8]) (by simp)
  have e7 : opAdd (.lst true [.str z0, .str z1, .str z2, .str z3, .str z4, .str z5, .str z6, .str z7, .str z8]) (.lst true [.str z9]) = some (.lst true [.str z0, .str z1, .str z2, .str z3, .str z4, .str z5, .str z6, .str z7, .str z8, .str z9]) := addL (a := [z0, z1, z2, z3, z4, z5, z6, z7, z8]) (b := [z9]) (by simp)
  have haw' : opAdd (.lst true (wordsS.map D.str)) (.lst true [.str "00"]) = some (.lst true ((wordsS ++ [("00" : Str)]).map D.str)) := haw
  have ixy' : opIx (.lst true [.str z0, .str z1, .str z2, .str z3, .str z4, .str z5, .str z6, .str z7, .str z8, .str z9]) (.int what) = some (.str y) := ixy
  have hmul : opMulA (.str " 0123456789\n a") (.int 6) = some (.str (Txt.mul headS 6)) := mul_head
  refine fnM2 (n := 10) ?_
  show RetB b__law_bent [some (.lst true [.int t]), some (.str x), none, none, none, none, none, none, none, none, none, none] _ _ _
  unfold b__law_bent
  refine retB_seq (ρ1 := [some (.lst true [.int t1]), some (.str x), some (.int what), none, none, none, none, none, none, none, none, none]) (by simp_arith [d10]) ?_
  refine retB_seq (ρ1 := [some (.lst true [.int t2]), some (.str x), some (.int what), some (.int a), none, none, none, none, none, none, none, none]) (by simp_arith [hl, dl]) ?_
  refine retB_seq (ρ1 := [some (.lst true [.int t3]), some (.str x), some (.int what), some (.int a), some (.int n), none, none, none, none, none, none, none]) (by simp_arith [d12]) ?_
  refine retB_seq (ρ1 := [some (.lst true [.int t3]), some (.str x), some (.int what), some (.int a), some (.int n), some (.str marksS), none, none, none, none, none, none]) (sAsg_of (d := .str marksS) rfl rfl) ?_
  refine retB_seq (ρ1 := [some (.lst true [.int t3]), some (.str x), some (.int what), some (.int a), some (.int n), some (.str marksS), some (.str signS), none, none, none, none, none]) (sAsg_of (eP_of (by simp only [pOp2, pC, pVar, List.getD_cons_succ, List.getD_cons_zero, hmul, hmk]) rfl) rfl) ?_
  have hgs : (D.str signS).stable = true := rfl
  generalize D.str signS = SG at *
  generalize D.str marksS = MK at *
  refine retB_seq (ρ1 := [some (.lst true [.int t4]), some (.str x), some (.int what), some (.int a), some (.int n), some MK, some SG, some (.str sg), none, none, none, none]) (by simp_arith [ls, dsn, hsg]) ?_
  refine retB_seq (ρ1 := [some (.lst true [.int t4]), some (.str x), some (.int what), some (.int a), some (.int n), some MK, some SG, some (.str sg), some (.lst true (wordsS.map D.str)), none, none, none]) (sAsg_of (d := .lst true (wordsS.map D.str)) rfl rfl) ?_
  generalize D.lst true (wordsS.map D.str) = WL at *
  refine retB_seq (ρ1 := [some (.lst true [.int t4]), some (.str x), some (.int what), some (.int a), some (.int n), some MK, some SG, some (.str sg), some (.lst true ((wordsS ++ [("00" : Str)]).map D.str)), none, none, none]) (by simp_arith [haw']) ?_
  generalize D.lst true ((wordsS ++ [("00" : Str)]).map D.str) = WS at *
  refine retB_seq (ρ1 := [some (.lst true [.int t4]), some (.str x), some (.int what), some (.int a), some (.int n), some MK, some SG, some (.str sg), some WS, some (.lst true (lns.map D.str)), none, none]) (by simp_arith [eSm, hsm]) ?_
  generalize D.lst true (lns.map D.str) = LN at *
  refine retB_seq (ρ1 := [some (.lst true [.int t5]), some (.str x), some (.int what), some (.int a), some (.int n), some MK, some SG, some (.str sg), some WS, some LN, some (.int v), none]) (by simp_arith [hll, dln]) ?_
  refine retB_seq (ρ1 := [some (.lst true [.int t5]), some (.str x), some (.int what), some (.int a), some (.int n), some MK, some SG, some (.str sg), some WS, some LN, some (.int v), some (.lst true [.str z0])]) (by simp_arith [s1, adI, s2, p0]) ?_
  refine retB_seq (ρ1 := [some (.lst true [.int t5]), some (.str x), some (.int what), some (.int a), some (.int n), some MK, some SG, some (.str sg), some WS, some LN, some (.int v), some (.lst true [.str z0, .str z1])]) (by simp_arith [s1, s3, p1, p2, e0]) ?_
  refine retB_seq (ρ1 := [some (.lst true [.int t5]), some (.str x), some (.int what), some (.int a), some (.int n), some MK, some SG, some (.str sg), some WS, some LN, some (.int v), some (.lst true [.str z0, .str z1, .str z2])]) (by simp_arith [s1, adI, s2, p1, p3, e1]) ?_
  refine retB_seq (ρ1 := [some (.lst true [.int t5]), some (.str x), some (.int what), some (.int a), some (.int n), some MK, some SG, some (.str sg), some WS, some LN, some (.int v), some (.lst true [.str z0, .str z1, .str z2, .str z3])]) (by simp_arith [s1, adI, s4, ng, q0, p4, s5, p5, e2]) ?_
  refine retB_seq (ρ1 := [some (.lst true [.int t5]), some (.str x), some (.int what), some (.int a), some (.int n), some MK, some SG, some (.str sg), some WS, some LN, some (.int v), some (.lst true [.str z0, .str z1, .str z2, .str z3, .str z4])]) (by simp_arith [s1, ixw, p6, s3, p7, e3]) ?_
  refine retB_seq (ρ1 := [some (.lst true [.int t5]), some (.str x), some (.int what), some (.int a), some (.int n), some MK, some SG, some (.str sg), some WS, some LN, some (.int v), some (.lst true [.str z0, .str z1, .str z2, .str z3, .str z4, .str z5])]) (by simp_arith [s1, adI, s6, p8, s3, p9, e4]) ?_
  refine retB_seq (ρ1 := [some (.lst true [.int t5]), some (.str x), some (.int what), some (.int a), some (.int n), some MK, some SG, some (.str sg), some WS, some LN, some (.int v), some (.lst true [.str z0, .str z1, .str z2, .str z3, .str z4, .str z5, .str z6, .str z7])]) (by simp_arith [s1, s3, e5]) ?_
  refine retB_seq (ρ1 := [some (.lst true [.int t5]), some (.str x), some (.int what), some (.int a), some (.int n), some MK, some SG, some (.str sg), some WS, some LN, some (.int v), some (.lst true [.str z0, .str z1, .str z2, .str z3, .str z4, .str z5, .str z6, .str z7, .str z8])]) (by simp_arith [eSm, adI, t1', t2', t3', j0, j1, m1, e6]) ?_
  refine retB_seq (ρ1 := [some (.lst true [.int t5]), some (.str x), some (.int what), some (.int a), some (.int n), some MK, some SG, some (.str sg), some WS, some LN, some (.int v), some (.lst true [.str z0, .str z1, .str z2, .str z3, .str z4, .str z5, .str z6, .str z7, .str z8, .str z9])]) (by simp_arith [eSm, adI, t1', t4', j2, m2, e7]) ?_
  exact ⟨[some (.int what), some (.int a), some (.int n), some MK, some SG, some (.str sg), some WS, some LN, some (.int v), some (.lst true [.str z0, .str z1, .str z2, .str z3, .str z4, .str z5, .str z6, .str z7, .str z8, .str z9])], sRet_of (by simp_arith [ixy'])⟩
end Lk

set_option Elab.async false
set_option linter.all false
set_option maxRecDepth 100000
set_option maxHeartbeats 8000000
namespace Lk
open PySem Dl
local macro_rules
  | `(tactic| simp_arith [$ls,*]) => `(tactic| simp [fnM, fnX, outs, outX, sSeq, sIf, sAsg, sRet, sRetN, sNil, sExp, sNo, sWp, wipeD, sExpX, sSetX, sRetX, callX, sTry, sRz0, sRz1, bP, bV, bAnd, bOr, bNot, bYes, eP, eMv, eFr, eFz, pVar, pC, pOp2, pOp1, eOp2, eOpP, eOpPP, eOpN, eOpV, eIx, eIxP, pBi, pAll, eBi, eBiP, takeA, valsA, aE, aS, aNil, eTup, eLst, pTup, eCall, callA, putA, gN, gT, gTu, gSt, lVar, lIx, lFld, eMt, eMt0, eMtL, getP_nil, putP_nil, mAppend, pFld, pIsi, pIsE, pXf, pAndV, pOrV, eAndV, eOrV, eIf, pNotV, eNotV, pGet, pSl, pPart, ePO, opIsN, opNotN, D.stable, stableL, D.imm, immL, D.frz, frzL, eqI, eqS, neI, neS, addI, eRevP, eRevE, eFrL, sSetF, eAddM, List.set_cons_zero, List.set_cons_succ, List.getD_cons_zero, List.getD_cons_succ, $ls,*])
/-! KK81: _law_fixed -/
def shortD : D → Bool
  | .str s => decide (s.length ≤ 9000)
  | _ => false
theorem fixed_all : (match m__law_fixed [] with
    | some (.lst true ds, []) => decide (ds.length ≤ 1000) && ds.all shortD
    | _ => false) = true := by decide +kernel
theorem shorts : ∀ ds : List D, ds.all shortD = true → ∃ ls : List Str, ds = ls.map D.str ∧ ∀ l ∈ ls, l.length ≤ 9000
  | [], _ => ⟨[], rfl, by simp⟩
  | d :: ds, h => by
    rw [List.all_cons, Bool.and_eq_true] at h
    obtain ⟨ls, e, hl⟩ := shorts ds h.2
    cases d <;> simp only [shortD, Bool.false_eq_true, false_and] at h
    rename_i s
    refine ⟨s :: ls, by rw [e]; rfl, fun l hl2 => ?_⟩
    rcases List.mem_cons.mp hl2 with rfl | q
    · exact of_decide_eq_true h.1
    · exact hl l q
theorem fixed_any : ∃ ls : List Str, m__law_fixed [] = some (.lst true (ls.map D.str), []) ∧ ls.length ≤ 1000 ∧ ∀ l ∈ ls, l.length ≤ 9000 := by
  have h := fixed_all
  split at h
  · rename_i ds e
    rw [Bool.and_eq_true] at h
    obtain ⟨ls, e2, hl⟩ := shorts ds h.2
    refine ⟨ls, by rw [e, e2], ?_, hl⟩
    have := of_decide_eq_true h.1
    rw [e2, List.length_map] at this
    exact this
  · cases h
end Lk

set_option Elab.async false
set_option linter.all false
set_option maxRecDepth 100000
set_option maxHeartbeats 8000000
namespace Lk
open PySem Dl
local macro_rules
  | `(tactic| simp_arith [$ls,*]) => `(tactic| simp [fnM, fnX, outs, outX, sSeq, sIf, sAsg, sRet, sRetN, sNil, sExp, sNo, sWp, wipeD, sExpX, sSetX, sRetX, callX, sTry, sRz0, sRz1, bP, bV, bAnd, bOr, bNot, bYes, eP, eMv, eFr, eFz, pVar, pC, pOp2, pOp1, eOp2, eOpP, eOpPP, eOpN, eOpV, eIx, eIxP, pBi, pAll, eBi, eBiP, takeA, valsA, aE, aS, aNil, eTup, eLst, pTup, eCall, callA, putA, gN, gT, gTu, gSt, lVar, lIx, lFld, eMt, eMt0, eMtL, getP_nil, putP_nil, mAppend, pFld, pIsi, pIsE, pXf, pAndV, pOrV, eAndV, eOrV, eIf, pNotV, eNotV, pGet, pSl, pPart, ePO, opIsN, opNotN, D.stable, stableL, D.imm, immL, D.frz, frzL, eqI, eqS, neI, neS, addI, eRevP, eRevE, eFrL, sSetF, eAddM, List.set_cons_zero, List.set_cons_succ, List.getD_cons_zero, List.getD_cons_succ, $ls,*])
/-! OL81: the law -/
theorem bookT_pos {ps : List Part} (h : 1 ≤ ps.length) : 1 ≤ (bookT ps).length := by
  cases ps with
  | nil => simp at h
  | cons p qs =>
    rw [TL.len_tl]
    unfold bookT
    rw [TL.join_eq, TL.tl_join]
    have h0 : TL.tl ("" : Str) = [] := rfl
    rw [h0, join_nil]
    simp only [List.map_cons, List.flatten_cons, List.length_append, TL.tl_append, nl_tl, List.length_singleton]
    omega
theorem w1_true {x : Str} (h1 : 1 ≤ x.length) (h2 : x.length ≤ 2000) (N B k i : D) (t : Int) : ∃ t' : Int, w1_law [some N, some B, some (.str x), some k, some (.lst true [.int t]), some i, none] = some (.nx, [some N, some B, some (.str x), some k, some (.lst true [.int t']), none, none]) := by
  obtain ⟨y, t', hy, hb⟩ := bent_any h1 h2 t
  have hr := text_right hy
  refine ⟨t', ?_⟩
  unfold w1_law
  refine sWp_cw (ρ1 := [some N, some B, some (.str x), some k, some (.lst true [.int t']), some i, none]) (if_no ?_)
  have hc : bV (eCall m__law_right (aE (eCall m__law_bent (aS 4 (aS 2 aNil))) aNil)) [some N, some B, some (.str x), some k, some (.lst true [.int t]), some i, none] = some (true, [some N, some B, some (.str x), some k, some (.lst true [.int t']), some i, none]) := by
    generalize D.str x = X at *
    generalize D.str y = Y at *
    generalize D.lst true [.int t] = P at *
    generalize D.lst true [.int t'] = P2 at *
    simp_arith [hb, hr]
  exact (bNotK hc)
theorem w2_true (ns : List Int) (hn : ns.length ≤ 63) {x : Str} (h1 : 1 ≤ x.length) (h2 : x.length ≤ 2000) (B : D) (k : Nat) : w2_law [some (.scr ns), some B, some (.str x), some (.int (k : Int)), none, none, none] = some (.nx, [some (.scr ns), some B, some (.str x), none, none, none, none]) := by
  obtain ⟨t, et⟩ := tape_ok ns k hn
  obtain ⟨ρ', f1, t6, rfl⟩ := forL_rng (g := gN 5) (body := w1_law) (fun ρ => ∃ (t : Int), ρ = [some (.scr ns), some B, some (.str x), some (.int (k : Int)), some (.lst true [.int t]), none, none]) (lo := 0) (n := (3 : Int).toNat)
    (ρ := [some (.scr ns), some B, some (.str x), some (.int (k : Int)), some (.lst true [.int t]), none, none]) ⟨_, rfl⟩ fun i hi ρ q => by
      obtain ⟨t7, rfl⟩ := q
      obtain ⟨t8, e8⟩ := w1_true h1 h2 (.scr ns) B (.int (k : Int)) (.int (0 + (i : Int))) t7
      exact ⟨_, _, rfl, .inl e8, t8, rfl⟩
  have hf : sForR1 (eP (pC (.int 3))) (gN 5) w1_law [some (.scr ns), some B, some (.str x), some (.int (k : Int)), some (.lst true [.int t]), none, none] = _ :=
    forR1_of (j := 3) (eP_of rfl rfl) (by decide) (by decide) f1
  unfold w2_law
  refine sWp_cw (ρ1 := [some (.scr ns), some B, some (.str x), some (.int (k : Int)), some (.lst true [.int t6]), none, none]) ((sSeq_nx (ρ1 := [some (.scr ns), some B, some (.str x), some (.int (k : Int)), some (.lst true [.int t]), none, none]) ?_).trans (sWp_cw hf))
  generalize D.str x = X at *
  simp_arith [et]
theorem law_true (ns : List Int) (hn : ns.length ≤ 63) : ∃ ds, m_law [.scr ns] = some (.bl true, ds) := by
  obtain ⟨ps, h, hl, eb⟩ := book_ok ns 0 24 hn (by decide) (by decide)
  have eb' : m__law_book [.scr ns, .int 0, .int 24] = some (bookD ps, [.scr ns, .int 0, .int 24]) := eb
  have htx := (shows_ok h).2
  have hb2 := (join_book h).2
  have hb1 := bookT_pos h.len.1
  generalize bookT ps = x at *
  have hr := text_right (x := x) (by omega)
  obtain ⟨j, hj1, hj2, em⟩ : ∃ j : Int, 0 ≤ j ∧ j ≤ 100 ∧ pBi opMax [(pC (.int 10)), (pBi opMin [(pC (.int 19)), (pBi opLen [(pVar 0)])])] [some (.scr ns), some (bookD ps), some (.str x), none, none, none, none] = some (.int j) := by
    refine ⟨if (if (ns.length : Int) < 19 then (ns.length : Int) else 19) > 10 then (if (ns.length : Int) < 19 then (ns.length : Int) else 19) else 10, ?_, ?_, rfl⟩ <;> (repeat' split) <;> omega
  obtain ⟨ρ3, f3, rfl⟩ := forL_rng (g := gN 3) (body := w2_law) (fun ρ => ρ = [some (.scr ns), some (bookD ps), some (.str x), none, none, none, none]) (lo := 6) (n := (j - 6).toNat)
    (ρ := [some (.scr ns), some (bookD ps), some (.str x), none, none, none, none]) rfl fun i hi ρ q => by
      subst q
      have e := w2_true ns hn hb1 hb2 (bookD ps) (6 + i)
      exact ⟨_, _, rfl, .inl e, rfl⟩
  have g3 : sForR2 (eP (pC (.int 6))) (eP (pBi opMax [(pC (.int 10)), (pBi opMin [(pC (.int 19)), (pBi opLen [(pVar 0)])])])) (gN 3) w2_law [some (.scr ns), some (bookD ps), some (.str x), none, none, none, none] = _ :=
    forR2_of (i := 6) (j := j) (eP_of rfl rfl) (eP_of em rfl) (by decide) (by omega) f3
  obtain ⟨ls, hfx, hfl, hfs⟩ := fixed_any
  have hc : eComp (eCall m__law_fixed aNil) (gN 6) bYes x1_law [6] [some (.scr ns), some (bookD ps), some (.str x), none, none, none, none] = some (.lst true (ls.map fun _ => D.bl true), [some (.scr ns), some (bookD ps), some (.str x), none, none, none, none]) := by
    refine comp_M (xs := ls) (c := D.str) (f := fun _ => D.bl true) (ρ1 := [some (.scr ns), some (bookD ps), some (.str x), none, none, none, none]) (d := .lst true (ls.map D.str)) ?_ (by rw [D.frz, frzL_of_stable _ (stableL_of_imm _ (strs_imm _))]; rfl) (by omega) fun y hy => ?_
    · generalize D.lst true (ls.map D.str) = Z at *
      generalize D.str x = X at *
      generalize bookD ps = B at *
      simp_arith [hfx]
    · have hry := text_right (hfs y hy)
      refine ⟨_, rfl, [some (.scr ns), some (bookD ps), some (.str x), none, none, none, some (.str y)], ?_, rfl⟩
      generalize D.str x = X at *
      generalize D.str y = Y at *
      generalize bookD ps = B at *
      simp_arith [x1_law, hry]
  have ha := all_true ls
  refine ⟨[.scr ns], ?_⟩
  refine fnM1 (n := 6) ?_
  show Ret b_law [some (.scr ns), none, none, none, none, none, none] _ _
  unfold b_law
  have s1 : sAsg (eCall m__law_book (aS 0 (aE (eP (pC (.int 0))) (aE (eP (pC (.int 24))) aNil)))) (gN 1) [some (.scr ns), none, none, none, none, none, none] = some (.nx, [some (.scr ns), some (bookD ps), none, none, none, none, none]) := by
    generalize bookD ps = B at *
    simp_arith [eb']
  have s2 : sAsg (eCall m__law_text (aS 1 aNil)) (gN 2) [some (.scr ns), some (bookD ps), none, none, none, none, none] = some (.nx, [some (.scr ns), some (bookD ps), some (.str x), none, none, none, none]) := by
    generalize bookD ps = B at *
    generalize D.str x = X at *
    simp_arith [htx]
  have c3 : bV (eCall m__law_right (aS 2 aNil)) [some (.scr ns), some (bookD ps), some (.str x), none, none, none, none] = some (true, [some (.scr ns), some (bookD ps), some (.str x), none, none, none, none]) := by
    generalize bookD ps = B at *
    generalize D.str x = X at *
    simp_arith [hr]
  refine ret_seq s1 (ret_seq s2 (ret_seq (if_no (bNotK c3)) (ret_seq (sWp_cw g3) ⟨[some (bookD ps), some (.str x), none, none, none, none], sRet_of ?_⟩)))
  show eBi opAll _ [some (.scr ns), some (bookD ps), some (.str x), none, none, none, none] = _
  simp only [eBi, aE, hc, aNil, takeA]
  rw [ha]
end Lk

set_option Elab.async false
set_option linter.all false
set_option maxRecDepth 100000
set_option maxHeartbeats 4000000
namespace Lk
open PySem PySem.Spec PyProof.Rows L2 Dl
theorem all_mk {w : World} {K : PySem.W.Frag} {h : Heap} {mg : Str → Option Value} {fa : Addr} (X : K.In h) (G : h.Ns mainGlobals mg) (hfa : mg "law" = some (.ref fa))
    {C_Needed : Addr}
    {C_NoBook : Addr}
    {C_NoDeed : Addr}
    {C_NoLeaf : Addr}
    {C_NoPart : Addr}
    {C_NoRow : Addr}
    {C_NoStand : Addr}
    {C_NoText : Addr}
    {C_NoTree : Addr}
    {C_ShelfError : Addr}
    {nm_NoBook q_NoBook : Str} {N_NoBook : Addr} {bs_NoBook sub_NoBook : List Value} {sn_NoBook : List Str} {ab_NoBook : Bool} {col_NoBook : Option Bool} {dd_NoBook : Option Addr} {m0_NoBook m1_NoBook m2_NoBook m3_NoBook m5_NoBook : Option Value}
    {nm_NoText q_NoText : Str} {N_NoText : Addr} {bs_NoText sub_NoText : List Value} {sn_NoText : List Str} {ab_NoText : Bool} {col_NoText : Option Bool} {dd_NoText : Option Addr} {m0_NoText m1_NoText m2_NoText m3_NoText m5_NoText : Option Value}
    {f0 : Addr} {od0 an0 : Option Addr} {sl0 : Array (Option Value)} {oc0 kV0 dc0 pm0 cd0 ct0 : Value}
    {f1 : Addr} {od1 an1 : Option Addr} {sl1 : Array (Option Value)} {oc1 kV1 dc1 pm1 cd1 ct1 : Value}
    {f2 : Addr} {od2 an2 : Option Addr} {sl2 : Array (Option Value)} {oc2 kV2 dc2 pm2 cd2 ct2 : Value}
    {f3 : Addr} {od3 an3 : Option Addr} {sl3 : Array (Option Value)} {oc3 kV3 dc3 pm3 cd3 ct3 : Value}
    {f4 : Addr} {od4 an4 : Option Addr} {sl4 : Array (Option Value)} {oc4 kV4 dc4 pm4 cd4 ct4 : Value}
    {f5 : Addr} {od5 an5 : Option Addr} {sl5 : Array (Option Value)} {oc5 kV5 dc5 pm5 cd5 ct5 : Value}
    {f6 : Addr} {od6 an6 : Option Addr} {sl6 : Array (Option Value)} {oc6 kV6 dc6 pm6 cd6 ct6 : Value}
    {f7 : Addr} {od7 an7 : Option Addr} {sl7 : Array (Option Value)} {oc7 kV7 dc7 pm7 cd7 ct7 : Value}
    {f8 : Addr} {od8 an8 : Option Addr} {sl8 : Array (Option Value)} {oc8 kV8 dc8 pm8 cd8 ct8 : Value}
    {f9 : Addr} {od9 an9 : Option Addr} {sl9 : Array (Option Value)} {oc9 kV9 dc9 pm9 cd9 ct9 : Value}
    {f10 : Addr} {od10 an10 : Option Addr} {sl10 : Array (Option Value)} {oc10 kV10 dc10 pm10 cd10 ct10 : Value}
    {f11 : Addr} {od11 an11 : Option Addr} {sl11 : Array (Option Value)} {oc11 kV11 dc11 pm11 cd11 ct11 : Value}
    {f12 : Addr} {od12 an12 : Option Addr} {sl12 : Array (Option Value)} {oc12 kV12 dc12 pm12 cd12 ct12 : Value}
    {f13 : Addr} {od13 an13 : Option Addr} {sl13 : Array (Option Value)} {oc13 kV13 dc13 pm13 cd13 ct13 : Value}
    {f14 : Addr} {od14 an14 : Option Addr} {sl14 : Array (Option Value)} {oc14 kV14 dc14 pm14 cd14 ct14 : Value}
    {f15 : Addr} {od15 an15 : Option Addr} {sl15 : Array (Option Value)} {oc15 kV15 dc15 pm15 cd15 ct15 : Value}
    {f16 : Addr} {od16 an16 : Option Addr} {sl16 : Array (Option Value)} {oc16 kV16 dc16 pm16 cd16 ct16 : Value}
    {f17 : Addr} {od17 an17 : Option Addr} {sl17 : Array (Option Value)} {oc17 kV17 dc17 pm17 cd17 ct17 : Value}
    {f18 : Addr} {od18 an18 : Option Addr} {sl18 : Array (Option Value)} {oc18 kV18 dc18 pm18 cd18 ct18 : Value}
    {f19 : Addr} {od19 an19 : Option Addr} {sl19 : Array (Option Value)} {oc19 kV19 dc19 pm19 cd19 ct19 : Value}
    {f20 : Addr} {od20 an20 : Option Addr} {sl20 : Array (Option Value)} {oc20 kV20 dc20 pm20 cd20 ct20 : Value}
    {f21 : Addr} {od21 an21 : Option Addr} {sl21 : Array (Option Value)} {oc21 kV21 dc21 pm21 cd21 ct21 : Value}
    {f22 : Addr} {od22 an22 : Option Addr} {sl22 : Array (Option Value)} {oc22 kV22 dc22 pm22 cd22 ct22 : Value}
    {f23 : Addr} {od23 an23 : Option Addr} {sl23 : Array (Option Value)} {oc23 kV23 dc23 pm23 cd23 ct23 : Value}
    {f24 : Addr} {od24 an24 : Option Addr} {sl24 : Array (Option Value)} {oc24 kV24 dc24 pm24 cd24 ct24 : Value}
    {f25 : Addr} {od25 an25 : Option Addr} {sl25 : Array (Option Value)} {oc25 kV25 dc25 pm25 cd25 ct25 : Value}
    {f26 : Addr} {od26 an26 : Option Addr} {sl26 : Array (Option Value)} {oc26 kV26 dc26 pm26 cd26 ct26 : Value}
    {f27 : Addr} {od27 an27 : Option Addr} {sl27 : Array (Option Value)} {oc27 kV27 dc27 pm27 cd27 ct27 : Value}
    {f28 : Addr} {od28 an28 : Option Addr} {sl28 : Array (Option Value)} {oc28 kV28 dc28 pm28 cd28 ct28 : Value}
    {f29 : Addr} {od29 an29 : Option Addr} {sl29 : Array (Option Value)} {oc29 kV29 dc29 pm29 cd29 ct29 : Value}
    {f30 : Addr} {od30 an30 : Option Addr} {sl30 : Array (Option Value)} {oc30 kV30 dc30 pm30 cd30 ct30 : Value}
    {f31 : Addr} {od31 an31 : Option Addr} {sl31 : Array (Option Value)} {oc31 kV31 dc31 pm31 cd31 ct31 : Value}
    {d_LEAST_NAMES : Addr} {es_LEAST_NAMES : Array DictEntry} {k_LEAST_NAMES : Nat}
    {d_MOST_NAMES : Addr} {es_MOST_NAMES : Array DictEntry} {k_MOST_NAMES : Nat}
    (CNeeded : PySem.W.nsIn K mainGlobals "Needed" = some (some (.ref C_Needed)))
    (CNoBook : PySem.W.nsIn K mainGlobals "NoBook" = some (some (.ref C_NoBook)))
    (CNoDeed : PySem.W.nsIn K mainGlobals "NoDeed" = some (some (.ref C_NoDeed)))
    (CNoLeaf : PySem.W.nsIn K mainGlobals "NoLeaf" = some (some (.ref C_NoLeaf)))
    (CNoPart : PySem.W.nsIn K mainGlobals "NoPart" = some (some (.ref C_NoPart)))
    (CNoRow : PySem.W.nsIn K mainGlobals "NoRow" = some (some (.ref C_NoRow)))
    (CNoStand : PySem.W.nsIn K mainGlobals "NoStand" = some (some (.ref C_NoStand)))
    (CNoText : PySem.W.nsIn K mainGlobals "NoText" = some (some (.ref C_NoText)))
    (CNoTree : PySem.W.nsIn K mainGlobals "NoTree" = some (some (.ref C_NoTree)))
    (CShelfError : PySem.W.nsIn K mainGlobals "ShelfError" = some (some (.ref C_ShelfError)))
    (hn_ : PySem.W.specialIn K (.builtin "object.__class__") "__get__" = some (some (.builtin "getset_descriptor.__get__")))
    (htk_ : PySem.W.takesIn K (.builtin "object.__class__") = some true)
    (gS_ : PySem.W.specialIn K (.ref C_ShelfError) "__getattribute__" = some (some (.builtin "type.__getattribute__")))
    (rS_ : PySem.W.readsIn K C_ShelfError (.type "type") = true)
    (vS_ : PySem.W.findCls K (.ref C_ShelfError) (.type "type") "__init__" = some (.val (.builtin "ValueError.__init__")))
    (ic_Needed : PySem.W.isClsIn K C_Needed = true)
    (ty_Needed : PySem.W.typeIn K (.ref C_Needed) = some (.type "type"))
    (ic_NoDeed : PySem.W.isClsIn K C_NoDeed = true)
    (ty_NoDeed : PySem.W.typeIn K (.ref C_NoDeed) = some (.type "type"))
    (ic_NoLeaf : PySem.W.isClsIn K C_NoLeaf = true)
    (ty_NoLeaf : PySem.W.typeIn K (.ref C_NoLeaf) = some (.type "type"))
    (ic_NoPart : PySem.W.isClsIn K C_NoPart = true)
    (ty_NoPart : PySem.W.typeIn K (.ref C_NoPart) = some (.type "type"))
    (ic_NoRow : PySem.W.isClsIn K C_NoRow = true)
    (ty_NoRow : PySem.W.typeIn K (.ref C_NoRow) = some (.type "type"))
    (ic_NoStand : PySem.W.isClsIn K C_NoStand = true)
    (ty_NoStand : PySem.W.typeIn K (.ref C_NoStand) = some (.type "type"))
    (ic_NoTree : PySem.W.isClsIn K C_NoTree = true)
    (ty_NoTree : PySem.W.typeIn K (.ref C_NoTree) = some (.type "type"))
    (ic_ShelfError : PySem.W.isClsIn K C_ShelfError = true)
    (ty_ShelfError : PySem.W.typeIn K (.ref C_ShelfError) = some (.type "type"))
    (sb_ShelfError : PySem.W.subIn K (.ref C_ShelfError) (.type "BaseException") = some true)
    (hd_ShelfError : PySem.W.hasDictIn K C_ShelfError = true)
    (ic_NoBook : PySem.W.isClsIn K C_NoBook = true)
    (ga_NoBook : PySem.W.findIn K (.ref C_NoBook) "__getattribute__" = some (some (.builtin "BaseException.__getattribute__")))
    (gt_NoBook : PySem.W.findIn K (.ref C_NoBook) "__getattr__" = some none)
    (sb_NoBook : PySem.W.subIn K (.ref C_NoBook) (.type "BaseException") = some true)
    (ha_NoBook : PySem.W.findIn K (.ref C_NoBook) "__class__" = some (some (.builtin "object.__class__")))
    (hm_NoBook : PySem.W.mroIn K C_NoBook (.type "object") = some true)
    (kp_NoBook : PySem.W.keepIn K (.ref C_NoBook) = true)
    (ty_NoBook : PySem.W.typeIn K (.ref C_NoBook) = some (.type "type"))
    (hd_NoBook : PySem.W.hasDictIn K C_NoBook = true)
    (ct_NoBook : PySem.W.subIn K (.ref C_NoBook) (.ref C_ShelfError) = some true)
    (kt_NoBook_Needed : PySem.W.subIn K (.ref C_NoBook) (.ref C_Needed) = some false)
    (kn_NoBook_Needed : (Value.ref C_NoBook == Value.ref C_Needed) = false)
    (kt_NoBook_NoDeed : PySem.W.subIn K (.ref C_NoBook) (.ref C_NoDeed) = some false)
    (kn_NoBook_NoDeed : (Value.ref C_NoBook == Value.ref C_NoDeed) = false)
    (kt_NoBook_NoLeaf : PySem.W.subIn K (.ref C_NoBook) (.ref C_NoLeaf) = some false)
    (kn_NoBook_NoLeaf : (Value.ref C_NoBook == Value.ref C_NoLeaf) = false)
    (kt_NoBook_NoPart : PySem.W.subIn K (.ref C_NoBook) (.ref C_NoPart) = some false)
    (kn_NoBook_NoPart : (Value.ref C_NoBook == Value.ref C_NoPart) = false)
    (kt_NoBook_NoRow : PySem.W.subIn K (.ref C_NoBook) (.ref C_NoRow) = some false)
    (kn_NoBook_NoRow : (Value.ref C_NoBook == Value.ref C_NoRow) = false)
    (kt_NoBook_NoStand : PySem.W.subIn K (.ref C_NoBook) (.ref C_NoStand) = some false)
    (kn_NoBook_NoStand : (Value.ref C_NoBook == Value.ref C_NoStand) = false)
    (kt_NoBook_NoText : PySem.W.subIn K (.ref C_NoBook) (.ref C_NoText) = some false)
    (kn_NoBook_NoText : (Value.ref C_NoBook == Value.ref C_NoText) = false)
    (kt_NoBook_NoTree : PySem.W.subIn K (.ref C_NoBook) (.ref C_NoTree) = some false)
    (kn_NoBook_NoTree : (Value.ref C_NoBook == Value.ref C_NoTree) = false)
    (kt_NoBook_ValueError : PySem.W.subIn K (.ref C_NoBook) (.type "ValueError") = some true)
    (no_NoBook : PySem.W.findIn K (.ref C_NoBook) "fault" = some none)
    (xL_NoBook : K.lookup C_NoBook = some (excClassObj nm_NoBook q_NoBook C_NoBook N_NoBook bs_NoBook [.ref C_ShelfError, .type "ValueError", .type "Exception", .type "BaseException", .type "object"] true sn_NoBook sub_NoBook ab_NoBook col_NoBook dd_NoBook m0_NoBook m1_NoBook m2_NoBook m3_NoBook m5_NoBook "ValueError.__new__"))
    (se_NoBook : PySem.W.findIn K (.ref C_NoBook) "__setattr__" = some (some (.builtin "object.__setattr__")))
    (ic_NoText : PySem.W.isClsIn K C_NoText = true)
    (ga_NoText : PySem.W.findIn K (.ref C_NoText) "__getattribute__" = some (some (.builtin "BaseException.__getattribute__")))
    (gt_NoText : PySem.W.findIn K (.ref C_NoText) "__getattr__" = some none)
    (sb_NoText : PySem.W.subIn K (.ref C_NoText) (.type "BaseException") = some true)
    (ha_NoText : PySem.W.findIn K (.ref C_NoText) "__class__" = some (some (.builtin "object.__class__")))
    (hm_NoText : PySem.W.mroIn K C_NoText (.type "object") = some true)
    (kp_NoText : PySem.W.keepIn K (.ref C_NoText) = true)
    (ty_NoText : PySem.W.typeIn K (.ref C_NoText) = some (.type "type"))
    (hd_NoText : PySem.W.hasDictIn K C_NoText = true)
    (ct_NoText : PySem.W.subIn K (.ref C_NoText) (.ref C_ShelfError) = some true)
    (kt_NoText_Needed : PySem.W.subIn K (.ref C_NoText) (.ref C_Needed) = some false)
    (kn_NoText_Needed : (Value.ref C_NoText == Value.ref C_Needed) = false)
    (kt_NoText_NoBook : PySem.W.subIn K (.ref C_NoText) (.ref C_NoBook) = some false)
    (kn_NoText_NoBook : (Value.ref C_NoText == Value.ref C_NoBook) = false)
    (kt_NoText_NoDeed : PySem.W.subIn K (.ref C_NoText) (.ref C_NoDeed) = some false)
    (kn_NoText_NoDeed : (Value.ref C_NoText == Value.ref C_NoDeed) = false)
    (kt_NoText_NoLeaf : PySem.W.subIn K (.ref C_NoText) (.ref C_NoLeaf) = some false)
    (kn_NoText_NoLeaf : (Value.ref C_NoText == Value.ref C_NoLeaf) = false)
    (kt_NoText_NoPart : PySem.W.subIn K (.ref C_NoText) (.ref C_NoPart) = some false)
    (kn_NoText_NoPart : (Value.ref C_NoText == Value.ref C_NoPart) = false)
    (kt_NoText_NoRow : PySem.W.subIn K (.ref C_NoText) (.ref C_NoRow) = some false)
    (kn_NoText_NoRow : (Value.ref C_NoText == Value.ref C_NoRow) = false)
    (kt_NoText_NoStand : PySem.W.subIn K (.ref C_NoText) (.ref C_NoStand) = some false)
    (kn_NoText_NoStand : (Value.ref C_NoText == Value.ref C_NoStand) = false)
    (kt_NoText_NoTree : PySem.W.subIn K (.ref C_NoText) (.ref C_NoTree) = some false)
    (kn_NoText_NoTree : (Value.ref C_NoText == Value.ref C_NoTree) = false)
    (kt_NoText_ValueError : PySem.W.subIn K (.ref C_NoText) (.type "ValueError") = some true)
    (no_NoText : PySem.W.findIn K (.ref C_NoText) "line" = some none)
    (xL_NoText : K.lookup C_NoText = some (excClassObj nm_NoText q_NoText C_NoText N_NoText bs_NoText [.ref C_ShelfError, .type "ValueError", .type "Exception", .type "BaseException", .type "object"] true sn_NoText sub_NoText ab_NoText col_NoText dd_NoText m0_NoText m1_NoText m2_NoText m3_NoText m5_NoText "ValueError.__new__"))
    (se_NoText : PySem.W.findIn K (.ref C_NoText) "__setattr__" = some (some (.builtin "object.__setattr__")))
    (a0 : PySem.W.nsIn K mainGlobals "_law_cell_at" = some (some (.ref f0))) (l0 : K.lookup f0 = some ⟨oc0, od0, .func (PySem.W.fnOf "_law_cell_at" "_law_cell_at" (defArgs (top 30)) (defBody (top 30)) (defScope (top 30)) .none kV0 dc0 pm0 an0 cd0 ct0), sl0⟩) (c0 : PySem.W.codeIn K cd0 "_law_cell_at" = true) (k0 : PySem.W.keepIn K (.ref f0) = true)
    (a1 : PySem.W.nsIn K mainGlobals "_law_tape" = some (some (.ref f1))) (l1 : K.lookup f1 = some ⟨oc1, od1, .func (PySem.W.fnOf "_law_tape" "_law_tape" (defArgs (top 31)) (defBody (top 31)) (defScope (top 31)) .none kV1 dc1 pm1 an1 cd1 ct1), sl1⟩) (c1 : PySem.W.codeIn K cd1 "_law_tape" = true) (k1 : PySem.W.keepIn K (.ref f1) = true)
    (a2 : PySem.W.nsIn K mainGlobals "_law_digit" = some (some (.ref f2))) (l2 : K.lookup f2 = some ⟨oc2, od2, .func (PySem.W.fnOf "_law_digit" "_law_digit" (defArgs (top 32)) (defBody (top 32)) (defScope (top 32)) .none kV2 dc2 pm2 an2 cd2 ct2), sl2⟩) (c2 : PySem.W.codeIn K cd2 "_law_digit" = true) (k2 : PySem.W.keepIn K (.ref f2) = true)
    (a3 : PySem.W.nsIn K mainGlobals "_law_words" = some (some (.ref f3))) (l3 : K.lookup f3 = some ⟨oc3, od3, .func (PySem.W.fnOf "_law_words" "_law_words" (defArgs (top 33)) (defBody (top 33)) (defScope (top 33)) .none kV3 dc3 pm3 an3 cd3 ct3), sl3⟩) (c3 : PySem.W.codeIn K cd3 "_law_words" = true) (k3 : PySem.W.keepIn K (.ref f3) = true)
    (a4 : PySem.W.nsIn K mainGlobals "_law_number" = some (some (.ref f4))) (l4 : K.lookup f4 = some ⟨oc4, od4, .func (PySem.W.fnOf "_law_number" "_law_number" (defArgs (top 35)) (defBody (top 35)) (defScope (top 35)) .none kV4 dc4 pm4 an4 cd4 ct4), sl4⟩) (c4 : PySem.W.codeIn K cd4 "_law_number" = true) (k4 : PySem.W.keepIn K (.ref f4) = true)
    (a5 : PySem.W.nsIn K mainGlobals "_law_recipe" = some (some (.ref f5))) (l5 : K.lookup f5 = some ⟨oc5, od5, .func (PySem.W.fnOf "_law_recipe" "_law_recipe" (defArgs (top 34)) (defBody (top 34)) (defScope (top 34)) .none kV5 dc5 pm5 an5 cd5 ct5), sl5⟩) (c5 : PySem.W.codeIn K cd5 "_law_recipe" = true) (k5 : PySem.W.keepIn K (.ref f5) = true)
    (a6 : PySem.W.nsIn K mainGlobals "_law_again" = some (some (.ref f6))) (l6 : K.lookup f6 = some ⟨oc6, od6, .func (PySem.W.fnOf "_law_again" "_law_again" (defArgs (top 36)) (defBody (top 36)) (defScope (top 36)) .none kV6 dc6 pm6 an6 cd6 ct6), sl6⟩) (c6 : PySem.W.codeIn K cd6 "_law_again" = true) (k6 : PySem.W.keepIn K (.ref f6) = true)
    (a7 : PySem.W.nsIn K mainGlobals "_law_book" = some (some (.ref f7))) (l7 : K.lookup f7 = some ⟨oc7, od7, .func (PySem.W.fnOf "_law_book" "_law_book" (defArgs (top 37)) (defBody (top 37)) (defScope (top 37)) .none kV7 dc7 pm7 an7 cd7 ct7), sl7⟩) (c7 : PySem.W.codeIn K cd7 "_law_book" = true) (k7 : PySem.W.keepIn K (.ref f7) = true)
    (a8 : PySem.W.nsIn K mainGlobals "_law_needs" = some (some (.ref f8))) (l8 : K.lookup f8 = some ⟨oc8, od8, .func (PySem.W.fnOf "_law_needs" "_law_needs" (defArgs (top 38)) (defBody (top 38)) (defScope (top 38)) .none kV8 dc8 pm8 an8 cd8 ct8), sl8⟩) (c8 : PySem.W.codeIn K cd8 "_law_needs" = true) (k8 : PySem.W.keepIn K (.ref f8) = true)
    (a9 : PySem.W.nsIn K mainGlobals "_law_line" = some (some (.ref f9))) (l9 : K.lookup f9 = some ⟨oc9, od9, .func (PySem.W.fnOf "_law_line" "_law_line" (defArgs (top 40)) (defBody (top 40)) (defScope (top 40)) .none kV9 dc9 pm9 an9 cd9 ct9), sl9⟩) (c9 : PySem.W.codeIn K cd9 "_law_line" = true) (k9 : PySem.W.keepIn K (.ref f9) = true)
    (a10 : PySem.W.nsIn K mainGlobals "_law_text" = some (some (.ref f10))) (l10 : K.lookup f10 = some ⟨oc10, od10, .func (PySem.W.fnOf "_law_text" "_law_text" (defArgs (top 41)) (defBody (top 41)) (defScope (top 41)) .none kV10 dc10 pm10 an10 cd10 ct10), sl10⟩) (c10 : PySem.W.codeIn K cd10 "_law_text" = true) (k10 : PySem.W.keepIn K (.ref f10) = true)
    (a11 : PySem.W.nsIn K mainGlobals "_law_is_word" = some (some (.ref f11))) (l11 : K.lookup f11 = some ⟨oc11, od11, .func (PySem.W.fnOf "_law_is_word" "_law_is_word" (defArgs (top 42)) (defBody (top 42)) (defScope (top 42)) .none kV11 dc11 pm11 an11 cd11 ct11), sl11⟩) (c11 : PySem.W.codeIn K cd11 "_law_is_word" = true) (k11 : PySem.W.keepIn K (.ref f11) = true)
    (a12 : PySem.W.nsIn K mainGlobals "_law_number_of" = some (some (.ref f12))) (l12 : K.lookup f12 = some ⟨oc12, od12, .func (PySem.W.fnOf "_law_number_of" "_law_number_of" (defArgs (top 43)) (defBody (top 43)) (defScope (top 43)) .none kV12 dc12 pm12 an12 cd12 ct12), sl12⟩) (c12 : PySem.W.codeIn K cd12 "_law_number_of" = true) (k12 : PySem.W.keepIn K (.ref f12) = true)
    (a13 : PySem.W.nsIn K mainGlobals "_law_part_of" = some (some (.ref f13))) (l13 : K.lookup f13 = some ⟨oc13, od13, .func (PySem.W.fnOf "_law_part_of" "_law_part_of" (defArgs (top 44)) (defBody (top 44)) (defScope (top 44)) .none kV13 dc13 pm13 an13 cd13 ct13), sl13⟩) (c13 : PySem.W.codeIn K cd13 "_law_part_of" = true) (k13 : PySem.W.keepIn K (.ref f13) = true)
    (a14 : PySem.W.nsIn K mainGlobals "_law_read" = some (some (.ref f14))) (l14 : K.lookup f14 = some ⟨oc14, od14, .func (PySem.W.fnOf "_law_read" "_law_read" (defArgs (top 45)) (defBody (top 45)) (defScope (top 45)) .none kV14 dc14 pm14 an14 cd14 ct14), sl14⟩) (c14 : PySem.W.codeIn K cd14 "_law_read" = true) (k14 : PySem.W.keepIn K (.ref f14) = true)
    (a15 : PySem.W.nsIn K mainGlobals "is_word" = some (some (.ref f15))) (l15 : K.lookup f15 = some ⟨oc15, od15, .func (PySem.W.fnOf "is_word" "is_word" (defArgs (top 18)) (defBody (top 18)) (defScope (top 18)) .none kV15 dc15 pm15 an15 cd15 ct15), sl15⟩) (c15 : PySem.W.codeIn K cd15 "is_word" = true) (k15 : PySem.W.keepIn K (.ref f15) = true)
    (a16 : PySem.W.nsIn K mainGlobals "number_by" = some (some (.ref f16))) (l16 : K.lookup f16 = some ⟨oc16, od16, .func (PySem.W.fnOf "number_by" "number_by" (defArgs (top 26)) (defBody (top 26)) (defScope (top 26)) .none kV16 dc16 pm16 an16 cd16 ct16), sl16⟩) (c16 : PySem.W.codeIn K cd16 "number_by" = true) (k16 : PySem.W.keepIn K (.ref f16) = true)
    (a17 : PySem.W.nsIn K mainGlobals "read_part" = some (some (.ref f17))) (l17 : K.lookup f17 = some ⟨oc17, od17, .func (PySem.W.fnOf "read_part" "read_part" (defArgs (top 27)) (defBody (top 27)) (defScope (top 27)) .none kV17 dc17 pm17 an17 cd17 ct17), sl17⟩) (c17 : PySem.W.codeIn K cd17 "read_part" = true) (k17 : PySem.W.keepIn K (.ref f17) = true)
    (a18 : PySem.W.findIn K (.ref C_NoText) "__init__" = some (some (.ref f18))) (i18 : PySem.W.typeIn K (.ref f18) = some (.type "function")) (l18 : K.lookup f18 = some ⟨oc18, od18, .func (PySem.W.fnOf "__init__" "NoText.__init__" (defArgs (inClass (top 4) 0)) (defBody (inClass (top 4) 0)) (defScope (inClass (top 4) 0)) .none kV18 dc18 pm18 an18 cd18 ct18), sl18⟩) (c18 : PySem.W.codeIn K cd18 "NoText.__init__" = true) (k18 : PySem.W.keepIn K (.ref f18) = true)
    (a19 : PySem.W.nsIn K mainGlobals "is_between" = some (some (.ref f19))) (l19 : K.lookup f19 = some ⟨oc19, od19, .func (PySem.W.fnOf "is_between" "is_between" (defArgs (top 17)) (defBody (top 17)) (defScope (top 17)) .none kV19 dc19 pm19 an19 cd19 ct19), sl19⟩) (c19 : PySem.W.codeIn K cd19 "is_between" = true) (k19 : PySem.W.keepIn K (.ref f19) = true)
    (a20 : PySem.W.nsIn K mainGlobals "is_recipe" = some (some (.ref f20))) (l20 : K.lookup f20 = some ⟨oc20, od20, .func (PySem.W.fnOf "is_recipe" "is_recipe" (defArgs (top 19)) (defBody (top 19)) (defScope (top 19)) .none kV20 dc20 pm20 an20 cd20 ct20), sl20⟩) (c20 : PySem.W.codeIn K cd20 "is_recipe" = true) (k20 : PySem.W.keepIn K (.ref f20) = true)
    (a21 : PySem.W.nsIn K mainGlobals "is_part" = some (some (.ref f21))) (l21 : K.lookup f21 = some ⟨oc21, od21, .func (PySem.W.fnOf "is_part" "is_part" (defArgs (top 20)) (defBody (top 20)) (defScope (top 20)) .none kV21 dc21 pm21 an21 cd21 ct21), sl21⟩) (c21 : PySem.W.codeIn K cd21 "is_part" = true) (k21 : PySem.W.keepIn K (.ref f21) = true)
    (a22 : PySem.W.nsIn K mainGlobals "needs_of" = some (some (.ref f22))) (l22 : K.lookup f22 = some ⟨oc22, od22, .func (PySem.W.fnOf "needs_of" "needs_of" (defArgs (top 21)) (defBody (top 21)) (defScope (top 21)) .none kV22 dc22 pm22 an22 cd22 ct22), sl22⟩) (c22 : PySem.W.codeIn K cd22 "needs_of" = true) (k22 : PySem.W.keepIn K (.ref f22) = true)
    (a23 : PySem.W.nsIn K mainGlobals "why_no_book" = some (some (.ref f23))) (l23 : K.lookup f23 = some ⟨oc23, od23, .func (PySem.W.fnOf "why_no_book" "why_no_book" (defArgs (top 22)) (defBody (top 22)) (defScope (top 22)) .none kV23 dc23 pm23 an23 cd23 ct23), sl23⟩) (c23 : PySem.W.codeIn K cd23 "why_no_book" = true) (k23 : PySem.W.keepIn K (.ref f23) = true)
    (a24 : PySem.W.findIn K (.ref C_NoBook) "__init__" = some (some (.ref f24))) (i24 : PySem.W.typeIn K (.ref f24) = some (.type "function")) (l24 : K.lookup f24 = some ⟨oc24, od24, .func (PySem.W.fnOf "__init__" "NoBook.__init__" (defArgs (inClass (top 2) 0)) (defBody (inClass (top 2) 0)) (defScope (inClass (top 2) 0)) .none kV24 dc24 pm24 an24 cd24 ct24), sl24⟩) (c24 : PySem.W.codeIn K cd24 "NoBook.__init__" = true) (k24 : PySem.W.keepIn K (.ref f24) = true)
    (a25 : PySem.W.nsIn K mainGlobals "need_book" = some (some (.ref f25))) (l25 : K.lookup f25 = some ⟨oc25, od25, .func (PySem.W.fnOf "need_book" "need_book" (defArgs (top 23)) (defBody (top 23)) (defScope (top 23)) .none kV25 dc25 pm25 an25 cd25 ct25), sl25⟩) (c25 : PySem.W.codeIn K cd25 "need_book" = true) (k25 : PySem.W.keepIn K (.ref f25) = true)
    (a26 : PySem.W.nsIn K mainGlobals "read_book" = some (some (.ref f26))) (l26 : K.lookup f26 = some ⟨oc26, od26, .func (PySem.W.fnOf "read_book" "read_book" (defArgs (top 28)) (defBody (top 28)) (defScope (top 28)) .none kV26 dc26 pm26 an26 cd26 ct26), sl26⟩) (c26 : PySem.W.codeIn K cd26 "read_book" = true) (k26 : PySem.W.keepIn K (.ref f26) = true)
    (a27 : PySem.W.nsIn K mainGlobals "_law_kind" = some (some (.ref f27))) (l27 : K.lookup f27 = some ⟨oc27, od27, .func (PySem.W.fnOf "_law_kind" "_law_kind" (defArgs (top 39)) (defBody (top 39)) (defScope (top 39)) .none kV27 dc27 pm27 an27 cd27 ct27), sl27⟩) (c27 : PySem.W.codeIn K cd27 "_law_kind" = true) (k27 : PySem.W.keepIn K (.ref f27) = true)
    (a28 : PySem.W.nsIn K mainGlobals "_law_right" = some (some (.ref f28))) (l28 : K.lookup f28 = some ⟨oc28, od28, .func (PySem.W.fnOf "_law_right" "_law_right" (defArgs (top 46)) (defBody (top 46)) (defScope (top 46)) .none kV28 dc28 pm28 an28 cd28 ct28), sl28⟩) (c28 : PySem.W.codeIn K cd28 "_law_right" = true) (k28 : PySem.W.keepIn K (.ref f28) = true)
    (a29 : PySem.W.nsIn K mainGlobals "_law_bent" = some (some (.ref f29))) (l29 : K.lookup f29 = some ⟨oc29, od29, .func (PySem.W.fnOf "_law_bent" "_law_bent" (defArgs (top 47)) (defBody (top 47)) (defScope (top 47)) .none kV29 dc29 pm29 an29 cd29 ct29), sl29⟩) (c29 : PySem.W.codeIn K cd29 "_law_bent" = true) (k29 : PySem.W.keepIn K (.ref f29) = true)
    (a30 : PySem.W.nsIn K mainGlobals "_law_fixed" = some (some (.ref f30))) (l30 : K.lookup f30 = some ⟨oc30, od30, .func (PySem.W.fnOf "_law_fixed" "_law_fixed" (defArgs (top 48)) (defBody (top 48)) (defScope (top 48)) .none kV30 dc30 pm30 an30 cd30 ct30), sl30⟩) (c30 : PySem.W.codeIn K cd30 "_law_fixed" = true) (k30 : PySem.W.keepIn K (.ref f30) = true)
    (a31 : PySem.W.nsIn K mainGlobals "law" = some (some (.ref f31))) (l31 : K.lookup f31 = some ⟨oc31, od31, .func (PySem.W.fnOf "law" "law" (defArgs (top 49)) (defBody (top 49)) (defScope (top 49)) .none kV31 dc31 pm31 an31 cd31 ct31), sl31⟩) (c31 : PySem.W.codeIn K cd31 "law" = true) (k31 : PySem.W.keepIn K (.ref f31) = true)
    (a_LEAST_NAMES : PySem.W.nsIn K mainGlobals "LEAST_NAMES" = some (some (.ref d_LEAST_NAMES))) (l_LEAST_NAMES : K.lookup d_LEAST_NAMES = some ⟨.type "dict", none, .dict es_LEAST_NAMES k_LEAST_NAMES, #[]⟩) (kl_LEAST_NAMES : PySem.W.KeysLit w.params es_LEAST_NAMES.toList) (w_LEAST_NAMES : (d_LEAST_NAMES == sysModules) = false) (e_LEAST_NAMES : EsAre es_LEAST_NAMES.toList [("plus", 1), ("times", 1), ("most", 1), ("less", 2)])
    (a_MOST_NAMES : PySem.W.nsIn K mainGlobals "MOST_NAMES" = some (some (.ref d_MOST_NAMES))) (l_MOST_NAMES : K.lookup d_MOST_NAMES = some ⟨.type "dict", none, .dict es_MOST_NAMES k_MOST_NAMES, #[]⟩) (kl_MOST_NAMES : PySem.W.KeysLit w.params es_MOST_NAMES.toList) (w_MOST_NAMES : (d_MOST_NAMES == sysModules) = false) (e_MOST_NAMES : EsAre es_MOST_NAMES.toList [("plus", 4), ("times", 4), ("most", 4), ("less", 2)])
    (z_ValueError : PySem.W.nsIn K mainGlobals "ValueError" = some none)
    (z_all : PySem.W.nsIn K mainGlobals "all" = some none)
    (z_bool : PySem.W.nsIn K mainGlobals "bool" = some none)
    (z_enumerate : PySem.W.nsIn K mainGlobals "enumerate" = some none)
    (z_int : PySem.W.nsIn K mainGlobals "int" = some none)
    (z_isinstance : PySem.W.nsIn K mainGlobals "isinstance" = some none)
    (z_len : PySem.W.nsIn K mainGlobals "len" = some none)
    (z_list : PySem.W.nsIn K mainGlobals "list" = some none)
    (z_max : PySem.W.nsIn K mainGlobals "max" = some none)
    (z_min : PySem.W.nsIn K mainGlobals "min" = some none)
    (z_range : PySem.W.nsIn K mainGlobals "range" = some none)
    (z_repr : PySem.W.nsIn K mainGlobals "repr" = some none)
    (z_str : PySem.W.nsIn K mainGlobals "str" = some none)
    (z_tuple : PySem.W.nsIn K mainGlobals "tuple" = some none)
    (g_FIGURES : ∃ t, PySem.W.nsIn K mainGlobals "FIGURES" = some (some (.str "0123456789" t)))
    (g_LETTERS : ∃ t, PySem.W.nsIn K mainGlobals "LETTERS" = some (some (.str "abcdefghijklmnopqrstuvwxyz" t)))
    (g_MOST_PARTS : ∃ t, PySem.W.nsIn K mainGlobals "MOST_PARTS" = some (some (.int 24 t)))
    (g_WHEEL : ∃ t, PySem.W.nsIn K mainGlobals "WHEEL" = some (some (.int 100 t)))
    : LawAt PySem.Challenge.rw_holdshelf_k81_texts_bent.prog w K mg fa m_law := by
  have e := hfa.symm.trans (PySem.W.mg_of X G a31)
  cases e
  have m_Needed : mg "Needed" = some (.ref C_Needed) := PySem.W.mg_of X G CNeeded
  have m_NoBook : mg "NoBook" = some (.ref C_NoBook) := PySem.W.mg_of X G CNoBook
  have m_NoDeed : mg "NoDeed" = some (.ref C_NoDeed) := PySem.W.mg_of X G CNoDeed
  have m_NoLeaf : mg "NoLeaf" = some (.ref C_NoLeaf) := PySem.W.mg_of X G CNoLeaf
  have m_NoPart : mg "NoPart" = some (.ref C_NoPart) := PySem.W.mg_of X G CNoPart
  have m_NoRow : mg "NoRow" = some (.ref C_NoRow) := PySem.W.mg_of X G CNoRow
  have m_NoStand : mg "NoStand" = some (.ref C_NoStand) := PySem.W.mg_of X G CNoStand
  have m_NoText : mg "NoText" = some (.ref C_NoText) := PySem.W.mg_of X G CNoText
  have m_NoTree : mg "NoTree" = some (.ref C_NoTree) := PySem.W.mg_of X G CNoTree
  have m_ShelfError : mg "ShelfError" = some (.ref C_ShelfError) := PySem.W.mg_of X G CShelfError
  have O_NoBook : OexC K C_NoBook := ⟨⟨nm_NoBook, q_NoBook, N_NoBook, bs_NoBook, _, sn_NoBook, sub_NoBook, ab_NoBook, col_NoBook, dd_NoBook, m0_NoBook, m1_NoBook, m2_NoBook, m3_NoBook, m5_NoBook, xL_NoBook, rfl⟩, se_NoBook, sb_NoBook, ty_NoBook, kp_NoBook⟩
  have E_NoBook : Dl.ExcK K C_NoBook := ⟨ic_NoBook, ga_NoBook, gt_NoBook, sb_NoBook, ha_NoBook, hn_, htk_, hm_NoBook⟩
  have O_NoText : OexC K C_NoText := ⟨⟨nm_NoText, q_NoText, N_NoText, bs_NoText, _, sn_NoText, sub_NoText, ab_NoText, col_NoText, dd_NoText, m0_NoText, m1_NoText, m2_NoText, m3_NoText, m5_NoText, xL_NoText, rfl⟩, se_NoText, sb_NoText, ty_NoText, kp_NoText⟩
  have E_NoText : Dl.ExcK K C_NoText := ⟨ic_NoText, ga_NoText, gt_NoText, sb_NoText, ha_NoText, hn_, htk_, hm_NoText⟩
  have T : Txt K w mg := ⟨PySem.W.mg_none_of X G z_ValueError, PySem.W.mg_none_of X G z_all, PySem.W.mg_none_of X G z_bool, PySem.W.mg_none_of X G z_enumerate, PySem.W.mg_none_of X G z_int, PySem.W.mg_none_of X G z_isinstance, PySem.W.mg_none_of X G z_len, PySem.W.mg_none_of X G z_list, PySem.W.mg_none_of X G z_max, PySem.W.mg_none_of X G z_min, PySem.W.mg_none_of X G z_range, PySem.W.mg_none_of X G z_repr, PySem.W.mg_none_of X G z_str, PySem.W.mg_none_of X G z_tuple, (let ⟨t, g⟩ := g_FIGURES; ⟨t, PySem.W.mg_of X G g⟩), (let ⟨t, g⟩ := g_LETTERS; ⟨t, PySem.W.mg_of X G g⟩), (let ⟨t, g⟩ := g_MOST_PARTS; ⟨t, PySem.W.mg_of X G g⟩), (let ⟨t, g⟩ := g_WHEEL; ⟨t, PySem.W.mg_of X G g⟩), ⟨_, _, _, PySem.W.mg_of X G a_LEAST_NAMES, ⟨l_LEAST_NAMES, kl_LEAST_NAMES, w_LEAST_NAMES⟩, e_LEAST_NAMES⟩, ⟨_, _, _, PySem.W.mg_of X G a_MOST_NAMES, ⟨l_MOST_NAMES, kl_MOST_NAMES, w_MOST_NAMES⟩, e_MOST_NAMES⟩, ⟨C_ShelfError, m_ShelfError, gS_, rS_, vS_⟩, (Dl.ctch_mk C_ShelfError m_ShelfError [("NoBook", C_NoBook), ("NoText", C_NoText)] rfl (Dl.all1 ⟨m_NoBook, PySem.W.exm_ref sb_ShelfError hd_ShelfError ty_ShelfError ct_NoBook⟩ (Dl.all1 ⟨m_NoText, PySem.W.exm_ref sb_ShelfError hd_ShelfError ty_ShelfError ct_NoText⟩ (Dl.all0)))), ⟨⟨C_Needed, m_Needed, (Dl.isE_mk [("NoBook", C_NoBook, false), ("NoText", C_NoText, false)] rfl (Dl.all1 ⟨m_NoBook, E_NoBook, Dl.kit_own ic_Needed ty_Needed kn_NoBook_Needed kt_NoBook_Needed⟩ (Dl.all1 ⟨m_NoText, E_NoText, Dl.kit_own ic_Needed ty_Needed kn_NoText_Needed kt_NoText_Needed⟩ (Dl.all0))))⟩⟩, ⟨⟨C_NoBook, m_NoBook, (Dl.isE_mk [("NoBook", C_NoBook, true), ("NoText", C_NoText, false)] rfl (Dl.all1 ⟨m_NoBook, E_NoBook, Dl.kit_self⟩ (Dl.all1 ⟨m_NoText, E_NoText, Dl.kit_own ic_NoBook ty_NoBook kn_NoText_NoBook kt_NoText_NoBook⟩ (Dl.all0))))⟩⟩, ⟨⟨C_NoDeed, m_NoDeed, (Dl.isE_mk [("NoBook", C_NoBook, false), ("NoText", C_NoText, false)] rfl (Dl.all1 ⟨m_NoBook, E_NoBook, Dl.kit_own ic_NoDeed ty_NoDeed kn_NoBook_NoDeed kt_NoBook_NoDeed⟩ (Dl.all1 ⟨m_NoText, E_NoText, Dl.kit_own ic_NoDeed ty_NoDeed kn_NoText_NoDeed kt_NoText_NoDeed⟩ (Dl.all0))))⟩⟩, ⟨⟨C_NoLeaf, m_NoLeaf, (Dl.isE_mk [("NoBook", C_NoBook, false), ("NoText", C_NoText, false)] rfl (Dl.all1 ⟨m_NoBook, E_NoBook, Dl.kit_own ic_NoLeaf ty_NoLeaf kn_NoBook_NoLeaf kt_NoBook_NoLeaf⟩ (Dl.all1 ⟨m_NoText, E_NoText, Dl.kit_own ic_NoLeaf ty_NoLeaf kn_NoText_NoLeaf kt_NoText_NoLeaf⟩ (Dl.all0))))⟩⟩, ⟨⟨C_NoPart, m_NoPart, (Dl.isE_mk [("NoBook", C_NoBook, false), ("NoText", C_NoText, false)] rfl (Dl.all1 ⟨m_NoBook, E_NoBook, Dl.kit_own ic_NoPart ty_NoPart kn_NoBook_NoPart kt_NoBook_NoPart⟩ (Dl.all1 ⟨m_NoText, E_NoText, Dl.kit_own ic_NoPart ty_NoPart kn_NoText_NoPart kt_NoText_NoPart⟩ (Dl.all0))))⟩⟩, ⟨⟨C_NoRow, m_NoRow, (Dl.isE_mk [("NoBook", C_NoBook, false), ("NoText", C_NoText, false)] rfl (Dl.all1 ⟨m_NoBook, E_NoBook, Dl.kit_own ic_NoRow ty_NoRow kn_NoBook_NoRow kt_NoBook_NoRow⟩ (Dl.all1 ⟨m_NoText, E_NoText, Dl.kit_own ic_NoRow ty_NoRow kn_NoText_NoRow kt_NoText_NoRow⟩ (Dl.all0))))⟩⟩, ⟨⟨C_NoStand, m_NoStand, (Dl.isE_mk [("NoBook", C_NoBook, false), ("NoText", C_NoText, false)] rfl (Dl.all1 ⟨m_NoBook, E_NoBook, Dl.kit_own ic_NoStand ty_NoStand kn_NoBook_NoStand kt_NoBook_NoStand⟩ (Dl.all1 ⟨m_NoText, E_NoText, Dl.kit_own ic_NoStand ty_NoStand kn_NoText_NoStand kt_NoText_NoStand⟩ (Dl.all0))))⟩⟩, ⟨⟨C_NoText, m_NoText, (Dl.isE_mk [("NoBook", C_NoBook, false), ("NoText", C_NoText, true)] rfl (Dl.all1 ⟨m_NoBook, E_NoBook, Dl.kit_own ic_NoText ty_NoText kn_NoBook_NoText kt_NoBook_NoText⟩ (Dl.all1 ⟨m_NoText, E_NoText, Dl.kit_self⟩ (Dl.all0))))⟩⟩, ⟨⟨C_NoTree, m_NoTree, (Dl.isE_mk [("NoBook", C_NoBook, false), ("NoText", C_NoText, false)] rfl (Dl.all1 ⟨m_NoBook, E_NoBook, Dl.kit_own ic_NoTree ty_NoTree kn_NoBook_NoTree kt_NoBook_NoTree⟩ (Dl.all1 ⟨m_NoText, E_NoText, Dl.kit_own ic_NoTree ty_NoTree kn_NoText_NoTree kt_NoText_NoTree⟩ (Dl.all0))))⟩⟩, (Dl.isE_mk [("NoBook", C_NoBook, true), ("NoText", C_NoText, true)] rfl (Dl.all1 ⟨m_NoBook, E_NoBook, Dl.kit_blt kt_NoBook_ValueError⟩ (Dl.all1 ⟨m_NoText, E_NoText, Dl.kit_blt kt_NoText_ValueError⟩ (Dl.all0)))), ⟨fun C hC => by rw [m_NoBook] at hC; cases hC; exact ⟨⟨ga_NoBook, gt_NoBook, sb_NoBook, hd_NoBook⟩, no_NoBook⟩⟩, ⟨fun C hC => by rw [m_NoText] at hC; cases hC; exact ⟨⟨ga_NoText, gt_NoText, sb_NoText, hd_NoText⟩, no_NoText⟩⟩, trivial⟩
  have F0 := fun_mk (st := (top 30)) l0 c0 k0
  have b0 := F0.binds (ps := ["script", "k"]) fun _ _ _ _ _ _ us hl => match us, hl with | [_, _], _ => rfl
  have F1 := fun_mk (st := (top 31)) l1 c1 k1
  have b1 := F1.binds (ps := ["script", "k"]) fun _ _ _ _ _ _ us hl => match us, hl with | [_, _], _ => rfl
  have F2 := fun_mk (st := (top 32)) l2 c2 k2
  have b2 := F2.binds (ps := ["tape", "many"]) fun _ _ _ _ _ _ us hl => match us, hl with | [_, _], _ => rfl
  have F3 := fun_mk (st := (top 33)) l3 c3 k3
  have b3 := F3.binds (ps := ["tape", "many"]) fun _ _ _ _ _ _ us hl => match us, hl with | [_, _], _ => rfl
  have F4 := fun_mk (st := (top 35)) l4 c4 k4
  have b4 := F4.binds (ps := ["tape"]) fun _ _ _ _ _ _ us hl => match us, hl with | [_], _ => rfl
  have F5 := fun_mk (st := (top 34)) l5 c5 k5
  have b5 := F5.binds (ps := ["tape", "ahead"]) fun _ _ _ _ _ _ us hl => match us, hl with | [_, _], _ => rfl
  have F6 := fun_mk (st := (top 36)) l6 c6 k6
  have b6 := F6.binds (ps := ["tape", "recipe"]) fun _ _ _ _ _ _ us hl => match us, hl with | [_, _], _ => rfl
  have F7 := fun_mk (st := (top 37)) l7 c7 k7
  have b7 := F7.binds (ps := ["script", "start", "most"]) fun _ _ _ _ _ _ us hl => match us, hl with | [_, _, _], _ => rfl
  have F8 := fun_mk (st := (top 38)) l8 c8 k8
  have b8 := F8.binds (ps := ["part"]) fun _ _ _ _ _ _ us hl => match us, hl with | [_], _ => rfl
  have F9 := fun_mk (st := (top 40)) l9 c9 k9
  have b9 := F9.binds (ps := ["part"]) fun _ _ _ _ _ _ us hl => match us, hl with | [_], _ => rfl
  have F10 := fun_mk (st := (top 41)) l10 c10 k10
  have b10 := F10.binds (ps := ["book"]) fun _ _ _ _ _ _ us hl => match us, hl with | [_], _ => rfl
  have F11 := fun_mk (st := (top 42)) l11 c11 k11
  have b11 := F11.binds (ps := ["thing"]) fun _ _ _ _ _ _ us hl => match us, hl with | [_], _ => rfl
  have F12 := fun_mk (st := (top 43)) l12 c12 k12
  have b12 := F12.binds (ps := ["word"]) fun _ _ _ _ _ _ us hl => match us, hl with | [_], _ => rfl
  have F13 := fun_mk (st := (top 44)) l13 c13 k13
  have b13 := F13.binds (ps := ["line"]) fun _ _ _ _ _ _ us hl => match us, hl with | [_], _ => rfl
  have F14 := fun_mk (st := (top 45)) l14 c14 k14
  have b14 := F14.binds (ps := ["text"]) fun _ _ _ _ _ _ us hl => match us, hl with | [_], _ => rfl
  have F15 := fun_mk (st := (top 18)) l15 c15 k15
  have b15 := F15.binds (ps := ["thing"]) fun _ _ _ _ _ _ us hl => match us, hl with | [_], _ => rfl
  have F16 := fun_mk (st := (top 26)) l16 c16 k16
  have b16 := F16.binds (ps := ["word"]) fun _ _ _ _ _ _ us hl => match us, hl with | [_], _ => rfl
  have F17 := fun_mk (st := (top 27)) l17 c17 k17
  have b17 := F17.binds (ps := ["line"]) fun _ _ _ _ _ _ us hl => match us, hl with | [_], _ => rfl
  have F18 := fun_mk (st := (inClass (top 4) 0)) l18 c18 k18
  have b18 := F18.binds (ps := ["self", "line"]) fun _ _ _ _ _ _ us hl => match us, hl with | [_, _], _ => rfl
  have F19 := fun_mk (st := (top 17)) l19 c19 k19
  have b19 := F19.binds (ps := ["thing", "low", "high"]) fun _ _ _ _ _ _ us hl => match us, hl with | [_, _, _], _ => rfl
  have F20 := fun_mk (st := (top 19)) l20 c20 k20
  have b20 := F20.binds (ps := ["thing"]) fun _ _ _ _ _ _ us hl => match us, hl with | [_], _ => rfl
  have F21 := fun_mk (st := (top 20)) l21 c21 k21
  have b21 := F21.binds (ps := ["thing"]) fun _ _ _ _ _ _ us hl => match us, hl with | [_], _ => rfl
  have F22 := fun_mk (st := (top 21)) l22 c22 k22
  have b22 := F22.binds (ps := ["part"]) fun _ _ _ _ _ _ us hl => match us, hl with | [_], _ => rfl
  have F23 := fun_mk (st := (top 22)) l23 c23 k23
  have b23 := F23.binds (ps := ["thing"]) fun _ _ _ _ _ _ us hl => match us, hl with | [_], _ => rfl
  have F24 := fun_mk (st := (inClass (top 2) 0)) l24 c24 k24
  have b24 := F24.binds (ps := ["self", "fault"]) fun _ _ _ _ _ _ us hl => match us, hl with | [_, _], _ => rfl
  have F25 := fun_mk (st := (top 23)) l25 c25 k25
  have b25 := F25.binds (ps := ["thing"]) fun _ _ _ _ _ _ us hl => match us, hl with | [_], _ => rfl
  have F26 := fun_mk (st := (top 28)) l26 c26 k26
  have b26 := F26.binds (ps := ["text"]) fun _ _ _ _ _ _ us hl => match us, hl with | [_], _ => rfl
  have F27 := fun_mk (st := (top 39)) l27 c27 k27
  have b27 := F27.binds (ps := ["caught", "word"]) fun _ _ _ _ _ _ us hl => match us, hl with | [_, _], _ => rfl
  have F28 := fun_mk (st := (top 46)) l28 c28 k28
  have b28 := F28.binds (ps := ["text"]) fun _ _ _ _ _ _ us hl => match us, hl with | [_], _ => rfl
  have F29 := fun_mk (st := (top 47)) l29 c29 k29
  have b29 := F29.binds (ps := ["tape", "piece"]) fun _ _ _ _ _ _ us hl => match us, hl with | [_, _], _ => rfl
  have F30 := fun_mk (st := (top 48)) l30 c30 k30
  have b30 := F30.binds (ps := []) fun _ _ _ _ _ _ us hl => match us, hl with | [], _ => rfl
  have F31 := fun_mk (st := (top 49)) l31 c31 k31
  refine ok_law T F31 (fun s v => .of_eq rfl) (fun base hK hg => ?_) ⟨rfl, by decide, by decide⟩
  have C0 := ok__law_cell_at (P := PySem.Challenge.rw_holdshelf_k81_texts_bent.prog) (w := w) (base := base) T F0 (PySem.W.mg_of X G a0) b0
  have C1 := ok__law_tape (P := PySem.Challenge.rw_holdshelf_k81_texts_bent.prog) (w := w) (base := base) T F1 (PySem.W.mg_of X G a1) b1 C0
  have C2 := ok__law_digit (P := PySem.Challenge.rw_holdshelf_k81_texts_bent.prog) (w := w) (base := base) T F2 (PySem.W.mg_of X G a2) b2
  have C3 := ok__law_words (P := PySem.Challenge.rw_holdshelf_k81_texts_bent.prog) (w := w) (base := base) T F3 (PySem.W.mg_of X G a3) b3 C2
  have C4 := ok__law_number (P := PySem.Challenge.rw_holdshelf_k81_texts_bent.prog) (w := w) (base := base) T F4 (PySem.W.mg_of X G a4) b4 C2
  have C5 := ok__law_recipe (P := PySem.Challenge.rw_holdshelf_k81_texts_bent.prog) (w := w) (base := base) T F5 (PySem.W.mg_of X G a5) b5 C2
  have C6 := ok__law_again (P := PySem.Challenge.rw_holdshelf_k81_texts_bent.prog) (w := w) (base := base) T F6 (PySem.W.mg_of X G a6) b6 C2
  have C7 := ok__law_book (P := PySem.Challenge.rw_holdshelf_k81_texts_bent.prog) (w := w) (base := base) T F7 (PySem.W.mg_of X G a7) b7 C1 C2 C3 C4 C5 C6
  have C8 := ok__law_needs (P := PySem.Challenge.rw_holdshelf_k81_texts_bent.prog) (w := w) (base := base) T F8 (PySem.W.mg_of X G a8) b8
  have C9 := ok__law_line (P := PySem.Challenge.rw_holdshelf_k81_texts_bent.prog) (w := w) (base := base) T F9 (PySem.W.mg_of X G a9) b9 C8
  have C10 := ok__law_text (P := PySem.Challenge.rw_holdshelf_k81_texts_bent.prog) (w := w) (base := base) T F10 (PySem.W.mg_of X G a10) b10 C9
  have C11 := ok__law_is_word (P := PySem.Challenge.rw_holdshelf_k81_texts_bent.prog) (w := w) (base := base) T F11 (PySem.W.mg_of X G a11) b11
  have C12 := ok__law_number_of (P := PySem.Challenge.rw_holdshelf_k81_texts_bent.prog) (w := w) (base := base) T F12 (PySem.W.mg_of X G a12) b12
  have C13 := ok__law_part_of (P := PySem.Challenge.rw_holdshelf_k81_texts_bent.prog) (w := w) (base := base) T F13 (PySem.W.mg_of X G a13) b13 C11 C12
  have C14 := ok__law_read (P := PySem.Challenge.rw_holdshelf_k81_texts_bent.prog) (w := w) (base := base) T F14 (PySem.W.mg_of X G a14) b14 C13 C8
  have C15 := ok_is_word (P := PySem.Challenge.rw_holdshelf_k81_texts_bent.prog) (w := w) (base := base) T F15 (PySem.W.mg_of X G a15) b15
  have C16 := ok_number_by (P := PySem.Challenge.rw_holdshelf_k81_texts_bent.prog) (w := w) (base := base) T F16 (PySem.W.mg_of X G a16) b16
  have C17 := ok_read_part (P := PySem.Challenge.rw_holdshelf_k81_texts_bent.prog) (w := w) (base := base) T F17 (PySem.W.mg_of X G a17) b17 C15 C16
  have C18 := ok_NoText___init__ (P := PySem.Challenge.rw_holdshelf_k81_texts_bent.prog) (w := w) (base := base) T F18 m_NoText O_NoText no_NoText a18 i18 b18
  have C19 := ok_is_between (P := PySem.Challenge.rw_holdshelf_k81_texts_bent.prog) (w := w) (base := base) T F19 (PySem.W.mg_of X G a19) b19
  have C20 := ok_is_recipe (P := PySem.Challenge.rw_holdshelf_k81_texts_bent.prog) (w := w) (base := base) T F20 (PySem.W.mg_of X G a20) b20 C19 C15
  have C21 := ok_is_part (P := PySem.Challenge.rw_holdshelf_k81_texts_bent.prog) (w := w) (base := base) T F21 (PySem.W.mg_of X G a21) b21 C15 C20 C19
  have C22 := ok_needs_of (P := PySem.Challenge.rw_holdshelf_k81_texts_bent.prog) (w := w) (base := base) T F22 (PySem.W.mg_of X G a22) b22
  have C23 := ok_why_no_book (P := PySem.Challenge.rw_holdshelf_k81_texts_bent.prog) (w := w) (base := base) T F23 (PySem.W.mg_of X G a23) b23 C21 C22
  have C24 := ok_NoBook___init__ (P := PySem.Challenge.rw_holdshelf_k81_texts_bent.prog) (w := w) (base := base) T F24 m_NoBook O_NoBook no_NoBook a24 i24 b24
  have C25 := ok_need_book (P := PySem.Challenge.rw_holdshelf_k81_texts_bent.prog) (w := w) (base := base) T F25 (PySem.W.mg_of X G a25) b25 C23 C24
  have C26 := ok_read_book (P := PySem.Challenge.rw_holdshelf_k81_texts_bent.prog) (w := w) (base := base) T F26 (PySem.W.mg_of X G a26) b26 C17 C18 C25
  have C27 := ok__law_kind (P := PySem.Challenge.rw_holdshelf_k81_texts_bent.prog) (w := w) (base := base) T F27 (PySem.W.mg_of X G a27) b27
  have C28 := ok__law_right (P := PySem.Challenge.rw_holdshelf_k81_texts_bent.prog) (w := w) (base := base) T F28 (PySem.W.mg_of X G a28) b28 C14 C26 C27
  have C29 := ok__law_bent (P := PySem.Challenge.rw_holdshelf_k81_texts_bent.prog) (w := w) (base := base) T F29 (PySem.W.mg_of X G a29) b29 C2
  have C30 := ok__law_fixed (P := PySem.Challenge.rw_holdshelf_k81_texts_bent.prog) (w := w) (base := base) T F30 (PySem.W.mg_of X G a30) b30
  exact ⟨C7, C10, C28, C1, C29, C30⟩
end Lk
open PySem PySem.W PyProof.Rows
set_option maxRecDepth 100000 in
set_option maxHeartbeats 0 in
theorem PySem.Challenge.cw_holdshelf_k81_texts_bent_holds : PySem.Challenge.rw_holdshelf_k81_texts_bent.Holds := by
  w_on; o_law; k_head; (case hw => w_witness2)
  k_fill
  refine Dl.walk_at (l := PySem.Challenge.rw_holdshelf_k81_texts_bent) (n := 63) rfl (by decide) rfl (k := 8) ⟨rfl, by decide, by decide⟩ (fun w h Y => PySem.W.kIn_of Y) ?F Lk.law_true
  case F =>
    intro w mg fa h KX G hmg
    refine' Lk.all_mk KX G hmg ?CNeeded ?CNoBook ?CNoDeed ?CNoLeaf ?CNoPart ?CNoRow ?CNoStand ?CNoText ?CNoTree ?CShelfError ?hn_ ?htk_ ?gS_ ?rS_ ?vS_ ?ic_Needed ?ty_Needed ?ic_NoDeed ?ty_NoDeed ?ic_NoLeaf ?ty_NoLeaf ?ic_NoPart ?ty_NoPart ?ic_NoRow ?ty_NoRow ?ic_NoStand ?ty_NoStand ?ic_NoTree ?ty_NoTree ?ic_ShelfError ?ty_ShelfError ?sb_ShelfError ?hd_ShelfError ?ic_NoBook ?ga_NoBook ?gt_NoBook ?sb_NoBook ?ha_NoBook ?hm_NoBook ?kp_NoBook ?ty_NoBook ?hd_NoBook ?ct_NoBook ?kt_NoBook_Needed ?kn_NoBook_Needed ?kt_NoBook_NoDeed ?kn_NoBook_NoDeed ?kt_NoBook_NoLeaf ?kn_NoBook_NoLeaf ?kt_NoBook_NoPart ?kn_NoBook_NoPart ?kt_NoBook_NoRow ?kn_NoBook_NoRow ?kt_NoBook_NoStand ?kn_NoBook_NoStand ?kt_NoBook_NoText ?kn_NoBook_NoText ?kt_NoBook_NoTree ?kn_NoBook_NoTree ?kt_NoBook_ValueError ?no_NoBook ?xL_NoBook ?se_NoBook ?ic_NoText ?ga_NoText ?gt_NoText ?sb_NoText ?ha_NoText ?hm_NoText ?kp_NoText ?ty_NoText ?hd_NoText ?ct_NoText ?kt_NoText_Needed ?kn_NoText_Needed ?kt_NoText_NoBook ?kn_NoText_NoBook ?kt_NoText_NoDeed ?kn_NoText_NoDeed ?kt_NoText_NoLeaf ?kn_NoText_NoLeaf ?kt_NoText_NoPart ?kn_NoText_NoPart ?kt_NoText_NoRow ?kn_NoText_NoRow ?kt_NoText_NoStand ?kn_NoText_NoStand ?kt_NoText_NoTree ?kn_NoText_NoTree ?kt_NoText_ValueError ?no_NoText ?xL_NoText ?se_NoText ?a0 ?l0 ?c0 ?k0 ?a1 ?l1 ?c1 ?k1 ?a2 ?l2 ?c2 ?k2 ?a3 ?l3 ?c3 ?k3 ?a4 ?l4 ?c4 ?k4 ?a5 ?l5 ?c5 ?k5 ?a6 ?l6 ?c6 ?k6 ?a7 ?l7 ?c7 ?k7 ?a8 ?l8 ?c8 ?k8 ?a9 ?l9 ?c9 ?k9 ?a10 ?l10 ?c10 ?k10 ?a11 ?l11 ?c11 ?k11 ?a12 ?l12 ?c12 ?k12 ?a13 ?l13 ?c13 ?k13 ?a14 ?l14 ?c14 ?k14 ?a15 ?l15 ?c15 ?k15 ?a16 ?l16 ?c16 ?k16 ?a17 ?l17 ?c17 ?k17 ?a18 ?i18 ?l18 ?c18 ?k18 ?a19 ?l19 ?c19 ?k19 ?a20 ?l20 ?c20 ?k20 ?a21 ?l21 ?c21 ?k21 ?a22 ?l22 ?c22 ?k22 ?a23 ?l23 ?c23 ?k23 ?a24 ?i24 ?l24 ?c24 ?k24 ?a25 ?l25 ?c25 ?k25 ?a26 ?l26 ?c26 ?k26 ?a27 ?l27 ?c27 ?k27 ?a28 ?l28 ?c28 ?k28 ?a29 ?l29 ?c29 ?k29 ?a30 ?l30 ?c30 ?k30 ?a31 ?l31 ?c31 ?k31 ?a_LEAST_NAMES ?l_LEAST_NAMES ?kl_LEAST_NAMES ?w_LEAST_NAMES ?e_LEAST_NAMES ?a_MOST_NAMES ?l_MOST_NAMES ?kl_MOST_NAMES ?w_MOST_NAMES ?e_MOST_NAMES ?z_ValueError ?z_all ?z_bool ?z_enumerate ?z_int ?z_isinstance ?z_len ?z_list ?z_max ?z_min ?z_range ?z_repr ?z_str ?z_tuple ?g_FIGURES ?g_LETTERS ?g_MOST_PARTS ?g_WHEEL
    (case CNeeded => k_is)
    (case CNoBook => k_is)
    (case CNoDeed => k_is)
    (case CNoLeaf => k_is)
    (case CNoPart => k_is)
    (case CNoRow => k_is)
    (case CNoStand => k_is)
    (case CNoText => k_is)
    (case CNoTree => k_is)
    (case CShelfError => k_is)
    (case hn_ => k_is)
    (case htk_ => k_is)
    (case gS_ => k_is)
    (case rS_ => k_is)
    (case vS_ => k_is)
    (case ic_Needed => k_is)
    (case ty_Needed => k_is)
    (case ic_NoDeed => k_is)
    (case ty_NoDeed => k_is)
    (case ic_NoLeaf => k_is)
    (case ty_NoLeaf => k_is)
    (case ic_NoPart => k_is)
    (case ty_NoPart => k_is)
    (case ic_NoRow => k_is)
    (case ty_NoRow => k_is)
    (case ic_NoStand => k_is)
    (case ty_NoStand => k_is)
    (case ic_NoTree => k_is)
    (case ty_NoTree => k_is)
    (case ic_ShelfError => k_is)
    (case ty_ShelfError => k_is)
    (case sb_ShelfError => k_is)
    (case hd_ShelfError => k_is)
    (case ic_NoBook => k_is)
    (case ga_NoBook => k_is)
    (case gt_NoBook => k_is)
    (case sb_NoBook => k_is)
    (case ha_NoBook => k_is)
    (case hm_NoBook => k_is)
    (case kp_NoBook => k_is)
    (case ty_NoBook => k_is)
    (case hd_NoBook => k_is)
    (case ct_NoBook => k_is)
    (case kt_NoBook_Needed => k_is)
    (case kn_NoBook_Needed => decide)
    (case kt_NoBook_NoDeed => k_is)
    (case kn_NoBook_NoDeed => decide)
    (case kt_NoBook_NoLeaf => k_is)
    (case kn_NoBook_NoLeaf => decide)
    (case kt_NoBook_NoPart => k_is)
    (case kn_NoBook_NoPart => decide)
    (case kt_NoBook_NoRow => k_is)
    (case kn_NoBook_NoRow => decide)
    (case kt_NoBook_NoStand => k_is)
    (case kn_NoBook_NoStand => decide)
    (case kt_NoBook_NoText => k_is)
    (case kn_NoBook_NoText => decide)
    (case kt_NoBook_NoTree => k_is)
    (case kn_NoBook_NoTree => decide)
    (case kt_NoBook_ValueError => k_is)
    (case no_NoBook => k_is)
    (case xL_NoBook => k_is)
    (case se_NoBook => k_is)
    (case ic_NoText => k_is)
    (case ga_NoText => k_is)
    (case gt_NoText => k_is)
    (case sb_NoText => k_is)
    (case ha_NoText => k_is)
    (case hm_NoText => k_is)
    (case kp_NoText => k_is)
    (case ty_NoText => k_is)
    (case hd_NoText => k_is)
    (case ct_NoText => k_is)
    (case kt_NoText_Needed => k_is)
    (case kn_NoText_Needed => decide)
    (case kt_NoText_NoBook => k_is)
    (case kn_NoText_NoBook => decide)
    (case kt_NoText_NoDeed => k_is)
    (case kn_NoText_NoDeed => decide)
    (case kt_NoText_NoLeaf => k_is)
    (case kn_NoText_NoLeaf => decide)
    (case kt_NoText_NoPart => k_is)
    (case kn_NoText_NoPart => decide)
    (case kt_NoText_NoRow => k_is)
    (case kn_NoText_NoRow => decide)
    (case kt_NoText_NoStand => k_is)
    (case kn_NoText_NoStand => decide)
    (case kt_NoText_NoTree => k_is)
    (case kn_NoText_NoTree => decide)
    (case kt_NoText_ValueError => k_is)
    (case no_NoText => k_is)
    (case xL_NoText => k_is)
    (case se_NoText => k_is)
    (case a0 => k_is)
    (case l0 => k_is)
    (case c0 => k_is)
    (case k0 => k_is)
    (case a1 => k_is)
    (case l1 => k_is)
    (case c1 => k_is)
    (case k1 => k_is)
    (case a2 => k_is)
    (case l2 => k_is)
    (case c2 => k_is)
    (case k2 => k_is)
    (case a3 => k_is)
    (case l3 => k_is)
    (case c3 => k_is)
    (case k3 => k_is)
    (case a4 => k_is)
    (case l4 => k_is)
    (case c4 => k_is)
    (case k4 => k_is)
    (case a5 => k_is)
    (case l5 => k_is)
    (case c5 => k_is)
    (case k5 => k_is)
    (case a6 => k_is)
    (case l6 => k_is)
    (case c6 => k_is)
    (case k6 => k_is)
    (case a7 => k_is)
    (case l7 => k_is)
    (case c7 => k_is)
    (case k7 => k_is)
    (case a8 => k_is)
    (case l8 => k_is)
    (case c8 => k_is)
    (case k8 => k_is)
    (case a9 => k_is)
    (case l9 => k_is)
    (case c9 => k_is)
    (case k9 => k_is)
    (case a10 => k_is)
    (case l10 => k_is)
    (case c10 => k_is)
    (case k10 => k_is)
    (case a11 => k_is)
    (case l11 => k_is)
    (case c11 => k_is)
    (case k11 => k_is)
    (case a12 => k_is)
    (case l12 => k_is)
    (case c12 => k_is)
    (case k12 => k_is)
    (case a13 => k_is)
    (case l13 => k_is)
    (case c13 => k_is)
    (case k13 => k_is)
    (case a14 => k_is)
    (case l14 => k_is)
    (case c14 => k_is)
    (case k14 => k_is)
    (case a15 => k_is)
    (case l15 => k_is)
    (case c15 => k_is)
    (case k15 => k_is)
    (case a16 => k_is)
    (case l16 => k_is)
    (case c16 => k_is)
    (case k16 => k_is)
    (case a17 => k_is)
    (case l17 => k_is)
    (case c17 => k_is)
    (case k17 => k_is)
    (case a18 => k_is)
    (case i18 => k_is)
    (case l18 => k_is)
    (case c18 => k_is)
    (case k18 => k_is)
    (case a19 => k_is)
    (case l19 => k_is)
    (case c19 => k_is)
    (case k19 => k_is)
    (case a20 => k_is)
    (case l20 => k_is)
    (case c20 => k_is)
    (case k20 => k_is)
    (case a21 => k_is)
    (case l21 => k_is)
    (case c21 => k_is)
    (case k21 => k_is)
    (case a22 => k_is)
    (case l22 => k_is)
    (case c22 => k_is)
    (case k22 => k_is)
    (case a23 => k_is)
    (case l23 => k_is)
    (case c23 => k_is)
    (case k23 => k_is)
    (case a24 => k_is)
    (case i24 => k_is)
    (case l24 => k_is)
    (case c24 => k_is)
    (case k24 => k_is)
    (case a25 => k_is)
    (case l25 => k_is)
    (case c25 => k_is)
    (case k25 => k_is)
    (case a26 => k_is)
    (case l26 => k_is)
    (case c26 => k_is)
    (case k26 => k_is)
    (case a27 => k_is)
    (case l27 => k_is)
    (case c27 => k_is)
    (case k27 => k_is)
    (case a28 => k_is)
    (case l28 => k_is)
    (case c28 => k_is)
    (case k28 => k_is)
    (case a29 => k_is)
    (case l29 => k_is)
    (case c29 => k_is)
    (case k29 => k_is)
    (case a30 => k_is)
    (case l30 => k_is)
    (case c30 => k_is)
    (case k30 => k_is)
    (case a31 => k_is)
    (case l31 => k_is)
    (case c31 => k_is)
    (case k31 => k_is)
    (case a_LEAST_NAMES => k_is)
    (case l_LEAST_NAMES => k_is)
    (case kl_LEAST_NAMES => exact ⟨⟨_, _, rfl, rfl⟩, ⟨⟨_, _, rfl, rfl⟩, ⟨⟨_, _, rfl, rfl⟩, ⟨⟨_, _, rfl, rfl⟩, trivial⟩⟩⟩⟩)
    (case w_LEAST_NAMES => decide)
    (case e_LEAST_NAMES => exact .cons rfl rfl (.cons rfl rfl (.cons rfl rfl (.cons rfl rfl (.nil)))))
    (case a_MOST_NAMES => k_is)
    (case l_MOST_NAMES => k_is)
    (case kl_MOST_NAMES => exact ⟨⟨_, _, rfl, rfl⟩, ⟨⟨_, _, rfl, rfl⟩, ⟨⟨_, _, rfl, rfl⟩, ⟨⟨_, _, rfl, rfl⟩, trivial⟩⟩⟩⟩)
    (case w_MOST_NAMES => decide)
    (case e_MOST_NAMES => exact .cons rfl rfl (.cons rfl rfl (.cons rfl rfl (.cons rfl rfl (.nil)))))
    (case z_ValueError => k_is)
    (case z_all => k_is)
    (case z_bool => k_is)
    (case z_enumerate => k_is)
    (case z_int => k_is)
    (case z_isinstance => k_is)
    (case z_len => k_is)
    (case z_list => k_is)
    (case z_max => k_is)
    (case z_min => k_is)
    (case z_range => k_is)
    (case z_repr => k_is)
    (case z_str => k_is)
    (case z_tuple => k_is)
    (case g_FIGURES => exact ⟨_, by k_is⟩)
    (case g_LETTERS => exact ⟨_, by k_is⟩)
    (case g_MOST_PARTS => exact ⟨_, by k_is⟩)
    (case g_WHEEL => exact ⟨_, by k_is⟩)
