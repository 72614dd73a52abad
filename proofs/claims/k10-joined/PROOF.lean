import PyProof.Rows.All
import Wide.All
import OpenK.AllK
import Wide.FinOn
import HandS.ForMost
import HandS.Exc
import KE.KDictKeyed
import HandS.TupAny
import HandS.Deep
import HandS.SortInts
import HandS.TupLen
import HandS.More
import HandS.Conv
import HandS.RaiseMore
import HandS.IsInst
import HandS.TupMul
import PyProof.StrBlock2
import HandS.Style
import HandS.Small
import HandS.Finally
import HandS.Words
import HandS.Rev
import HandS.Iter
import PyProof.ReprRoads
import HandS.DictTup
import HandS.ForDict
import HandS.SetFor
import HandS.Text
import HandS.ExcOwn
import HandS.ExcInit
import HandS.WordsExc
import KE.KExcIs
import KE.KTryMore
import HandS.ExcField
import HandS.ExcIs
import HandS.TupSets
import HandS.Strs
import HandS.Sort
import KE.KDictDisplayH
import KE.KDictCopyH
import KE.KDictList
import HandS.DictComp
import HandS.Ends
import PySem.Challenge.RW_holdshelf_k10_joined
set_option Elab.async false
set_option linter.all false
set_option maxRecDepth 100000
set_option maxHeartbeats 1000000
/-! DL1: plain data D, how the abstract heap bears them (Own, Rp), roots, Sim. -/
namespace Dl
open PySem PySem.Spec PyProof.Rows L2

/-- the module's names, the world -/
structure MG where
  f : Str → Option Value
  w : World
instance : CoeFun MG (fun _ => Str → Option Value) := ⟨MG.f⟩
instance : Coe MG (Str → Option Value) := ⟨MG.f⟩
/-- which sort of dict: keys ints and texts; tuples of these; tuples of tuples -/
inductive Kd where
  | k | t | n
  deriving DecidableEq
/-- plain data; o: owned (may be changed), else frozen -/
inductive D where
  | non | bl (b : Bool) | int (i : Int) | str (s : Str)
  | tup (xs : List D)
  | lst (o : Bool) (xs : List D)
  | dic (o : Bool) (kd : Kd) (ks vs : List D)
  | obj (o : Bool) (c : Str) (fs : List Str) (vs : List D)
  | scr (ns : List Int)
  | exn (c : Str) (fs : List Str) (vs : List D)

mutual
def D.frz : D → D
  | .tup xs => .tup (frzL xs)
  | .lst _ xs => .lst false (frzL xs)
  | .dic _ kd ks vs => .dic false kd ks (frzL vs)
  | .obj _ c fs vs => .obj false c fs (frzL vs)
  | .non => .non
  | .bl b => .bl b
  | .int i => .int i
  | .str s => .str s
  | .scr ns => .scr ns
  | .exn c fs vs => .exn c fs (frzL vs)
def frzL : List D → List D
  | [] => []
  | d :: ds => d.frz :: frzL ds
end
mutual
def D.stable : D → Bool
  | .tup xs => stableL xs
  | .lst o xs => !o && stableL xs
  | .dic o _ _ vs => !o && stableL vs
  | .obj o _ _ vs => !o && stableL vs
  | .non => true
  | .bl _ => true
  | .int _ => true
  | .str _ => true
  | .scr _ => true
  | .exn _ _ vs => stableL vs
def stableL : List D → Bool
  | [] => true
  | d :: ds => d.stable && stableL ds
end
theorem frzL_map : ∀ ds, frzL ds = ds.map D.frz
  | [] => by simp [frzL]
  | d :: ds => by rw [frzL, frzL_map ds, List.map_cons]
theorem stableL_all : ∀ ds, stableL ds = ds.all D.stable
  | [] => by simp [stableL]
  | d :: ds => by rw [stableL, stableL_all ds, List.all_cons]
mutual
theorem D.frz_of_stable : ∀ d : D, d.stable = true → d.frz = d
  | .tup xs, h => by rw [D.frz, frzL_of_stable xs (by simpa [D.stable] using h)]
  | .lst o xs, h => by
    simp only [D.stable, Bool.and_eq_true, Bool.not_eq_true'] at h
    rw [D.frz, frzL_of_stable xs h.2, h.1]
  | .dic o _ _ vs, h => by
    simp only [D.stable, Bool.and_eq_true, Bool.not_eq_true'] at h
    rw [D.frz, frzL_of_stable vs h.2, h.1]
  | .obj o _ _ vs, h => by
    simp only [D.stable, Bool.and_eq_true, Bool.not_eq_true'] at h
    rw [D.frz, frzL_of_stable vs h.2, h.1]
  | .non, _ => by simp [D.frz]
  | .bl _, _ => by simp [D.frz]
  | .int _, _ => by simp [D.frz]
  | .str _, _ => by simp [D.frz]
  | .scr _, _ => by simp [D.frz]
  | .exn _ _ vs, h => by rw [D.frz, frzL_of_stable vs (by simpa [D.stable] using h)]
theorem frzL_of_stable : ∀ ds : List D, stableL ds = true → frzL ds = ds
  | [], _ => by simp [frzL]
  | d :: ds, h => by
    simp only [stableL, Bool.and_eq_true] at h
    rw [frzL, D.frz_of_stable d h.1, frzL_of_stable ds h.2]
end
mutual
theorem D.stable_frz : ∀ d : D, d.frz.stable = true
  | .tup xs => by simp only [D.frz, D.stable]; exact stable_frzL xs
  | .lst o xs => by simp only [D.frz, D.stable, Bool.not_false, Bool.true_and]; exact stable_frzL xs
  | .dic o _ _ vs => by simp only [D.frz, D.stable, Bool.not_false, Bool.true_and]; exact stable_frzL vs
  | .obj o _ _ vs => by simp only [D.frz, D.stable, Bool.not_false, Bool.true_and]; exact stable_frzL vs
  | .non => by simp [D.frz, D.stable]
  | .bl _ => by simp [D.frz, D.stable]
  | .int _ => by simp [D.frz, D.stable]
  | .str _ => by simp [D.frz, D.stable]
  | .scr _ => by simp [D.frz, D.stable]
  | .exn _ _ vs => by simp only [D.frz, D.stable]; exact stable_frzL vs
theorem stable_frzL : ∀ ds : List D, stableL (frzL ds) = true
  | [] => by simp [frzL, stableL]
  | d :: ds => by simp only [frzL, stableL, D.stable_frz d, stable_frzL ds, Bool.and_self]
end

/-- a dict's key as data -/
def kyD : Key → D
  | .inl i => .int i
  | .inr s => .str s
def ktD (l : List Key) : D := .tup (l.map kyD)

def tupish : HO → Bool
  | .tup _ => true
  | .xd _ => true
  | _ => false
mutual
/-- none, truths, numbers, texts, tuples of these: they never change -/
def D.imm : D → Bool
  | .non => true
  | .bl _ => true
  | .int _ => true
  | .str _ => true
  | .tup xs => immL xs
  | .lst _ _ => false
  | .dic _ _ _ _ => false
  | .obj _ _ _ _ => false
  | .scr _ => false
  | .exn _ _ _ => false
def immL : List D → Bool
  | [] => true
  | d :: ds => d.imm && immL ds
end
mutual
theorem D.stable_of_imm : ∀ d : D, d.imm = true → d.stable = true
  | .tup xs, h => by rw [D.stable]; exact stableL_of_imm xs (by simpa [D.imm] using h)
  | .lst _ _, h => by simp [D.imm] at h
  | .dic _ _ _ _, h => by simp [D.imm] at h
  | .obj _ _ _ _, h => by simp [D.imm] at h
  | .scr _, h => by simp [D.imm] at h
  | .non, _ => by simp [D.stable]
  | .exn _ _ _, h => by simp [D.imm] at h
  | .bl _, _ => by simp [D.stable]
  | .int _, _ => by simp [D.stable]
  | .str _, _ => by simp [D.stable]
theorem stableL_of_imm : ∀ ds : List D, immL ds = true → stableL ds = true
  | [], _ => by simp [stableL]
  | d :: ds, h => by
    simp only [immL, Bool.and_eq_true] at h
    simp only [stableL, D.stable_of_imm d h.1, stableL_of_imm ds h.2, Bool.and_self]
end
theorem immL_all : ∀ ds, immL ds = ds.all D.imm
  | [] => by simp [immL]
  | d :: ds => by rw [immL, immL_all ds, List.all_cons]

/-- at a: an exception of the class cls, its dict d -/
def exH (cls : Value) (d : Option Addr) (a : Addr) : HO := .ext fun h => ∃ (oe : Obj) (vs : Array Value), h.get? a = some oe ∧ Zc cls d oe ∧ oe.data = .fields vs
theorem exH_ok {P : Program} {w : World} {H : Hp} {h : Heap} {a : Addr} {cls : Value} {d : Option Addr} {oe : Obj} {vs : Array Value} (e : h.get? a = some oe) (z : Zc cls d oe) (q : oe.data = .fields vs) : ObjOk P w H h a (exH cls d a) :=
  ⟨⟨oe, vs, e, z, q⟩, ⟨oe, e⟩, fun _ _ ⟨o, v, q, r⟩ k => ⟨o, v, k o q, r⟩⟩
/-- its fields: none, or in its dict -/
def XdAt (H : Hp) : Option Addr → List (Str × V) → Prop
  | none, fvs => fvs = []
  | some dd, fvs => H dd = some (.xd fvs)
/-! dicts whose keys are tuples of tuples -/
mutual
/-- immutable data as a key -/
def D.nk : D → Option NestedKey
  | .non => some .none
  | .int i => some (.num i)
  | .str x => some (.text x)
  | .tup xs => match nkL xs with
    | some ks => some (.tup ks)
    | none => none
  | _ => none
def nkL : List D → Option (List NestedKey)
  | [] => some []
  | d :: ds => match d.nk, nkL ds with
    | some k, some ks => some (k :: ks)
    | _, _ => none
end
mutual
inductive NkAt (H : Hp) : V → D → NestedKey → Prop
  | non : NkAt H .non .non .none
  | int (i : Int) : NkAt H (.int i) (.int i) (.num i)
  | str (x : Str) : NkAt H (.str x) (.str x) (.text x)
  | tup {a : Addr} {xs : List V} {ds : List D} {ks : List NestedKey} : H a = some (.tup xs) → NkAll H xs ds ks → NkAt H (.ref a) (.tup ds) (.tup ks)
inductive NkAll (H : Hp) : List V → List D → List NestedKey → Prop
  | nil : NkAll H [] [] []
  | cons {v : V} {vs : List V} {d : D} {ds : List D} {k : NestedKey} {ks : List NestedKey} : NkAt H v d k → NkAll H vs ds ks → NkAll H (v :: vs) (d :: ds) (k :: ks)
end
mutual
theorem NkAt.lift {H H' : Hp} (hs : ∀ a xs, H a = some (.tup xs) → H' a = some (.tup xs)) : ∀ {v : V} {d : D} {k : NestedKey}, NkAt H v d k → NkAt H' v d k
  | _, _, _, .non => .non
  | _, _, _, .int i => .int i
  | _, _, _, .str x => .str x
  | _, _, _, .tup e l => .tup (hs _ _ e) (NkAll.lift hs l)
theorem NkAll.lift {H H' : Hp} (hs : ∀ a xs, H a = some (.tup xs) → H' a = some (.tup xs)) : ∀ {vs : List V} {ds : List D} {ks : List NestedKey}, NkAll H vs ds ks → NkAll H' vs ds ks
  | _, _, _, .nil => .nil
  | _, _, _, .cons o l => .cons (NkAt.lift hs o) (NkAll.lift hs l)
end
abbrev NEnt := NestedKey × Addr × Value
/-- the keys of a dict as data -/
inductive KeysN (H : Hp) : List NEnt → List D → Prop
  | nil : KeysN H [] []
  | cons {x : NEnt} {xs : List NEnt} {k : D} {ks : List D} : NkAt H (.ref x.2.1) k x.1 → x.1.depth ≤ 8 → KeysN H xs ks → KeysN H (x :: xs) (k :: ks)
theorem KeysN.lift {H H' : Hp} (hs : ∀ a xs, H a = some (.tup xs) → H' a = some (.tup xs)) {xs : List NEnt} {ks : List D} (h : KeysN H xs ks) : KeysN H' xs ks := by
  induction h with
  | nil => exact .nil
  | cons h1 h2 _ ih => exact .cons (h1.lift hs) h2 ih
def entN (w : World) (x : NEnt) : DictEntry := ⟨x.1.hash w, .ref x.2.1, x.2.2⟩
/-- at a: a dict with these entries -/
def dnH (w : World) (a : Addr) (xs : List NEnt) : HO := .ext fun h => (a == sysModules) = false ∧ xs.length ≤ sizeLine ∧ (xs.map (·.1)).Nodup ∧ ∃ o es ep, h.get? a = some o ∧ o.ExactDict ∧ o.data = .dict es ep ∧ es.toList = xs.map (entN w)
theorem dnH_ok {P : Program} {w0 w : World} {H : Hp} {h : Heap} {a : Addr} {xs : List NEnt} {o : Obj} {es : Array DictEntry} {ep : Nat} (h1 : (a == sysModules) = false) (h2 : xs.length ≤ sizeLine) (h3 : (xs.map (·.1)).Nodup) (e : h.get? a = some o) (z : o.ExactDict) (q : o.data = .dict es ep) (hl : es.toList = xs.map (entN w)) : ObjOk P w0 H h a (dnH w a xs) :=
  ⟨⟨h1, h2, h3, o, es, ep, e, z, q, hl⟩, ⟨o, e⟩, fun _ _ ⟨g1, g2, g3, o, es, ep, q, r⟩ k => ⟨g1, g2, g3, o, es, ep, k o q, r⟩⟩
def lockable : HO → Bool
  | .dK _ => true
  | .dT _ => true
  | _ => false
/-! ### how data stand in the abstract heap. Hs: the part that stays for ever -/
section
variable (K : PySem.W.Frag) (mg : MG) (Hs H : Hp)
mutual
inductive Own : V → D → List Addr → Prop
  | non : Own .non .non []
  | bl (b : Bool) : Own (.bl b) (.bl b) []
  | int (i : Int) : Own (.int i) (.int i) []
  | str (s : Str) : Own (.str s) (.str s) []
  | tup {a : Addr} {xs : List V} {ds : List D} {fp : List Addr} : Hs a = some (.tup xs) → OwnL xs ds fp → Own (.ref a) (.tup ds) fp
  | lstF {a : Addr} {xs : List V} {ds : List D} : Hs a = some (.lst xs) → OwnL xs ds [] → Own (.ref a) (.lst false ds) []
  | lstO {a : Addr} {xs : List V} {ds : List D} {fp : List Addr} : H a = some (.lst xs) → Hs a = none → OwnL xs ds fp → Own (.ref a) (.lst true ds) (a :: fp)
  | dkF {a : Addr} {kvs : List (Key × V)} {ks ds : List D} : Hs a = some (.dK kvs) → ks = kvs.map (fun p => kyD p.1) → OwnL (kvs.map (·.2)) ds [] → Own (.ref a) (.dic false .k ks ds) []
  | dkO {a : Addr} {kvs : List (Key × V)} {ks ds : List D} {fp : List Addr} : H a = some (.dK kvs) → Hs a = none → ks = kvs.map (fun p => kyD p.1) → OwnL (kvs.map (·.2)) ds fp → Own (.ref a) (.dic true .k ks ds) (a :: fp)
  | dtF {a : Addr} {kvs : List (List Key × V)} {ks ds : List D} : Hs a = some (.dT kvs) → ks = kvs.map (fun p => ktD p.1) → OwnL (kvs.map (·.2)) ds [] → Own (.ref a) (.dic false .t ks ds) []
  | dtO {a : Addr} {kvs : List (List Key × V)} {ks ds : List D} {fp : List Addr} : H a = some (.dT kvs) → Hs a = none → ks = kvs.map (fun p => ktD p.1) → OwnL (kvs.map (·.2)) ds fp → Own (.ref a) (.dic true .t ks ds) (a :: fp)
  | dnF {a : Addr} {xs : List NEnt} {vs : List V} {ks ds : List D} : Hs a = some (dnH mg.w a xs) → KeysN Hs xs ks → Vals vs (xs.map (·.2.2)) → OwnL vs ds [] → Own (.ref a) (.dic false .n ks ds) []
  | dnO {a : Addr} {xs : List NEnt} {vs : List V} {ks ds : List D} {fp : List Addr} : H a = some (dnH mg.w a xs) → Hs a = none → KeysN Hs xs ks → Vals vs (xs.map (·.2.2)) → OwnL vs ds fp → Own (.ref a) (.dic true .n ks ds) (a :: fp)
  | objF {a dx C : Addr} {c : Str} {fvs : List (Str × V)} {fs : List Str} {ds : List D} : mg c = some (.ref C) → Hs a = some (.ins C dx fvs) → fs = fvs.map (·.1) → OwnL (fvs.map (·.2)) ds [] → Own (.ref a) (.obj false c fs ds) []
  | objO {a dx C : Addr} {c : Str} {fvs : List (Str × V)} {fs : List Str} {ds : List D} {fp : List Addr} : mg c = some (.ref C) → H a = some (.ins C dx fvs) → Hs a = none → fs = fvs.map (·.1) → OwnL (fvs.map (·.2)) ds fp → Own (.ref a) (.obj true c fs ds) (a :: fp)
  | scr {a : Addr} {ns : List Int} : SqL K Hs a (ns.map V.int) → Own (.ref a) (.scr ns) []
  | exn {a C : Addr} {d : Option Addr} {c : Str} {fvs : List (Str × V)} {fs : List Str} {ds : List D} {fp : List Addr} : mg c = some (.ref C) → Hs a = some (exH (.ref C) d a) → XdAt Hs d fvs → fs = fvs.map (·.1) → OwnL (fvs.map (·.2)) ds fp → Own (.ref a) (.exn c fs ds) fp
inductive OwnL : List V → List D → List Addr → Prop
  | nil : OwnL [] [] []
  | cons {v : V} {vs : List V} {d : D} {ds : List D} {f1 f2 : List Addr} : Own v d f1 → OwnL vs ds f2 → OwnL (v :: vs) (d :: ds) (f1 ++ f2)
end
/-- to be read as it stands -/
inductive Rt where
  | v (x : V) (d : D)
  | c (a : Addr) (o : HO)
  | h (a : Addr) (od : Obj) (u : HO)
  | t (a : Addr) (xs : List V)
inductive OwnR : List Rt → List Addr → Prop
  | nil : OwnR [] []
  | v {x : V} {d : D} {f1 f2 : List Addr} {rs : List Rt} : Own K mg Hs H x d f1 → OwnR rs f2 → OwnR (.v x d :: rs) (f1 ++ f2)
  | c {a : Addr} {o : HO} {f : List Addr} {rs : List Rt} : H a = some o → Hs a = none → tupish o = false → OwnR rs f → OwnR (.c a o :: rs) (a :: f)
  | h {a : Addr} {od : Obj} {u : HO} {f : List Addr} {rs : List Rt} : H a = some (.frz od u) → Hs a = some u → lockable u = true → OwnR rs f → OwnR (.h a od u :: rs) (a :: f)
  | t {a : Addr} {xs : List V} {f : List Addr} {rs : List Rt} : Hs a = some (.tup xs) → OwnR rs f → OwnR (.t a xs :: rs) f
mutual
inductive Rp : V → D → Prop
  | non : Rp .non .non
  | bl (b : Bool) : Rp (.bl b) (.bl b)
  | int (i : Int) : Rp (.int i) (.int i)
  | str (s : Str) : Rp (.str s) (.str s)
  | tup {a : Addr} {xs : List V} {ds : List D} : H a = some (.tup xs) → RpL xs ds → Rp (.ref a) (.tup ds)
  | lst {a : Addr} {o : Bool} {xs : List V} {ds : List D} : H a = some (.lst xs) → RpL xs ds → Rp (.ref a) (.lst o ds)
  | dk {a : Addr} {o : Bool} {kvs : List (Key × V)} {ks ds : List D} : Rd H a (.dK kvs) → ks = kvs.map (fun p => kyD p.1) → RpL (kvs.map (·.2)) ds → Rp (.ref a) (.dic o .k ks ds)
  | dt {a : Addr} {o : Bool} {kvs : List (List Key × V)} {ks ds : List D} : Rd H a (.dT kvs) → ks = kvs.map (fun p => ktD p.1) → RpL (kvs.map (·.2)) ds → Rp (.ref a) (.dic o .t ks ds)
  | dn {a : Addr} {o : Bool} {xs : List NEnt} {vs : List V} {ks ds : List D} : H a = some (dnH mg.w a xs) → KeysN H xs ks → Vals vs (xs.map (·.2.2)) → RpL vs ds → Rp (.ref a) (.dic o .n ks ds)
  | obj {a dx C : Addr} {o : Bool} {c : Str} {fvs : List (Str × V)} {fs : List Str} {ds : List D} : mg c = some (.ref C) → H a = some (.ins C dx fvs) → fs = fvs.map (·.1) → RpL (fvs.map (·.2)) ds → Rp (.ref a) (.obj o c fs ds)
  | scr {a : Addr} {ns : List Int} : SqL K H a (ns.map V.int) → Rp (.ref a) (.scr ns)
  | exn {a C : Addr} {d : Option Addr} {c : Str} {fvs : List (Str × V)} {fs : List Str} {ds : List D} : mg c = some (.ref C) → H a = some (exH (.ref C) d a) → XdAt H d fvs → fs = fvs.map (·.1) → RpL (fvs.map (·.2)) ds → Rp (.ref a) (.exn c fs ds)
inductive RpL : List V → List D → Prop
  | nil : RpL [] []
  | cons {v : V} {vs : List V} {d : D} {ds : List D} : Rp v d → RpL vs ds → RpL (v :: vs) (d :: ds)
end
end

def SubHp (Hs H : Hp) : Prop := ∀ a o, Hs a = some o → H a = some o ∨ (lockable o = true ∧ ∃ ob, H a = some (.frz ob o))
def Sim (K : PySem.W.Frag) (mg : MG) (H : Hp) (rs : List Rt) : Prop :=
  ∃ (Hs : Hp) (fp : List Addr), SubHp Hs H ∧ OwnR K mg Hs H rs fp ∧ fp.Nodup

section
variable {K : PySem.W.Frag} {mg : MG} {Hs Hs' H H' : Hp}
theorem SqT.lift {a : Addr} {xs : List V} (h : SqT K Hs a xs) (hs : ∀ a o, Hs a = some o → Hs' a = some o) : SqT K Hs' a xs := by
  rcases h with (h | ⟨o, h⟩) | h
  · exact .inl (.inl (hs _ _ h))
  · exact .inl (.inr ⟨o, hs _ _ h⟩)
  · exact .inr h
theorem SqL.lift {a : Addr} {xs : List V} (h : SqL K Hs a xs) (hs : ∀ a o, Hs a = some o → Hs' a = some o) : SqL K Hs' a xs := by
  rcases h with (h | ⟨o, h⟩) | h
  · exact .inl (.inl (hs _ _ h))
  · exact .inl (.inr ⟨o, hs _ _ h⟩)
  · exact .inr h
theorem SubHp.tup (s : SubHp Hs H) {a : Addr} {xs : List V} (h : Hs a = some (.tup xs)) : H a = some (.tup xs) := by
  rcases s _ _ h with h | ⟨z, _⟩
  · exact h
  · cases z
theorem SubHp.lst (s : SubHp Hs H) {a : Addr} {xs : List V} (h : Hs a = some (.lst xs)) : H a = some (.lst xs) := by
  rcases s _ _ h with h | ⟨z, _⟩
  · exact h
  · cases z
theorem SubHp.sqL (s : SubHp Hs H) {a : Addr} {xs : List V} (h : SqL K Hs a xs) : SqL K H a xs := by
  rcases h with (h | ⟨o, h⟩) | h
  · exact .inl (.inl (s.lst h))
  · rcases s _ _ h with h | ⟨z, _⟩
    · exact .inl (.inr ⟨_, h⟩)
    · cases z
  · exact .inr h
theorem SubHp.rdK (s : SubHp Hs H) {a : Addr} {kvs : List (Key × V)} (h : Hs a = some (.dK kvs)) : Rd H a (.dK kvs) := by
  rcases s _ _ h with h | ⟨_, ob, z⟩
  · exact .inl h
  · exact .inr ⟨ob, z⟩
theorem SubHp.rdT (s : SubHp Hs H) {a : Addr} {kvs : List (List Key × V)} (h : Hs a = some (.dT kvs)) : Rd H a (.dT kvs) := by
  rcases s _ _ h with h | ⟨_, ob, z⟩
  · exact .inl h
  · exact .inr ⟨ob, z⟩
theorem SubHp.ins (s : SubHp Hs H) {a C dx : Addr} {fs : List (Str × V)} (h : Hs a = some (.ins C dx fs)) : H a = some (.ins C dx fs) := by
  rcases s _ _ h with h | ⟨z, _⟩
  · exact h
  · cases z
theorem SubHp.none (s : SubHp Hs H) {a : Addr} (h : H a = none) : Hs a = none := by
  cases e : Hs a with
  | none => rfl
  | some o =>
    rcases s _ _ e with z | ⟨_, _, z⟩
    · rw [h] at z; cases z
    · rw [h] at z; cases z

theorem SubHp.dn (s : SubHp Hs H) {a : Addr} {w : World} {b : Addr} {xs : List NEnt} (h : Hs a = some (dnH w b xs)) : H a = some (dnH w b xs) := by
  rcases s _ _ h with h | ⟨z, _⟩
  · exact h
  · cases z
theorem SubHp.exH (s : SubHp Hs H) {a : Addr} {cls : Value} {d : Option Addr} {b : Addr} (h : Hs a = some (exH cls d b)) : H a = some (exH cls d b) := by
  rcases s _ _ h with h | ⟨z, _⟩
  · exact h
  · cases z
theorem SubHp.xd (s : SubHp Hs H) {d : Option Addr} {fvs : List (Str × V)} (h : XdAt Hs d fvs) : XdAt H d fvs := by
  cases d with
  | none => exact h
  | some dd =>
    rcases s _ _ h with h | ⟨z, _⟩
    · exact h
    · cases z
theorem XdAt.lift {d : Option Addr} {fvs : List (Str × V)} (h : XdAt Hs d fvs) (hs : ∀ a o, Hs a = some o → Hs' a = some o) : XdAt Hs' d fvs := by
  cases d with
  | none => exact h
  | some dd => exact hs _ _ h

/-! what owned parts lean on -/
mutual
theorem Own.fpH : ∀ {v : V} {d : D} {fp : List Addr}, Own K mg Hs H v d fp → ∀ a ∈ fp, (∃ o, H a = some o ∧ tupish o = false) ∧ Hs a = none
  | _, _, _, .non, _, h => nomatch h
  | _, _, _, .bl _, _, h => nomatch h
  | _, _, _, .int _, _, h => nomatch h
  | _, _, _, .str _, _, h => nomatch h
  | _, _, _, .tup _ l, a, h => OwnL.fpH l a h
  | _, _, _, .lstF _ _, _, h => nomatch h
  | _, _, _, .lstO e n l, a, h => by
    rcases List.mem_cons.mp h with rfl | h
    · exact ⟨⟨_, e, rfl⟩, n⟩
    · exact OwnL.fpH l a h
  | _, _, _, .dkF _ _ _, _, h => nomatch h
  | _, _, _, .dkO e n _ l, a, h => by
    rcases List.mem_cons.mp h with rfl | h
    · exact ⟨⟨_, e, rfl⟩, n⟩
    · exact OwnL.fpH l a h
  | _, _, _, .dtF _ _ _, _, h => nomatch h
  | _, _, _, .dtO e n _ l, a, h => by
    rcases List.mem_cons.mp h with rfl | h
    · exact ⟨⟨_, e, rfl⟩, n⟩
    · exact OwnL.fpH l a h
  | _, _, _, .objF _ _ _ _, _, h => nomatch h
  | _, _, _, .dnF _ _ _ _, _, h => nomatch h
  | _, _, _, .dnO e n _ _ l, a, h => by
    rcases List.mem_cons.mp h with rfl | h
    · exact ⟨⟨_, e, rfl⟩, n⟩
    · exact OwnL.fpH l a h
  | _, _, _, .objO _ e n _ l, a, h => by
    rcases List.mem_cons.mp h with rfl | h
    · exact ⟨⟨_, e, rfl⟩, n⟩
    · exact OwnL.fpH l a h
  | _, _, _, .scr _, _, h => nomatch h
  | _, _, _, .exn _ _ _ _ l, a, h => OwnL.fpH l a h
theorem OwnL.fpH : ∀ {vs : List V} {ds : List D} {fp : List Addr}, OwnL K mg Hs H vs ds fp → ∀ a ∈ fp, (∃ o, H a = some o ∧ tupish o = false) ∧ Hs a = none
  | _, _, _, .nil, _, h => nomatch h
  | _, _, _, .cons o l, a, h => by
    rcases List.mem_append.mp h with h | h
    · exact Own.fpH o a h
    · exact OwnL.fpH l a h
end
theorem OwnR.fpH {rs : List Rt} {fp : List Addr} (h : OwnR K mg Hs H rs fp) : ∀ a ∈ fp, (∃ o, H a = some o ∧ tupish o = false) ∧ (Hs a = none ∨ ∃ od u, H a = some (.frz od u) ∧ Hs a = some u) := by
  induction h with
  | nil => intro a h; nomatch h
  | v o _ ih => intro a h; exact (List.mem_append.mp h).elim (fun z => ⟨(o.fpH a z).1, .inl (o.fpH a z).2⟩) (ih a)
  | c e n t _ ih =>
    intro a h
    rcases List.mem_cons.mp h with rfl | h
    · exact ⟨⟨_, e, t⟩, .inl n⟩
    · exact ih a h
  | h e n t _ ih =>
    intro a h
    rcases List.mem_cons.mp h with rfl | h
    · exact ⟨⟨_, e, rfl⟩, .inr ⟨_, _, e, n⟩⟩
    · exact ih a h
  | t e _ ih => exact ih

/-! another heap, another stable part -/
mutual
theorem Own.mono (hs : ∀ a o, Hs a = some o → Hs' a = some o) : ∀ {v : V} {d : D} {fp : List Addr}, Own K mg Hs H v d fp → (∀ a ∈ fp, H' a = H a ∧ Hs' a = none) → Own K mg Hs' H' v d fp
  | _, _, _, .non, _ => .non
  | _, _, _, .bl b, _ => .bl b
  | _, _, _, .int i, _ => .int i
  | _, _, _, .str s, _ => .str s
  | _, _, _, .tup e l, k => .tup (hs _ _ e) (OwnL.mono hs l k)
  | _, _, _, .lstF e l, _ => .lstF (hs _ _ e) (OwnL.mono hs l fun _ z => nomatch z)
  | _, _, _, .lstO e n l, k => .lstO ((k _ List.mem_cons_self).1.trans e) (k _ List.mem_cons_self).2 (OwnL.mono hs l fun a z => k a (List.mem_cons_of_mem _ z))
  | _, _, _, .dkF e q l, _ => .dkF (hs _ _ e) q (OwnL.mono hs l fun _ z => nomatch z)
  | _, _, _, .dkO e n q l, k => .dkO ((k _ List.mem_cons_self).1.trans e) (k _ List.mem_cons_self).2 q (OwnL.mono hs l fun a z => k a (List.mem_cons_of_mem _ z))
  | _, _, _, .dtF e q l, _ => .dtF (hs _ _ e) q (OwnL.mono hs l fun _ z => nomatch z)
  | _, _, _, .dtO e n q l, k => .dtO ((k _ List.mem_cons_self).1.trans e) (k _ List.mem_cons_self).2 q (OwnL.mono hs l fun a z => k a (List.mem_cons_of_mem _ z))
  | _, _, _, .objF g e q l, _ => .objF g (hs _ _ e) q (OwnL.mono hs l fun _ z => nomatch z)
  | _, _, _, .dnF e q r l, _ => .dnF (hs _ _ e) (q.lift fun _ _ z => hs _ _ z) r (OwnL.mono hs l fun _ z => nomatch z)
  | _, _, _, .dnO e n q r l, k => .dnO ((k _ List.mem_cons_self).1.trans e) (k _ List.mem_cons_self).2 (q.lift fun _ _ z => hs _ _ z) r (OwnL.mono hs l fun a z => k a (List.mem_cons_of_mem _ z))
  | _, _, _, .objO g e n q l, k => .objO g ((k _ List.mem_cons_self).1.trans e) (k _ List.mem_cons_self).2 q (OwnL.mono hs l fun a z => k a (List.mem_cons_of_mem _ z))
  | _, _, _, .scr e, _ => .scr (SqL.lift e hs)
  | _, _, _, .exn g e x q l, k => .exn g (hs _ _ e) (x.lift hs) q (OwnL.mono hs l k)
theorem OwnL.mono (hs : ∀ a o, Hs a = some o → Hs' a = some o) : ∀ {vs : List V} {ds : List D} {fp : List Addr}, OwnL K mg Hs H vs ds fp → (∀ a ∈ fp, H' a = H a ∧ Hs' a = none) → OwnL K mg Hs' H' vs ds fp
  | _, _, _, .nil, _ => .nil
  | _, _, _, .cons o l, k => .cons (Own.mono hs o fun a z => k a (List.mem_append_left _ z)) (OwnL.mono hs l fun a z => k a (List.mem_append_right _ z))
end
theorem OwnR.mono (hs : ∀ a o, Hs a = some o → Hs' a = some o) {rs : List Rt} {fp : List Addr} (h : OwnR K mg Hs H rs fp) : (∀ a ∈ fp, H' a = H a ∧ (Hs a = none → Hs' a = none)) → OwnR K mg Hs' H' rs fp := by
  induction h with
  | nil => intro _; exact .nil
  | v o _ ih => intro k; exact .v (o.mono hs fun a z => ⟨(k a (List.mem_append_left _ z)).1, (k a (List.mem_append_left _ z)).2 (o.fpH a z).2⟩) (ih fun a z => k a (List.mem_append_right _ z))
  | c e n t _ ih => intro k; exact .c ((k _ List.mem_cons_self).1.trans e) ((k _ List.mem_cons_self).2 n) t (ih fun a z => k a (List.mem_cons_of_mem _ z))
  | h e n t _ ih => intro k; exact .h ((k _ List.mem_cons_self).1.trans e) (hs _ _ n) t (ih fun a z => k a (List.mem_cons_of_mem _ z))
  | t e _ ih => intro k; exact .t (hs _ _ e) (ih k)

/-! frozen for ever -/
mutual
theorem Own.frz (hs : ∀ a o, Hs a = some o → Hs' a = some o) : ∀ {v : V} {d : D} {fp : List Addr}, Own K mg Hs H v d fp → (∀ a ∈ fp, Hs' a = H a) → Own K mg Hs' H' v d.frz []
  | _, _, _, .non, _ => by rw [D.frz]; exact .non
  | _, _, _, .bl b, _ => by rw [D.frz]; exact .bl b
  | _, _, _, .int i, _ => by rw [D.frz]; exact .int i
  | _, _, _, .str s, _ => by rw [D.frz]; exact .str s
  | _, _, _, .tup e l, k => by rw [D.frz]; exact .tup (hs _ _ e) (OwnL.frz hs l k)
  | _, _, _, .lstF e l, _ => by rw [D.frz]; exact .lstF (hs _ _ e) (OwnL.frz hs l fun _ z => nomatch z)
  | _, _, _, .lstO e n l, k => by rw [D.frz]; exact .lstF ((k _ List.mem_cons_self).trans e) (OwnL.frz hs l fun a z => k a (List.mem_cons_of_mem _ z))
  | _, _, _, .dkF e q l, _ => by rw [D.frz]; exact .dkF (hs _ _ e) q (OwnL.frz hs l fun _ z => nomatch z)
  | _, _, _, .dkO e n q l, k => by rw [D.frz]; exact .dkF ((k _ List.mem_cons_self).trans e) q (OwnL.frz hs l fun a z => k a (List.mem_cons_of_mem _ z))
  | _, _, _, .dtF e q l, _ => by rw [D.frz]; exact .dtF (hs _ _ e) q (OwnL.frz hs l fun _ z => nomatch z)
  | _, _, _, .dtO e n q l, k => by rw [D.frz]; exact .dtF ((k _ List.mem_cons_self).trans e) q (OwnL.frz hs l fun a z => k a (List.mem_cons_of_mem _ z))
  | _, _, _, .objF g e q l, _ => by rw [D.frz]; exact .objF g (hs _ _ e) q (OwnL.frz hs l fun _ z => nomatch z)
  | _, _, _, .dnF e q r l, _ => by rw [D.frz]; exact .dnF (hs _ _ e) (q.lift fun _ _ z => hs _ _ z) r (OwnL.frz hs l fun _ z => nomatch z)
  | _, _, _, .dnO e n q r l, k => by rw [D.frz]; exact .dnF ((k _ List.mem_cons_self).trans e) (q.lift fun _ _ z => hs _ _ z) r (OwnL.frz hs l fun a z => k a (List.mem_cons_of_mem _ z))
  | _, _, _, .objO g e n q l, k => by rw [D.frz]; exact .objF g ((k _ List.mem_cons_self).trans e) q (OwnL.frz hs l fun a z => k a (List.mem_cons_of_mem _ z))
  | _, _, _, .scr e, _ => by rw [D.frz]; exact .scr (SqL.lift e hs)
  | _, _, _, .exn g e x q l, k => by rw [D.frz]; exact .exn g (hs _ _ e) (x.lift hs) q (OwnL.frz hs l k)
theorem OwnL.frz (hs : ∀ a o, Hs a = some o → Hs' a = some o) : ∀ {vs : List V} {ds : List D} {fp : List Addr}, OwnL K mg Hs H vs ds fp → (∀ a ∈ fp, Hs' a = H a) → OwnL K mg Hs' H' vs (frzL ds) []
  | _, _, _, .nil, _ => by rw [frzL]; exact .nil
  | _, _, _, .cons o l, k => by
    rw [frzL]
    exact .cons (f1 := []) (f2 := []) (Own.frz hs o fun a z => k a (List.mem_append_left _ z)) (OwnL.frz hs l fun a z => k a (List.mem_append_right _ z))
end
mutual
theorem Own.fp_nil : ∀ {v : V} {d : D} {fp : List Addr}, Own K mg Hs H v d fp → d.stable = true → fp = []
  | _, _, _, .non, _ => rfl
  | _, _, _, .bl b, _ => rfl
  | _, _, _, .int i, _ => rfl
  | _, _, _, .str s, _ => rfl
  | _, _, _, .tup e l, k => OwnL.fp_nil l (by simpa [D.stable] using k)
  | _, _, _, .lstF e l, _ => rfl
  | _, _, _, .lstO e n l, k => by simp [D.stable] at k
  | _, _, _, .dkF e q l, _ => rfl
  | _, _, _, .dkO e n q l, k => by simp [D.stable] at k
  | _, _, _, .dtF e q l, _ => rfl
  | _, _, _, .dtO e n q l, k => by simp [D.stable] at k
  | _, _, _, .objF g e q l, _ => rfl
  | _, _, _, .dnF e q r l, _ => rfl
  | _, _, _, .dnO e n q r l, k => by simp [D.stable] at k
  | _, _, _, .objO g e n q l, k => by simp [D.stable] at k
  | _, _, _, .scr e, _ => rfl
  | _, _, _, .exn _ _ _ _ l, k => OwnL.fp_nil l (by simpa [D.stable] using k)
theorem OwnL.fp_nil : ∀ {vs : List V} {ds : List D} {fp : List Addr}, OwnL K mg Hs H vs ds fp → stableL ds = true → fp = []
  | _, _, _, .nil, _ => rfl
  | _, _, _, .cons o l, k => by
    simp only [stableL, Bool.and_eq_true] at k
    rw [Own.fp_nil o k.1, OwnL.fp_nil l k.2]
    rfl
end
/-! to be read -/
mutual
theorem Own.rp (s : SubHp Hs H) : ∀ {v : V} {d : D} {fp : List Addr}, Own K mg Hs H v d fp → Rp K mg H v d
  | _, _, _, .non => .non
  | _, _, _, .bl b => .bl b
  | _, _, _, .int i => .int i
  | _, _, _, .str x => .str x
  | _, _, _, .tup e l => .tup (s.tup e) (OwnL.rp s l)
  | _, _, _, .lstF e l => .lst (s.lst e) (OwnL.rp s l)
  | _, _, _, .lstO e n l => .lst e (OwnL.rp s l)
  | _, _, _, .dkF e q l => .dk (s.rdK e) q (OwnL.rp s l)
  | _, _, _, .dkO e n q l => .dk (.inl e) q (OwnL.rp s l)
  | _, _, _, .dtF e q l => .dt (s.rdT e) q (OwnL.rp s l)
  | _, _, _, .dtO e n q l => .dt (.inl e) q (OwnL.rp s l)
  | _, _, _, .objF g e q l => .obj g (s.ins e) q (OwnL.rp s l)
  | _, _, _, .dnF e q r l => .dn (s.dn e) (q.lift fun _ _ z => s.tup z) r (OwnL.rp s l)
  | _, _, _, .dnO e n q r l => .dn e (q.lift fun _ _ z => s.tup z) r (OwnL.rp s l)
  | _, _, _, .objO g e n q l => .obj g e q (OwnL.rp s l)
  | _, _, _, .scr e => .scr (s.sqL e)
  | _, _, _, .exn g e x q l => .exn g (s.exH e) (s.xd x) q (OwnL.rp s l)
theorem OwnL.rp (s : SubHp Hs H) : ∀ {vs : List V} {ds : List D} {fp : List Addr}, OwnL K mg Hs H vs ds fp → RpL K mg H vs ds
  | _, _, _, .nil => .nil
  | _, _, _, .cons o l => .cons (Own.rp s o) (OwnL.rp s l)
end
theorem Same.rd {a : Addr} {u : HO} (e : Same H H') (h : Rd H a u) : Rd H' a u := by
  rcases h with h | ⟨o, h⟩
  · exact .inl (e _ _ h)
  · exact .inr ⟨o, e _ _ h⟩
mutual
theorem Rp.grow (e : Same H H') : ∀ {v : V} {d : D}, Rp K mg H v d → Rp K mg H' v d
  | _, _, .non => .non
  | _, _, .bl b => .bl b
  | _, _, .int i => .int i
  | _, _, .str x => .str x
  | _, _, .tup z l => .tup (e _ _ z) (RpL.grow e l)
  | _, _, .lst z l => .lst (e _ _ z) (RpL.grow e l)
  | _, _, .dk z q l => .dk (Same.rd e z) q (RpL.grow e l)
  | _, _, .dt z q l => .dt (Same.rd e z) q (RpL.grow e l)
  | _, _, .obj g z q l => .obj g (e _ _ z) q (RpL.grow e l)
  | _, _, .dn z q r l => .dn (e _ _ z) (q.lift fun _ _ z => e _ _ z) r (RpL.grow e l)
  | _, _, .scr z => .scr (SqL.lift z e)
  | _, _, .exn g z x q l => .exn g (e _ _ z) (x.lift e) q (RpL.grow e l)
theorem RpL.grow (e : Same H H') : ∀ {vs : List V} {ds : List D}, RpL K mg H vs ds → RpL K mg H' vs ds
  | _, _, .nil => .nil
  | _, _, .cons o l => .cons (Rp.grow e o) (RpL.grow e l)
end
theorem OwnL.length : ∀ {vs : List V} {ds : List D} {fp : List Addr}, OwnL K mg Hs H vs ds fp → vs.length = ds.length
  | _, _, _, .nil => rfl
  | _, _, _, .cons _ l => by rw [List.length_cons, List.length_cons, OwnL.length l]
theorem RpL.length : ∀ {vs : List V} {ds : List D}, RpL K mg H vs ds → vs.length = ds.length
  | _, _, .nil => rfl
  | _, _, .cons _ l => by rw [List.length_cons, List.length_cons, RpL.length l]
theorem RpL.get : ∀ {vs : List V} {ds : List D} {i : Nat} {v : V} {d : D}, RpL K mg H vs ds → vs[i]? = some v → ds[i]? = some d → Rp K mg H v d
  | _, _, _, _, _, .nil, h, _ => by simp at h
  | _, _, 0, _, _, .cons o l, h, h' => by simp at h h'; subst h h'; exact o
  | _, _, i + 1, _, _, .cons o l, h, h' => RpL.get (i := i) l (by simpa using h) (by simpa using h')

/-! ### roots -/
def vals (xs : List V) (ds : List D) : List Rt := List.zipWith Rt.v xs ds
theorem OwnR.perm {rs rs' : List Rt} (p : rs.Perm rs') : ∀ {fp : List Addr}, OwnR K mg Hs H rs fp → ∃ fp', OwnR K mg Hs H rs' fp' ∧ fp.Perm fp' := by
  induction p with
  | nil => intro fp h; exact ⟨fp, h, .refl _⟩
  | cons x _ ih =>
    intro fp h
    cases h with
    | v o l =>
      obtain ⟨f, h1, h2⟩ := ih l
      exact ⟨_, .v o h1, h2.append_left _⟩
    | c e n t l =>
      obtain ⟨f, h1, h2⟩ := ih l
      exact ⟨_, .c e n t h1, h2.cons _⟩
    | h e n t l =>
      obtain ⟨f, h1, h2⟩ := ih l
      exact ⟨_, .h e n t h1, h2.cons _⟩
    | t e l =>
      obtain ⟨f, h1, h2⟩ := ih l
      exact ⟨_, .t e h1, h2⟩
  | swap x y l =>
    intro fp h
    cases h with
    | v o l =>
      cases l with
      | v o2 l => exact ⟨_, .v o2 (.v o l), by rw [← List.append_assoc, ← List.append_assoc]; exact (List.perm_append_comm).append_right _⟩
      | c e n t l => exact ⟨_, .c e n t (.v o l), List.perm_middle⟩
      | h e n t l => exact ⟨_, .h e n t (.v o l), List.perm_middle⟩
      | t e l => exact ⟨_, .t e (.v o l), .refl _⟩
    | c e n t l =>
      cases l with
      | v o2 l => exact ⟨_, .v o2 (.c e n t l), List.perm_middle.symm⟩
      | c e2 n2 t2 l => exact ⟨_, .c e2 n2 t2 (.c e n t l), .swap _ _ _⟩
      | h e2 n2 t2 l => exact ⟨_, .h e2 n2 t2 (.c e n t l), .swap _ _ _⟩
      | t e2 l => exact ⟨_, .t e2 (.c e n t l), .refl _⟩
    | h e n t l =>
      cases l with
      | v o2 l => exact ⟨_, .v o2 (.h e n t l), List.perm_middle.symm⟩
      | c e2 n2 t2 l => exact ⟨_, .c e2 n2 t2 (.h e n t l), .swap _ _ _⟩
      | h e2 n2 t2 l => exact ⟨_, .h e2 n2 t2 (.h e n t l), .swap _ _ _⟩
      | t e2 l => exact ⟨_, .t e2 (.h e n t l), .refl _⟩
    | t e l =>
      cases l with
      | v o2 l => exact ⟨_, .v o2 (.t e l), .refl _⟩
      | c e2 n2 t2 l => exact ⟨_, .c e2 n2 t2 (.t e l), .refl _⟩
      | h e2 n2 t2 l => exact ⟨_, .h e2 n2 t2 (.t e l), .refl _⟩
      | t e2 l => exact ⟨_, .t e2 (.t e l), .refl _⟩
  | trans _ _ ih1 ih2 =>
    intro fp h
    obtain ⟨f1, a, b⟩ := ih1 h
    obtain ⟨f2, c, d⟩ := ih2 a
    exact ⟨f2, c, b.trans d⟩
theorem Sim.perm {rs rs' : List Rt} (h : Sim K mg H rs) (p : rs.Perm rs') : Sim K mg H rs' := by
  obtain ⟨Hs, fp, s, o, n⟩ := h
  obtain ⟨fp', o', q⟩ := o.perm p
  exact ⟨Hs, fp', s, o', q.nodup_iff.mp n⟩
theorem Sim.tail {r : Rt} {rs : List Rt} (h : Sim K mg H (r :: rs)) : Sim K mg H rs := by
  obtain ⟨Hs, fp, s, o, n⟩ := h
  cases o with
  | v o l => exact ⟨Hs, _, s, l, (List.nodup_append.mp n).2.1⟩
  | c e z t l => exact ⟨Hs, _, s, l, (List.nodup_cons.mp n).2⟩
  | h e z t l => exact ⟨Hs, _, s, l, (List.nodup_cons.mp n).2⟩
  | t e l => exact ⟨Hs, _, s, l, n⟩
theorem Sim.drop {xs rs : List Rt} (h : Sim K mg H (xs ++ rs)) : Sim K mg H rs := by
  induction xs with
  | nil => exact h
  | cons x xs ih => exact ih h.tail
theorem Sim.nil : Sim K mg H [] := ⟨fun _ => Option.none, [], (fun _ _ z => by cases z), OwnR.nil, List.nodup_nil⟩
/-- only new objects -/
theorem Sim.grow {rs : List Rt} (h : Sim K mg H rs) (e : Same H H') : Sim K mg H' rs := by
  obtain ⟨Hs, fp, s, o, n⟩ := h
  refine ⟨Hs, fp, fun a u z => ?_, o.mono (fun _ _ z => z) fun a ha => ?_, n⟩
  · rcases s a u z with z | ⟨l, ob, z⟩
    · exact .inl (e _ _ z)
    · exact .inr ⟨l, ob, e _ _ z⟩
  · obtain ⟨⟨u, hu, _⟩, _⟩ := o.fpH a ha
    exact ⟨(e _ _ hu).trans hu.symm, fun z => z⟩
theorem Sim.rp {x : V} {d : D} {rs : List Rt} (h : Sim K mg H (.v x d :: rs)) : Rp K mg H x d := by
  obtain ⟨Hs, fp, s, o, n⟩ := h
  cases o with
  | v o l => exact o.rp s
theorem Sim.cell {a : Addr} {o : HO} {rs : List Rt} (h : Sim K mg H (.c a o :: rs)) : H a = some o := by
  obtain ⟨Hs, fp, s, q, n⟩ := h
  cases q with
  | c e z t l => exact e
theorem Sim.dup {x : V} {d : D} {rs : List Rt} (h : Sim K mg H (.v x d :: rs)) (hd : d.stable = true) : Sim K mg H (.v x d :: .v x d :: rs) := by
  obtain ⟨Hs, fp, s, o, n⟩ := h
  cases o with
  | v o l =>
    have e := o.fp_nil hd
    subst e
    exact ⟨Hs, _, s, .v o (.v o l), n⟩
theorem Sim.frz {x : V} {d : D} {rs : List Rt} (h : Sim K mg H (.v x d :: rs)) : Sim K mg H (.v x d.frz :: rs) := by
  obtain ⟨Hs, fp, s, o, n⟩ := h
  cases o with
  | @v _ _ f1 f2 _ o l =>
    have hn := List.nodup_append.mp n
    have hs : ∀ a u, Hs a = some u → (fun a => if a ∈ f1 then H a else Hs a) a = some u := fun a u z => by
      show (if a ∈ f1 then H a else Hs a) = some u
      by_cases hm : a ∈ f1
      · rw [(o.fpH a hm).2] at z; cases z
      · rw [if_neg hm]; exact z
    refine ⟨fun a => if a ∈ f1 then H a else Hs a, f2, fun a u z => ?_, .v (f1 := []) (o.frz hs fun a ha => if_pos ha) (l.mono hs fun a ha => ⟨rfl, fun hz => ?_⟩), hn.2.1⟩
    · by_cases hm : a ∈ f1
      · exact .inl ((if_pos hm).symm.trans z)
      · exact s a u ((if_neg hm).symm.trans z)
    · have hm : a ∉ f1 := fun hm => hn.2.2 a hm a ha rfl
      exact (if_neg hm).trans hz
/-- a raw cell written -/
theorem Sim.write {a : Addr} {o o' : HO} {rs : List Rt} (h : Sim K mg H (.c a o :: rs)) (ht : tupish o' = false := by rfl) : Sim K mg (upd H a o') (.c a o' :: rs) := by
  obtain ⟨Hs, fp, s, q, n⟩ := h
  cases q with
  | c e z t l =>
    have hn := List.nodup_cons.mp n
    refine ⟨Hs, _, fun b u hb => ?_, .c upd_same z ht (l.mono (fun _ _ z => z) fun b hb => ⟨upd_ne fun q => hn.1 (q ▸ hb), fun z => z⟩), n⟩
    have hne : b ≠ a := fun q => by rw [q, z] at hb; cases hb
    rw [upd_ne hne]
    exact s b u hb
/-- a new cell -/
theorem Sim.alloc {a : Addr} {o : HO} {rs : List Rt} (h : Sim K mg H rs) (hn : H a = none) (ht : tupish o = false := by rfl) : Sim K mg (upd H a o) (.c a o :: rs) := by
  obtain ⟨Hs, fp, s, q, n⟩ := h
  have ne : ∀ b ∈ fp, b ≠ a := fun b hb e => by
    obtain ⟨⟨u, hu, _⟩, _⟩ := q.fpH b hb
    rw [e, hn] at hu; cases hu
  refine ⟨Hs, a :: fp, fun b u hb => ?_, .c upd_same (s.none hn) ht (q.mono (fun _ _ z => z) fun b hb => ⟨upd_ne (ne b hb), fun z => z⟩), List.nodup_cons.mpr ⟨fun hm => ne a hm rfl, n⟩⟩
  have hne : b ≠ a := fun e => by rw [e, s.none hn] at hb; cases hb
  rw [upd_ne hne]
  exact s b u hb
/-- a cell that is never written again -/
theorem Sim.keep {a : Addr} {o : HO} {rs : List Rt} (h : Sim K mg H (.c a o :: rs)) : Sim K mg H rs := h.tail

theorem ownR_vals : ∀ {xs : List V} {ds : List D} {rs : List Rt} {fp : List Addr}, xs.length = ds.length → OwnR K mg Hs H (vals xs ds ++ rs) fp → ∃ f1 f2, fp = f1 ++ f2 ∧ OwnL K mg Hs H xs ds f1 ∧ OwnR K mg Hs H rs f2
  | [], [], rs, fp, _, h => ⟨[], fp, rfl, .nil, h⟩
  | x :: xs, d :: ds, rs, fp, hl, h => by
    cases h with
    | v o l =>
      obtain ⟨f1, f2, e, a, b⟩ := ownR_vals (xs := xs) (ds := ds) (by simpa using hl) l
      subst e
      exact ⟨_, f2, (List.append_assoc _ _ _).symm, .cons o a, b⟩
  | [], _ :: _, _, _, hl, _ => by cases hl
  | _ :: _, [], _, _, hl, _ => by cases hl
theorem vals_ownR : ∀ {xs : List V} {ds : List D} {rs : List Rt} {f1 f2 : List Addr}, OwnL K mg Hs H xs ds f1 → OwnR K mg Hs H rs f2 → OwnR K mg Hs H (vals xs ds ++ rs) (f1 ++ f2)
  | _, _, _, _, _, .nil, h => h
  | _, _, _, _, _, .cons o l, h => by
    rw [List.append_assoc]
    exact .v o (vals_ownR l h)

/-- an owned list taken apart, put together -/
theorem Sim.unL {x : V} {ds : List D} {rs : List Rt} (h : Sim K mg H (.v x (.lst true ds) :: rs)) : ∃ a xs, x = .ref a ∧ xs.length = ds.length ∧ Sim K mg H (.c a (.lst xs) :: vals xs ds ++ rs) := by
  obtain ⟨Hs, fp, s, q, n⟩ := h
  cases q with
  | v o l =>
    cases o with
    | lstO e z ol => exact ⟨_, _, rfl, ol.length, Hs, _, s, .c e z rfl (vals_ownR ol l), n⟩
theorem Sim.foL {a : Addr} {xs : List V} {ds : List D} {rs : List Rt} (h : Sim K mg H (.c a (.lst xs) :: vals xs ds ++ rs)) (hl : xs.length = ds.length) : Sim K mg H (.v (.ref a) (.lst true ds) :: rs) := by
  obtain ⟨Hs, fp, s, q, n⟩ := h
  cases q with
  | c e z t l =>
    obtain ⟨f1, f2, e2, a1, b1⟩ := ownR_vals hl l
    subst e2
    exact ⟨Hs, _, s, .v (.lstO e z a1) b1, n⟩
/-- a list of any sort, a tuple, read apart -/
theorem Sim.unT {x : V} {ds : List D} {rs : List Rt} (h : Sim K mg H (.v x (.tup ds) :: rs)) : ∃ a xs, x = .ref a ∧ xs.length = ds.length ∧ H a = some (.tup xs) ∧ Sim K mg H (vals xs ds ++ rs) := by
  obtain ⟨Hs, fp, s, q, n⟩ := h
  cases q with
  | v o l =>
    cases o with
    | tup e ol => exact ⟨_, _, rfl, ol.length, s.tup e, Hs, _, s, vals_ownR ol l, n⟩
theorem Sim.unT' {x : V} {ds : List D} {rs : List Rt} (h : Sim K mg H (.v x (.tup ds) :: rs)) : ∃ a xs, x = .ref a ∧ xs.length = ds.length ∧ H a = some (.tup xs) ∧ Sim K mg H (.t a xs :: (vals xs ds ++ rs)) := by
  obtain ⟨Hs, fp, s, q, n⟩ := h
  cases q with
  | v o l =>
    cases o with
    | tup e ol => exact ⟨_, _, rfl, ol.length, s.tup e, Hs, _, s, .t e (vals_ownR ol l), n⟩
theorem Sim.foT {a : Addr} {xs : List V} {ds : List D} {rs : List Rt} (h : Sim K mg H (.t a xs :: (vals xs ds ++ rs))) (hl : xs.length = ds.length) : Sim K mg H (.v (.ref a) (.tup ds) :: rs) := by
  obtain ⟨Hs, fp, s, q, n⟩ := h
  cases q with
  | t e l =>
    obtain ⟨f1, f2, e2, a1, b1⟩ := ownR_vals hl l
    subst e2
    exact ⟨Hs, _, s, .v (.tup e a1) b1, n⟩
theorem Sim.unF {x : V} {ds : List D} {rs : List Rt} (h : Sim K mg H (.v x (.lst false ds) :: rs)) : ∃ a xs, x = .ref a ∧ xs.length = ds.length ∧ H a = some (.lst xs) ∧ Sim K mg H (vals xs ds ++ rs) := by
  obtain ⟨Hs, fp, s, q, n⟩ := h
  cases q with
  | v o l =>
    cases o with
    | lstF e ol => exact ⟨_, _, rfl, ol.length, s.lst e, Hs, _, s, vals_ownR ol l, n⟩
/-- a new tuple -/
theorem Sim.newT {a : Addr} {xs : List V} {ds : List D} {rs : List Rt} (h : Sim K mg H (vals xs ds ++ rs)) (hl : xs.length = ds.length) (hn : H a = none) : Sim K mg (upd H a (.tup xs)) (.v (.ref a) (.tup ds) :: rs) := by
  obtain ⟨Hs, fp, s, q, n⟩ := h
  obtain ⟨f1, f2, e2, a1, b1⟩ := ownR_vals hl q
  subst e2
  have hs : ∀ b u, Hs b = some u → upd Hs a (.tup xs) b = some u := fun b u hb => by
    have hne : b ≠ a := fun e => by rw [e, s.none hn] at hb; cases hb
    rw [upd_ne hne]; exact hb
  have nw : ∀ b, (∃ o, H b = some o ∧ tupish o = false) → upd H a (.tup xs) b = H b ∧ (Hs b = none → upd Hs a (.tup xs) b = none) := fun b ⟨u, hu, _⟩ => by
    have hne : b ≠ a := fun e => by rw [e, hn] at hu; cases hu
    exact ⟨upd_ne hne, fun hb => by rw [upd_ne hne]; exact hb⟩
  refine ⟨upd Hs a (.tup xs), f1 ++ f2, fun b u hb => ?_, .v (.tup upd_same (a1.mono hs fun b hb => ⟨(nw b (a1.fpH b hb).1).1, (nw b (a1.fpH b hb).1).2 (a1.fpH b hb).2⟩)) (b1.mono hs fun b hb => nw b (b1.fpH b hb).1), n⟩
  by_cases hne : b = a
  · subst hne
    rw [upd_same] at hb ⊢
    exact .inl hb
  · rw [upd_ne hne] at hb ⊢
    exact s b u hb
theorem Sim.unDk {x : V} {ks ds : List D} {rs : List Rt} (h : Sim K mg H (.v x (.dic true .k ks ds) :: rs)) : ∃ a kvs, x = .ref a ∧ ks = kvs.map (fun p => kyD p.1) ∧ kvs.length = ds.length ∧ Sim K mg H (.c a (.dK kvs) :: vals (kvs.map (·.2)) ds ++ rs) := by
  obtain ⟨Hs, fp, s, q, n⟩ := h
  cases q with
  | v o l =>
    cases o with
    | dkO e z q ol => exact ⟨_, _, rfl, q, by simpa using ol.length, Hs, _, s, .c e z rfl (vals_ownR ol l), n⟩
theorem Sim.foDk {a : Addr} {kvs : List (Key × V)} {ks ds : List D} {rs : List Rt} (h : Sim K mg H (.c a (.dK kvs) :: vals (kvs.map (·.2)) ds ++ rs)) (hk : ks = kvs.map (fun p => kyD p.1)) (hl : kvs.length = ds.length) : Sim K mg H (.v (.ref a) (.dic true .k ks ds) :: rs) := by
  obtain ⟨Hs, fp, s, q, n⟩ := h
  cases q with
  | c e z t l =>
    obtain ⟨f1, f2, e2, a1, b1⟩ := ownR_vals (by simpa using hl) l
    subst e2
    exact ⟨Hs, _, s, .v (.dkO e z hk a1) b1, n⟩
theorem Sim.unDt {x : V} {ks ds : List D} {rs : List Rt} (h : Sim K mg H (.v x (.dic true .t ks ds) :: rs)) : ∃ a kvs, x = .ref a ∧ ks = kvs.map (fun p => ktD p.1) ∧ kvs.length = ds.length ∧ Sim K mg H (.c a (.dT kvs) :: vals (kvs.map (·.2)) ds ++ rs) := by
  obtain ⟨Hs, fp, s, q, n⟩ := h
  cases q with
  | v o l =>
    cases o with
    | dtO e z q ol => exact ⟨_, _, rfl, q, by simpa using ol.length, Hs, _, s, .c e z rfl (vals_ownR ol l), n⟩
theorem Sim.foDt {a : Addr} {kvs : List (List Key × V)} {ks ds : List D} {rs : List Rt} (h : Sim K mg H (.c a (.dT kvs) :: vals (kvs.map (·.2)) ds ++ rs)) (hk : ks = kvs.map (fun p => ktD p.1)) (hl : kvs.length = ds.length) : Sim K mg H (.v (.ref a) (.dic true .t ks ds) :: rs) := by
  obtain ⟨Hs, fp, s, q, n⟩ := h
  cases q with
  | c e z t l =>
    obtain ⟨f1, f2, e2, a1, b1⟩ := ownR_vals (by simpa using hl) l
    subst e2
    exact ⟨Hs, _, s, .v (.dtO e z hk a1) b1, n⟩
theorem Sim.unO {x : V} {c : Str} {fs : List Str} {ds : List D} {rs : List Rt} (h : Sim K mg H (.v x (.obj true c fs ds) :: rs)) : ∃ a dx C fvs, x = .ref a ∧ mg c = some (.ref C) ∧ fs = fvs.map (·.1) ∧ fvs.length = ds.length ∧ Sim K mg H (.c a (.ins C dx fvs) :: vals (fvs.map (·.2)) ds ++ rs) := by
  obtain ⟨Hs, fp, s, q, n⟩ := h
  cases q with
  | v o l =>
    cases o with
    | objO g e z q ol => exact ⟨_, _, _, _, rfl, g, q, by simpa using ol.length, Hs, _, s, .c e z rfl (vals_ownR ol l), n⟩
theorem Sim.foO {a dx C : Addr} {c : Str} {fvs : List (Str × V)} {fs : List Str} {ds : List D} {rs : List Rt} (h : Sim K mg H (.c a (.ins C dx fvs) :: vals (fvs.map (·.2)) ds ++ rs)) (hc : mg c = some (.ref C)) (hk : fs = fvs.map (·.1)) (hl : fvs.length = ds.length) : Sim K mg H (.v (.ref a) (.obj true c fs ds) :: rs) := by
  obtain ⟨Hs, fp, s, q, n⟩ := h
  cases q with
  | c e z t l =>
    obtain ⟨f1, f2, e2, a1, b1⟩ := ownR_vals (by simpa using hl) l
    subst e2
    exact ⟨Hs, _, s, .v (.objO hc e z hk a1) b1, n⟩

/-! ### immutable data that can be read are roots -/
def tupHp (Hs H : Hp) : Hp := fun a => match Hs a with
  | some o => some o
  | none => match H a with
    | some o => if tupish o = true then some o else none
    | none => none
theorem tupHp_le {a : Addr} {o : HO} (h : Hs a = some o) : tupHp Hs H a = some o := by unfold tupHp; rw [h]
theorem tupHp_tup (s : SubHp Hs H) {a : Addr} {xs : List V} (e : H a = some (.tup xs)) : tupHp Hs H a = some (.tup xs) := by
  unfold tupHp
  cases q : Hs a with
  | none => simp only [e]; rfl
  | some u =>
    rcases s a u q with z | ⟨l, ob, z⟩
    · rw [e] at z; cases z; rfl
    · rw [e] at z; cases z
theorem tupHp_xd (s : SubHp Hs H) {d : Option Addr} {fvs : List (Str × V)} (e : XdAt H d fvs) : XdAt (tupHp Hs H) d fvs := by
  cases d with
  | none => exact e
  | some a =>
    have e' : H a = some (.xd fvs) := e
    show tupHp Hs H a = some (.xd fvs)
    unfold tupHp
    cases q : Hs a with
    | none => simp only [e']; rfl
    | some u =>
      rcases s a u q with z | ⟨l, ob, z⟩
      · rw [e'] at z; cases z; rfl
      · rw [e'] at z; cases z
mutual
theorem Rp.own (s : SubHp Hs H) : ∀ {v : V} {d : D}, Rp K mg H v d → d.imm = true → Own K mg (tupHp Hs H) H v d []
  | _, _, .non, _ => .non
  | _, _, .bl b, _ => .bl b
  | _, _, .int i, _ => .int i
  | _, _, .str x, _ => .str x
  | _, _, .tup z l, h => .tup (tupHp_tup s z) (RpL.own s l (by simpa [D.imm] using h))
  | _, _, .lst _ _, h => by simp [D.imm] at h
  | _, _, .dk _ _ _, h => by simp [D.imm] at h
  | _, _, .dt _ _ _, h => by simp [D.imm] at h
  | _, _, .obj _ _ _ _, h => by simp [D.imm] at h
  | _, _, .scr _, h => by simp [D.imm] at h
  | _, _, .exn _ _ _ _ _, h => by simp [D.imm] at h
  | _, _, .dn _ _ _ _, h => by simp [D.imm] at h
theorem RpL.own (s : SubHp Hs H) : ∀ {vs : List V} {ds : List D}, RpL K mg H vs ds → immL ds = true → OwnL K mg (tupHp Hs H) H vs ds []
  | _, _, .nil, _ => .nil
  | _, _, .cons o l, h => by
    simp only [immL, Bool.and_eq_true] at h
    exact OwnL.cons (f1 := []) (f2 := []) (Rp.own s o h.1) (RpL.own s l h.2)
end
theorem Sim.imms {vs : List V} {ds : List D} {rs : List Rt} (h : Sim K mg H rs) (r : RpL K mg H vs ds) (hi : immL ds = true) : Sim K mg H (vals vs ds ++ rs) := by
  obtain ⟨Hs, fp, s, o, n⟩ := h
  refine ⟨tupHp Hs H, [] ++ fp, fun a u e => ?_, vals_ownR (r.own s hi) (o.mono (fun _ _ => tupHp_le) fun a ha => ⟨rfl, fun hn => ?_⟩), n⟩
  · unfold tupHp at e
    split at e
    · rename_i u' e'
      cases e
      exact s a _ e'
    · split at e
      · rename_i u' e'
        split at e
        · cases e; exact .inl e'
        · cases e
      · cases e
  · obtain ⟨⟨u, hu, t⟩, _⟩ := o.fpH a ha
    unfold tupHp
    rw [hn]
    simp only [hu]
    rw [t]
    rfl
theorem Sim.imm {v : V} {d : D} {rs : List Rt} (h : Sim K mg H rs) (r : Rp K mg H v d) (hi : d.imm = true) : Sim K mg H (.v v d :: rs) :=
  h.imms (.cons r .nil) (by simp only [immL, hi, Bool.and_self])
theorem Sim.unDn {x : V} {ks ds : List D} {rs : List Rt} (h : Sim K mg H (.v x (.dic true .n ks ds) :: rs)) : ∃ a xs vs, x = .ref a ∧ vs.length = ds.length ∧ Vals vs (xs.map (fun (x : NEnt) => x.2.2)) ∧ KeysN H xs ks ∧ Sim K mg H (.c a (dnH mg.w a xs) :: vals vs ds ++ rs) := by
  obtain ⟨Hs, fp, s, q, n⟩ := h
  cases q with
  | v o l =>
    cases o with
    | dnO e z q r ol => exact ⟨_, _, _, rfl, ol.length, r, q.lift fun _ _ z => s.tup z, Hs, _, s, .c e z rfl (vals_ownR ol l), n⟩
theorem Sim.foDn {a : Addr} {xs : List NEnt} {vs : List V} {ks ds : List D} {rs : List Rt} (h : Sim K mg H (.c a (dnH mg.w a xs) :: vals vs ds ++ rs)) (hk : KeysN H xs ks) (hv : Vals vs (xs.map (fun (x : NEnt) => x.2.2))) (hl : vs.length = ds.length) : Sim K mg H (.v (.ref a) (.dic true .n ks ds) :: rs) := by
  obtain ⟨Hs, fp, s, q, n⟩ := h
  have hle : ∀ b u, Hs b = some u → tupHp Hs H b = some u := fun _ _ => tupHp_le
  have s' : SubHp (tupHp Hs H) H := fun b u e => by
    unfold tupHp at e
    split at e
    · rename_i u' e'; cases e; exact s b _ e'
    · split at e
      · rename_i u' e'
        split at e
        · cases e; exact .inl e'
        · cases e
      · cases e
  have q' := q.mono (H' := H) hle fun b hb => ⟨rfl, fun hn => by
    obtain ⟨⟨u, hu, t⟩, _⟩ := q.fpH b hb
    unfold tupHp
    rw [hn]
    simp only [hu]
    rw [t]
    rfl⟩
  cases q' with
  | c e z t l =>
    obtain ⟨f1, f2, e2, a1, b1⟩ := ownR_vals hl l
    subst e2
    exact ⟨tupHp Hs H, _, s', .v (.dnO e z (hk.lift fun _ _ z => tupHp_tup s z) hv a1) b1, n⟩
/-- a caught exception is a root -/
theorem Sim.newX {a C : Addr} {d : Option Addr} {c : Str} {fvs : List (Str × V)} {fs : List Str} {ds : List D} {rs : List Rt} (h : Sim K mg H rs) (hn : H a = none) (hC : mg c = some (.ref C)) (hd : XdAt H d fvs) (hf : fs = fvs.map (·.1)) (r : RpL K mg H (fvs.map (·.2)) ds) (hi : immL ds = true) : Sim K mg (upd H a (exH (.ref C) d a)) (.v (.ref a) (.exn c fs ds) :: rs) := by
  obtain ⟨Hs, fp, s, o, n⟩ := h
  have nea : ∀ {b : Addr} {u : HO}, H b = some u → b ≠ a := fun e z => by rw [z, hn] at e; cases e
  have hsa : Hs a = none := s.none hn
  have up : ∀ {b : Addr} {u : HO}, H b = some u → upd H a (exH (.ref C) d a) b = some u := fun {b u} e => by rw [upd_ne (nea e)]; exact e
  have tl := r.own s hi
  have sub : SubHp (tupHp Hs H) H := fun b u e => by
    unfold tupHp at e
    split at e
    · rename_i u' e'; cases e; exact s b _ e'
    · split at e
      · rename_i u' e'
        split at e
        · cases e; exact .inl e'
        · cases e
      · cases e
  have hta : tupHp Hs H a = none := sub.none hn
  have le2 : ∀ b u, tupHp Hs H b = some u → upd (tupHp Hs H) a (exH (.ref C) d a) b = some u := fun b u e => by rw [upd_ne (fun z => by rw [z, hta] at e; cases e)]; exact e
  refine ⟨upd (tupHp Hs H) a (exH (.ref C) d a), [] ++ fp, fun b u e => ?_, .v (f1 := []) (.exn hC upd_same ((tupHp_xd s hd).lift le2) hf ((OwnL.mono le2 tl fun _ z => nomatch z))) (o.mono (fun b u e => le2 b u (tupHp_le e)) fun b hb => ⟨?_, fun hz => ?_⟩), n⟩
  · by_cases hb : b = a
    · subst hb
      rw [upd_same] at e ⊢
      exact .inl e
    · rw [upd_ne hb] at e
      rcases sub b u e with z | ⟨l, ob, z⟩
      · exact .inl (up z)
      · exact .inr ⟨l, ob, up z⟩
  · obtain ⟨⟨u, hu, t⟩, _⟩ := o.fpH b hb
    rw [upd_ne (nea hu)]
  · obtain ⟨⟨u, hu, t⟩, _⟩ := o.fpH b hb
    rw [upd_ne (nea hu)]
    unfold tupHp
    rw [hz]
    simp only [hu]
    rw [t]
    rfl
/-! ### parts of data -/
inductive Sub (H : Hp) : V → D → V → D → Prop
  | refl (v : V) (d : D) : Sub H v d v d
  | tup {a : Addr} {xs : List V} {ds : List D} {i : Nat} {x : V} {e : D} {v : V} {d : D} : H a = some (.tup xs) → xs[i]? = some x → ds[i]? = some e → Sub H x e v d → Sub H (.ref a) (.tup ds) v d
  | lst {a : Addr} {xs : List V} {o : Bool} {ds : List D} {i : Nat} {x : V} {e : D} {v : V} {d : D} : H a = some (.lst xs) → xs[i]? = some x → ds[i]? = some e → Sub H x e v d → Sub H (.ref a) (.lst o ds) v d
  | dk {a : Addr} {kvs : List (Key × V)} {o : Bool} {ks ds : List D} {i : Nat} {x : V} {e : D} {v : V} {d : D} : Rd H a (.dK kvs) → (kvs.map (·.2))[i]? = some x → ds[i]? = some e → Sub H x e v d → Sub H (.ref a) (.dic o .k ks ds) v d
  | dt {a : Addr} {kvs : List (List Key × V)} {o : Bool} {ks ds : List D} {i : Nat} {x : V} {e : D} {v : V} {d : D} : Rd H a (.dT kvs) → (kvs.map (·.2))[i]? = some x → ds[i]? = some e → Sub H x e v d → Sub H (.ref a) (.dic o .t ks ds) v d
  | obj {a dx C : Addr} {fvs : List (Str × V)} {o : Bool} {c : Str} {fs : List Str} {ds : List D} {i : Nat} {x : V} {e : D} {v : V} {d : D} : H a = some (.ins C dx fvs) → (fvs.map (·.2))[i]? = some x → ds[i]? = some e → Sub H x e v d → Sub H (.ref a) (.obj o c fs ds) v d
theorem Sub.trans {v : V} {d : D} {v1 : V} {d1 : D} {v2 : V} {d2 : D} (a : Sub H v d v1 d1) (b : Sub H v1 d1 v2 d2) : Sub H v d v2 d2 := by
  induction a with
  | refl => exact b
  | tup h1 h2 h3 _ ih => exact .tup h1 h2 h3 (ih b)
  | lst h1 h2 h3 _ ih => exact .lst h1 h2 h3 (ih b)
  | dk h1 h2 h3 _ ih => exact .dk h1 h2 h3 (ih b)
  | dt h1 h2 h3 _ ih => exact .dt h1 h2 h3 (ih b)
  | obj h1 h2 h3 _ ih => exact .obj h1 h2 h3 (ih b)
theorem Sub.grow {v : V} {d : D} {v1 : V} {d1 : D} (a : Sub H v d v1 d1) (e : Same H H') : Sub H' v d v1 d1 := by
  induction a with
  | refl => exact .refl _ _
  | tup h1 h2 h3 _ ih => exact .tup (e _ _ h1) h2 h3 ih
  | lst h1 h2 h3 _ ih => exact .lst (e _ _ h1) h2 h3 ih
  | dk h1 h2 h3 _ ih => exact .dk (Same.rd e h1) h2 h3 ih
  | dt h1 h2 h3 _ ih => exact .dt (Same.rd e h1) h2 h3 ih
  | obj h1 h2 h3 _ ih => exact .obj (e _ _ h1) h2 h3 ih
theorem OwnL.get : ∀ {vs : List V} {ds : List D} {fp : List Addr} {i : Nat} {v : V} {d : D}, OwnL K mg Hs H vs ds fp → vs[i]? = some v → ds[i]? = some d → ∃ f, Own K mg Hs H v d f
  | _, _, _, _, _, _, .nil, h, _ => by simp at h
  | _, _, _, 0, _, _, .cons o l, h, h' => by simp at h h'; subst h h'; exact ⟨_, o⟩
  | _, _, _, i + 1, _, _, .cons o l, h, h' => OwnL.get (i := i) l (by simpa using h) (by simpa using h')
theorem Rd.uk {a : Addr} {x y : List (Key × V)} (h : Rd H a (.dK x)) (h' : Rd H a (.dK y)) : x = y := by
  rcases h with h | ⟨o, h⟩ <;> rcases h' with h' | ⟨o', h'⟩ <;> rw [h] at h' <;> cases h' <;> rfl
theorem Rd.ut {a : Addr} {x y : List (List Key × V)} (h : Rd H a (.dT x)) (h' : Rd H a (.dT y)) : x = y := by
  rcases h with h | ⟨o, h⟩ <;> rcases h' with h' | ⟨o', h'⟩ <;> rw [h] at h' <;> cases h' <;> rfl
theorem Own.sub (s : SubHp Hs H) {v : V} {d : D} {v1 : V} {d1 : D} (q : Sub H v d v1 d1) : ∀ {fp : List Addr}, Own K mg Hs H v d fp → ∃ f, Own K mg Hs H v1 d1 f := by
  induction q with
  | refl => intro fp o; exact ⟨_, o⟩
  | tup h1 h2 h3 _ ih =>
    intro fp o
    cases o with
    | tup e l =>
      have e' := s.tup e
      rw [h1] at e'; cases e'
      obtain ⟨f, o'⟩ := l.get h2 h3
      exact ih o'
  | lst h1 h2 h3 _ ih =>
    intro fp o
    cases o with
    | lstF e l =>
      have e' := s.lst e
      rw [h1] at e'; cases e'
      obtain ⟨f, o'⟩ := l.get h2 h3
      exact ih o'
    | lstO e n l =>
      rw [h1] at e; cases e
      obtain ⟨f, o'⟩ := l.get h2 h3
      exact ih o'
  | dk h1 h2 h3 _ ih =>
    intro fp o
    cases o with
    | dkF e _ l =>
      cases Rd.uk h1 (s.rdK e)
      obtain ⟨f, o'⟩ := l.get h2 h3
      exact ih o'
    | dkO e n _ l =>
      cases Rd.uk h1 (.inl e)
      obtain ⟨f, o'⟩ := l.get h2 h3
      exact ih o'
  | dt h1 h2 h3 _ ih =>
    intro fp o
    cases o with
    | dtF e _ l =>
      cases Rd.ut h1 (s.rdT e)
      obtain ⟨f, o'⟩ := l.get h2 h3
      exact ih o'
    | dtO e n _ l =>
      cases Rd.ut h1 (.inl e)
      obtain ⟨f, o'⟩ := l.get h2 h3
      exact ih o'
  | obj h1 h2 h3 _ ih =>
    intro fp o
    cases o with
    | objF _ e _ l =>
      have e' := s.ins e
      rw [h1] at e'; cases e'
      obtain ⟨f, o'⟩ := l.get h2 h3
      exact ih o'
    | objO _ e _ _ l =>
      rw [h1] at e; cases e
      obtain ⟨f, o'⟩ := l.get h2 h3
      exact ih o'
theorem Rp.sub {v : V} {d : D} {v1 : V} {d1 : D} (q : Sub H v d v1 d1) : Rp K mg H v d → Rp K mg H v1 d1 := by
  induction q with
  | refl => intro o; exact o
  | tup h1 h2 h3 _ ih =>
    intro o
    cases o with
    | tup e l => rw [h1] at e; cases e; exact ih (l.get h2 h3)
  | lst h1 h2 h3 _ ih =>
    intro o
    cases o with
    | lst e l => rw [h1] at e; cases e; exact ih (l.get h2 h3)
  | dk h1 h2 h3 _ ih =>
    intro o
    cases o with
    | dk e _ l => cases Rd.uk h1 e; exact ih (l.get h2 h3)
  | dt h1 h2 h3 _ ih =>
    intro o
    cases o with
    | dt e _ l => cases Rd.ut h1 e; exact ih (l.get h2 h3)
  | obj h1 h2 h3 _ ih =>
    intro o
    cases o with
    | obj _ e _ l => rw [h1] at e; cases e; exact ih (l.get h2 h3)
/-- a stable part of a root is a root -/
theorem Sim.sub {v : V} {d : D} {v1 : V} {d1 : D} {rs : List Rt} (h : Sim K mg H (.v v d :: rs)) (q : Sub H v d v1 d1) (hs : d1.stable = true) : Sim K mg H (.v v1 d1 :: .v v d :: rs) := by
  obtain ⟨Hs, fp, s, o, n⟩ := h
  cases o with
  | v o l =>
    obtain ⟨f, o'⟩ := o.sub s q
    have e := o'.fp_nil hs
    subst e
    exact ⟨Hs, _, s, .v (f1 := []) o' (.v o l), n⟩
/-- an owned dict, read-only from here: its cell locked -/
theorem Sim.lockW {d : Addr} {u : HO} {Hs : Hp} {fp : List Addr} {rs : List Rt} {od : Obj} (s : SubHp Hs H) (hu : Hs d = some u) (hd : d ∉ fp) (hl : lockable u = true) (o : OwnR K mg Hs H rs fp) (n : fp.Nodup) : Sim K mg (upd H d (.frz od u)) (.h d od u :: rs) := by
  refine ⟨Hs, d :: fp, fun a w hw => ?_, .h upd_same hu hl (o.mono (fun _ _ z => z) fun a ha => ⟨upd_ne fun e => hd (e ▸ ha), fun z => z⟩), List.nodup_cons.mpr ⟨hd, n⟩⟩
  by_cases e : a = d
  · subst e
    rw [hu] at hw; cases hw
    exact .inr ⟨hl, od, upd_same⟩
  · rw [upd_ne e]; exact s a w hw
theorem Sim.lockK {x : V} {ks ds : List D} {rs : List Rt} (h : Sim K mg H (.v x (.dic true .k ks ds) :: rs)) : ∃ a kvs, x = .ref a ∧ ks = kvs.map (fun p => kyD p.1) ∧ H a = some (.dK kvs) ∧ ∀ od, Sim K mg (upd H a (.frz od (.dK kvs))) (.h a od (.dK kvs) :: .v x (.dic false .k ks (frzL ds)) :: rs) := by
  obtain ⟨Hs, fp, s, q, n⟩ := h
  cases q with
  | @v _ _ f1 f2 _ o l =>
    cases o with
    | @dkO a kvs _ _ f e z hk ol =>
      refine ⟨a, kvs, rfl, hk, e, fun od => ?_⟩
      have o : Own K mg Hs H (.ref a) (.dic true .k ks ds) (a :: f) := .dkO e z hk ol
      have hn := List.nodup_append.mp n
      have hs : ∀ b u, Hs b = some u → (fun b => if b ∈ a :: f then H b else Hs b) b = some u := fun b u z => by
        show (if b ∈ a :: f then H b else Hs b) = some u
        by_cases hm : b ∈ a :: f
        · rw [(o.fpH b hm).2] at z; cases z
        · rw [if_neg hm]; exact z
      have o2 := o.frz (H' := H) hs fun b hb => if_pos hb
      rw [D.frz] at o2
      refine Sim.lockW (Hs := fun b => if b ∈ a :: f then H b else Hs b) (fp := f2) (fun b u z => ?_) ((if_pos List.mem_cons_self).trans e) (fun hm => hn.2.2 a List.mem_cons_self a hm rfl) rfl (.v (f1 := []) o2 (l.mono hs fun b hb => ⟨rfl, fun hz => ?_⟩)) hn.2.1
      · by_cases hm : b ∈ a :: f
        · exact .inl ((if_pos hm).symm.trans z)
        · exact s b u ((if_neg hm).symm.trans z)
      · have hm : b ∉ a :: f := fun hm => hn.2.2 b hm b hb rfl
        exact (if_neg hm).trans hz
theorem Sim.lockT {x : V} {ks ds : List D} {rs : List Rt} (h : Sim K mg H (.v x (.dic true .t ks ds) :: rs)) : ∃ a kvs, x = .ref a ∧ ks = kvs.map (fun p => ktD p.1) ∧ H a = some (.dT kvs) ∧ ∀ od, Sim K mg (upd H a (.frz od (.dT kvs))) (.h a od (.dT kvs) :: .v x (.dic false .t ks (frzL ds)) :: rs) := by
  obtain ⟨Hs, fp, s, q, n⟩ := h
  cases q with
  | @v _ _ f1 f2 _ o l =>
    cases o with
    | @dtO a kvs _ _ f e z hk ol =>
      refine ⟨a, kvs, rfl, hk, e, fun od => ?_⟩
      have o : Own K mg Hs H (.ref a) (.dic true .t ks ds) (a :: f) := .dtO e z hk ol
      have hn := List.nodup_append.mp n
      have hs : ∀ b u, Hs b = some u → (fun b => if b ∈ a :: f then H b else Hs b) b = some u := fun b u z => by
        show (if b ∈ a :: f then H b else Hs b) = some u
        by_cases hm : b ∈ a :: f
        · rw [(o.fpH b hm).2] at z; cases z
        · rw [if_neg hm]; exact z
      have o2 := o.frz (H' := H) hs fun b hb => if_pos hb
      rw [D.frz] at o2
      refine Sim.lockW (Hs := fun b => if b ∈ a :: f then H b else Hs b) (fp := f2) (fun b u z => ?_) ((if_pos List.mem_cons_self).trans e) (fun hm => hn.2.2 a List.mem_cons_self a hm rfl) rfl (.v (f1 := []) o2 (l.mono hs fun b hb => ⟨rfl, fun hz => ?_⟩)) hn.2.1
      · by_cases hm : b ∈ a :: f
        · exact .inl ((if_pos hm).symm.trans z)
        · exact s b u ((if_neg hm).symm.trans z)
      · have hm : b ∉ a :: f := fun hm => hn.2.2 b hm b hb rfl
        exact (if_neg hm).trans hz
theorem Sim.unlock {d : Addr} {od : Obj} {u : HO} {rs : List Rt} (h : Sim K mg H (.h d od u :: rs)) : H d = some (.frz od u) ∧ Sim K mg (upd H d u) rs := by
  obtain ⟨Hs, fp, s, q, n⟩ := h
  cases q with
  | h e z t l =>
    have hn := List.nodup_cons.mp n
    refine ⟨e, Hs, _, fun a w hw => ?_, l.mono (fun _ _ z => z) fun b hb => ⟨upd_ne fun q => hn.1 (q ▸ hb), fun z => z⟩, hn.2⟩
    by_cases q : a = d
    · subst q
      rw [z] at hw; cases hw
      exact .inl upd_same
    · rw [upd_ne q]; exact s a w hw
end
end Dl

set_option Elab.async false
set_option linter.all false
set_option maxRecDepth 100000
set_option maxHeartbeats 1000000
/-! DL2: slots, states, judgements over data; statements; calls of defs. -/
namespace Dl
open PySem PySem.Spec PyProof.Rows L2

/-- the values of a frame's slots as data -/
abbrev DEnv := List (Option D)
def slotR : L2.St → DEnv → List Rt
  | some v :: σ, some d :: ρ => .v v d :: slotR σ ρ
  | _ :: σ, _ :: ρ => slotR σ ρ
  | _, _ => []
theorem slotR_none : ∀ (σ : L2.St) (x : Option V) (ρ : DEnv), slotR (x :: σ) (none :: ρ) = slotR σ ρ := fun σ x ρ => by cases x <;> simp [slotR]
theorem slotR_out : ∀ {σ : L2.St} {ρ : DEnv} {i : Nat} {v : V} {d : D}, σ[i]? = some (some v) → ρ[i]? = some (some d) → (slotR σ ρ).Perm (.v v d :: slotR σ (ρ.set i none))
  | [], _, _, _, _, h, _ => by simp at h
  | _ :: _, [], _, _, _, _, h => by simp at h
  | x :: σ, y :: ρ, 0, v, d, h, h' => by
    simp at h h'; subst h h'
    simp [slotR]
  | x :: σ, y :: ρ, i + 1, v, d, h, h' => by
    have ih := slotR_out (σ := σ) (ρ := ρ) (i := i) (by simpa using h) (by simpa using h')
    rw [List.set_cons_succ]
    cases x with
    | none => simpa [slotR] using ih
    | some x =>
      cases y with
      | none => simpa [slotR] using ih
      | some y =>
        simp only [slotR]
        exact (ih.cons _).trans (.swap _ _ _)
theorem slotR_in : ∀ {σ : L2.St} {ρ : DEnv} {i : Nat} {v : V} {d : D}, i < σ.length → i < ρ.length → (slotR (σ.set i (some v)) (ρ.set i (some d))).Perm (.v v d :: slotR σ (ρ.set i none))
  | [], _, _, _, _, h, _ => by simp at h
  | _ :: _, [], _, _, _, _, h => by simp at h
  | x :: σ, y :: ρ, 0, v, d, h, h' => by
    simp [slotR]
  | x :: σ, y :: ρ, i + 1, v, d, h, h' => by
    have ih := slotR_in (σ := σ) (ρ := ρ) (i := i) (v := v) (d := d) (by simpa using h) (by simpa using h')
    rw [List.set_cons_succ, List.set_cons_succ, List.set_cons_succ]
    cases x with
    | none => simpa [slotR] using ih
    | some x =>
      cases y with
      | none => simpa [slotR] using ih
      | some y =>
        simp only [slotR]
        exact (ih.cons _).trans (.swap _ _ _)
theorem set_get {α : Type} : ∀ {l : List α} {i : Nat} {x : α}, l[i]? = some x → l.set i x = l
  | [], _, _, h => by simp at h
  | a :: l, 0, x, h => by simp at h; simp [h]
  | a :: l, i + 1, x, h => by simp at h; simp [set_get h]
theorem slotR_same {σ : L2.St} {ρ : DEnv} {i : Nat} {v : V} {d : D} (h : σ[i]? = some (some v)) (hl : i < ρ.length) : (slotR σ (ρ.set i (some d))).Perm (.v v d :: slotR σ (ρ.set i none)) := by
  have q := slotR_in (σ := σ) (ρ := ρ) (i := i) (v := v) (d := d) (List.getElem?_eq_some_iff.mp h).1 hl
  rw [set_get h] at q
  exact q
theorem slotR_forget : ∀ (σ : L2.St) (ρ : DEnv) (i : Nat), ∃ xs, (slotR σ ρ).Perm (xs ++ slotR σ (ρ.set i none))
  | [], ρ, i => ⟨[], by cases ρ <;> cases i <;> simp [slotR]⟩
  | _ :: _, [], i => ⟨[], by simp [slotR]⟩
  | x :: σ, y :: ρ, 0 => by
    cases x with
    | none => exact ⟨[], by simp [slotR]⟩
    | some x =>
      cases y with
      | none => exact ⟨[], by simp [slotR]⟩
      | some y => exact ⟨[.v x y], by simp [slotR]⟩
  | x :: σ, y :: ρ, i + 1 => by
    obtain ⟨xs, h⟩ := slotR_forget σ ρ i
    rw [List.set_cons_succ]
    cases x with
    | none => exact ⟨xs, by simpa [slotR] using h⟩
    | some x =>
      cases y with
      | none => exact ⟨xs, by simpa [slotR] using h⟩
      | some y =>
        refine ⟨xs, ?_⟩
        simp only [slotR]
        exact (h.cons _).trans List.perm_middle.symm

/-- the frame at hand: the written part, the module's names, the parameters that are never stored to, the number of slots -/
structure Fm where
  K : PySem.W.Frag
  mg : MG
  vs0 : List V
  n : Nat
  W : WX
/-- nothing is let out -/
def noW : WX := fun _ _ _ _ => False
abbrev fmW (X : Cx) (vs0 : List V) (W : WX) : Fm := ⟨X.K, ⟨X.mg, X.w⟩, vs0, X.N.length, W⟩
abbrev fm (X : Cx) (vs0 : List V) : Fm := fmW X vs0 noW
abbrev fmk (K : PySem.W.Frag) (mg : MG) (vs0 : List V) (n : Nat) : Fm := ⟨K, mg, vs0, n, noW⟩
structure At' (K : PySem.W.Frag) (mg : MG) (vs0 : List V) (n : Nat) (σ : L2.St) (H : Hp) (ρ : DEnv) (ts : List Rt) : Prop where
  lenS : σ.length = n
  lenR : ρ.length = n
  fit : ∀ (i : Nat) (d : D), ρ[i]? = some (some d) → ∃ v, σ[i]? = some (some v)
  par : ∀ (i : Nat) (v : V), vs0[i]? = some v → σ[i]? = some (some v)
  sim : Sim K mg H (slotR σ ρ ++ ts)
abbrev At (F : Fm) (σ : L2.St) (H : Hp) (ρ : DEnv) (ts : List Rt) : Prop := At' F.K F.mg F.vs0 F.n σ H ρ ts
/-- an exception in the air, as data: class, dict -/
def Xin (K : PySem.W.Frag) (mg : MG) (H : Hp) (cls : Value) (d : Option Addr) : D → Prop
  | .exn c fs ds => immL ds = true ∧ ∃ (C : Addr) (fvs : List (Str × V)), mg c = some (.ref C) ∧ cls = .ref C ∧ XdAt H d fvs ∧ fs = fvs.map (·.1) ∧ RpL K mg H (fvs.map (·.2)) ds
  | _ => False
def Mk (K : PySem.W.Frag) (mg : MG) (H H' : Hp) (z : V) (d : D) : Prop := ∀ rs, Sim K mg H rs → Sim K mg H' (.v z d :: rs)

section
variable {F : Fm} {σ : L2.St} {H H' : Hp} {ρ ρ' : DEnv} {ts ts' : List Rt}
theorem At.grow (a : At F σ H ρ ts) (e : Same H H') : At F σ H' ρ ts := ⟨a.lenS, a.lenR, a.fit, a.par, a.sim.grow e⟩
theorem At.temps (a : At F σ H ρ ts) (s : Sim F.K F.mg H' (slotR σ ρ ++ ts')) : At F σ H' ρ ts' := ⟨a.lenS, a.lenR, a.fit, a.par, s⟩
theorem At.perm (a : At F σ H ρ ts) (p : ts.Perm ts') : At F σ H ρ ts' := a.temps (a.sim.perm (p.append_left _))
/-- the temps in front -/
theorem At.front (a : At F σ H ρ ts) : Sim F.K F.mg H (ts ++ slotR σ ρ) := a.sim.perm List.perm_append_comm
theorem At.of_front (a : At F σ H ρ ts) (s : Sim F.K F.mg H' (ts' ++ slotR σ ρ)) : At F σ H' ρ ts' := a.temps (s.perm List.perm_append_comm)
theorem At.tail {r : Rt} (a : At F σ H ρ (r :: ts)) : At F σ H ρ ts := a.of_front (by have := a.front; exact this.tail)
theorem At.mk' {z : V} {d : D} (a : At F σ H ρ ts) (m : Mk F.K F.mg H H' z d) : At F σ H' ρ (.v z d :: ts) := a.of_front (m _ a.front)
theorem At.slot {i : Nat} {d : D} (a : At F σ H ρ ts) (h : ρ[i]? = some (some d)) : ∃ v, σ[i]? = some (some v) ∧ Sim F.K F.mg H (.v v d :: (slotR σ (ρ.set i none) ++ ts)) := by
  obtain ⟨v, e⟩ := a.fit i d h
  exact ⟨v, e, a.sim.perm ((slotR_out e h).append_right _)⟩
theorem At.away {i : Nat} (a : At F σ H ρ ts) (s : Sim F.K F.mg H' (slotR σ (ρ.set i none) ++ ts')) : At F σ H' (ρ.set i none) ts' := by
  refine ⟨a.lenS, by rw [List.length_set]; exact a.lenR, fun j d h => ?_, a.par, s⟩
  by_cases e : i = j
  · subst e
    by_cases hl : i < ρ.length
    · rw [List.getElem?_set_self hl] at h; cases h
    · rw [List.getElem?_eq_none (by simpa using hl)] at h; cases h
  · rw [List.getElem?_set_ne e] at h
    exact a.fit j d h
/-- the slot's value another one -/
theorem At.back {i : Nat} {v : V} {d : D} (a : At F σ H ρ ts) (e : σ[i]? = some (some v)) (s : Sim F.K F.mg H' (.v v d :: (slotR σ (ρ.set i none) ++ ts'))) : At F σ H' (ρ.set i (some d)) ts' := by
  have hl : i < ρ.length := by rw [a.lenR, ← a.lenS]; exact (List.getElem?_eq_some_iff.mp e).1
  refine ⟨a.lenS, by rw [List.length_set]; exact a.lenR, fun j d' h => ?_, a.par, s.perm ((slotR_same e hl).symm.append_right _)⟩
  by_cases q : i = j
  · subst q; exact ⟨v, e⟩
  · rw [List.getElem?_set_ne q] at h
    exact a.fit j d' h
/-- a slot stored -/
theorem At.store {i : Nat} {v : V} {d : D} (a : At F σ H ρ (.v v d :: ts)) (hp : F.vs0.length ≤ i) (hi : i < F.n) : At F (σ.set i (some v)) H (ρ.set i (some d)) ts := by
  have h1 : i < σ.length := by rw [a.lenS]; exact hi
  have h2 : i < ρ.length := by rw [a.lenR]; exact hi
  refine ⟨by rw [List.length_set]; exact a.lenS, by rw [List.length_set]; exact a.lenR, fun j d' h => ?_, fun j w h => ?_, ?_⟩
  · by_cases q : i = j
    · subst q; exact ⟨v, List.getElem?_set_self h1⟩
    · rw [List.getElem?_set_ne q] at h ⊢
      exact a.fit j d' h
  · have q : i ≠ j := fun q => by
      subst q
      have := (List.getElem?_eq_some_iff.mp h).1
      omega
    rw [List.getElem?_set_ne q]
    exact a.par j w h
  · obtain ⟨xs, p⟩ := slotR_forget σ ρ i
    have s1 : Sim F.K F.mg H (xs ++ (.v v d :: (slotR σ (ρ.set i Option.none) ++ ts))) := a.sim.perm ((p.append_right _).trans (by
      rw [List.append_assoc]
      exact (List.perm_middle).append_left _))
    exact s1.drop.perm ((slotR_in h1 h2).symm.append_right _)
end

/-! ### the mirrors' types -/
abbrev EM := DEnv → Option (D × DEnv)
abbrev PM := DEnv → Option D
abbrev BM := DEnv → Option (Bool × DEnv)
inductive Fl where
  | nx | bk | ct | rt (d : D) | xc (x : D)
abbrev SM := DEnv → Option (Fl × DEnv)
abbrev GM := D → DEnv → Option DEnv
abbrev FnM := List D → Option (D × List D)

def tD (F : Fm) (f : EM) : TE := fun σ H Q => ∃ ρ ts d ρ', At F σ H ρ ts ∧ f ρ = some (d, ρ') ∧ ∀ v H', At F σ H' ρ' (.v v d :: ts) → Q v H'
/-- stable parts of a value can be had as roots, now and later -/
def Cj (F : Fm) (σ : L2.St) (ρ : DEnv) (ts : List Rt) (H : Hp) (v : V) (d : D) : Prop := ∀ H2, Same H H2 → ∀ v1 d1, Sub H2 v d v1 d1 → d1.stable = true → At F σ H2 ρ (.v v1 d1 :: ts)
theorem Cj.of {F : Fm} {σ : L2.St} {ρ : DEnv} {ts : List Rt} {H : Hp} {v : V} {d : D} (a : At F σ H ρ (.v v d :: ts)) : Cj F σ ρ ts H v d := fun H2 g v1 d1 q hs => by
  have s2 : Sim F.K F.mg H2 (.v v d :: (ts ++ slotR σ ρ)) := (a.grow g).front
  have s3 := (s2.sub q hs).perm (.swap _ _ _)
  exact a.of_front s3.tail
theorem Cj.now {F : Fm} {σ : L2.St} {ρ : DEnv} {ts : List Rt} {H : Hp} {v : V} {d : D} (c : Cj F σ ρ ts H v d) (hd : d.stable = true) : At F σ H ρ (.v v d :: ts) := c H (Same.refl H) v d (.refl v d) hd
def tP (F : Fm) (f : PM) : TE := fun σ H Q => ∃ ρ ts d, At F σ H ρ ts ∧ f ρ = some d ∧ ∀ v H', Same H H' → Rp F.K F.mg H' v d → Cj F σ ρ ts H' v d → Q v H'
def tT (F : Fm) (f : BM) : TT := fun σ H Q => ∃ ρ ts b ρ', At F σ H ρ ts ∧ f ρ = some (b, ρ') ∧ ∀ H', At F σ H' ρ' ts → Q b H'
def Fin (F : Fm) (ts : List Rt) (D' : Ends) (fl : Fl) (ρ' : DEnv) : Prop := match fl with
  | .nx => ∀ σ' H', At F σ' H' ρ' ts → D'.nx σ' H'
  | .bk => ∀ σ' H', At F σ' H' ρ' ts → D'.bk σ' H'
  | .ct => ∀ σ' H', At F σ' H' ρ' ts → D'.ct σ' H'
  | .rt d => ∀ v σ' H', At F σ' H' ρ' (.v v d :: ts) → D'.rt v H'
  | .xc x => ∀ cls d σ' H', At F σ' H' ρ' ts → Xin F.K F.mg H' cls d x → F.W cls d σ' H'
def tS (F : Fm) (f : SM) : TS := fun D' σ H => ∃ ρ ts fl ρ', At F σ H ρ ts ∧ f ρ = some (fl, ρ') ∧ Fin F ts D' fl ρ'
def tG (F : Fm) (g : GM) : TG := fun v σ H Q => ∃ ρ ts d ρ', At F σ H ρ (.v v d :: ts) ∧ g d ρ = some ρ' ∧ ∀ σ' H', At F σ' H' ρ' ts → Q σ' H'

theorem _root_.L2.PE.imp {X : Cx} {e : Expr} {t t' : TE} (h : PE X e t) (k : ∀ σ H Q, t' σ H Q → t σ H Q) : PE X e t' := ⟨fun pins s σ H Q I q => h.run pins s σ H Q I (k _ _ _ q)⟩
theorem _root_.L2.PT.imp {X : Cx} {e : Expr} {t t' : TT} (h : PT X e t) (k : ∀ σ H Q, t' σ H Q → t σ H Q) : PT X e t' := ⟨fun pins s σ H Q I q => h.run pins s σ H Q I (k _ _ _ q)⟩
theorem _root_.L2.PW.imp {X : Cx} {e : Expr} {t t' : TT} (h : PW X e t) (k : ∀ σ H Q, t' σ H Q → t σ H Q) : PW X e t' := ⟨fun w pins s σ H Q I q => h.run w pins s σ H Q I (k _ _ _ q)⟩
theorem _root_.L2.PS.imp {X : Cx} {e : Stmt} {t t' : TS} (h : PS X e t) (k : ∀ D σ H, t' D σ H → t D σ H) : PS X e t' := ⟨fun pins s σ H Q I q => h.run pins s σ H Q I (k _ _ _ q)⟩
theorem _root_.L2.PSs.imp {X : Cx} {e : List Stmt} {t t' : TS} (h : PSs X e t) (k : ∀ D σ H, t' D σ H → t D σ H) : PSs X e t' := ⟨fun pins s σ H Q I q => h.run pins s σ H Q I (k _ _ _ q)⟩
theorem _root_.L2.PG.imp {X : Cx} {e : Expr} {t t' : TG} (h : PG X e t) (k : ∀ v σ H Q, t' v σ H Q → t v σ H Q) : PG X e t' := ⟨fun pins s σ H v u Q I r q => h.run pins s σ H v u Q I r (k _ _ _ _ q)⟩
theorem _root_.L2.PA.imp {X : Cx} {e : List Expr} {t t' : TA} (h : PA X e t) (k : ∀ σ H Q, t' σ H Q → t σ H Q) : PA X e t' := ⟨fun pos pins s σ H Q I q => h.run pos pins s σ H Q I (k _ _ _ q)⟩
theorem _root_.L2.PI.imp {X : Cx} {tg e : Expr} {t t' : TI} (h : PI X tg e t) (k : ∀ σ H Q, t' σ H Q → t σ H Q) : PI X tg e t' := ⟨fun pins s σ H Q I q => h.run pins s σ H Q I (k _ _ _ q)⟩

/-! ### names, constants -/
def pVar (i : Nat) : PM := fun ρ => ρ.getD i none
def pC (d : D) : PM := fun _ => some d
/-- a stable value of a pure expression as a value of its own -/
def eP (a : PM) : EM := fun ρ => match a ρ with
  | some d => if d.stable = true then some (d, ρ) else none
  | none => none
/-- a name read: its value is frozen -/
def eFr (i : Nat) : EM := fun ρ => match ρ.getD i none with
  | some d => some (d.frz, ρ.set i (some d.frz))
  | none => none
/-- a name read for the last time: its value goes along -/
def eMv (i : Nat) : EM := fun ρ => match ρ.getD i none with
  | some d => some (d, ρ.set i none)
  | none => none
theorem getD_some {ρ : DEnv} {i : Nat} {d : D} (h : ρ.getD i none = some d) : ρ[i]? = some (some d) := by
  rw [List.getD_eq_getElem?_getD] at h
  cases e : ρ[i]? with
  | none => rw [e] at h; simp at h
  | some x => rw [e] at h; simp at h; rw [h]
section
variable {X : Cx} {vs0 : List V} {pos : Pos} {F : Fm}
theorem imp_var {i : Nat} : ∀ σ H Q, tP F (pVar i) σ H Q → tVar i σ H Q := fun σ H Q ⟨ρ, ts, d, a, e, k⟩ => by
  obtain ⟨v, h, s⟩ := a.slot (getD_some e)
  refine ⟨v, h, k v H (Same.refl H) s.rp fun H2 g v1 d1 q hd => ?_⟩
  have s2 := (s.grow g).sub q hd
  refine (a.grow g).temps (s2.perm ?_)
  refine List.Perm.trans ?_ List.perm_middle.symm
  exact ((slotR_out h (getD_some e)).symm.append_right _).cons _
theorem p_var (i : Nat) {x : Str} (hN : X.N[i]? = some x := by rfl) (hv : Vis X.env.scope x := by first | exact Or.inl rfl | exact Or.inr (Or.inl rfl) | exact Or.inr (Or.inr rfl)) (hd : (x == ("__debug__" : Str)) = false := by decide)
    (hcd : (x == ("__classdict__" : Str)) = false := by decide) : PE X (.Name x pos) (tP (fm X vs0) (pVar i)) := (pv i hN hv hd hcd).imp imp_var
theorem imp_fr {i : Nat} : ∀ σ H Q, tD F (eFr i) σ H Q → tVar i σ H Q := fun σ H Q ⟨ρ, ts, d, ρ', a, e, k⟩ => by
  unfold eFr at e
  split at e
  · rename_i d0 e0
    cases e
    obtain ⟨v, h, s⟩ := a.slot (getD_some e0)
    refine ⟨v, h, k v H ?_⟩
    have s2 := s.frz.dup (D.stable_frz d0)
    exact a.back h (s2.perm ((List.perm_middle (l₁ := slotR σ (ρ.set i none))).symm.cons _))
  · cases e
theorem e_fr (i : Nat) {x : Str} (hN : X.N[i]? = some x := by rfl) (hv : Vis X.env.scope x := by first | exact Or.inl rfl | exact Or.inr (Or.inl rfl) | exact Or.inr (Or.inr rfl)) (hd : (x == ("__debug__" : Str)) = false := by decide)
    (hcd : (x == ("__classdict__" : Str)) = false := by decide) : PE X (.Name x pos) (tD (fm X vs0) (eFr i)) := (pv i hN hv hd hcd).imp imp_fr
theorem imp_mv {i : Nat} : ∀ σ H Q, tD F (eMv i) σ H Q → tVar i σ H Q := fun σ H Q ⟨ρ, ts, d, ρ', a, e, k⟩ => by
  unfold eMv at e
  split at e
  · rename_i d0 e0
    cases e
    obtain ⟨v, h, s⟩ := a.slot (getD_some e0)
    refine ⟨v, h, k v H ?_⟩
    exact a.away (s.perm (List.perm_middle (l₁ := slotR σ (ρ.set i none))).symm)
  · cases e
theorem e_mv (i : Nat) {x : Str} (hN : X.N[i]? = some x := by rfl) (hv : Vis X.env.scope x := by first | exact Or.inl rfl | exact Or.inr (Or.inl rfl) | exact Or.inr (Or.inr rfl)) (hd : (x == ("__debug__" : Str)) = false := by decide)
    (hcd : (x == ("__classdict__" : Str)) = false := by decide) : PE X (.Name x pos) (tD (fm X vs0) (eMv i)) := (pv i hN hv hd hcd).imp imp_mv
theorem imp_c {v : V} {d : D} (m : ∀ H, Mk F.K F.mg H H v d) : ∀ σ H Q, tP F (pC d) σ H Q → tC v σ H Q := fun σ H Q ⟨ρ, ts, d', a, e, k⟩ => by
  cases e
  exact k v H (Same.refl H) (Sim.rp (m H [] Sim.nil)) (Cj.of (a.mk' (m H)))
theorem mk_int {K : PySem.W.Frag} {mg : MG} {H : Hp} (i : Int) : Mk K mg H H (.int i) (.int i) := fun rs ⟨Hs, fp, s, o, n⟩ => ⟨Hs, fp, s, .v (f1 := []) (.int i) o, n⟩
theorem mk_str {K : PySem.W.Frag} {mg : MG} {H : Hp} (x : Str) : Mk K mg H H (.str x) (.str x) := fun rs ⟨Hs, fp, s, o, n⟩ => ⟨Hs, fp, s, .v (f1 := []) (.str x) o, n⟩
theorem mk_bl {K : PySem.W.Frag} {mg : MG} {H : Hp} (b : Bool) : Mk K mg H H (.bl b) (.bl b) := fun rs ⟨Hs, fp, s, o, n⟩ => ⟨Hs, fp, s, .v (f1 := []) (.bl b) o, n⟩
theorem mk_non {K : PySem.W.Frag} {mg : MG} {H : Hp} : Mk K mg H H .non .non := fun rs ⟨Hs, fp, s, o, n⟩ => ⟨Hs, fp, s, .v (f1 := []) .non o, n⟩
theorem p_int {i : Int} {j : Nat} : PE X (.Constant (.int i) j pos) (tP (fm X vs0) (pC (.int i))) := pe_int.imp (imp_c fun _ => mk_int i)
theorem p_bl {i : Bool} {j : Nat} : PE X (.Constant (.bool i) j pos) (tP (fm X vs0) (pC (.bl i))) := pe_bl.imp (imp_c fun _ => mk_bl i)
theorem p_str {x : Str} {j : Nat} : PE X (.Constant (.str x) j pos) (tP (fm X vs0) (pC (.str x))) := pe_str.imp (imp_c fun _ => mk_str x)
theorem p_non {j : Nat} : PE X (.Constant .none j pos) (tP (fm X vs0) (pC .non)) := pe_non.imp (imp_c fun _ => mk_non)
/-- a pure expression's stable value -/
theorem imp_eP {f : PM} : ∀ σ H Q, tD F (eP f) σ H Q → tP F f σ H Q := fun σ H Q ⟨ρ, ts, d, ρ', a, e, k⟩ => by
  unfold eP at e
  split at e
  · rename_i d0 e0
    split at e
    · rename_i hs
      cases e
      exact ⟨ρ, ts, d, a, e0, fun v H' g r st => k v H' (st.now hs)⟩
    · cases e
  · cases e
theorem _root_.L2.PE.p {e : Expr} {f : PM} (h : PE X e (tP (fm X vs0) f)) : PE X e (tD (fm X vs0) (eP f)) := h.imp imp_eP

/-! ### operators by values -/
def R2D (K : PySem.W.Frag) (mg : MG) (r : R2) (op : D → D → Option D) : Prop :=
  ∀ (x y : V) (H : Hp) (dx dy d : D) (Q : VK), Rp K mg H x dx → Rp K mg H y dy → op dx dy = some d → (∀ z H', Same H H' → Mk K mg H H' z d → Q z H') → r x y H Q
def R1D (K : PySem.W.Frag) (mg : MG) (r : V → Hp → VK → Prop) (op : D → Option D) : Prop :=
  ∀ (x : V) (H : Hp) (dx d : D) (Q : VK), Rp K mg H x dx → op dx = some d → (∀ z H', Same H H' → Mk K mg H H' z d → Q z H') → r x H Q
def pOp2 (op : D → D → Option D) (a b : PM) : PM := fun ρ => match a ρ, b ρ with
  | some x, some y => op x y
  | _, _ => none
def pOp1 (op : D → Option D) (a : PM) : PM := fun ρ => match a ρ with
  | some x => op x
  | none => none
def eOp2 (op : D → D → Option D) (a b : EM) : EM := fun ρ => match a ρ with
  | some (x, ρ1) => match b ρ1 with
    | some (y, ρ2) => match op x y with
      | some d => some (d, ρ2)
      | none => none
    | none => none
  | none => none
/-- the second one read alone -/
def eOpP (op : D → D → Option D) (a : EM) (b : PM) : EM := fun ρ => match a ρ with
  | some (x, ρ1) => match b ρ1 with
    | some y => match op x y with
      | some d => some (d, ρ1)
      | none => none
    | none => none
  | none => none
/-- both read alone, the value new (perhaps owned) -/
def eOpPP (op : D → D → Option D) (a b : PM) : EM := fun ρ => match pOp2 op a b ρ with
  | some d => some (d, ρ)
  | none => none
def eOp1 (op : D → Option D) (a : EM) : EM := fun ρ => match a ρ with
  | some (x, ρ1) => match op x with
    | some d => some (d, ρ1)
    | none => none
  | none => none
def eOp1P (op : D → Option D) (a : PM) : EM := fun ρ => match a ρ with
  | some x => match op x with
    | some d => some (d, ρ)
    | none => none
  | none => none
/-- a name's list, its index reckoned with changes: the name's value is looked at behind -/
def eOpV (op : D → D → Option D) (i : Nat) (b : EM) : EM := fun ρ => match ρ.getD i none with
  | some _ => match b ρ with
    | some (y, ρ1) => match ρ1.getD i none with
      | some x => match op x y with
        | some d => if d.stable = true then some (d, ρ1) else none
        | none => none
      | none => none
    | none => none
  | none => none
variable {r : R2} {r1 : V → Hp → VK → Prop} {op : D → D → Option D} {op1 : D → Option D} {fa fb : PM} {ea eb : EM}
theorem imp_p2 (hr : R2D F.K F.mg r op) : ∀ σ H Q, tP F (pOp2 op fa fb) σ H Q → tOp r (tP F fa) (tP F fb) σ H Q := fun σ H Q ⟨ρ, ts, d, a, e, k⟩ => by
  unfold pOp2 at e
  split at e
  · rename_i x y ex ey
    refine ⟨ρ, ts, x, a, ex, fun v H1 g1 rx _ => ⟨ρ, ts, y, a.grow g1, ey, fun w H2 g2 ry _ => ?_⟩⟩
    exact hr v w H2 x y d Q (rx.grow g2) ry e fun z H3 g3 m => k z H3 (g1.trans (g2.trans g3)) (Sim.rp (m [] Sim.nil)) (Cj.of (((a.grow g1).grow g2).mk' m))
  · cases e
theorem imp_e2 (hr : R2D F.K F.mg r op) : ∀ σ H Q, tD F (eOp2 op ea eb) σ H Q → tOp r (tD F ea) (tD F eb) σ H Q := fun σ H Q ⟨ρ, ts, d, ρ', a, e, k⟩ => by
  unfold eOp2 at e
  split at e
  · rename_i x ρ1 ex
    split at e
    · rename_i y ρ2 ey
      split at e
      · rename_i d' ed
        cases e
        refine ⟨ρ, ts, x, ρ1, a, ex, fun v H1 a1 => ⟨ρ1, _, y, _, a1, ey, fun w H2 a2 => ?_⟩⟩
        have s2 : Sim F.K F.mg H2 (.v w y :: .v v x :: (ts ++ slotR σ _)) := a2.front
        exact hr v w H2 x y d Q s2.tail.rp s2.rp ed fun z H3 g3 m => k z H3 ((a2.of_front s2.tail.tail).mk' m)
      · cases e
    · cases e
  · cases e
theorem imp_eP2 (hr : R2D F.K F.mg r op) : ∀ σ H Q, tD F (eOpP op ea fb) σ H Q → tOp r (tD F ea) (tP F fb) σ H Q := fun σ H Q ⟨ρ, ts, d, ρ', a, e, k⟩ => by
  unfold eOpP at e
  split at e
  · rename_i x ρ1 ex
    split at e
    · rename_i y ey
      split at e
      · rename_i d' ed
        cases e
        refine ⟨ρ, ts, x, _, a, ex, fun v H1 a1 => ⟨_, _, y, a1, ey, fun w H2 g2 ry _ => ?_⟩⟩
        have s2 : Sim F.K F.mg H2 (.v v x :: (ts ++ slotR σ _)) := (a1.grow g2).front
        exact hr v w H2 x y d Q s2.rp ry ed fun z H3 g3 m => k z H3 (((a1.grow g2).of_front s2.tail).mk' m)
      · cases e
    · cases e
  · cases e
theorem imp_pp (hr : R2D F.K F.mg r op) : ∀ σ H Q, tD F (eOpPP op fa fb) σ H Q → tOp r (tP F fa) (tP F fb) σ H Q := fun σ H Q ⟨ρ, ts, d, ρ', a, e, k⟩ => by
  unfold eOpPP at e
  split at e
  · rename_i d' e'
    cases e
    unfold pOp2 at e'
    split at e'
    · rename_i x y ex ey
      refine ⟨ρ, ts, x, a, ex, fun v H1 g1 rx _ => ⟨ρ, ts, y, a.grow g1, ey, fun w H2 g2 ry _ => ?_⟩⟩
      exact hr v w H2 x y d Q (rx.grow g2) ry e' fun z H3 g3 m => k z H3 (((a.grow g1).grow g2).mk' m)
    · cases e'
  · cases e
theorem imp_p1 (hr : R1D F.K F.mg r1 op1) : ∀ σ H Q, tP F (pOp1 op1 fa) σ H Q → tUn r1 (tP F fa) σ H Q := fun σ H Q ⟨ρ, ts, d, a, e, k⟩ => by
  unfold pOp1 at e
  split at e
  · rename_i x ex
    refine ⟨ρ, ts, x, a, ex, fun v H1 g1 rx _ => ?_⟩
    exact hr v H1 x d Q rx e fun z H3 g3 m => k z H3 (g1.trans g3) (Sim.rp (m [] Sim.nil)) (Cj.of ((a.grow g1).mk' m))
  · cases e
theorem imp_e1 (hr : R1D F.K F.mg r1 op1) : ∀ σ H Q, tD F (eOp1 op1 ea) σ H Q → tUn r1 (tD F ea) σ H Q := fun σ H Q ⟨ρ, ts, d, ρ', a, e, k⟩ => by
  unfold eOp1 at e
  split at e
  · rename_i x ρ1 ex
    split at e
    · rename_i d' ed
      cases e
      refine ⟨ρ, ts, x, _, a, ex, fun v H1 a1 => ?_⟩
      have s2 : Sim F.K F.mg H1 (.v v x :: (ts ++ slotR σ _)) := a1.front
      exact hr v H1 x d Q s2.rp ed fun z H3 g3 m => k z H3 ((a1.of_front s2.tail).mk' m)
    · cases e
  · cases e
theorem imp_e1P (hr : R1D F.K F.mg r1 op1) : ∀ σ H Q, tD F (eOp1P op1 fa) σ H Q → tUn r1 (tP F fa) σ H Q := fun σ H Q ⟨ρ, ts, d, ρ', a, e, k⟩ => by
  unfold eOp1P at e
  split at e
  · rename_i x ex
    split at e
    · rename_i d' ed
      cases e
      refine ⟨ρ, ts, x, a, ex, fun v H1 g1 rx _ => ?_⟩
      exact hr v H1 x d Q rx ed fun z H3 g3 m => k z H3 ((a.grow g1).mk' m)
    · cases e
  · cases e

/-! ### tests -/
def bV (a : EM) : BM := fun ρ => match a ρ with
  | some (.bl b, ρ1) => some (b, ρ1)
  | _ => none
def bP (a : PM) : BM := fun ρ => match a ρ with
  | some (.bl b) => some (b, ρ)
  | _ => none
def bAnd (a b : BM) : BM := fun ρ => match a ρ with
  | some (true, ρ1) => b ρ1
  | some (false, ρ1) => some (false, ρ1)
  | none => none
def bOr (a b : BM) : BM := fun ρ => match a ρ with
  | some (true, ρ1) => some (true, ρ1)
  | some (false, ρ1) => b ρ1
  | none => none
def bNot (a : BM) : BM := fun ρ => match a ρ with
  | some (b, ρ1) => some (!b, ρ1)
  | none => none
variable {b1 b2 : BM}
theorem Rp.bl_inv {K : PySem.W.Frag} {mg : MG} {H : Hp} {v : V} {b : Bool} (h : Rp K mg H v (.bl b)) : v = .bl b := by cases h; rfl
theorem imp_bV : ∀ σ H Q, tT F (bV ea) σ H Q → tB (tD F ea) σ H Q := fun σ H Q ⟨ρ, ts, b, ρ', a, e, k⟩ => by
  unfold bV at e
  split at e
  · rename_i b0 ρ1 ex
    cases e
    refine ⟨ρ, ts, _, _, a, ex, fun v H1 a1 => ?_⟩
    have s2 : Sim F.K F.mg H1 (.v v (.bl b) :: (ts ++ slotR σ _)) := a1.front
    exact ⟨b, s2.rp.bl_inv, k H1 (a1.of_front s2.tail)⟩
  · cases e
theorem imp_bP : ∀ σ H Q, tT F (bP fa) σ H Q → tB (tP F fa) σ H Q := fun σ H Q ⟨ρ, ts, b, ρ', a, e, k⟩ => by
  unfold bP at e
  split at e
  · rename_i b0 ex
    cases e
    exact ⟨ρ, ts, _, a, ex, fun v H1 g rv _ => ⟨b, rv.bl_inv, k H1 (a.grow g)⟩⟩
  · cases e
theorem imp_bAnd : ∀ σ H Q, tT F (bAnd b1 b2) σ H Q → tAnd (tT F b1) (tT F b2) σ H Q := fun σ H Q ⟨ρ, ts, b, ρ', a, e, k⟩ => by
  unfold bAnd at e
  split at e
  · rename_i ρ1 ex
    exact ⟨ρ, ts, true, ρ1, a, ex, fun H1 a1 => iteT ⟨ρ1, ts, b, ρ', a1, e, k⟩⟩
  · rename_i ρ1 ex
    cases e
    exact ⟨ρ, ts, false, _, a, ex, fun H1 a1 => iteF (k H1 a1)⟩
  · cases e
theorem imp_bOr : ∀ σ H Q, tT F (bOr b1 b2) σ H Q → tOr (tT F b1) (tT F b2) σ H Q := fun σ H Q ⟨ρ, ts, b, ρ', a, e, k⟩ => by
  unfold bOr at e
  split at e
  · rename_i ρ1 ex
    cases e
    exact ⟨ρ, ts, true, _, a, ex, fun H1 a1 => iteT (k H1 a1)⟩
  · rename_i ρ1 ex
    exact ⟨ρ, ts, false, ρ1, a, ex, fun H1 a1 => iteF ⟨ρ1, ts, b, ρ', a1, e, k⟩⟩
  · cases e
theorem imp_bNot : ∀ σ H Q, tT F (bNot b1) σ H Q → tNot (tT F b1) σ H Q := fun σ H Q ⟨ρ, ts, b, ρ', a, e, k⟩ => by
  unfold bNot at e
  split at e
  · rename_i b0 ρ1 ex
    cases e
    exact ⟨ρ, ts, b0, _, a, ex, fun H1 a1 => k H1 a1⟩
  · cases e
theorem b_and {a b : Expr} {rest : List Expr} (ha : PT X a (tT (fm X vs0) b1)) (hb : PW X (.BoolOp .And (b :: rest) pos) (tT (fm X vs0) b2)) : PW X (.BoolOp .And (a :: b :: rest) pos) (tT (fm X vs0) (bAnd b1 b2)) := (pw_and ha hb).imp imp_bAnd
theorem b_or {a b : Expr} {rest : List Expr} (ha : PT X a (tT (fm X vs0) b1)) (hb : PW X (.BoolOp .Or (b :: rest) pos) (tT (fm X vs0) b2)) : PW X (.BoolOp .Or (a :: b :: rest) pos) (tT (fm X vs0) (bOr b1 b2)) := (pw_or ha hb).imp imp_bOr
theorem b_not {a : Expr} (ha : PT X a (tT (fm X vs0) b1)) : PT X (.UnaryOp .Not a pos) (tT (fm X vs0) (bNot b1)) := (pt_not ha).imp imp_bNot
theorem b_val {e : Expr} (h : PE X e (tD (fm X vs0) ea)) (he : ∀ whole, isTrue e X.env whole = (do let v ← whole; standAt e.pos; holding [v] (truthy v)) := by intro _; rfl) : PT X e (tT (fm X vs0) (bV ea)) := (pt_val h he).imp imp_bV
theorem b_valP {e : Expr} (h : PE X e (tP (fm X vs0) fa)) (he : ∀ whole, isTrue e X.env whole = (do let v ← whole; standAt e.pos; holding [v] (truthy v)) := by intro _; rfl) : PT X e (tT (fm X vs0) (bP fa)) := (pt_val h he).imp imp_bP
end

/-! ### statements -/
def sNil : SM := fun ρ => some (.nx, ρ)
def sSeq (f g : SM) : SM := fun ρ => match f ρ with
  | some (.nx, ρ1) => g ρ1
  | r => r
def sAsg (e : EM) (g : GM) : SM := fun ρ => match e ρ with
  | some (d, ρ1) => match g d ρ1 with
    | some ρ2 => some (.nx, ρ2)
    | none => none
  | none => none
def sExp (e : EM) : SM := fun ρ => match e ρ with
  | some (_, ρ1) => some (.nx, ρ1)
  | none => none
def sRet (e : EM) : SM := fun ρ => match e ρ with
  | some (d, ρ1) => some (.rt d, ρ1)
  | none => none
def sRetN : SM := fun ρ => some (.rt .non, ρ)
def sIf (c : BM) (f g : SM) : SM := fun ρ => match c ρ with
  | some (true, ρ1) => f ρ1
  | some (false, ρ1) => g ρ1
  | none => none
def sCt : SM := fun ρ => some (.ct, ρ)
def sBk : SM := fun ρ => some (.bk, ρ)
/-- what the proof never comes to -/
def sNo : SM := fun _ => none
def gN (i : Nat) : GM := fun d ρ => some (ρ.set i (some d))
def gT : List Nat → List D → DEnv → Option DEnv
  | [], [], ρ => some ρ
  | i :: is, d :: ds, ρ => gT is ds (ρ.set i (some d))
  | _, _, _ => none
/-- several names of a tuple -/
def gTu (is : List Nat) : GM := fun d ρ => match d with
  | .tup ds => gT is ds ρ
  | _ => none
section
variable {X : Cx} {vs0 : List V} {W : WX} {pos : Pos} {F : Fm} {f g : SM} {e : EM} {gm : GM} {c : BM}
theorem s_nil : PSs X [] (tS (fmW X vs0 W) sNil) := pss_nil.imp fun D' σ H ⟨ρ, ts, fl, ρ', a, q, k⟩ => by
  cases q
  exact k σ H a
theorem imp_seq : ∀ D' σ H, tS F (sSeq f g) D' σ H → tSeq (tS F f) (tS F g) D' σ H := fun D' σ H ⟨ρ, ts, fl, ρ', a, q, k⟩ => by
  unfold sSeq at q
  cases h : f ρ with
  | none => rw [h] at q; cases q
  | some p =>
    obtain ⟨fl1, ρ1⟩ := p
    rw [h] at q
    cases fl1 with
    | nx => exact ⟨ρ, ts, .nx, ρ1, a, h, fun σ1 H1 a1 => ⟨ρ1, ts, fl, ρ', a1, q, k⟩⟩
    | bk => cases q; exact ⟨ρ, ts, .bk, _, a, h, k⟩
    | ct => cases q; exact ⟨ρ, ts, .ct, _, a, h, k⟩
    | rt d => cases q; exact ⟨ρ, ts, .rt d, _, a, h, k⟩
    | xc x => cases q; exact ⟨ρ, ts, .xc x, _, a, h, k⟩
theorem s_cons {st : Stmt} {rest : List Stmt} (h1 : PS X st (tS (fmW X vs0 W) f)) (h2 : PSs X rest (tS (fmW X vs0 W) g)) : PSs X (st :: rest) (tS (fmW X vs0 W) (sSeq f g)) := (pss_cons h1 h2).imp imp_seq
theorem s_one {st : Stmt} (h1 : PS X st (tS (fmW X vs0 W) f)) : PSs X [st] (tS (fmW X vs0 W) f) := pss_one h1
theorem imp_asg : ∀ D' σ H, tS F (sAsg e gm) D' σ H → tAsg (tD F e) (tG F gm) D' σ H := fun D' σ H ⟨ρ, ts, fl, ρ', a, q, k⟩ => by
  unfold sAsg at q
  split at q
  · rename_i d ρ1 he
    split at q
    · rename_i ρ2 hg
      cases q
      exact ⟨ρ, ts, d, ρ1, a, he, fun v H1 a1 => ⟨ρ1, ts, d, _, a1, hg, k⟩⟩
    · cases q
  · cases q
theorem imp_gN {i : Nat} (hp : F.vs0.length ≤ i) (hi : i < F.n) : ∀ v σ H Q, tG F (gN i) v σ H Q → gName i v σ H Q := fun v σ H Q ⟨ρ, ts, d, ρ', a, q, k⟩ => by
  cases q
  exact k _ H (a.store hp hi)
theorem g_name {x : Str} (i : Nat) (hp : vs0.length ≤ i) (hN : X.N.Nodup) (hi : X.N[i]? = some x := by rfl) (hx : Loc X.env.scope x := by first | exact Or.inl rfl | exact Or.inr rfl) (hf : X.fn x = true ∨ X.env.scope.names.lookup x = some .local := by first | exact .inl rfl | exact .inr rfl | assumption) :
    PG X (.Name x pos) (tG (fm X vs0) (gN i)) := (pg_name hN hi hx hf).imp (imp_gN hp (List.getElem?_eq_some_iff.mp hi).1)
/-- name = e -/
theorem s_set {x : Str} {ex : Expr} {pos' : Pos} (i : Nat) (hp : vs0.length ≤ i) (hN : X.N.Nodup) (he : PE X ex (tD (fm X vs0) e)) (hi : X.N[i]? = some x := by rfl) (hx : Loc X.env.scope x := by first | exact Or.inl rfl | exact Or.inr rfl) (hs : swapsWith ex (some (.Name x pos')) pos.line X.env = pure false := by rfl)
    (hf : X.fn x = true ∨ X.env.scope.names.lookup x = some .local := by first | exact .inl rfl | exact .inr rfl | assumption) : PS X (.Assign [.Name x pos'] ex pos) (tS (fmW X vs0 W) (sAsg e (gN i))) :=
  (ps_set hN hi hx he hs hf).imp fun D' σ H h => by
    obtain ⟨ρ, ts, d, ρ', a, q, k⟩ := imp_asg (F := fmW X vs0 W) D' σ H h
    exact ⟨ρ, ts, d, ρ', a, q, fun v H' a' => imp_gN (F := fm X vs0) hp (List.getElem?_eq_some_iff.mp hi).1 v σ H' D'.nx (k v H' a')⟩
theorem imp_exp : ∀ D' σ H, tS F (sExp e) D' σ H → tDrop (tD F e) D' σ H := fun D' σ H ⟨ρ, ts, fl, ρ', a, q, k⟩ => by
  unfold sExp at q
  split at q
  · rename_i d ρ1 he
    cases q
    exact ⟨ρ, ts, d, _, a, he, fun v H1 a1 => k σ H1 a1.tail⟩
  · cases q
theorem s_exp {ex : Expr} (he : PE X ex (tD (fm X vs0) e)) (hs : swapsWith ex none pos.line X.env = pure false := by rfl) : PS X (.Expr ex pos) (tS (fmW X vs0 W) (sExp e)) := (ps_expr he hs).imp imp_exp
theorem imp_ret : ∀ D' σ H, tS F (sRet e) D' σ H → tRet (tD F e) D' σ H := fun D' σ H ⟨ρ, ts, fl, ρ', a, q, k⟩ => by
  unfold sRet at q
  split at q
  · rename_i d ρ1 he
    cases q
    exact ⟨ρ, ts, d, _, a, he, fun v H1 a1 => k v σ H1 a1⟩
  · cases q
theorem s_ret {ex : Expr} (he : PE X ex (tD (fm X vs0) e)) : PS X (.Return (some ex) pos) (tS (fmW X vs0 W) (sRet e)) := (ps_ret he).imp imp_ret
theorem s_retN : PS X (.Return none pos) (tS (fmW X vs0 W) sRetN) := ps_retN.imp fun D' σ H ⟨ρ, ts, fl, ρ', a, q, k⟩ => by
  cases q
  exact k .non σ H (a.mk' mk_non)
theorem imp_if : ∀ D' σ H, tS F (sIf c f g) D' σ H → tIfS (tT F c) (tS F f) (tS F g) D' σ H := fun D' σ H ⟨ρ, ts, fl, ρ', a, q, k⟩ => by
  unfold sIf at q
  split at q
  · rename_i ρ1 he
    exact ⟨ρ, ts, true, ρ1, a, he, fun H1 a1 => iteT ⟨ρ1, ts, fl, ρ', a1, q, k⟩⟩
  · rename_i ρ1 he
    exact ⟨ρ, ts, false, ρ1, a, he, fun H1 a1 => iteF ⟨ρ1, ts, fl, ρ', a1, q, k⟩⟩
  · cases q
theorem s_if {ce : Expr} {as bs : List Stmt} (hc : PT X ce (tT (fm X vs0) c)) (ha : PSs X as (tS (fmW X vs0 W) f)) (hb : PSs X bs (tS (fmW X vs0 W) g)) : PS X (.If ce as bs pos) (tS (fmW X vs0 W) (sIf c f g)) := (ps_if hc ha hb).imp imp_if
theorem s_ct : PS X (.Continue pos) (tS (fmW X vs0 W) sCt) := ps_continue.imp fun D' σ H ⟨ρ, ts, fl, ρ', a, q, k⟩ => by
  cases q
  exact k σ H a
theorem s_bk : PS X (.Break pos) (tS (fmW X vs0 W) sBk) := ps_break.imp fun D' σ H ⟨ρ, ts, fl, ρ', a, q, k⟩ => by
  cases q
  exact k σ H a
theorem s_no {st : Stmt} : PS X st (tS (fmW X vs0 W) sNo) := ps_never.imp fun D' σ H ⟨ρ, ts, fl, ρ', a, q, k⟩ => by cases q
end

/-! ### argument lists, calls of defs -/
inductive Arg where
  | e (d : D)
  | s (i : Nat)
  | t (i k : Nat) (ds : List D)
abbrev AM := DEnv → Option (List Arg × DEnv)
def aNil : AM := fun ρ => some ([], ρ)
def aE (f : EM) (r : AM) : AM := fun ρ => match f ρ with
  | some (d, ρ1) => match r ρ1 with
    | some (as, ρ2) => some (.e d :: as, ρ2)
    | none => none
  | none => none
/-- a name handed over: its value is lent -/
def aS (i : Nat) (r : AM) : AM := fun ρ => match ρ.getD i none with
  | some _ => match r ρ with
    | some (as, ρ2) => some (.s i :: as, ρ2)
    | none => none
  | none => none
inductive ArgsR (σ : L2.St) : List V → List Arg → List Rt → Prop
  | nil : ArgsR σ [] [] []
  | e {v : V} {d : D} {vs : List V} {as : List Arg} {tm : List Rt} : ArgsR σ vs as tm → ArgsR σ (v :: vs) (.e d :: as) (.v v d :: tm)
  | s {v : V} {i : Nat} {vs : List V} {as : List Arg} {tm : List Rt} : σ[i]? = some (some v) → ArgsR σ vs as tm → ArgsR σ (v :: vs) (.s i :: as) tm
  | t {v : V} {i k : Nat} {a : Addr} {xs : List V} {ds : List D} {vs : List V} {as : List Arg} {tm : List Rt} : σ[i]? = some (some (.ref a)) → xs[k]? = some v → ArgsR σ vs as tm → ArgsR σ (v :: vs) (.t i k ds :: as) (.t a xs :: tm)
def tA (F : Fm) (f : AM) : TA := fun σ H Q => ∃ ρ ts as ρ', At F σ H ρ ts ∧ f ρ = some (as, ρ') ∧ ∀ vs H' tm, ArgsR σ vs as tm → At F σ H' ρ' (tm ++ ts) → Q vs H'
section
variable {X : Cx} {vs0 : List V} {pos : Pos} {F : Fm} {f : EM} {r : AM}
theorem a_nil : PA X [] (tA (fm X vs0) aNil) := pa_nil.imp fun σ H Q ⟨ρ, ts, as, ρ', a, q, k⟩ => by
  cases q
  exact k [] H [] .nil a
theorem imp_aE : ∀ σ H Q, tA F (aE f r) σ H Q → tCons (tD F f) (tA F r) σ H Q := fun σ H Q ⟨ρ, ts, as, ρ', a, q, k⟩ => by
  unfold aE at q
  split at q
  · rename_i d ρ1 he
    split at q
    · rename_i as' ρ2 hr
      cases q
      refine ⟨ρ, ts, d, ρ1, a, he, fun v H1 a1 => ⟨ρ1, _, as', _, a1, hr, fun vs H2 tm ar a2 => k _ H2 _ (.e ar) (a2.perm ?_)⟩⟩
      exact List.perm_middle
    · cases q
  · cases q
theorem a_e {ex : Expr} {es : List Expr} (ha : PE X ex (tD (fm X vs0) f)) (hr : PA X es (tA (fm X vs0) r)) (hs : starEach (ex :: es) X.env = (false, eval ex X.env) :: starEach es X.env := by rfl) : PA X (ex :: es) (tA (fm X vs0) (aE f r)) := (pa_cons ha hr hs).imp imp_aE
theorem imp_aS {i : Nat} : ∀ σ H Q, tA F (aS i r) σ H Q → tCons (tVar i) (tA F r) σ H Q := fun σ H Q ⟨ρ, ts, as, ρ', a, q, k⟩ => by
  unfold aS at q
  split at q
  · rename_i d0 h0
    split at q
    · rename_i as' ρ2 hr
      cases q
      obtain ⟨v, e⟩ := a.fit i d0 (getD_some h0)
      exact ⟨v, e, ρ, ts, as', _, a, hr, fun vs H2 tm ar a2 => k _ H2 _ (.s e ar) a2⟩
    · cases q
  · cases q
theorem a_s {x : Str} {es : List Expr} (i : Nat) (hr : PA X es (tA (fm X vs0) r)) (hN : X.N[i]? = some x := by rfl) (hv : Vis X.env.scope x := by first | exact Or.inl rfl | exact Or.inr (Or.inl rfl) | exact Or.inr (Or.inr rfl)) (hd : (x == ("__debug__" : Str)) = false := by decide)
    (hcd : (x == ("__classdict__" : Str)) = false := by decide) (hs : starEach (.Name x pos :: es) X.env = (false, eval (.Name x pos) X.env) :: starEach es X.env := by rfl) : PA X (.Name x pos :: es) (tA (fm X vs0) (aS i r)) := (pa_cons (pv i hN hv hd hcd) hr hs).imp imp_aS
end
instance : DecidableEq Kd := fun a b => by cases a <;> cases b <;> first | exact isTrue rfl | exact isFalse (fun h => nomatch h)
mutual
def D.beq : D → D → Bool
  | .non, .non => true
  | .bl a, .bl b => a == b
  | .int a, .int b => a == b
  | .str a, .str b => decide (a = b)
  | .tup xs, .tup ys => beqL xs ys
  | .lst o xs, .lst p ys => o == p && beqL xs ys
  | .dic o k a b, .dic o' k' a' b' => o == o' && decide (k = k') && beqL a a' && beqL b b'
  | .obj o c f a, .obj o' c' f' a' => o == o' && decide (c = c') && decide (f = f') && beqL a a'
  | .scr a, .scr b => decide (a = b)
  | .exn c f a, .exn c' f' a' => decide (c = c') && decide (f = f') && beqL a a'
  | _, _ => false
def beqL : List D → List D → Bool
  | [], [] => true
  | x :: xs, y :: ys => x.beq y && beqL xs ys
  | _, _ => false
end
mutual
theorem beq_iff : ∀ a b : D, D.beq a b = true ↔ a = b
  | .non, b => by cases b <;> simp [D.beq]
  | .bl _, b => by cases b <;> simp [D.beq]
  | .int _, b => by cases b <;> simp [D.beq]
  | .str _, b => by cases b <;> simp [D.beq]
  | .tup xs, b => by
    cases b with
    | tup ys => simp [D.beq, beqL_iff xs ys]
    | _ => simp [D.beq]
  | .lst o xs, b => by
    cases b with
    | lst p ys => simp [D.beq, beqL_iff xs ys]
    | _ => simp [D.beq]
  | .dic o k x y, b => by
    cases b with
    | dic o' k' x' y' => simp [D.beq, beqL_iff x x', beqL_iff y y', and_assoc]
    | _ => simp [D.beq]
  | .obj o c f x, b => by
    cases b with
    | obj o' c' f' x' => simp [D.beq, beqL_iff x x', and_assoc]
    | _ => simp [D.beq]
  | .scr _, b => by cases b <;> simp [D.beq]
  | .exn c f x, b => by
    cases b with
    | exn c' f' x' => simp [D.beq, beqL_iff x x', and_assoc]
    | _ => simp [D.beq]
theorem beqL_iff : ∀ a b : List D, beqL a b = true ↔ a = b
  | [], b => by cases b <;> simp [beqL]
  | x :: xs, b => by
    cases b with
    | nil => simp [beqL]
    | cons y ys => simp [beqL, beq_iff x y, beqL_iff xs ys]
end
instance : DecidableEq D := fun a b => decidable_of_iff _ (beq_iff a b)
/-- the lent values taken out of their slots -/
def takeA : List Arg → DEnv → Option (List D × DEnv)
  | [], ρ => some ([], ρ)
  | .e d :: as, ρ => match takeA as ρ with
    | some (ds, ρ') => some (d :: ds, ρ')
    | none => none
  | .s i :: as, ρ => match ρ.getD i none with
    | some d => match takeA as (ρ.set i none) with
      | some (ds, ρ') => some (d :: ds, ρ')
      | none => none
    | none => none
  | .t i k es :: as, ρ => match ρ.getD i none with
    | some d => if d = .tup es then (match es[k]? with
      | some e => match takeA as (ρ.set i none) with
        | some (ds, ρ') => some (e :: ds, ρ')
        | none => none
      | none => none) else none
    | none => none
/-- .. given back -/
def putA : List Arg → List D → DEnv → Option DEnv
  | [], [], ρ => some ρ
  | .e _ :: as, _ :: ds, ρ => putA as ds ρ
  | .s i :: as, d :: ds, ρ => putA as ds (ρ.set i (some d))
  | .t i k es :: as, d :: ds, ρ => putA as ds (ρ.set i (some (.tup (es.set k d))))
  | _, _, _ => none
def callA (m : FnM) (as : List Arg) (ρ : DEnv) : Option (D × DEnv) := match takeA as ρ with
  | some (ds, ρ2) => match m ds with
    | some (d, ds') => match putA as ds' ρ2 with
      | some ρ3 => some (d, ρ3)
      | none => none
    | none => none
  | none => none
def eCall (m : FnM) (a : AM) : EM := fun ρ => match a ρ with
  | some (as, ρ1) => callA m as ρ1
  | none => none
def spD (K : PySem.W.Frag) (mg : MG) (m : FnM) : Sp := fun vs H Q _ => ∃ ds ts d ds', vs.length = ds.length ∧ Sim K mg H (vals vs ds ++ ts) ∧ m ds = some (d, ds') ∧
  ∀ v H', Sim K mg H' (.v v d :: (vals vs ds' ++ ts)) → Q v H'
section
variable {F : Fm} {σ : L2.St} {H H' : Hp} {m : FnM}
/-- what stays behind of rows whose parts are lent -/
inductive LoR (σ : L2.St) : List V → List Arg → List Rt → Prop
  | nil : LoR σ [] [] []
  | e {v : V} {d : D} {vs : List V} {as : List Arg} {lo : List Rt} : LoR σ vs as lo → LoR σ (v :: vs) (.e d :: as) lo
  | s {v : V} {i : Nat} {vs : List V} {as : List Arg} {lo : List Rt} : σ[i]? = some (some v) → LoR σ vs as lo → LoR σ (v :: vs) (.s i :: as) lo
  | t {v : V} {i k : Nat} {a : Addr} {xs : List V} {ds : List D} {vs : List V} {as : List Arg} {lo : List Rt} : σ[i]? = some (some (.ref a)) → xs[k]? = some v → xs.length = ds.length → LoR σ vs as lo → LoR σ (v :: vs) (.t i k ds :: as) (.t a xs :: (vals (xs.eraseIdx k) (ds.eraseIdx k) ++ lo))
theorem vals_pick : ∀ {xs : List V} {ds : List D} {k : Nat} {v : V} {d : D}, xs[k]? = some v → ds[k]? = some d → xs.length = ds.length → (vals xs ds).Perm (.v v d :: vals (xs.eraseIdx k) (ds.eraseIdx k))
  | [], _, _, _, _, h, _, _ => by simp at h
  | _ :: _, [], _, _, _, _, h, _ => by simp at h
  | x :: xs, y :: ds, 0, v, d, h, h', _ => by
    simp at h h'; subst h h'
    exact List.Perm.refl _
  | x :: xs, y :: ds, k + 1, v, d, h, h', hl => by
    have ih := vals_pick (xs := xs) (ds := ds) (k := k) (by simpa using h) (by simpa using h') (by simpa using hl)
    exact (List.Perm.cons _ ih).trans (.swap _ _ _)
theorem perm_swap3 {α : Type} (A B C : List α) : (A ++ (B ++ C)).Perm (B ++ (A ++ C)) := by
  rw [← List.append_assoc, ← List.append_assoc]
  exact List.Perm.append_right _ List.perm_append_comm
theorem perm_lend {α : Type} (x y : α) (A B C D E : List α) : (A ++ (B ++ (C ++ (x :: (y :: (D ++ E)))))).Perm (x :: (A ++ (B ++ ((y :: (D ++ C)) ++ E)))) := by
  have h1 : (C ++ (x :: (y :: (D ++ E)))).Perm (x :: ((y :: (D ++ C)) ++ E)) := by
    refine List.perm_middle.trans (List.Perm.cons _ ?_)
    refine List.perm_middle.trans (List.Perm.cons _ ?_)
    show (C ++ (D ++ E)).Perm ((D ++ C) ++ E)
    rw [← List.append_assoc]
    exact List.Perm.append_right _ List.perm_append_comm
  refine (List.Perm.append_left _ (List.Perm.append_left _ h1)).trans ?_
  refine (List.Perm.append_left _ List.perm_middle).trans ?_
  exact List.perm_middle
theorem take_sim : ∀ {as : List Arg} {ρ ρ2 : DEnv} {ds : List D} {vs : List V} {tm ts : List Rt}, ArgsR σ vs as tm → takeA as ρ = some (ds, ρ2) → Sim F.K F.mg H (tm ++ (slotR σ ρ ++ ts)) →
    ∃ lo, LoR σ vs as lo ∧ vs.length = ds.length ∧ ρ2.length = ρ.length ∧ (∀ (i : Nat) d, ρ2[i]? = some (some d) → ρ[i]? = some (some d)) ∧ Sim F.K F.mg H (vals vs ds ++ (slotR σ ρ2 ++ (lo ++ ts)))
  | [], ρ, ρ2, ds, _, _, ts, .nil, h, s => by
    cases h
    exact ⟨[], .nil, rfl, rfl, fun _ _ h => h, s⟩
  | .e d :: as, ρ, ρ2, ds, _, _, ts, .e (v := v) ar, h, s => by
    simp only [takeA] at h
    split at h
    · rename_i ds' ρ' h'
      cases h
      have s1 := s.perm (rs' := _ ++ (slotR σ ρ ++ (.v v d :: ts))) (by
        refine List.Perm.trans (List.Perm.symm (List.perm_middle)) ?_
        exact List.Perm.append_left _ (List.perm_middle).symm)
      obtain ⟨lo, lr, e1, e2, e3, e4⟩ := take_sim ar h' s1
      refine ⟨lo, .e lr, by rw [List.length_cons, List.length_cons, e1], e2, e3, e4.perm ?_⟩
      show (vals _ _ ++ (slotR σ _ ++ (lo ++ (.v v d :: ts)))).Perm (.v v d :: (vals _ _ ++ (slotR σ _ ++ (lo ++ ts))))
      refine List.Perm.trans (List.Perm.append_left _ (List.Perm.append_left _ List.perm_middle)) ?_
      refine List.Perm.trans (List.Perm.append_left _ List.perm_middle) ?_
      exact List.perm_middle
    · cases h
  | .s i :: as, ρ, ρ2, ds, _, tm, ts, .s (v := v) hv ar, h, s => by
    simp only [takeA] at h
    split at h
    · rename_i d hd
      split at h
      · rename_i ds' ρ' h'
        cases h
        have s1 := s.perm (rs' := tm ++ (slotR σ (ρ.set i none) ++ (.v v d :: ts))) (List.Perm.append_left _ ((List.Perm.append_right _ (slotR_out hv (getD_some hd))).trans (List.perm_middle).symm))
        obtain ⟨lo, lr, e1, e2, e3, e4⟩ := take_sim ar h' s1
        refine ⟨lo, .s hv lr, by rw [List.length_cons, List.length_cons, e1], by rw [e2, List.length_set], fun j d' q => ?_, e4.perm ?_⟩
        · have q1 := e3 j d' q
          by_cases hj : i = j
          · subst hj
            by_cases hl : i < ρ.length
            · rw [List.getElem?_set_self hl] at q1; cases q1
            · rw [List.getElem?_eq_none (by simpa using hl)] at q1; cases q1
          · rwa [List.getElem?_set_ne hj] at q1
        · show (vals _ _ ++ (slotR σ _ ++ (lo ++ (.v v d :: ts)))).Perm (.v v d :: (vals _ _ ++ (slotR σ _ ++ (lo ++ ts))))
          refine List.Perm.trans (List.Perm.append_left _ (List.Perm.append_left _ List.perm_middle)) ?_
          refine List.Perm.trans (List.Perm.append_left _ List.perm_middle) ?_
          exact List.perm_middle
      · cases h
    · cases h
  | .t i k es :: as, ρ, ρ2, ds, _, _, ts, .t (v := v) (a := a) (xs := xs) (tm := tm) hv hk ar, h, s => by
    simp only [takeA] at h
    split at h
    · rename_i d hd
      split at h
      · rename_i he
        subst he
        split at h
        · rename_i e hek
          split at h
          · rename_i ds' ρ' h'
            cases h
            have s1 : Sim F.K F.mg H (.v (.ref a) (.tup es) :: (.t a xs :: (tm ++ (slotR σ (ρ.set i none) ++ ts)))) := s.perm (by
              show (Rt.t a xs :: (tm ++ (slotR σ ρ ++ ts))).Perm _
              refine List.Perm.trans (List.Perm.cons _ (List.Perm.append_left _ (List.Perm.append_right _ (slotR_out hv (getD_some hd))))) ?_
              refine List.Perm.trans (List.Perm.cons _ List.perm_middle) (.swap _ _ _))
            obtain ⟨a', xs', e0, hl, hc, s2⟩ := s1.unT'
            cases e0
            have hc2 : H a = some (.tup xs) := by
              obtain ⟨Hs, fp, sb, o, _⟩ := s1.tail
              cases o with
              | t z _ => exact sb.tup z
            have ex : xs' = xs := by rw [hc] at hc2; cases hc2; rfl
            subst ex
            have s3 : Sim F.K F.mg H (tm ++ (slotR σ (ρ.set i none) ++ (.v v e :: (.t a xs' :: (vals (xs'.eraseIdx k) (es.eraseIdx k) ++ ts))))) := (s2.perm (rs' := .t a xs' :: (tm ++ (slotR σ (ρ.set i none) ++ (.v v e :: (.t a xs' :: (vals (xs'.eraseIdx k) (es.eraseIdx k) ++ ts)))))) (by
              refine List.Perm.cons _ ?_
              refine List.Perm.trans (List.Perm.append_right _ (vals_pick hk hek hl)) ?_
              show (Rt.v v e :: (vals (xs'.eraseIdx k) (es.eraseIdx k) ++ (.t a xs' :: (tm ++ (slotR σ (ρ.set i none) ++ ts))))).Perm _
              have p1 : (tm ++ (slotR σ (ρ.set i none) ++ (Rt.v v e :: (.t a xs' :: (vals (xs'.eraseIdx k) (es.eraseIdx k) ++ ts))))).Perm (.v v e :: (tm ++ (slotR σ (ρ.set i none) ++ (.t a xs' :: (vals (xs'.eraseIdx k) (es.eraseIdx k) ++ ts))))) := (List.Perm.append_left _ List.perm_middle).trans List.perm_middle
              refine List.Perm.trans (List.Perm.cons _ ?_) p1.symm
              have p2 : (tm ++ (slotR σ (ρ.set i none) ++ (Rt.t a xs' :: (vals (xs'.eraseIdx k) (es.eraseIdx k) ++ ts)))).Perm (.t a xs' :: (tm ++ (slotR σ (ρ.set i none) ++ (vals (xs'.eraseIdx k) (es.eraseIdx k) ++ ts)))) := (List.Perm.append_left _ List.perm_middle).trans List.perm_middle
              refine List.Perm.trans (List.perm_middle.trans (List.Perm.cons _ ?_)) p2.symm
              have p3 : (slotR σ (ρ.set i none) ++ (vals (xs'.eraseIdx k) (es.eraseIdx k) ++ ts)).Perm (vals (xs'.eraseIdx k) (es.eraseIdx k) ++ (slotR σ (ρ.set i none) ++ ts)) := by
                rw [← List.append_assoc, ← List.append_assoc]
                exact List.Perm.append_right _ List.perm_append_comm
              refine List.Perm.trans ?_ (List.Perm.append_left _ p3.symm)
              exact perm_swap3 _ _ _)).tail
            obtain ⟨lo, lr, e1, e2, e3, e4⟩ := take_sim ar h' s3
            refine ⟨.t a xs' :: (vals (xs'.eraseIdx k) (es.eraseIdx k) ++ lo), .t hv hk hl lr, by rw [List.length_cons, List.length_cons, e1], by rw [e2, List.length_set], fun j d' q => ?_, e4.perm (perm_lend _ _ _ _ _ _ _)⟩
            have q1 := e3 j d' q
            by_cases hj : i = j
            · subst hj
              by_cases hl : i < ρ.length
              · rw [List.getElem?_set_self hl] at q1; cases q1
              · rw [List.getElem?_eq_none (by simpa using hl)] at q1; cases q1
            · rwa [List.getElem?_set_ne hj] at q1
          · cases h
        · cases h
      · cases h
    · cases h
theorem put_slot {i : Nat} {v : V} {d' : D} {ρ : DEnv} {A ts : List Rt} (hv : σ[i]? = some (some v)) (hi : i < ρ.length) (s0 : Sim F.K F.mg H (.v v d' :: (A ++ (slotR σ ρ ++ ts)))) : Sim F.K F.mg H (A ++ (slotR σ (ρ.set i (some d')) ++ ts)) := by
  obtain ⟨xs, p⟩ := slotR_forget σ ρ i
  have s1 : Sim F.K F.mg H (xs ++ (A ++ ((.v v d' :: slotR σ (ρ.set i none)) ++ ts))) := s0.perm (by
    refine List.Perm.trans (List.Perm.cons _ (List.Perm.append_left _ (List.Perm.append_right _ p))) ?_
    rw [List.append_assoc]
    refine List.Perm.trans (List.Perm.symm (List.perm_middle)) ?_
    refine List.Perm.trans (List.Perm.append_left _ (List.perm_middle).symm) ?_
    rw [← List.append_assoc, ← List.append_assoc]
    refine List.Perm.trans (List.Perm.append_right _ List.perm_append_comm) ?_
    simp [List.append_assoc])
  exact s1.drop.perm (List.Perm.append_left _ (List.Perm.append_right _ (slotR_same hv hi).symm))
theorem eraseIdx_set {α : Type} : ∀ (l : List α) (k : Nat) (x : α), (l.set k x).eraseIdx k = l.eraseIdx k
  | [], _, _ => rfl
  | _ :: _, 0, _ => rfl
  | a :: l, k + 1, x => by simp [eraseIdx_set l k x]
theorem put_sim : ∀ {as : List Arg} {ρ ρ3 : DEnv} {ds : List D} {vs : List V} {lo ts : List Rt}, LoR σ vs as lo → putA as ds ρ = some ρ3 → σ.length = ρ.length → (∀ (i : Nat) d, ρ[i]? = some (some d) → ∃ v, σ[i]? = some (some v)) → Sim F.K F.mg H (vals vs ds ++ (slotR σ ρ ++ (lo ++ ts))) →
    ρ3.length = ρ.length ∧ (∀ (i : Nat) d, ρ3[i]? = some (some d) → ∃ v, σ[i]? = some (some v)) ∧ Sim F.K F.mg H (slotR σ ρ3 ++ ts)
  | [], ρ, ρ3, ds, _, _, ts, .nil, h, hl, hf, s => by
    cases ds with
    | nil => simp only [putA] at h; cases h; exact ⟨rfl, hf, s⟩
    | cons => simp [putA] at h
  | .e d :: as, ρ, ρ3, ds, _, _, ts, .e (v := v) ar, h, hl, hf, s => by
    cases ds with
    | nil => simp [putA] at h
    | cons d' ds =>
      simp only [putA] at h
      exact put_sim ar h hl hf s.tail
  | .s i :: as, ρ, ρ3, ds, _, lo, ts, .s (v := v) (vs := vs) hv ar, h, hl, hf, s => by
    cases ds with
    | nil => simp [putA] at h
    | cons d' ds =>
      simp only [putA] at h
      have hi : i < ρ.length := by rw [← hl]; exact (List.getElem?_eq_some_iff.mp hv).1
      have s2 := put_slot (A := vals vs ds) (ts := lo ++ ts) hv hi s
      obtain ⟨e1, e2, e3⟩ := put_sim ar h (by rw [List.length_set]; exact hl) (fun j d q => by
        by_cases hj : i = j
        · subst hj; exact ⟨v, hv⟩
        · rw [List.getElem?_set_ne hj] at q; exact hf j d q) s2
      exact ⟨by rw [e1, List.length_set], e2, e3⟩
  | .t i k es :: as, ρ, ρ3, ds, _, _, ts, .t (v := v) (a := a) (xs := xs) (vs := vs) (lo := lo) hv hk hx ar, h, hl, hf, s => by
    cases ds with
    | nil => simp [putA] at h
    | cons d' ds =>
      simp only [putA] at h
      have hi : i < ρ.length := by rw [← hl]; exact (List.getElem?_eq_some_iff.mp hv).1
      have hke : k < es.length := by rw [← hx]; exact (List.getElem?_eq_some_iff.mp hk).1
      have s1 : Sim F.K F.mg H (.t a xs :: (vals xs (es.set k d') ++ (vals vs ds ++ (slotR σ ρ ++ (lo ++ ts))))) := s.perm (by
        have p1 := vals_pick (xs := xs) (ds := es.set k d') (k := k) (v := v) (d := d') hk (List.getElem?_set_self hke) (by rw [List.length_set]; exact hx)
        rw [eraseIdx_set] at p1
        refine List.Perm.trans ?_ (List.Perm.cons _ (List.Perm.append_right _ p1.symm))
        show (Rt.v v d' :: (vals vs ds ++ (slotR σ ρ ++ ((.t a xs :: (vals (xs.eraseIdx k) (es.eraseIdx k) ++ lo)) ++ ts)))).Perm (.t a xs :: (.v v d' :: (vals (xs.eraseIdx k) (es.eraseIdx k) ++ (vals vs ds ++ (slotR σ ρ ++ (lo ++ ts))))))
        refine List.Perm.trans (List.Perm.cons _ ?_) (.swap _ _ _)
        refine List.Perm.trans (List.Perm.append_left _ List.perm_middle) (List.perm_middle.trans (List.Perm.cons _ ?_))
        show (vals vs ds ++ (slotR σ ρ ++ ((vals (xs.eraseIdx k) (es.eraseIdx k) ++ lo) ++ ts))).Perm _
        rw [List.append_assoc (vals (xs.eraseIdx k) (es.eraseIdx k)) lo ts]
        have p2 : (slotR σ ρ ++ (vals (xs.eraseIdx k) (es.eraseIdx k) ++ (lo ++ ts))).Perm (vals (xs.eraseIdx k) (es.eraseIdx k) ++ (slotR σ ρ ++ (lo ++ ts))) := by
          exact perm_swap3 _ _ _
        refine List.Perm.trans (List.Perm.append_left _ p2) ?_
        exact perm_swap3 _ _ _)
      have s2 := put_slot (A := vals vs ds) (ts := lo ++ ts) hv hi (s1.foT (by rw [List.length_set]; exact hx))
      obtain ⟨e1, e2, e3⟩ := put_sim ar h (by rw [List.length_set]; exact hl) (fun j d q => by
        by_cases hj : i = j
        · subst hj; exact ⟨_, hv⟩
        · rw [List.getElem?_set_ne hj] at q; exact hf j d q) s2
      exact ⟨by rw [e1, List.length_set], e2, e3⟩
theorem callA_ok {as : List Arg} {ρ ρ3 : DEnv} {d : D} {vs : List V} {tm ts : List Rt} {Q : VK} {E : XK} (ar : ArgsR σ vs as tm) (h : callA m as ρ = some (d, ρ3)) (a : At F σ H ρ (tm ++ ts)) (k : ∀ v H', At F σ H' ρ3 (.v v d :: ts) → Q v H') :
    spD F.K F.mg m vs H Q E := by
  unfold callA at h
  split at h
  · rename_i ds ρ2 ht
    split at h
    · rename_i d' ds' hm
      split at h
      · rename_i ρ3' hp
        cases h
        have s0 := a.sim.perm (rs' := tm ++ (slotR σ ρ ++ ts)) (by
          rw [← List.append_assoc, ← List.append_assoc]
          exact List.Perm.append_right _ List.perm_append_comm)
        obtain ⟨lo, lr, e1, e2, e3, s1⟩ := take_sim ar ht s0
        refine ⟨ds, slotR σ ρ2 ++ (lo ++ ts), d, ds', e1, s1, hm, fun v H' s2 => k v H' ?_⟩
        have s3 := s2.perm (rs' := vals vs ds' ++ (slotR σ ρ2 ++ (lo ++ (.v v d :: ts)))) (by
          refine List.Perm.trans (List.perm_middle).symm ?_
          refine List.Perm.append_left _ (List.perm_middle.symm.trans ?_)
          exact List.Perm.append_left _ (List.perm_middle).symm)
        obtain ⟨f1, f2, f3⟩ := put_sim lr hp (by rw [e2, a.lenR]; exact a.lenS) (fun i d q => a.fit i d (e3 i d q)) s3
        exact ⟨a.lenS, by rw [f1, e2]; exact a.lenR, f2, a.par, f3⟩
      · cases h
    · cases h
  · cases h
end
section
variable {X : Cx} {vs0 : List V} {F : Fm} {CX : CXT} {k : Nat} {f : Addr} {fd : FuncData} {ps : List Str} {m : FnM} {E : XK} {x : Str} {p pos : Pos} {e : Expr} {es : List Expr} {am : AM}
theorem imp_call : ∀ σ H Q, tD F (eCall m am) σ H Q → tCall (spD F.K F.mg m) [] E (tA F am) σ H Q := fun σ H Q ⟨ρ, ts, d, ρ', a, q, k⟩ => by
  unfold eCall at q
  split at q
  · rename_i as ρ1 ha
    refine ⟨ρ, ts, as, ρ1, a, ha, fun vs H1 tm ar a1 => ?_⟩
    show spD F.K F.mg m (vs ++ []) H1 Q E
    rw [List.append_nil]
    exact callA_ok ar q a1 k
  · cases q
theorem e_call (G : FnOk X.prog X.w X.K X.mg X.base CX0 k f fd ps (spD X.K ⟨X.mg, X.w⟩ m)) (hr : Room k X.A) (hm : X.mg x = some (.ref f)) (hk : PySem.W.keepIn X.K (.ref f) = true) (hb : Binds X.K fd ps [])
    (ha : PA X (e :: es) (tA (fm X vs0) am)) (hg : Gl X x := by rfl) (hdb : (x == ("__debug__" : Str)) = false := by decide) (he : starEach (e :: es) X.env = (false, eval e X.env) :: starEach es X.env := by rfl) (hpl : (backTo pos (starEach es X.env)).any (·.1) = false := by rfl) :
    PE X (.Call (.Name x p) (e :: es) [] pos) (tD (fm X vs0) (eCall m am)) := (pe_call G hr hg hm hk hb .nil pass0 ha hdb he hpl).imp imp_call
end

/-! ### a def by its mirror -/
def outs : Nat → DEnv → Option (List D)
  | 0, _ => some []
  | n + 1, some d :: ρ => match outs n ρ with
    | some ds => some (d :: ds)
    | none => none
  | _ + 1, _ => none
/-- na parameters, the first np of them never stored to; n slots -/
def fnM (na np n : Nat) (body : SM) : FnM := fun ds => if ds.length = na ∧ (ds.drop np).all D.stable = true then
    match body (ds.map some ++ List.replicate (n - na) none) with
    | some (.rt d, ρ') => match outs np ρ' with
      | some os => some (d, os ++ ds.drop np)
      | none => none
    | some (.nx, ρ') => match outs np ρ' with
      | some os => some (.non, os ++ ds.drop np)
      | none => none
    | _ => none
  else none
theorem outs_ok : ∀ {n : Nat} {ρ : DEnv} {os : List D}, outs n ρ = some os → os.length = n ∧ ∀ (i : Nat) (d : D), os[i]? = some d → ρ[i]? = some (some d)
  | 0, ρ, os, h => by simp only [outs] at h; cases h; exact ⟨rfl, fun i d q => by simp at q⟩
  | n + 1, [], os, h => by simp [outs] at h
  | n + 1, none :: ρ, os, h => by simp [outs] at h
  | n + 1, some d :: ρ, os, h => by
    simp only [outs] at h
    split at h
    · rename_i ds hd
      cases h
      obtain ⟨h1, h2⟩ := outs_ok hd
      refine ⟨by rw [List.length_cons, h1], fun i d' q => ?_⟩
      cases i with
      | zero => simpa using q
      | succ i => simpa using h2 i d' (by simpa using q)
    · cases h
theorem slotR_start : ∀ (vs : List V) (ds : List D) (m : Nat), vs.length = ds.length → slotR (vs.map some ++ List.replicate m none) (ds.map some ++ List.replicate m none) = vals vs ds
  | [], [], m, _ => by
    induction m with
    | zero => rfl
    | succ m ih => simpa [List.replicate_succ, slotR, vals] using ih
  | v :: vs, d :: ds, m, h => by
    have ih := slotR_start vs ds m (by simpa using h)
    simp only [List.map_cons, List.cons_append, slotR, ih]
    rfl
  | [], _ :: _, _, h => by cases h
  | _ :: _, [], _, h => by cases h
theorem vals_append : ∀ {xs xs' : List V} {ds ds' : List D}, xs.length = ds.length → vals (xs ++ xs') (ds ++ ds') = vals xs ds ++ vals xs' ds'
  | [], _, [], _, _ => rfl
  | x :: xs, xs', d :: ds, ds', h => by
    have ih := vals_append (xs := xs) (xs' := xs') (ds := ds) (ds' := ds') (by simpa using h)
    show Rt.v x d :: vals (xs ++ xs') (ds ++ ds') = Rt.v x d :: (vals xs ds ++ vals xs' ds')
    rw [ih]
  | [], _, _ :: _, _, h => by cases h
  | _ :: _, _, [], _, h => by cases h
/-- stable roots twice -/
theorem Sim.dups {K : PySem.W.Frag} {mg : MG} {H : Hp} : ∀ {xs : List V} {ds : List D} {rs : List Rt}, xs.length = ds.length → ds.all D.stable = true → Sim K mg H (vals xs ds ++ rs) → Sim K mg H (vals xs ds ++ (vals xs ds ++ rs))
  | [], [], rs, _, _, h => h
  | x :: xs, d :: ds, rs, hl, hs, h => by
    rw [List.all_cons, Bool.and_eq_true] at hs
    have h1 : Sim K mg H (.v x d :: (vals xs ds ++ rs)) := h
    have h2 := (h1.dup hs.1).perm (rs' := vals xs ds ++ (.v x d :: .v x d :: rs)) (by
      refine List.Perm.trans (List.Perm.cons _ (List.perm_middle).symm) ?_
      exact (List.perm_middle).symm)
    have h3 := Sim.dups (by simpa using hl) hs.2 h2
    refine h3.perm ?_
    show (vals xs ds ++ (vals xs ds ++ (.v x d :: .v x d :: rs))).Perm (.v x d :: (vals xs ds ++ (.v x d :: (vals xs ds ++ rs))))
    refine List.Perm.trans (List.Perm.append_left _ (List.Perm.trans List.perm_middle (List.Perm.cons _ List.perm_middle))) ?_
    refine List.Perm.trans List.perm_middle (List.Perm.cons _ ?_)
    exact List.Perm.refl _
  | [], _ :: _, _, h, _, _ => by cases h
  | _ :: _, [], _, h, _, _ => by cases h
/-- the params' roots out of the slots -/
theorem outs_sim {K : PySem.W.Frag} {mg : MG} {H : Hp} : ∀ {n : Nat} {σ : L2.St} {ρ : DEnv} {os : List D} {vs : List V} {ts : List Rt}, outs n ρ = some os → vs.length = n → (∀ (i : Nat) (v : V), vs[i]? = some v → σ[i]? = some (some v)) → Sim K mg H (slotR σ ρ ++ ts) → Sim K mg H (vals vs os ++ ts)
  | 0, σ, ρ, os, vs, ts, h, hl, hp, s => by
    simp only [outs] at h
    cases h
    have e : vs = [] := List.length_eq_zero_iff.mp hl
    subst e
    exact s.drop
  | n + 1, σ, [], os, vs, ts, h, hl, hp, s => by simp [outs] at h
  | n + 1, σ, none :: ρ, os, vs, ts, h, hl, hp, s => by simp [outs] at h
  | n + 1, [], some d :: ρ, os, vs, ts, h, hl, hp, s => by
    cases vs with
    | nil => cases hl
    | cons v vs => have := hp 0 v (by simp); simp at this
  | n + 1, x :: σ, some d :: ρ, os, vs, ts, h, hl, hp, s => by
    cases vs with
    | nil => cases hl
    | cons v vs =>
      have e := hp 0 v (by simp)
      simp at e
      subst e
      simp only [outs] at h
      split at h
      · rename_i ds hd
        cases h
        have s1 : Sim K mg H (.v v d :: (slotR σ ρ ++ ts)) := s
        have s2 := s1.perm (rs' := slotR σ ρ ++ (.v v d :: ts)) (List.perm_middle).symm
        have s3 := outs_sim hd (by simpa using hl) (fun i v' q => by simpa using hp (i + 1) v' (by simpa using q)) s2
        exact s3.perm List.perm_middle
      · cases h
theorem fn_in {K : PySem.W.Frag} {mg : MG} {na np : Nat} {N : List Str} {body : SM} {vs : List V} {H : Hp} {Q : VK} {E : XK} (hn : na ≤ N.length) (hp : np ≤ na) (h : spD K mg (fnM na np N.length body) vs H Q E) :
    tS (fmk K mg (vs.take np) N.length) body { nx := fun _ H' => Q .non H', rt := Q } (start N vs) H := by
  obtain ⟨ds, ts, d, ds', hl, s, hm, k⟩ := h
  unfold fnM at hm
  split at hm
  · rename_i hc
    obtain ⟨hc1, hc2⟩ := hc
    have hlv : vs.length = na := hl.trans hc1
    have hlt : (vs.take np).length = np := by rw [List.length_take]; omega
    have e1 : vals vs ds = vals (vs.take np) (ds.take np) ++ vals (vs.drop np) (ds.drop np) := by
      rw [← vals_append (by rw [List.length_take, List.length_take]; omega), List.take_append_drop, List.take_append_drop]
    have s1 : Sim K mg H (vals vs ds ++ (vals (vs.drop np) (ds.drop np) ++ ts)) := by
      rw [e1] at s ⊢
      rw [List.append_assoc] at s ⊢
      have s2 := s.perm (rs' := vals (vs.drop np) (ds.drop np) ++ (vals (vs.take np) (ds.take np) ++ ts)) (by
        rw [← List.append_assoc, ← List.append_assoc]; exact List.Perm.append_right _ List.perm_append_comm)
      have s3 := Sim.dups (by rw [List.length_drop, List.length_drop]; omega) hc2 s2
      refine s3.perm ?_
      generalize vals (vs.drop np) (ds.drop np) = C
      generalize vals (vs.take np) (ds.take np) = B
      have q : ((C ++ C) ++ B).Perm (B ++ (C ++ C)) := List.perm_append_comm
      have q2 := List.Perm.append_right ts q
      simpa [List.append_assoc] using q2
    have a : At (fmk K mg (vs.take np) N.length) (start N vs) H (ds.map some ++ List.replicate (N.length - na) none) (vals (vs.drop np) (ds.drop np) ++ ts) := by
      refine ⟨?_, ?_, fun i d' q => ?_, fun i v q => ?_, ?_⟩
      · show (vs.map some ++ List.replicate (N.length - vs.length) none).length = N.length
        rw [List.length_append, List.length_map, List.length_replicate]; omega
      · show (ds.map some ++ List.replicate (N.length - na) none).length = N.length
        rw [List.length_append, List.length_map, List.length_replicate]; omega
      · by_cases hi : i < ds.length
        · refine ⟨vs[i]'(by omega), ?_⟩
          show (vs.map some ++ List.replicate (N.length - vs.length) none)[i]? = _
          rw [List.getElem?_append_left (by rw [List.length_map]; omega)]
          simp [show i < vs.length by omega]
        · rw [List.getElem?_append_right (by rw [List.length_map]; omega), List.getElem?_replicate] at q
          split at q
          · cases q
          · cases q
      · have hi : i < np := by rw [← hlt]; exact (List.getElem?_eq_some_iff.mp q).1
        show (vs.map some ++ List.replicate (N.length - vs.length) none)[i]? = _
        have q' : (vs.take np)[i]? = some v := q
        rw [List.getElem?_take_of_lt hi] at q'
        rw [List.getElem?_append_left (by rw [List.length_map]; omega), List.getElem?_map, q']
        rfl
      · show Sim K mg H (slotR (vs.map some ++ List.replicate (N.length - vs.length) none) (ds.map some ++ List.replicate (N.length - na) none) ++ _)
        rw [hlv, slotR_start vs ds _ hl]
        exact s1
    have fin : ∀ {v : V} {d : D} {σ' : L2.St} {H' : Hp} {ρ' : DEnv} {os : List D}, outs np ρ' = some os → At (fmk K mg (vs.take np) N.length) σ' H' ρ' (.v v d :: (vals (vs.drop np) (ds.drop np) ++ ts)) → Sim K mg H' (.v v d :: (vals vs (os ++ ds.drop np) ++ ts)) := fun {v d σ' H' ρ' os} ho a' => by
      have q := outs_sim ho hlt a'.par a'.sim
      have e2 : vals vs (os ++ ds.drop np) = vals (vs.take np) os ++ vals (vs.drop np) (ds.drop np) := by
        rw [← vals_append (by rw [hlt, (outs_ok ho).1]), List.take_append_drop]
      rw [e2, List.append_assoc]
      exact q.perm List.perm_middle
    split at hm
    · rename_i d0 ρ' hb
      split at hm
      · rename_i os ho
        cases hm
        exact ⟨_, _, .rt d, ρ', a, hb, fun v σ' H' a' => k v H' (fin ho a')⟩
      · cases hm
    · rename_i ρ' hb
      split at hm
      · rename_i os ho
        cases hm
        exact ⟨_, _, .nx, ρ', a, hb, fun σ' H' a' => k .non H' (fin ho (a'.mk' mk_non))⟩
      · cases hm
    · cases hm
  · cases hm
theorem fn_len {K : PySem.W.Frag} {mg : MG} {na np n : Nat} {body : SM} {vs : List V} {H : Hp} {Q : VK} {E : XK} (h : spD K mg (fnM na np n body) vs H Q E) : vs.length = na := by
  obtain ⟨ds, ts, d, ds', hl, s, hm, k⟩ := h
  unfold fnM at hm
  split at hm
  · rename_i hc; exact hl.trans hc.1
  · cases hm
end Dl

set_option Elab.async false
set_option linter.all false
set_option maxRecDepth 100000
set_option maxHeartbeats 1000000
/-! DL3: operators over data, len, subscripts, slices, displays. -/
namespace Dl
open PySem PySem.Spec PyProof.Rows L2

theorem OpR.or {X : Cx} {f : Value → Value → Sem Value} {r r' : R2} (h : OpR X f r) (h' : OpR X f r') : OpR X f (fun x y H Q => r x y H Q ∨ r' x y H Q) := by
  intro pins s σ H x y v u Q I rx ry q
  rcases q with q | q
  · exact h pins s σ H x y v u Q I rx ry q
  · exact h' pins s σ H x y v u Q I rx ry q

section
variable {K : PySem.W.Frag} {mg : MG} {H : Hp} {v : V}
theorem Rp.int_inv {i : Int} (h : Rp K mg H v (.int i)) : v = .int i := by cases h; rfl
theorem Rp.str_inv {s : Str} (h : Rp K mg H v (.str s)) : v = .str s := by cases h; rfl
theorem Rp.non_inv (h : Rp K mg H v .non) : v = .non := by cases h; rfl
theorem Rp.lst_inv {o : Bool} {ds : List D} (h : Rp K mg H v (.lst o ds)) : ∃ a xs, v = .ref a ∧ H a = some (.lst xs) ∧ RpL K mg H xs ds := by
  cases h with
  | lst e l => exact ⟨_, _, rfl, e, l⟩
theorem Rp.tup_inv {ds : List D} (h : Rp K mg H v (.tup ds)) : ∃ a xs, v = .ref a ∧ H a = some (.tup xs) ∧ RpL K mg H xs ds := by
  cases h with
  | tup e l => exact ⟨_, _, rfl, e, l⟩
theorem Rp.dk_inv {o : Bool} {ks ds : List D} (h : Rp K mg H v (.dic o .k ks ds)) : ∃ a kvs, v = .ref a ∧ Rd H a (.dK kvs) ∧ ks = kvs.map (fun p => kyD p.1) ∧ RpL K mg H (kvs.map (·.2)) ds := by
  cases h with
  | dk e q l => exact ⟨_, _, rfl, e, q, l⟩
theorem Rp.dt_inv {o : Bool} {ks ds : List D} (h : Rp K mg H v (.dic o .t ks ds)) : ∃ a kvs, v = .ref a ∧ Rd H a (.dT kvs) ∧ ks = kvs.map (fun p => ktD p.1) ∧ RpL K mg H (kvs.map (·.2)) ds := by
  cases h with
  | dt e q l => exact ⟨_, _, rfl, e, q, l⟩
theorem RpL.append : ∀ {xs ys : List V} {ds es : List D}, RpL K mg H xs ds → RpL K mg H ys es → RpL K mg H (xs ++ ys) (ds ++ es)
  | _, _, _, _, .nil, h => h
  | _, _, _, _, .cons o l, h => .cons o (RpL.append l h)
theorem RpL.take : ∀ {xs : List V} {ds : List D} (n : Nat), RpL K mg H xs ds → RpL K mg H (xs.take n) (ds.take n)
  | _, _, 0, _ => .nil
  | _, _, _ + 1, .nil => .nil
  | _, _, n + 1, .cons o l => .cons o (RpL.take n l)
theorem RpL.drop : ∀ {xs : List V} {ds : List D} (n : Nat), RpL K mg H xs ds → RpL K mg H (xs.drop n) (ds.drop n)
  | _, _, 0, h => h
  | _, _, _ + 1, .nil => .nil
  | _, _, n + 1, .cons o l => RpL.drop n l
theorem RpL.at_ : ∀ {xs : List V} {ds : List D} {i : Nat} {d : D}, RpL K mg H xs ds → ds[i]? = some d → ∃ x, xs[i]? = some x ∧ Rp K mg H x d
  | _, _, _, _, .nil, h => by simp at h
  | _, _, 0, _, .cons o l, h => by simp at h; subst h; exact ⟨_, rfl, o⟩
  | _, _, i + 1, _, .cons o l, h => by
    obtain ⟨x, h1, h2⟩ := RpL.at_ (i := i) l (by simpa using h)
    exact ⟨x, by simpa using h1, h2⟩
end
section
variable {K : PySem.W.Frag} {mg : MG} {H H' : Hp} {v : V} {d : D}
theorem mk_imm (r : Rp K mg H v d) (hi : d.imm = true) : Mk K mg H H v d := fun rs s => s.imm r hi
theorem mk_lst {xs : List V} {ds : List D} {p : Addr} (r : RpL K mg H xs ds) (hi : immL ds = true) (hp : H p = none) : Mk K mg H (upd H p (.lst xs)) (.ref p) (.lst true ds) := fun rs s => by
  have s1 := (s.imms r hi).alloc (o := .lst xs) hp
  exact Sim.foL s1 r.length
theorem mk_tup {xs : List V} {ds : List D} {p : Addr} (r : RpL K mg H xs ds) (hi : immL ds = true) (hp : H p = none) : Mk K mg H (upd H p (.tup xs)) (.ref p) (.tup ds) := fun rs s =>
  (s.imms r hi).newT r.length hp
theorem same_upd {p : Addr} {o : HO} (hp : H p = none) : Same H (upd H p o) := fun b u e => by rw [upd_ne (ne_of_none e hp)]; exact e
end

/-! ### numbers -/
/-- a number of less than k + 1 bits (told so that no big literal is ever compared) -/
def lg (k : Nat) (i : Int) : Bool := decide (i.natAbs.log2 < k)
theorem lg_lt {k : Nat} {i : Int} (h : lg k i = true) (hk : 0 < k) : i.natAbs < 2 ^ k := by
  have h' := of_decide_eq_true h
  by_cases h0 : i.natAbs = 0
  · rw [h0]; exact Nat.pow_pos (by decide)
  · exact (Nat.log2_lt h0).mp h'
theorem lg_of {k : Nat} {i : Int} (h : i.natAbs < 2 ^ k) (hk : 0 < k) : lg k i = true := by
  refine decide_eq_true ?_
  by_cases h0 : i.natAbs = 0
  · rw [h0]; simpa using hk
  · exact (Nat.log2_lt h0).mpr h
theorem lg60 {i : Int} (h : lg 60 i = true) : -1152921504606846976 < i ∧ i < 1152921504606846976 := by
  have := lg_lt h (by decide)
  omega
def opSub : D → D → Option D
  | .int i, .int j => some (.int (i - j))
  | _, _ => none
def opMul : D → D → Option D
  | .int i, .int j => if lg 62 i = true ∨ lg 62 j = true then some (.int (i * j)) else none
  | _, _ => none
def opFdiv : D → D → Option D
  | .int i, .int j => if 0 < j ∧ lg 30 j = true then some (.int (i / j)) else none
  | _, _ => none
def opMod : D → D → Option D
  | .int i, .int j => if 0 < j then some (.int (i % j)) else none
  | _, _ => none
def opPow : D → D → Option D
  | .int i, .int j => if 0 ≤ j ∧ lg 19 j = true ∧ lg 62 i = true then some (.int (i ^ j.toNat)) else none
  | _, _ => none
def opShl : D → D → Option D
  | .int i, .int j => if 0 ≤ j ∧ lg 19 j = true ∧ lg 62 i = true then some (.int (i * 2 ^ j.toNat)) else none
  | _, _ => none
def opShr : D → D → Option D
  | .int i, .int j => if 0 ≤ j then some (.int (i / 2 ^ j.toNat)) else none
  | _, _ => none
def opBand : D → D → Option D
  | .int i, .int j => some (.int (Builtin.bitAnd i j))
  | _, _ => none
def opBor : D → D → Option D
  | .int i, .int j => some (.int (Builtin.bitOr i j))
  | _, _ => none
def opBxor : D → D → Option D
  | .int i, .int j => some (.int (Builtin.bitXor i j))
  | _, _ => none
def opNeg : D → Option D
  | .int i => some (.int (-i))
  | _ => none
def opLt : D → D → Option D
  | .int i, .int j => some (.bl (decide (i < j)))
  | _, _ => none
def opLe : D → D → Option D
  | .int i, .int j => some (.bl (decide (i ≤ j)))
  | _, _ => none
def opGt : D → D → Option D
  | .int i, .int j => some (.bl (decide (j < i)))
  | _, _ => none
def opGe : D → D → Option D
  | .int i, .int j => some (.bl (decide (j ≤ i)))
  | _, _ => none
section
variable {K : PySem.W.Frag} {mg : MG}
theorem r_int0 {g : Int → Int → V} {gd : Int → Int → D} {op : D → D → Option D} (hm : ∀ i j H, Mk K mg H H (g i j) (gd i j)) (h : ∀ x y d, op x y = some d → ∃ i j, x = .int i ∧ y = .int j ∧ d = gd i j) : R2D K mg (rI0 g) op := by
  intro x y H dx dy d Q rx ry e k
  obtain ⟨i, j, rfl, rfl, rfl⟩ := h _ _ _ e
  obtain rfl := rx.int_inv
  obtain rfl := ry.int_inv
  exact ⟨i, j, rfl, rfl, k _ H (Same.refl H) (hm i j H)⟩
theorem r_intC {C : Int → Int → Prop} {g : Int → Int → V} {gd : Int → Int → D} {op : D → D → Option D} (hm : ∀ i j H, Mk K mg H H (g i j) (gd i j)) (h : ∀ x y d, op x y = some d → ∃ i j, x = .int i ∧ y = .int j ∧ C i j ∧ d = gd i j) : R2D K mg (rI C g) op := by
  intro x y H dx dy d Q rx ry e k
  obtain ⟨i, j, rfl, rfl, hc, rfl⟩ := h _ _ _ e
  obtain rfl := rx.int_inv
  obtain rfl := ry.int_inv
  exact ⟨i, j, rfl, rfl, hc, k _ H (Same.refl H) (hm i j H)⟩
theorem r_sub : R2D K mg (rI0 fun i j => .int (i - j)) opSub := r_int0 (gd := fun i j => .int (i - j)) (fun _ _ _ => mk_int _) fun x y d e => by
  cases x <;> cases y <;> simp [opSub] at e ⊢; exact e.symm
theorem r_band : R2D K mg (rI0 fun i j => .int (Builtin.bitAnd i j)) opBand := r_int0 (gd := fun i j => .int (Builtin.bitAnd i j)) (fun _ _ _ => mk_int _) fun x y d e => by
  cases x <;> cases y <;> simp [opBand] at e ⊢; exact e.symm
theorem r_bor : R2D K mg (rI0 fun i j => .int (Builtin.bitOr i j)) opBor := r_int0 (gd := fun i j => .int (Builtin.bitOr i j)) (fun _ _ _ => mk_int _) fun x y d e => by
  cases x <;> cases y <;> simp [opBor] at e ⊢; exact e.symm
theorem r_bxor : R2D K mg (rI0 fun i j => .int (Builtin.bitXor i j)) opBxor := r_int0 (gd := fun i j => .int (Builtin.bitXor i j)) (fun _ _ _ => mk_int _) fun x y d e => by
  cases x <;> cases y <;> simp [opBxor] at e ⊢; exact e.symm
theorem r_lt : R2D K mg (rI0 fun i j => .bl (decide (i < j))) opLt := r_int0 (gd := fun i j => .bl (decide (i < j))) (fun _ _ _ => mk_bl _) fun x y d e => by
  cases x <;> cases y <;> simp [opLt] at e ⊢; exact e.symm
theorem r_le : R2D K mg (rI0 fun i j => .bl (decide (i ≤ j))) opLe := r_int0 (gd := fun i j => .bl (decide (i ≤ j))) (fun _ _ _ => mk_bl _) fun x y d e => by
  cases x <;> cases y <;> simp [opLe] at e ⊢; exact e.symm
theorem r_gt : R2D K mg (rI0 fun i j => .bl (decide (j < i))) opGt := r_int0 (gd := fun i j => .bl (decide (j < i))) (fun _ _ _ => mk_bl _) fun x y d e => by
  cases x <;> cases y <;> simp [opGt] at e ⊢; exact e.symm
theorem r_ge : R2D K mg (rI0 fun i j => .bl (decide (j ≤ i))) opGe := r_int0 (gd := fun i j => .bl (decide (j ≤ i))) (fun _ _ _ => mk_bl _) fun x y d e => by
  cases x <;> cases y <;> simp [opGe] at e ⊢; exact e.symm
theorem cMul_of {i j : Int} (h : lg 62 i = true ∨ lg 62 j = true) : CMul i j := by
  unfold CMul
  rcases h with h | h
  · have := lg_lt h (by decide); left; omega
  · have := lg_lt h (by decide); right; omega
theorem cDiv_of {i j : Int} (h : 0 < j ∧ lg 30 j = true) : CDiv i j := by
  have := lg_lt h.2 (by decide)
  exact ⟨h.1, by omega⟩
theorem cPow_of {i j : Int} (h : 0 ≤ j ∧ lg 19 j = true ∧ lg 62 i = true) : CPow i j := by
  have h1 := lg_lt h.2.1 (by decide)
  have h2 := lg_lt h.2.2 (by decide)
  exact ⟨h.1, by omega, by omega⟩
theorem r_mul : R2D K mg (rI CMul fun i j => .int (i * j)) opMul := r_intC (gd := fun i j => .int (i * j)) (fun _ _ _ => mk_int _) fun x y d e => by
  cases x <;> cases y <;> simp only [opMul, reduceCtorEq] at e
  split at e
  · rename_i h; cases e; exact ⟨_, _, rfl, rfl, cMul_of h, rfl⟩
  · cases e
theorem r_fdiv : R2D K mg (rI CDiv fun i j => .int (i / j)) opFdiv := r_intC (gd := fun i j => .int (i / j)) (fun _ _ _ => mk_int _) fun x y d e => by
  cases x <;> cases y <;> simp only [opFdiv, reduceCtorEq] at e
  split at e
  · rename_i h; cases e; exact ⟨_, _, rfl, rfl, cDiv_of h, rfl⟩
  · cases e
theorem r_mod : R2D K mg (rI (fun _ j => 0 < j) fun i j => .int (i % j)) opMod := r_intC (gd := fun i j => .int (i % j)) (fun _ _ _ => mk_int _) fun x y d e => by
  cases x <;> cases y <;> simp only [opMod, reduceCtorEq] at e
  split at e
  · rename_i h; cases e; exact ⟨_, _, rfl, rfl, h, rfl⟩
  · cases e
theorem r_pow : R2D K mg (rI CPow fun i j => .int (i ^ j.toNat)) opPow := r_intC (gd := fun i j => .int (i ^ j.toNat)) (fun _ _ _ => mk_int _) fun x y d e => by
  cases x <;> cases y <;> simp only [opPow, reduceCtorEq] at e
  split at e
  · rename_i h; cases e; exact ⟨_, _, rfl, rfl, cPow_of h, rfl⟩
  · cases e
theorem r_shl : R2D K mg (rI CPow fun i j => .int (i * 2 ^ j.toNat)) opShl := r_intC (gd := fun i j => .int (i * 2 ^ j.toNat)) (fun _ _ _ => mk_int _) fun x y d e => by
  cases x <;> cases y <;> simp only [opShl, reduceCtorEq] at e
  split at e
  · rename_i h; cases e; exact ⟨_, _, rfl, rfl, cPow_of h, rfl⟩
  · cases e
theorem r_shr : R2D K mg (rI (fun _ j => 0 ≤ j) fun i j => .int (i / 2 ^ j.toNat)) opShr := r_intC (gd := fun i j => .int (i / 2 ^ j.toNat)) (fun _ _ _ => mk_int _) fun x y d e => by
  cases x <;> cases y <;> simp only [opShr, reduceCtorEq] at e
  split at e
  · rename_i h; cases e; exact ⟨_, _, rfl, rfl, h, rfl⟩
  · cases e
theorem r_neg : R1D K mg (rU fun i => .int (-i)) opNeg := by
  intro x H dx d Q rx e k
  cases dx <;> simp only [opNeg, reduceCtorEq] at e
  cases e
  obtain rfl := rx.int_inv
  exact ⟨_, rfl, k _ H (Same.refl H) (mk_int _)⟩

/-! ### + of numbers, texts, lists, tuples -/
def opAdd : D → D → Option D
  | .int i, .int j => some (.int (i + j))
  | .str a, .str b => if a.length + b.length ≤ sizeLine then some (.str (a ++ b)) else none
  | .lst _ xs, .lst _ ys => if xs.length + ys.length ≤ sizeLine ∧ immL xs = true ∧ immL ys = true then some (.lst true (xs ++ ys)) else none
  | .tup xs, .tup ys => if xs.length + ys.length ≤ sizeLine ∧ immL xs = true ∧ immL ys = true then some (.tup (xs ++ ys)) else none
  | _, _ => none
theorem immL_append : ∀ (xs ys : List D), immL (xs ++ ys) = (immL xs && immL ys)
  | [], ys => by simp [immL]
  | x :: xs, ys => by rw [List.cons_append, immL, immL, immL_append xs ys, Bool.and_assoc]
theorem immL_app {xs ys : List D} (h : immL xs = true) (h' : immL ys = true) : immL (xs ++ ys) = true := by rw [immL_append, h, h']; rfl
def rAddS : R2 := fun x y H Q => ∃ i j, x = .str i ∧ y = .str j ∧ i.length + j.length ≤ sizeLine ∧ Q (.str (i ++ j)) H
def rAddD (K : PySem.W.Frag) : R2 := fun x y H Q => rI0 (fun i j => .int (i + j)) x y H Q ∨ (rAddS x y H Q ∨ (rCat x y H Q ∨ rCatA K x y H Q))
theorem op_addD {X : Cx} : OpR X (binaryOp .Add) (rAddD X.K) := OpR.or op_add (OpR.or op_add_str (OpR.or op_cat op_catA))
theorem r_add : R2D K mg (rAddD K) opAdd := by
  intro x y H dx dy d Q rx ry e k
  cases dx <;> cases dy <;> simp only [opAdd, reduceCtorEq] at e
  · cases e
    obtain rfl := rx.int_inv
    obtain rfl := ry.int_inv
    exact .inl ⟨_, _, rfl, rfl, k _ H (Same.refl H) (mk_int _)⟩
  · split at e
    · rename_i h
      cases e
      obtain rfl := rx.str_inv
      obtain rfl := ry.str_inv
      exact .inr (.inl ⟨_, _, rfl, rfl, h, k _ H (Same.refl H) (mk_str _)⟩)
    · cases e
  · split at e
    · rename_i h
      cases e
      obtain ⟨a, xs, rfl, ha, la⟩ := rx.tup_inv
      obtain ⟨b, ys, rfl, hb, lb⟩ := ry.tup_inv
      have e1 := la.length
      have e2 := lb.length
      have im := immL_app h.2.1 h.2.2
      refine .inr (.inr (.inr ⟨a, b, xs, ys, rfl, rfl, SqT.of ha, SqT.of hb, by omega, fun q => ?_, fun q1 q2 => ?_, fun _ _ p hp => k _ _ (same_upd hp) (mk_tup (la.append lb) im hp)⟩))
      · subst q
        cases la
        exact k _ H (Same.refl H) (mk_imm ry (by simpa [D.imm] using h.2.2))
      · subst q2
        cases lb
        rw [List.append_nil] at k
        exact k _ H (Same.refl H) (mk_imm rx (by simpa [D.imm] using h.2.1))
    · cases e
  · split at e
    · rename_i h
      cases e
      obtain ⟨a, xs, rfl, ha, la⟩ := rx.lst_inv
      obtain ⟨b, ys, rfl, hb, lb⟩ := ry.lst_inv
      have e1 := la.length
      have e2 := lb.length
      have im := immL_app h.2.1 h.2.2
      exact .inr (.inr (.inl ⟨a, b, xs, ys, rfl, rfl, ha, hb, by omega, fun p hp => k _ _ (same_upd hp) (mk_lst (la.append lb) im hp)⟩))
    · cases e

/-! ### ==, != -/
def D.sv : D → Option V
  | .non => some .non
  | .bl b => some (.bl b)
  | .int i => some (.int i)
  | .str s => some (.str s)
  | _ => none
mutual
def D.py : D → PyData
  | .non => .none
  | .bl b => .bool b
  | .int i => .int i
  | .str s => .str s
  | .tup xs => .tuple (pyL xs)
  | .lst _ xs => .list (pyL xs)
  | .dic _ _ _ _ => .none
  | .obj _ _ _ _ => .none
  | .scr _ => .none
  | .exn _ _ _ => .none
def pyL : List D → List PyData
  | [] => []
  | d :: ds => d.py :: pyL ds
end
mutual
def D.dat : D → Bool
  | .non => true
  | .bl _ => true
  | .int _ => true
  | .str _ => true
  | .tup xs => datL xs
  | .lst _ xs => datL xs
  | .dic _ _ _ _ => false
  | .obj _ _ _ _ => false
  | .scr _ => false
  | .exn _ _ _ => false
def datL : List D → Bool
  | [] => true
  | d :: ds => d.dat && datL ds
end
mutual
theorem Rp.dp {H : Hp} : ∀ {v : V} {d : D}, Rp K mg H v d → d.dat = true → Dp K H v d.py
  | _, _, .non, _ => by rw [D.py]; exact .non
  | _, _, .bl b, _ => by rw [D.py]; exact .bl b
  | _, _, .int i, _ => by rw [D.py]; exact .int i
  | _, _, .str x, _ => by rw [D.py]; exact .str x
  | _, _, .tup z l, h => by rw [D.py]; exact .tup (SqT.of z) (RpL.dp l (by simpa [D.dat] using h))
  | _, _, .lst z l, h => by rw [D.py]; exact .lst (SqL.of z) (RpL.dp l (by simpa [D.dat] using h))
  | _, _, .dk _ _ _, h => by simp [D.dat] at h
  | _, _, .dt _ _ _, h => by simp [D.dat] at h
  | _, _, .obj _ _ _ _, h => by simp [D.dat] at h
  | _, _, .scr _, h => by simp [D.dat] at h
  | _, _, .exn _ _ _ _ _, h => by simp [D.dat] at h
theorem RpL.dp {H : Hp} : ∀ {vs : List V} {ds : List D}, RpL K mg H vs ds → datL ds = true → DpAll K H vs (pyL ds)
  | _, _, .nil, _ => by rw [pyL]; exact .nil
  | _, _, .cons o l, h => by
    simp only [datL, Bool.and_eq_true] at h
    rw [pyL]
    exact .cons (Rp.dp o h.1) (RpL.dp l h.2)
end
/-- what may be compared -/
def D.cmp (d : D) : Bool := d.dat && SeqAt.shaped d.py
def eqB (x y : D) : Option Bool := match x.sv, y.sv with
  | some a, some b => if scal a b = true then some (decide (a = b)) else if x.cmp = true ∧ y.cmp = true then some (PyData.eqv x.py y.py) else none
  | _, _ => if x.cmp = true ∧ y.cmp = true then some (PyData.eqv x.py y.py) else none
def opEq (x y : D) : Option D := match eqB x y with
  | some b => some (.bl b)
  | none => none
def opNe (x y : D) : Option D := match eqB x y with
  | some b => some (.bl (!b))
  | none => none
theorem Rp.sv {H : Hp} {v : V} {d : D} {w : V} (h : Rp K mg H v d) (e : d.sv = some w) : v = w := by
  cases h <;> simp [D.sv] at e <;> exact e
theorem eqB_cases {x y : D} {b : Bool} (h : eqB x y = some b) : (∃ a c, x.sv = some a ∧ y.sv = some c ∧ scal a c = true ∧ b = decide (a = c)) ∨ (x.cmp = true ∧ y.cmp = true ∧ b = PyData.eqv x.py y.py) := by
  unfold eqB at h
  split at h
  · rename_i a c ha hc
    split at h
    · rename_i hs
      cases h
      exact .inl ⟨a, c, ha, hc, hs, rfl⟩
    · split at h
      · rename_i hq; cases h; exact .inr ⟨hq.1, hq.2, rfl⟩
      · cases h
  · split at h
    · rename_i hq; cases h; exact .inr ⟨hq.1, hq.2, rfl⟩
    · cases h
theorem cmp_dp {H : Hp} {v : V} {d : D} (r : Rp K mg H v d) (h : d.cmp = true) : Dp K H v d.py ∧ SeqAt.shaped d.py = true := by
  unfold D.cmp at h
  rw [Bool.and_eq_true] at h
  exact ⟨r.dp h.1, h.2⟩
theorem r_eq : R2D K mg (fun x y H Q => rEq x y H Q ∨ rEqD K x y H Q) opEq := by
  intro x y H dx dy d Q rx ry e k
  unfold opEq at e
  split at e
  · rename_i b hb
    cases e
    rcases eqB_cases hb with ⟨a, c, ha, hc, hs, rfl⟩ | ⟨h1, h2, rfl⟩
    · obtain rfl := rx.sv ha
      obtain rfl := ry.sv hc
      exact .inl ⟨hs, k _ H (Same.refl H) (mk_bl _)⟩
    · exact .inr ⟨_, _, (cmp_dp rx h1).1, (cmp_dp ry h2).1, (cmp_dp rx h1).2, (cmp_dp ry h2).2, k _ H (Same.refl H) (mk_bl _)⟩
  · cases e
theorem r_ne : R2D K mg (fun x y H Q => rNe x y H Q ∨ rNeD K x y H Q) opNe := by
  intro x y H dx dy d Q rx ry e k
  unfold opNe at e
  split at e
  · rename_i b hb
    cases e
    rcases eqB_cases hb with ⟨a, c, ha, hc, hs, rfl⟩ | ⟨h1, h2, rfl⟩
    · obtain rfl := rx.sv ha
      obtain rfl := ry.sv hc
      exact .inl ⟨hs, k _ H (Same.refl H) (mk_bl _)⟩
    · exact .inr ⟨_, _, (cmp_dp rx h1).1, (cmp_dp ry h2).1, (cmp_dp rx h1).2, (cmp_dp ry h2).2, k _ H (Same.refl H) (mk_bl _)⟩
  · cases e
theorem op_eqA {X : Cx} (hu : X.A.units + 64 < cLine) : OpR X (compareOp .Eq) (fun x y H Q => rEq x y H Q ∨ rEqD X.K x y H Q) := OpR.or op_eq (op_eqD hu)
theorem op_neA {X : Cx} (hu : X.A.units + 64 < cLine) : OpR X (compareOp .NotEq) (fun x y H Q => rNe x y H Q ∨ rNeD X.K x y H Q) := OpR.or op_ne (op_neD hu)
/-- is None, is not None -/
def opIsN : D → D → Option D
  | x, .non => some (.bl (match x with | .non => true | _ => false))
  | _, _ => none
def opNotN : D → D → Option D
  | x, .non => some (.bl (match x with | .non => false | _ => true))
  | _, _ => none
theorem r_isN : R2D K mg (fun x y H Q => y = .non ∧ Q (.bl (decide (x = .non))) H) opIsN := by
  intro x y H dx dy d Q rx ry e k
  cases dy <;> simp only [opIsN, reduceCtorEq] at e
  cases e
  refine ⟨ry.non_inv, ?_⟩
  cases rx <;> exact k _ H (Same.refl H) (mk_bl _)
theorem r_notN : R2D K mg (fun x y H Q => y = .non ∧ Q (.bl (!decide (x = .non))) H) opNotN := by
  intro x y H dx dy d Q rx ry e k
  cases dy <;> simp only [opNotN, reduceCtorEq] at e
  cases e
  refine ⟨ry.non_inv, ?_⟩
  cases rx <;> exact k _ H (Same.refl H) (mk_bl _)
end
end Dl

set_option Elab.async false
set_option linter.all false
set_option maxRecDepth 100000
set_option maxHeartbeats 1000000
/-! DL4: equality of data, dicts read, subscripts, in, len, slices, displays, built-ins by one or two values. -/
namespace Dl
open PySem PySem.Spec PyProof.Rows L2

/-! ### dicts read -/
def lookD : List D → List D → D → Option D
  | k :: ks, v :: vs, q => if k = q then some v else lookD ks vs q
  | _, _, _ => none
def D.key : D → Option Key
  | .int i => some (.inl i)
  | .str s => some (.inr s)
  | _ => none
def keysL : List D → Option (List Key)
  | [] => some []
  | d :: ds => match d.key, keysL ds with
    | some k, some ks => some (k :: ks)
    | _, _ => none
/-- a key of a dict of that sort -/
def keyOk (kd : Kd) (d : D) : Bool := match kd with
  | .k => d.key.isSome
  | .t => match d with
    | .tup ds => (keysL ds).isSome
    | _ => false
  | .n => false
theorem key_kyD {d : D} {k : Key} (h : d.key = some k) : d = kyD k := by
  cases d <;> simp [D.key] at h <;> subst h <;> rfl
theorem keysL_kyD : ∀ {ds : List D} {l : List Key}, keysL ds = some l → ds = l.map kyD
  | [], l, h => by simp [keysL] at h; subst h; rfl
  | d :: ds, l, h => by
    simp only [keysL] at h
    split at h
    · rename_i k ks hk hks
      cases h
      rw [key_kyD hk, keysL_kyD hks]; rfl
    · cases h
theorem kyD_inj {a b : Key} (h : kyD a = kyD b) : a = b := by
  cases a <;> cases b <;> simp [kyD] at h <;> simp [h]
theorem kyDs_inj : ∀ {a b : List Key}, a.map kyD = b.map kyD → a = b
  | [], [], _ => rfl
  | [], _ :: _, h => by simp at h
  | _ :: _, [], h => by simp at h
  | x :: a, y :: b, h => by
    simp only [List.map_cons, List.cons.injEq] at h
    rw [kyD_inj h.1, kyDs_inj h.2]
theorem ktD_inj {a b : List Key} (h : ktD a = ktD b) : a = b := by
  simp only [ktD, D.tup.injEq] at h
  exact kyDs_inj h
section
variable {K : PySem.W.Frag} {mg : MG} {H : Hp}
theorem Rp.ky {v : V} {k : Key} (h : Rp K mg H v (kyD k)) : v = kV k := by
  cases k with
  | inl i => exact Rp.int_inv h
  | inr s => exact Rp.str_inv h
theorem RpL.kys : ∀ {xs : List V} {l : List Key}, RpL K mg H xs (l.map kyD) → xs = l.map kV
  | _, [], h => by cases h; rfl
  | _, k :: l, h => by
    cases h with
    | cons o r => rw [o.ky, RpL.kys r]; rfl
theorem Rp.kt {v : V} {l : List Key} (h : Rp K mg H v (ktD l)) : ∃ b, v = .ref b ∧ H b = some (.tup (l.map kV)) := by
  obtain ⟨a, xs, e, h1, h2⟩ := Rp.tup_inv h
  rw [h2.kys] at h1
  exact ⟨a, e, h1⟩
/-- what a look-up over data tells of the look-up over values -/
theorem look_val {κ : Type} [DecidableEq κ] {f : κ → D} (hf : ∀ a b, f a = f b → a = b) : ∀ {kvs : List (κ × V)} {ds : List D} {k : κ}, kvs.length = ds.length →
    (match lookD (kvs.map fun p => f p.1) ds (f k) with
      | some d => ∃ (i : Nat) (z : V), valV kvs k = some z ∧ (kvs.map (·.2))[i]? = some z ∧ ds[i]? = some d
      | none => valV kvs k = none)
  | [], ds, k, _ => by simp [lookD, valV]
  | p :: kvs, [], k, h => by simp at h
  | p :: kvs, d :: ds, k, h => by
    have ih := look_val (f := f) hf (kvs := kvs) (ds := ds) (k := k) (by simpa using h)
    simp only [List.map_cons, lookD]
    by_cases e : p.1 = k
    · rw [if_pos (by rw [e])]
      exact ⟨0, p.2, valV_pos e, rfl, rfl⟩
    · rw [if_neg (fun z => e (hf _ _ z))]
      cases q : lookD (kvs.map fun p => f p.1) ds (f k) with
      | none => rw [q] at ih; rw [valV_neg e]; exact ih
      | some d' =>
        rw [q] at ih
        obtain ⟨i, z, h1, h2, h3⟩ := ih
        exact ⟨i + 1, z, by rw [valV_neg e]; exact h1, by simpa using h2, by simpa using h3⟩
theorem look_k {kvs : List (Key × V)} {ds : List D} {k : Key} (hl : kvs.length = ds.length) : (match lookD (kvs.map fun p => kyD p.1) ds (kyD k) with
      | some d => ∃ (i : Nat) (z : V), valV kvs k = some z ∧ (kvs.map (·.2))[i]? = some z ∧ ds[i]? = some d
      | none => valV kvs k = none) := look_val (f := kyD) (fun _ _ => kyD_inj) hl
theorem look_t {kvs : List (List Key × V)} {ds : List D} {k : List Key} (hl : kvs.length = ds.length) : (match lookD (kvs.map fun p => ktD p.1) ds (ktD k) with
      | some d => ∃ (i : Nat) (z : V), valV kvs k = some z ∧ (kvs.map (·.2))[i]? = some z ∧ ds[i]? = some d
      | none => valV kvs k = none) := look_val (f := ktD) (fun _ _ => ktD_inj) hl
/-- a dict and a key of its sort -/
theorem dget {x y : V} {o : Bool} {kd : Kd} {ks ds : List D} {q : D} (rx : Rp K mg H x (.dic o kd ks ds)) (ry : Rp K mg H y q) (hq : keyOk kd q = true) :
    ∃ a r, x = .ref a ∧ DGet H a y r ∧ (match lookD ks ds q with
      | some d => ∃ z, r = some z ∧ Sub H x (.dic o kd ks ds) z d
      | none => r = none) := by
  cases kd with
  | k =>
    obtain ⟨a, kvs, rfl, hr, rfl, hl⟩ := rx.dk_inv
    have hq' : q.key.isSome = true := hq
    obtain ⟨k, hk⟩ := Option.isSome_iff_exists.mp hq'
    have e := key_kyD hk
    subst e
    have ey := ry.ky
    subst ey
    have lk := look_k (kvs := kvs) (ds := ds) (k := k) (by simpa using hl.length)
    refine ⟨a, valV kvs k, rfl, .inl ⟨kvs, k, hr, rfl, rfl⟩, ?_⟩
    cases q : lookD (kvs.map fun p => kyD p.1) ds (kyD k) with
    | none => rw [q] at lk; exact lk
    | some d =>
      rw [q] at lk
      obtain ⟨i, z, h1, h2, h3⟩ := lk
      exact ⟨z, h1, .dk hr h2 h3 (.refl _ _)⟩
  | t =>
    obtain ⟨a, kvs, rfl, hr, rfl, hl⟩ := rx.dt_inv
    cases q with
    | tup qs =>
      have hq' : (keysL qs).isSome = true := hq
      obtain ⟨k, hk⟩ := Option.isSome_iff_exists.mp hq'
      have e := keysL_kyD hk
      subst e
      obtain ⟨b, rfl, hb⟩ := Rp.kt (l := k) ry
      have lk := look_t (kvs := kvs) (ds := ds) (k := k) (by simpa using hl.length)
      refine ⟨a, valV kvs k, rfl, .inr ⟨kvs, k, b, hr, rfl, hb, rfl⟩, ?_⟩
      show (match lookD (kvs.map fun p => ktD p.1) ds (ktD k) with | some d => _ | none => _)
      cases q : lookD (kvs.map fun p => ktD p.1) ds (ktD k) with
      | none => rw [q] at lk; exact lk
      | some d =>
        rw [q] at lk
        obtain ⟨i, z, h1, h2, h3⟩ := lk
        exact ⟨z, h1, .dt hr h2 h3 (.refl _ _)⟩
    | _ => simp [keyOk] at hq
  | n => simp [keyOk] at hq
end

/-! ### a part of a value -/
def R2A (K : PySem.W.Frag) (mg : MG) (r : R2) (op : D → D → Option D) : Prop :=
  ∀ (x y : V) (H : Hp) (dx dy d : D) (Q : VK), Rp K mg H x dx → Rp K mg H y dy → op dx dy = some d → (∀ z, (Sub H x dx z d ∨ (Rp K mg H z d ∧ d.imm = true)) → Q z H) → r x y H Q
/-- .. as a value of its own -/
def eIx (op : D → D → Option D) (a b : EM) : EM := fun ρ => match a ρ with
  | some (x, ρ1) => match b ρ1 with
    | some (y, ρ2) => match op x y with
      | some d => if d.stable = true then some (d, ρ2) else none
      | none => none
    | none => none
  | none => none
def eIxP (op : D → D → Option D) (a : EM) (b : PM) : EM := fun ρ => match a ρ with
  | some (x, ρ1) => match b ρ1 with
    | some y => match op x y with
      | some d => if d.stable = true then some (d, ρ1) else none
      | none => none
    | none => none
  | none => none
section
variable {F : Fm} {r : R2} {op : D → D → Option D} {fa fb : PM} {ea eb : EM}
theorem imp_ixP (hr : R2A F.K F.mg r op) : ∀ σ H Q, tP F (pOp2 op fa fb) σ H Q → tOp r (tP F fa) (tP F fb) σ H Q := fun σ H Q ⟨ρ, ts, d, a, e, k⟩ => by
  unfold pOp2 at e
  split at e
  · rename_i x y ex ey
    refine ⟨ρ, ts, x, a, ex, fun v H1 g1 rx cx => ⟨ρ, ts, y, a.grow g1, ey, fun w H2 g2 ry _ => ?_⟩⟩
    refine hr v w H2 x y d Q (rx.grow g2) ry e fun z hz => ?_
    rcases hz with q | ⟨rz, hi⟩
    · exact k z H2 (g1.trans g2) (Rp.sub q (rx.grow g2)) fun H3 g3 v1 d1 q1 hs => cx H3 (g2.trans g3) v1 d1 ((q.grow g3).trans q1) hs
    · exact k z H2 (g1.trans g2) rz (Cj.of (((a.grow g1).grow g2).mk' (mk_imm rz hi)))
  · cases e
theorem imp_ixE (hr : R2A F.K F.mg r op) : ∀ σ H Q, tD F (eIx op ea eb) σ H Q → tOp r (tD F ea) (tD F eb) σ H Q := fun σ H Q ⟨ρ, ts, d, ρ', a, e, k⟩ => by
  unfold eIx at e
  split at e
  · rename_i x ρ1 ex
    split at e
    · rename_i y ρ2 ey
      split at e
      · rename_i d' ed
        split at e
        · rename_i hst
          cases e
          refine ⟨ρ, ts, x, ρ1, a, ex, fun v H1 a1 => ⟨ρ1, _, y, _, a1, ey, fun w H2 a2 => ?_⟩⟩
          have s2 : Sim F.K F.mg H2 (.v w y :: .v v x :: (ts ++ slotR σ _)) := a2.front
          refine hr v w H2 x y d Q s2.tail.rp s2.rp ed fun z hz => k z H2 ?_
          rcases hz with q | ⟨rz, hi⟩
          · have s3 := (s2.tail.sub q hst).perm (.swap _ _ _)
            exact a2.of_front s3.tail
          · exact (a2.of_front s2.tail.tail).mk' (mk_imm rz hi)
        · cases e
      · cases e
    · cases e
  · cases e
theorem imp_ixEP (hr : R2A F.K F.mg r op) : ∀ σ H Q, tD F (eIxP op ea fb) σ H Q → tOp r (tD F ea) (tP F fb) σ H Q := fun σ H Q ⟨ρ, ts, d, ρ', a, e, k⟩ => by
  unfold eIxP at e
  split at e
  · rename_i x ρ1 ex
    split at e
    · rename_i y ey
      split at e
      · rename_i d' ed
        split at e
        · rename_i hst
          cases e
          refine ⟨ρ, ts, x, _, a, ex, fun v H1 a1 => ⟨_, _, y, a1, ey, fun w H2 g2 ry _ => ?_⟩⟩
          have s2 : Sim F.K F.mg H2 (.v v x :: (ts ++ slotR σ _)) := (a1.grow g2).front
          refine hr v w H2 x y d Q s2.rp ry ed fun z hz => k z H2 ?_
          rcases hz with q | ⟨rz, hi⟩
          · have s3 := (s2.sub q hst).perm (.swap _ _ _)
            exact (a1.grow g2).of_front s3.tail
          · exact ((a1.grow g2).of_front s2.tail).mk' (mk_imm rz hi)
        · cases e
      · cases e
    · cases e
  · cases e
/-- the left one a name: it is looked at behind the right one -/
theorem imp_ixV {i : Nat} (hr : R2A F.K F.mg r op) : ∀ σ H Q, tD F (eOpV op i eb) σ H Q → tOp r (tVar i) (tD F eb) σ H Q := fun σ H Q ⟨ρ, ts, d, ρ', a, e, k⟩ => by
  unfold eOpV at e
  split at e
  · rename_i d0 h0
    split at e
    · rename_i y ρ1 ey
      split at e
      · rename_i x ex
        split at e
        · rename_i d' ed
          split at e
          · rename_i hst
            cases e
            obtain ⟨v, hv⟩ := a.fit i d0 (getD_some h0)
            refine ⟨v, hv, ρ, ts, y, _, a, ey, fun w H2 a2 => ?_⟩
            obtain ⟨v', hv', s⟩ := a2.slot (getD_some ex)
            rw [hv] at hv'; cases hv'
            have ry : Rp F.K F.mg H2 w y := (a2.front).rp
            refine hr v w H2 x y d Q s.rp ry ed fun z hz => k z H2 ?_
            rcases hz with q | ⟨rz, hi⟩
            · have s3 := s.sub q hst
              have s4 : Sim F.K F.mg H2 (slotR σ ρ' ++ (.v z d :: .v w y :: ts)) := s3.perm (by
                refine List.Perm.trans ?_ List.perm_middle.symm
                refine List.Perm.cons _ ?_
                exact ((slotR_out hv (getD_some ex)).symm.append_right _))
              exact (a2.temps (s4.perm (List.Perm.append_left _ (List.Perm.swap _ _ _)))).tail
            · exact a2.tail.mk' (mk_imm rz hi)
          · cases e
        · cases e
      · cases e
    · cases e
  · cases e
end

/-! ### subscripts -/
def atD (ds : List D) (i : Int) : Option D := atI ds i
def opIx : D → D → Option D
  | .lst _ xs, .int i => atD xs i
  | .tup xs, .int i => atD xs i
  | .str s, .int i => if s.length ≤ sizeLine then (atI s.cps.toList i).map fun c => .str ⟨#[c]⟩ else none
  | .scr ns, .int i => (atI ns i).map .int
  | .dic _ kd ks vs, q => if keyOk kd q = true then lookD ks vs q else none
  | _, _ => none
def rIxDc : R2 := fun x y H Q => ∃ a v, x = .ref a ∧ DGet H a y (some v) ∧ Q v H
theorem ix_dict {X : Cx} (hu : X.A.units + 1 < cLine) : IxR X rIxDc := by
  intro value slice pins s σ H x y v u Q I rx ry h hs
  obtain ⟨a, w, rfl, g, q⟩ := h
  obtain rfl : v = Value.ref a := rx
  exact tail_any (dict_typeIs I g) PySem.F.slot_dict_getitem.lookup (d_getItem hu I g ry fun w' s3 I3 rw' => ⟨w, H, I3, rw', q⟩) hs
def rIxAll (K : PySem.W.Frag) : R2 := fun x y H Q => rIx K x y H Q ∨ rIxDc x y H Q
theorem ix_all {X : Cx} (hu : X.A.units + 1 < cLine) : IxR X (rIxAll X.K) := IxR.or ix_seq (ix_dict hu)
section
variable {K : PySem.W.Frag} {mg : MG}
theorem atI_rpL {H : Hp} {xs : List V} {ds : List D} {i : Int} {d : D} (l : RpL K mg H xs ds) (e : atI ds i = some d) : ∃ (j : Nat) (x : V), atI xs i = some x ∧ xs[j]? = some x ∧ ds[j]? = some d := by
  unfold atI at e ⊢
  rw [l.length]
  cases q : ixN ds.length i with
  | none => rw [q] at e; cases e
  | some j =>
    rw [q] at e
    have e' : ds[j]? = some d := e
    obtain ⟨x, h1, _⟩ := l.at_ e'
    exact ⟨j, x, h1, h1, e'⟩
theorem atI_map {α β : Type} {f : α → β} {xs : List α} {i : Int} : atI (xs.map f) i = (atI xs i).map f := by
  unfold atI
  rw [List.length_map]
  cases ixN xs.length i with
  | none => rfl
  | some j => simp
theorem r_ix : R2A K mg (rIxAll K) opIx := by
  intro x y H dx dy d Q rx ry e k
  cases dx with
  | lst o xs =>
    cases dy <;> simp only [opIx, reduceCtorEq] at e
    obtain rfl := ry.int_inv
    obtain ⟨a, vs, rfl, ha, l⟩ := rx.lst_inv
    obtain ⟨j, z, h1, h2, h3⟩ := atI_rpL l e
    exact .inl (.inl ⟨a, vs, _, z, rfl, rfl, SqL.of ha, h1, k z (.inl (.lst ha h2 h3 (.refl _ _)))⟩)
  | tup xs =>
    cases dy <;> simp only [opIx, reduceCtorEq] at e
    obtain rfl := ry.int_inv
    obtain ⟨a, vs, rfl, ha, l⟩ := rx.tup_inv
    obtain ⟨j, z, h1, h2, h3⟩ := atI_rpL l e
    exact .inl (.inr (.inl ⟨a, vs, _, z, rfl, rfl, SqT.of ha, h1, k z (.inl (.tup ha h2 h3 (.refl _ _)))⟩))
  | str s =>
    cases dy <;> simp only [opIx, reduceCtorEq] at e
    obtain rfl := ry.int_inv
    obtain rfl := rx.str_inv
    split at e
    · rename_i hz
      obtain ⟨c, hc, rfl⟩ := Option.map_eq_some_iff.mp e
      exact .inl (.inr (.inr ⟨s, _, c, rfl, rfl, hz, hc, k _ (.inr ⟨.str _, by simp [D.imm]⟩)⟩))
    · cases e
  | scr ns =>
    cases dy <;> simp only [opIx, reduceCtorEq] at e
    obtain rfl := ry.int_inv
    obtain ⟨n, hn, rfl⟩ := Option.map_eq_some_iff.mp e
    cases rx with
    | scr hs => exact .inl (.inl ⟨_, _, _, .int n, rfl, rfl, hs, by rw [atI_map, hn]; rfl, k _ (.inr ⟨.int _, by simp [D.imm]⟩)⟩)
  | dic o kd ks vs =>
    simp only [opIx] at e
    split at e
    · rename_i hq
      obtain ⟨a, rr, hx, g, lk⟩ := dget rx ry hq
      rw [e] at lk
      obtain ⟨z, rfl, sb⟩ := lk
      exact .inr ⟨a, z, hx, g, k z (.inl sb)⟩
    · cases e
  | _ => simp [opIx] at e
end
section
variable {X : Cx} {vs0 : List V} {pos : Pos} {a b : Expr} {fa fb : PM} {ea eb : EM}
theorem p_ix (hu : X.A.units + 1 < cLine) (ha : PE X a (tP (fm X vs0) fa)) (hb : PE X b (tP (fm X vs0) fb)) (hs : PlainIx b := by exact fun _ _ => rfl) : PE X (.Subscript a b pos) (tP (fm X vs0) (pOp2 opIx fa fb)) := (pe_ix (ix_all hu) ha hb hs).imp (imp_ixP r_ix)
theorem e_ix (hu : X.A.units + 1 < cLine) (ha : PE X a (tD (fm X vs0) ea)) (hb : PE X b (tD (fm X vs0) eb)) (hs : PlainIx b := by exact fun _ _ => rfl) : PE X (.Subscript a b pos) (tD (fm X vs0) (eIx opIx ea eb)) := (pe_ix (ix_all hu) ha hb hs).imp (imp_ixE r_ix)
theorem e_ixP (hu : X.A.units + 1 < cLine) (ha : PE X a (tD (fm X vs0) ea)) (hb : PE X b (tP (fm X vs0) fb)) (hs : PlainIx b := by exact fun _ _ => rfl) : PE X (.Subscript a b pos) (tD (fm X vs0) (eIxP opIx ea fb)) := (pe_ix (ix_all hu) ha hb hs).imp (imp_ixEP r_ix)
theorem e_ixV {x : Str} {p : Pos} (i : Nat) (hu : X.A.units + 1 < cLine) (hb : PE X b (tD (fm X vs0) eb)) (hs : PlainIx b := by exact fun _ _ => rfl) (hN : X.N[i]? = some x := by rfl) (hv : Vis X.env.scope x := by first | exact Or.inl rfl | exact Or.inr (Or.inl rfl) | exact Or.inr (Or.inr rfl)) (hd : (x == ("__debug__" : Str)) = false := by decide)
    (hcd : (x == ("__classdict__" : Str)) = false := by decide) : PE X (.Subscript (.Name x p) b pos) (tD (fm X vs0) (eOpV opIx i eb)) := (pe_ix (ix_all hu) (pv i hN hv hd hcd) hb hs).imp (imp_ixV r_ix)
end

/-! ### in, not in -/
def svL : List D → Option (List V)
  | [] => some []
  | d :: ds => match d.sv, svL ds with
    | some v, some vs => some (v :: vs)
    | _, _ => none
def inSeq (x : D) (ys : List D) : Option Bool := match x.sv, svL ys with
  | some a, some bs => some (inV a bs)
  | _, _ => if x.cmp = true ∧ (D.lst false ys).cmp = true then some ((pyL ys).any fun z => PyData.eqv z x.py) else none
def inB (x y : D) : Option Bool := match y with
  | .str t => match x with
    | .str s => match s.cps.toList with
      | [c] => some (decide (c ∈ t.cps.toList))
      | _ => none
    | _ => none
  | .lst _ ys => inSeq x ys
  | .tup ys => match x.sv, svL ys with
    | some a, some bs => some (inV a bs)
    | _, _ => none
  | .dic _ kd ks vs => if keyOk kd x = true then some (lookD ks vs x).isSome else none
  | _ => none
def opIn (x y : D) : Option D := match inB x y with
  | some b => some (.bl b)
  | none => none
def opNi (x y : D) : Option D := match inB x y with
  | some b => some (.bl (!b))
  | none => none
def rInSg (n : Bool) : R2 := fun x y H Q => ∃ (c : Nat) (z : Str), x = .str ⟨#[c]⟩ ∧ y = .str z ∧ Q (.bl (if n = true then !decide (c ∈ z.cps.toList) else decide (c ∈ z.cps.toList))) H
def rInDc (n : Bool) : R2 := fun y x H Q => ∃ a o, x = .ref a ∧ DGet H a y o ∧ Q (.bl (if n = true then !o.isSome else o.isSome)) H
def rInAll (K : PySem.W.Frag) : R2 := fun x y H Q => rInSg false x y H Q ∨ (rIn K false x y H Q ∨ (rInD K x y H Q ∨ rInDc false x y H Q))
def rNiAll (K : PySem.W.Frag) : R2 := fun x y H Q => rInSg true x y H Q ∨ (rIn K true x y H Q ∨ (rNotInD K x y H Q ∨ rInDc true x y H Q))
section
variable {X : Cx}
theorem op_inDc (hu : X.A.units + 1 < cLine) : OpR X (compareOp .In) (rInDc false) := by
  intro pins s σ H x y v u Q I rx ry h
  obtain ⟨a, o, rfl, g, q⟩ := h
  obtain rfl : u = Value.ref a := ry
  exact d_in hu I g rx fun s3 I3 => ⟨.bl o.isSome, H, I3, rfl, q⟩
theorem op_niDc (hu : X.A.units + 1 < cLine) : OpR X (compareOp .NotIn) (rInDc true) := by
  intro pins s σ H x y v u Q I rx ry h
  obtain ⟨a, o, rfl, g, q⟩ := h
  obtain rfl : u = Value.ref a := ry
  exact d_notIn hu I g rx fun s3 I3 => ⟨.bl (!o.isSome), H, I3, rfl, q⟩
theorem op_inAll (hu : X.A.units + 65 < cLine) : OpR X (compareOp .In) (rInAll X.K) := OpR.or op_in_sign (OpR.or op_in_seq (OpR.or (op_inD hu) (op_inDc (by omega))))
theorem op_niAll (hu : X.A.units + 65 < cLine) : OpR X (compareOp .NotIn) (rNiAll X.K) := OpR.or op_notIn_sign (OpR.or op_notIn_seq (OpR.or (op_notInD hu) (op_niDc (by omega))))
end
section
variable {K : PySem.W.Frag} {mg : MG}
theorem RpL.sv {H : Hp} : ∀ {xs : List V} {ds : List D} {ws : List V}, RpL K mg H xs ds → svL ds = some ws → xs = ws
  | _, [], ws, h, e => by cases h; simp [svL] at e; exact e.symm ▸ rfl
  | _, d :: ds, ws, h, e => by
    cases h with
    | cons o l =>
      simp only [svL] at e
      split at e
      · rename_i v vs hv hvs
        cases e
        rw [Rp.sv o hv, RpL.sv l hvs]
      · cases e
theorem sv_flat {d : D} {v : V} (h : d.sv = some v) : flatV v = true := by cases d <;> simp [D.sv] at h <;> subst h <;> rfl
theorem svL_flat : ∀ {ds : List D} {vs : List V}, svL ds = some vs → vs.all flatV = true
  | [], vs, h => by simp [svL] at h; subst h; rfl
  | d :: ds, vs, h => by
    simp only [svL] at h
    split at h
    · rename_i v ws hv hws
      cases h
      rw [List.all_cons, sv_flat hv, svL_flat hws]; rfl
    · cases h
/-- what `in` tells, either way -/
theorem in_cases {H : Hp} {x y : V} {dx dy : D} {b : Bool} (rx : Rp K mg H x dx) (ry : Rp K mg H y dy) (e : inB dx dy = some b) :
    (∃ (c : Nat) (z : Str), x = .str ⟨#[c]⟩ ∧ y = .str z ∧ b = decide (c ∈ z.cps.toList)) ∨
    (∃ p xs, y = .ref p ∧ (SqL K H p xs ∨ SqT K H p xs) ∧ flatV x = true ∧ xs.all flatV = true ∧ b = inV x xs) ∨
    (∃ d ds, Dp K H x d ∧ Dp K H y (.list ds) ∧ SeqAt.shaped d = true ∧ SeqAt.shaped (.list ds) = true ∧ b = ds.any fun z => PyData.eqv z d) ∨
    (∃ a o, y = .ref a ∧ DGet H a x o ∧ b = o.isSome) := by
  cases dy with
  | str t =>
    simp only [inB] at e
    cases dx with
    | str s =>
      simp only at e
      split at e
      · rename_i c hc
        cases e
        obtain rfl := rx.str_inv
        obtain rfl := ry.str_inv
        refine .inl ⟨c, t, ?_, rfl, rfl⟩
        have : s.cps = #[c] := by
          have := congrArg List.toArray hc
          simpa using this
        cases s
        simp only at this
        rw [this]
      · cases e
    | _ => simp at e
  | lst o ys =>
    obtain ⟨a, xs, rfl, ha, l⟩ := ry.lst_inv
    simp only [inB, inSeq] at e
    split at e
    · rename_i v ws hv hws
      cases e
      obtain rfl := rx.sv hv
      have ew := l.sv hws
      subst ew
      exact .inr (.inl ⟨a, xs, rfl, .inl (SqL.of ha), sv_flat hv, svL_flat hws, rfl⟩)
    · split at e
      · rename_i hc
        cases e
        have c1 := cmp_dp rx hc.1
        have ry' : Rp K mg H (.ref a) (.lst false ys) := .lst ha l
        have c2 := cmp_dp ry' hc.2
        rw [D.py] at c2
        exact .inr (.inr (.inl ⟨_, _, c1.1, c2.1, c1.2, c2.2, rfl⟩))
      · cases e
  | tup ys =>
    obtain ⟨a, xs, rfl, ha, l⟩ := ry.tup_inv
    simp only [inB] at e
    split at e
    · rename_i v ws hv hws
      cases e
      obtain rfl := rx.sv hv
      have ew := l.sv hws
      subst ew
      exact .inr (.inl ⟨a, xs, rfl, .inr (SqT.of ha), sv_flat hv, svL_flat hws, rfl⟩)
    · cases e
  | dic o kd ks vs =>
    simp only [inB] at e
    split at e
    · rename_i hq
      cases e
      obtain ⟨a, rr, hy, g, lk⟩ := dget ry rx hq
      refine .inr (.inr (.inr ⟨a, rr, hy, g, ?_⟩))
      cases q : lookD ks vs dx with
      | none => rw [q] at lk; rw [show rr = none from lk]; rfl
      | some d => rw [q] at lk; obtain ⟨z, rfl, _⟩ := lk; rfl
    · cases e
  | _ => simp [inB] at e
theorem r_in : R2D K mg (rInAll K) opIn := by
  intro x y H dx dy d Q rx ry e k
  unfold opIn at e
  split at e
  · rename_i b hb
    cases e
    have fin := k (.bl b) H (Same.refl H) (mk_bl _)
    rcases in_cases rx ry hb with ⟨c, z, h1, h2, rfl⟩ | ⟨p, xs, h1, h2, h3, h4, rfl⟩ | ⟨d, ds, h1, h2, h3, h4, rfl⟩ | ⟨a, o, h1, h2, rfl⟩
    · exact .inl ⟨c, z, h1, h2, fin⟩
    · exact .inr (.inl ⟨p, xs, h1, h2, h3, h4, fin⟩)
    · exact .inr (.inr (.inl ⟨d, ds, h1, h2, h3, h4, fin⟩))
    · exact .inr (.inr (.inr ⟨a, o, h1, h2, fin⟩))
  · cases e
theorem r_ni : R2D K mg (rNiAll K) opNi := by
  intro x y H dx dy d Q rx ry e k
  unfold opNi at e
  split at e
  · rename_i b hb
    cases e
    have fin := k (.bl (!b)) H (Same.refl H) (mk_bl _)
    rcases in_cases rx ry hb with ⟨c, z, h1, h2, rfl⟩ | ⟨p, xs, h1, h2, h3, h4, rfl⟩ | ⟨d, ds, h1, h2, h3, h4, rfl⟩ | ⟨a, o, h1, h2, rfl⟩
    · exact .inl ⟨c, z, h1, h2, fin⟩
    · exact .inr (.inl ⟨p, xs, h1, h2, h3, h4, fin⟩)
    · exact .inr (.inr (.inl ⟨d, ds, h1, h2, h3, h4, fin⟩))
    · exact .inr (.inr (.inr ⟨a, o, h1, h2, fin⟩))
  · cases e
end

/-! ### slices -/
def cutA {α : Type} (xs : List α) (lo hi : Option Int) : List α := (xs.drop (HT.sIx xs.length 0 lo)).take (HT.sIx xs.length xs.length hi - HT.sIx xs.length 0 lo)
def opSl (x : D) (lo hi : Option Int) : Option D := match x with
  | .lst _ xs => if immL xs = true then some (.lst true (cutA xs lo hi)) else none
  | .tup xs => if immL xs = true then some (.tup (cutA xs lo hi)) else none
  | .str s => if s.length ≤ sizeLine then some (.str (cutS s lo hi)) else none
  | _ => none
def rSlAll (K : PySem.W.Frag) : V → Option Int → Option Int → Hp → VK → Prop := fun x lo hi H Q => rSlL K x lo hi H Q ∨ (rSlA K x lo hi H Q ∨ rSlS x lo hi H Q)
theorem sl_all {X : Cx} : SlR X (rSlAll X.K) := SlR.or sl_list (SlR.or sl_tupA sl_str)
theorem immL_take : ∀ (n : Nat) (xs : List D), immL xs = true → immL (xs.take n) = true
  | 0, xs, _ => by simp [immL]
  | n + 1, [], h => by simp [immL]
  | n + 1, x :: xs, h => by
    simp only [immL, Bool.and_eq_true] at h
    simp only [List.take_succ_cons, immL, h.1, immL_take n xs h.2, Bool.and_self]
theorem immL_drop : ∀ (n : Nat) (xs : List D), immL xs = true → immL (xs.drop n) = true
  | 0, xs, h => h
  | n + 1, [], h => by simp [immL]
  | n + 1, x :: xs, h => by
    simp only [immL, Bool.and_eq_true] at h
    exact immL_drop n xs h.2
/-- a slice's part -/
def pPart : Option PM → DEnv → Option (Option Int)
  | none, _ => some none
  | some f, ρ => match f ρ with
    | some (.int i) => some (some i)
    | _ => none
def pSl (a : PM) (lo hi : Option PM) : PM := fun ρ => match a ρ, pPart lo ρ, pPart hi ρ with
  | some x, some l, some h => opSl x l h
  | _, _, _ => none
/-- .. a value of its own -/
def ePO (a : PM) : EM := fun ρ => match a ρ with
  | some d => some (d, ρ)
  | none => none
section
variable {K : PySem.W.Frag} {mg : MG}
theorem r_sl {x : V} {H : Hp} {dx d : D} {lo hi : Option Int} {Q : VK} (rx : Rp K mg H x dx) (e : opSl dx lo hi = some d) (k : ∀ z H', Same H H' → Mk K mg H H' z d → Q z H') : rSlAll K x lo hi H Q := by
  cases dx with
  | lst o xs =>
    simp only [opSl] at e
    split at e
    · rename_i hi'
      cases e
      obtain ⟨a, vs, rfl, ha, l⟩ := rx.lst_inv
      refine .inl ⟨a, vs, rfl, SqL.of ha, fun p hp => k _ _ (same_upd hp) (mk_lst ?_ ?_ hp)⟩
      · unfold cutV cutA
        rw [l.length]
        exact (l.drop _).take _
      · exact immL_take _ _ (immL_drop _ _ hi')
    · cases e
  | tup xs =>
    simp only [opSl] at e
    split at e
    · rename_i hi'
      cases e
      obtain ⟨a, vs, rfl, ha, l⟩ := rx.tup_inv
      refine .inr (.inl ⟨a, vs, rfl, SqT.of ha, fun hw => ?_, fun _ p hp => k _ _ (same_upd hp) (mk_tup ?_ ?_ hp)⟩)
      · have : cutA xs lo hi = xs := by
          unfold cutA
          rw [l.length] at hw
          rw [hw.1, hw.2]
          simp
        rw [this] at k
        exact k _ H (Same.refl H) (mk_imm rx (by simpa [D.imm] using hi'))
      · unfold cutV cutA
        rw [l.length]
        exact (l.drop _).take _
      · exact immL_take _ _ (immL_drop _ _ hi')
    · cases e
  | str s =>
    simp only [opSl] at e
    split at e
    · rename_i hz
      cases e
      obtain rfl := rx.str_inv
      exact .inr (.inr ⟨s, rfl, hz, k _ H (Same.refl H) (mk_str _)⟩)
    · cases e
  | _ => simp [opSl] at e
end
/-- the judgement of a slice's part -/
def tO (F : Fm) (f : Option PM) : TO := fun σ H Q => ∃ ρ ts o, At F σ H ρ ts ∧ pPart f ρ = some o ∧ ∀ H', Same H H' → Q o H'
section
variable {X : Cx} {vs0 : List V} {pos p2 : Pos} {F : Fm} {fa fb : PM} {flo fhi : Option PM} {a : Expr} {lo hi : Option Expr}
theorem o_none : PO X none (tO (fm X vs0) none) := ⟨fun pins s σ H Q I ⟨ρ, ts, o, at', e, k⟩ => by
  cases e
  exact po_none.run pins s σ H Q I (k H (Same.refl H))⟩
theorem o_some {e : Expr} (h : PE X e (tP (fm X vs0) fa)) : PO X (some e) (tO (fm X vs0) (some fa)) := ⟨fun pins s σ H Q I ⟨ρ, ts, o, at', e', k⟩ => by
  refine (po_some h).run pins s σ H Q I ?_
  simp only [pPart] at e'
  split at e'
  · rename_i i hi
    cases e'
    exact ⟨ρ, ts, _, at', hi, fun v H' g r _ => ⟨i, r.int_inv, k H' g⟩⟩
  · cases e'⟩
theorem p_sl (ha : PE X a (tP (fm X vs0) fa)) (hl : PO X lo (tO (fm X vs0) flo)) (hh : PO X hi (tO (fm X vs0) fhi)) : PE X (.Subscript a (.Slice lo hi none p2) pos) (tP (fm X vs0) (pSl fa flo fhi)) :=
  (pe_slice sl_all ha hl hh).imp fun σ H Q ⟨ρ, ts, d, at', e, k⟩ => by
    unfold pSl at e
    split at e
    · rename_i x l h ex el eh
      refine ⟨ρ, ts, x, at', ex, fun v H1 g1 rx _ => ⟨ρ, ts, l, at'.grow g1, el, fun H2 g2 => ⟨ρ, ts, h, (at'.grow g1).grow g2, eh, fun H3 g3 => ?_⟩⟩⟩
      exact r_sl ((rx.grow g2).grow g3) e fun z H4 g4 m => k z H4 (g1.trans (g2.trans (g3.trans g4))) (Sim.rp (m [] Sim.nil)) (Cj.of ((((at'.grow g1).grow g2).grow g3).mk' m))
    · cases e
theorem e_sl (ha : PE X a (tP (fm X vs0) fa)) (hl : PO X lo (tO (fm X vs0) flo)) (hh : PO X hi (tO (fm X vs0) fhi)) : PE X (.Subscript a (.Slice lo hi none p2) pos) (tD (fm X vs0) (ePO (pSl fa flo fhi))) :=
  (pe_slice sl_all ha hl hh).imp fun σ H Q ⟨ρ, ts, d, ρ', at', e, k⟩ => by
    unfold ePO at e
    split at e
    · rename_i d' e'
      cases e
      unfold pSl at e'
      split at e'
      · rename_i x l h ex el eh
        refine ⟨ρ, ts, x, at', ex, fun v H1 g1 rx _ => ⟨ρ, ts, l, at'.grow g1, el, fun H2 g2 => ⟨ρ, ts, h, (at'.grow g1).grow g2, eh, fun H3 g3 => ?_⟩⟩⟩
        exact r_sl ((rx.grow g2).grow g3) e' fun z H4 g4 m => k z H4 ((((at'.grow g1).grow g2).grow g3).mk' m)
      · cases e'
    · cases e
end

/-! ### displays -/
def valsA : List Arg → Option (List D)
  | [] => some []
  | .e d :: as => match valsA as with
    | some ds => some (d :: ds)
    | none => none
  | .s _ :: _ => none
  | .t _ _ _ :: _ => none
theorem argsR_vals {σ : L2.St} : ∀ {vs : List V} {as : List Arg} {tm : List Rt} {ds : List D}, ArgsR σ vs as tm → valsA as = some ds → vs.length = ds.length ∧ tm = vals vs ds
  | _, _, _, ds, .nil, h => by simp [valsA] at h; subst h; exact ⟨rfl, rfl⟩
  | _, _, _, ds, .e ar, h => by
    simp only [valsA] at h
    split at h
    · rename_i ds' h'
      cases h
      obtain ⟨h1, h2⟩ := argsR_vals ar h'
      subst h2
      exact ⟨by rw [List.length_cons, List.length_cons, h1], rfl⟩
    · cases h
  | _, _, _, ds, .s _ _, h => by simp [valsA] at h
  | _, _, _, ds, .t _ _ _, h => by simp [valsA] at h
def eTup (a : AM) : EM := fun ρ => match a ρ with
  | some (as, ρ1) => match valsA as with
    | some ds => if ds.length ≤ 1000 then some (.tup ds, ρ1) else none
    | none => none
  | none => none
def eLst (a : AM) : EM := fun ρ => match a ρ with
  | some (as, ρ1) => match valsA as with
    | some ds => if ds.length ≤ 1000 then some (.lst true ds, ρ1) else none
    | none => none
  | none => none
section
variable {X : Cx} {vs0 : List V} {pos : Pos} {F : Fm} {am : AM}
theorem At.newT {σ : L2.St} {H : Hp} {ρ : DEnv} {ts : List Rt} {xs : List V} {ds : List D} {p : Addr} (a : At F σ H ρ (vals xs ds ++ ts)) (hl : xs.length = ds.length) (hp : H p = none) : At F σ (upd H p (.tup xs)) ρ (.v (.ref p) (.tup ds) :: ts) := by
  have s : Sim F.K F.mg H (vals xs ds ++ (ts ++ slotR σ ρ)) := by have := a.front; rwa [List.append_assoc] at this
  exact a.of_front (s.newT hl hp)
theorem At.newL {σ : L2.St} {H : Hp} {ρ : DEnv} {ts : List Rt} {xs : List V} {ds : List D} {p : Addr} (a : At F σ H ρ (vals xs ds ++ ts)) (hl : xs.length = ds.length) (hp : H p = none) : At F σ (upd H p (.lst xs)) ρ (.v (.ref p) (.lst true ds) :: ts) := by
  have s : Sim F.K F.mg H (vals xs ds ++ (ts ++ slotR σ ρ)) := by have := a.front; rwa [List.append_assoc] at this
  exact a.of_front ((s.alloc (o := .lst xs) hp).foL hl)
theorem small_line {n : Nat} (h : n ≤ 1000) : n ≤ sizeLine := Nat.le_trans h (by rw [sizeLine_eq]; decide)
theorem e_tup {es : List Expr} {x1} (h : PA X es (tA (fm X vs0) am)) : PE X (.Tuple es x1 pos) (tD (fm X vs0) (eTup am)) := (pe_tup h).imp fun σ H Q ⟨ρ, ts, d, ρ', a, e, k⟩ => by
  unfold eTup at e
  split at e
  · rename_i as ρ1 ha
    split at e
    · rename_i ds hv
      split at e
      · rename_i hz
        cases e
        refine ⟨ρ, ts, as, _, a, ha, fun vs H1 tm ar a1 => ?_⟩
        obtain ⟨h1, rfl⟩ := argsR_vals ar hv
        exact ⟨by rw [h1]; exact small_line hz, fun p hp => k _ _ (a1.newT h1 hp)⟩
      · cases e
    · cases e
  · cases e
theorem e_lst {es : List Expr} (h : PA X es (tA (fm X vs0) am)) : PE X (.List es pos) (tD (fm X vs0) (eLst am)) := (pe_lst h).imp fun σ H Q ⟨ρ, ts, d, ρ', a, e, k⟩ => by
  unfold eLst at e
  split at e
  · rename_i as ρ1 ha
    split at e
    · rename_i ds hv
      split at e
      · rename_i hz
        cases e
        refine ⟨ρ, ts, as, _, a, ha, fun vs H1 tm ar a1 => ?_⟩
        obtain ⟨h1, rfl⟩ := argsR_vals ar hv
        exact ⟨by rw [h1]; exact small_line hz, fun p hp => k _ _ (a1.newL h1 hp)⟩
      · cases e
    · cases e
  · cases e
/-- {} -/
def eDicN (kd : Kd) : EM := fun ρ => some (.dic true kd [] [], ρ)
theorem e_dicK : PE X (.Dict [] [] pos) (tD (fm X vs0) (eDicN .k)) := pe_dnewK.imp fun σ H Q ⟨ρ, ts, d, ρ', a, e, k⟩ p hp => by
  cases e
  exact k _ _ (a.of_front ((a.front.alloc (o := .dK []) hp).foDk (kvs := []) (ds := []) rfl rfl))
theorem e_dicT : PE X (.Dict [] [] pos) (tD (fm X vs0) (eDicN .t)) := pe_dnewT.imp fun σ H Q ⟨ρ, ts, d, ρ', a, e, k⟩ p hp => by
  cases e
  exact k _ _ (a.of_front ((a.front.alloc (o := .dT []) hp).foDt (kvs := []) (ds := []) rfl rfl))
end
end Dl

set_option Elab.async false
set_option linter.all false
set_option maxRecDepth 100000
set_option maxHeartbeats 1000000
/-! DL5: targets, for, while, comprehensions, stores into lists and dicts. -/
namespace Dl
open PySem PySem.Spec PyProof.Rows L2

/-! ### targets of several names -/
section
variable {X : Cx} {vs0 : List V} {W : WX} {pos : Pos} {F : Fm}
def gNs : List Nat → TGs
  | [] => gNil
  | i :: is => gCons (gName i) (gNs is)
def setV : L2.St → List Nat → List V → L2.St
  | σ, i :: is, x :: xs => setV (σ.set i (some x)) is xs
  | σ, _, _ => σ
theorem gNs_ok : ∀ {is : List Nat} {xs : List V} {σ : L2.St} {H : Hp} {Q : L2.St → Hp → Prop}, xs.length = is.length → Q (setV σ is xs) H → gNs is xs σ H Q
  | [], [], σ, H, Q, _, q => ⟨rfl, q⟩
  | i :: is, x :: xs, σ, H, Q, h, q => ⟨x, xs, rfl, gNs_ok (is := is) (xs := xs) (by simpa using h) q⟩
  | [], _ :: _, _, _, _, h, _ => by cases h
  | _ :: _, [], _, _, _, h, _ => by cases h
theorem At.stores : ∀ {is : List Nat} {xs : List V} {ds : List D} {σ : L2.St} {H : Hp} {ρ ρ' : DEnv} {ts : List Rt}, gT is ds ρ = some ρ' → xs.length = ds.length → (∀ i ∈ is, F.vs0.length ≤ i ∧ i < F.n) → At F σ H ρ (vals xs ds ++ ts) → xs.length = is.length ∧ At F (setV σ is xs) H ρ' ts
  | [], [], [], σ, H, ρ, ρ', ts, h, hl, hi, a => by simp only [gT] at h; cases h; exact ⟨rfl, a⟩
  | [], x :: xs, d :: ds, σ, H, ρ, ρ', ts, h, hl, hi, a => by simp [gT] at h
  | i :: is, [], [], σ, H, ρ, ρ', ts, h, hl, hi, a => by simp [gT] at h
  | i :: is, x :: xs, d :: ds, σ, H, ρ, ρ', ts, h, hl, hi, a => by
    simp only [gT] at h
    have hi0 := hi i List.mem_cons_self
    have a1 : At F σ H ρ (.v x d :: (vals xs ds ++ ts)) := a
    obtain ⟨h1, h2⟩ := At.stores h (by simpa using hl) (fun j hj => hi j (List.mem_cons_of_mem _ hj)) (a1.store hi0.1 hi0.2)
    exact ⟨by rw [List.length_cons, List.length_cons, h1], h2⟩
  | _, [], _ :: _, _, _, _, _, _, _, hl, _, _ => by cases hl
  | _, _ :: _, [], _, _, _, _, _, _, hl, _, _ => by cases hl
theorem imp_gTu {is : List Nat} (hi : ∀ i ∈ is, F.vs0.length ≤ i ∧ i < F.n) : ∀ v σ H Q, tG F (gTu is) v σ H Q → gTup F.K is.length (gNs is) v σ H Q := fun v σ H Q ⟨ρ, ts, d, ρ', a, q, k⟩ => by
  unfold gTu at q
  split at q
  · rename_i ds
    have s := a.front
    obtain ⟨b, xs, rfl, hl, hb, s'⟩ := Sim.unT s
    have a1 : At F σ H ρ (vals xs ds ++ ts) := a.of_front (by rw [List.append_assoc]; exact s')
    obtain ⟨h1, h2⟩ := At.stores q hl hi a1
    exact ⟨b, xs, rfl, SqT.of hb, h1, gNs_ok h1 (k _ H h2)⟩
  · cases q
theorem g_tup {es : List Expr} {kk : Nat} (is : List Nat) (hi : ∀ i ∈ is, vs0.length ≤ i ∧ i < X.N.length) (hc : X.calm = true) (h : PGs X es (gNs is)) (hn : (assignEach es X.env).length = is.length := by rfl) (hst : (assignEach es X.env).findIdx? (·.1) = none := by rfl) :
    PG X (.Tuple es kk pos) (tG (fm X vs0) (gTu is)) := (pg_tup hc h hn hst).imp (imp_gTu (F := fm X vs0) hi)
theorem gs_nil : PGs X [] (gNs []) := pgs_nil
theorem gs_cons {x : Str} {es : List Expr} {is : List Nat} (i : Nat) (hN : X.N.Nodup) (h2 : PGs X es (gNs is)) (hi : X.N[i]? = some x := by rfl) (hx : Loc X.env.scope x := by first | exact Or.inl rfl | exact Or.inr rfl) (hf : X.fn x = true ∨ X.env.scope.names.lookup x = some .local := by first | exact .inl rfl | exact .inr rfl | assumption)
    (hs : (assignEach (.Name x pos :: es) X.env).map (·.2) = assign (.Name x pos) X.env :: (assignEach es X.env).map (·.2) := by rfl) : PGs X (.Name x pos :: es) (gNs (i :: is)) := pgs_cons (pg_name hN hi hx hf) h2 hs
theorem s_asg {tg ex : Expr} {e : EM} {g : GM} (he : PE X ex (tD (fm X vs0) e)) (hg : PG X tg (tG (fm X vs0) g)) (hs : swapsWithSole [tg] ex pos.line X.env = pure false := by rfl) (hw : swappedStores [tg] ex X.env = pure none := by rfl)
    (h1 : (assignEach [tg] X.env).map (·.2) = [assign tg X.env] := by rfl) : PS X (.Assign [tg] ex pos) (tS (fmW X vs0 W) (sAsg e g)) := (ps_asg he hg hs hw h1).imp imp_asg
end

/-! ### loops over data -/
def forL (g : GM) (body : SM) : List D → DEnv → Option (Fl × DEnv)
  | [], ρ => some (.nx, ρ)
  | d :: ds, ρ => match g d ρ with
    | some ρ1 => match body ρ1 with
      | some (.nx, ρ2) => forL g body ds ρ2
      | some (.ct, ρ2) => forL g body ds ρ2
      | some (.bk, ρ2) => some (.nx, ρ2)
      | some (.rt d, ρ2) => some (.rt d, ρ2)
      | some (.xc x, ρ2) => some (.xc x, ρ2)
      | none => none
    | none => none
def itemsD : D → Option (List D)
  | .lst _ xs => some xs
  | .tup xs => some xs
  | _ => none
/-- for .. in a list or tuple, which is frozen -/
def sFor (it : EM) (g : GM) (body : SM) : SM := fun ρ => match it ρ with
  | some (d, ρ1) => match itemsD d.frz with
    | some ds => forL g body ds ρ1
    | none => none
  | none => none
def rangeD (lo : Int) (n : Nat) : List D := (List.range n).map fun (k : Nat) => D.int (lo + (k : Int))
def okR (i : Int) : Bool := lg 60 i
def sForR1 (it : EM) (g : GM) (body : SM) : SM := fun ρ => match it ρ with
  | some (.int j, ρ1) => if okR j = true then forL g body (rangeD 0 j.toNat) ρ1 else none
  | _ => none
def sForR2 (a b : EM) (g : GM) (body : SM) : SM := fun ρ => match a ρ with
  | some (.int i, ρ1) => match b ρ1 with
    | some (.int j, ρ2) => if okR i = true ∧ okR j = true then forL g body (rangeD i (j - i).toNat) ρ2 else none
    | _ => none
  | _ => none

section
variable {X : Cx} {tg : Expr}
/-- a list or a tuple walked -/
def iSeq (K : PySem.W.Frag) (tl : TE) : TI := fun σ H R => tl σ H fun x H1 => ∃ a, x = .ref a ∧ (((∃ xs, SqL K H1 a xs) ∧ R (Itl K a) H1) ∨ ((∃ xs, SqT K H1 a xs) ∧ R (Itt K a) H1))
theorem pi_seq {l : Expr} {tl : TE} (hl : PE X l tl) : PI X tg l (iSeq X.K tl) := by
  refine ⟨fun pins s σ H R I h => ?_⟩
  refine thn (hl.run pins s σ H _ I h) fun v s1 ⟨x, H1, I1, r1, q1⟩ => ?_
  obtain ⟨a, e, q1⟩ := q1
  subst e
  cases r1
  rcases q1 with ⟨⟨xs, hq⟩, q⟩ | ⟨⟨xs, hq⟩, q⟩
  · obtain ⟨its, rv, p, hz⟩ := I1.list hq
    refine wpAny_pyIter_list p.isList ?_
    refine ⟨s1.heap.objs.size, [s1.heap.objs.size], _, _, H1, rfl, I1.kept (t' := s1.toks) fun b o e => Heap.get?_push_of_some _ e, turn_list a _, ⟨_, Heap.get?_push_size _ rfl, rfl, rfl⟩, fun b hb => ?_, q⟩
    have e : b = s1.heap.objs.size := by simpa using hb
    subst e
    exact I1.fpOk (Nat.le_refl _) (I1.hok.fresh (Nat.le_refl _))
  · obtain ⟨its, rv, p, hz⟩ := I1.tuple hq
    refine wpAny_pyIter_tuple (show s1.heap.IsTuple a its.toArray from p) ?_
    refine ⟨s1.heap.objs.size, [s1.heap.objs.size], _, _, H1, rfl, I1.kept (t' := s1.toks) fun b o e => Heap.get?_push_of_some _ e, turn_tuple a _, ⟨_, Heap.get?_push_size _ rfl, rfl, rfl⟩, fun b hb => ?_, q⟩
    have e : b = s1.heap.objs.size := by simpa using hb
    subst e
    exact I1.fpOk (Nat.le_refl _) (I1.hok.fresh (Nat.le_refl _))
end
section
variable {F : Fm} {g : GM} {body : SM} {gt : TG}
theorem At.drop2 {σ : L2.St} {H : Hp} {ρ : DEnv} {ts : List Rt} {r q : Rt} (a : At F σ H ρ (r :: q :: ts)) : At F σ H ρ (r :: ts) := (a.perm (.swap _ _ _)).tail
theorem forL_one {d : D} {ds : List D} {ρ : DEnv} {fl : Fl} {ρ' : DEnv} (h : forL g body (d :: ds) ρ = some (fl, ρ')) : ∃ ρ1 fl2 ρ2, g d ρ = some ρ1 ∧ body ρ1 = some (fl2, ρ2) ∧
    (match fl2 with | .nx => forL g body ds ρ2 = some (fl, ρ') | .ct => forL g body ds ρ2 = some (fl, ρ') | .bk => fl = .nx ∧ ρ' = ρ2 | .rt d => fl = .rt d ∧ ρ' = ρ2 | .xc x => fl = .xc x ∧ ρ' = ρ2) := by
  simp only [forL] at h
  split at h
  · rename_i ρ1 hg
    split at h
    · rename_i ρ2 hb; exact ⟨ρ1, _, ρ2, hg, hb, h⟩
    · rename_i ρ2 hb; exact ⟨ρ1, _, ρ2, hg, hb, h⟩
    · rename_i ρ2 hb; cases h; exact ⟨ρ1, _, _, hg, hb, rfl, rfl⟩
    · rename_i d' ρ2 hb; cases h; exact ⟨ρ1, _, _, hg, hb, rfl, rfl⟩
    · rename_i d' ρ2 hb; cases h; exact ⟨ρ1, _, _, hg, hb, rfl, rfl⟩
    · cases h
  · cases h
/-- a turn, over an item that is a root -/
theorem for_turn {D' : Ends} {σ : L2.St} {H : Hp} {ρ : DEnv} {x : V} {d : D} {ds : List D} {ts : List Rt} {fl : Fl} {ρ' : DEnv} {Pv : L2.St → Hp → Prop} (hg : ∀ v σ H Q, tG F g v σ H Q → gt v σ H Q) (h : forL g body (d :: ds) ρ = some (fl, ρ')) (a : At F σ H ρ (.v x d :: ts)) (k : Fin F ts D' fl ρ')
    (hp : ∀ σ H ρ, At F σ H ρ ts → forL g body ds ρ = some (fl, ρ') → Pv σ H) : gt x σ H fun σ2 H2 => tS F body { D' with nx := Pv, ct := Pv, bk := D'.nx } σ2 H2 := by
  obtain ⟨ρ1, fl2, ρ2, h1, h2, h3⟩ := forL_one h
  refine hg x σ H _ ⟨ρ, ts, d, ρ1, a, h1, fun σ' H' a' => ⟨ρ1, ts, fl2, ρ2, a', h2, ?_⟩⟩
  cases fl2 with
  | nx => exact fun σ3 H3 a3 => hp σ3 H3 _ a3 h3
  | ct => exact fun σ3 H3 a3 => hp σ3 H3 _ a3 h3
  | bk => obtain ⟨rfl, rfl⟩ := h3; exact fun σ3 H3 a3 => k σ3 H3 a3
  | rt d' => obtain ⟨rfl, rfl⟩ := h3; exact fun v σ3 H3 a3 => k v σ3 H3 a3
  | xc x => obtain ⟨rfl, rfl⟩ := h3; exact fun cls d σ3 H3 a3 => k cls d σ3 H3 a3
theorem fin_drop {D' : Ends} {r : Rt} {ts : List Rt} {fl : Fl} {ρ' : DEnv} (k : Fin F ts D' fl ρ') : Fin F (r :: ts) D' fl ρ' := by
  cases fl with
  | nx => exact fun σ H a => k σ H a.tail
  | bk => exact fun σ H a => k σ H a.tail
  | ct => exact fun σ H a => k σ H a.tail
  | rt d => exact fun v σ H a => k v σ H a.drop2
  | xc x => exact fun cls d σ H a => k cls d σ H a.tail
/-- any walk of n turns -/
theorem for_any {J : It} {n : Nat} {gt : TG} {tb : TS} {D' : Ends} {σ : L2.St} {H : Hp} (Pv : Nat → L2.St → Hp → Prop) (h0 : Pv 0 σ H) (hgo : ∀ i σ H, i < n → Pv i σ H → J.go i H) (hst : ∀ σ H, Pv n σ H → J.stop n H)
    (hs : ∀ i x σ H H', i < n → Pv i σ H → J.yld i H x H' → gt x σ H' fun σ2 H2 => tb { D' with nx := Pv (i + 1), ct := Pv (i + 1), bk := D'.nx } σ2 H2) (hd : ∀ σ H, Pv n σ H → D'.nx σ H) :
    ∃ W : Nat → Nat → L2.St → Hp → Prop, (∃ m, W 0 m σ H) ∧ ∀ i m σ H, W i m σ H →
      (J.stop i H ∧ D'.nx σ H) ∨ (J.go i H ∧ ∃ N : L2.St → Hp → Prop, (∀ σ' H', N σ' H' → ∃ m', m' < m ∧ W (i + 1) m' σ' H') ∧ ∀ x H', J.yld i H x H' → gt x σ H' fun σ2 H2 => tb { D' with nx := N, ct := N, bk := D'.nx } σ2 H2) := by
  refine ⟨fun i m σ H => m = n - i ∧ i ≤ n ∧ Pv i σ H, ⟨n, by simp, Nat.zero_le _, h0⟩, ?_⟩
  rintro i m σ H ⟨rfl, hi, p⟩
  by_cases hlt : i < n
  · exact .inr ⟨hgo i σ H hlt p, Pv (i + 1), fun σ' H' p' => ⟨n - (i + 1), by omega, rfl, hlt, p'⟩, fun x H' y => hs i x σ H H' hlt p y⟩
  · have e : i = n := by omega
    subst e
    exact .inl ⟨hst σ H p, hd σ H p⟩
/-- what a stable list or tuple yields -/
theorem seq_root {σ : L2.St} {H : Hp} {ρ : DEnv} {ts : List Rt} {v : V} {e : D} {ds : List D} (hd : itemsD e = some ds) (a : At F σ H ρ (.v v e :: ts)) :
    ∃ a0 vs, v = .ref a0 ∧ vs.length = ds.length ∧ ((H a0 = some (.lst vs) ∧ ∃ o, e = .lst o ds) ∨ (H a0 = some (.tup vs) ∧ e = .tup ds)) := by
  have r := (a.front).rp
  cases e with
  | lst o xs =>
    simp only [itemsD, Option.some.injEq] at hd
    subst hd
    obtain ⟨a0, vs, rfl, ha, l⟩ := r.lst_inv
    exact ⟨a0, vs, rfl, l.length, .inl ⟨ha, o, rfl⟩⟩
  | tup xs =>
    simp only [itemsD, Option.some.injEq] at hd
    subst hd
    obtain ⟨a0, vs, rfl, ha, l⟩ := r.tup_inv
    exact ⟨a0, vs, rfl, l.length, .inr ⟨ha, rfl⟩⟩
  | _ => simp [itemsD] at hd
theorem items_stable {e : D} {ds : List D} (hd : itemsD e = some ds) (hst : e.stable = true) : ∀ d ∈ ds, d.stable = true := by
  cases e with
  | lst o xs =>
    simp only [itemsD, Option.some.injEq] at hd
    subst hd
    simp only [D.stable, Bool.and_eq_true] at hst
    rw [stableL_all] at hst
    exact List.all_eq_true.mp hst.2
  | tup xs =>
    simp only [itemsD, Option.some.injEq] at hd
    subst hd
    simp only [D.stable] at hst
    rw [stableL_all] at hst
    exact List.all_eq_true.mp hst
  | _ => simp [itemsD] at hd
theorem At.item {σ : L2.St} {H : Hp} {ρ : DEnv} {ts : List Rt} {v z : V} {e dz : D} (b : At F σ H ρ (.v v e :: ts)) (sb : Sub H v e z dz) (hs : dz.stable = true) : At F σ H ρ (.v z dz :: .v v e :: ts) := b.of_front (by have := b.front; exact this.sub sb hs)
/-- the item that a walked list or tuple yields is a root -/
theorem yld_l {σ : L2.St} {H H' : Hp} {ρ : DEnv} {ts : List Rt} {a0 : Addr} {e : D} {ds : List D} {i : Nat} {x : V} (hd : itemsD e = some ds) (hst : e.stable = true) (a : At F σ H ρ (.v (.ref a0) e :: ts)) (hi : i < ds.length) (hl : ∃ o, e = .lst o ds) (y : (Itl F.K a0).yld i H x H') :
    H' = H ∧ At F σ H ρ (.v x ds[i] :: .v (.ref a0) e :: ts) := by
  obtain ⟨e1, e2⟩ := y
  obtain ⟨o, rfl⟩ := hl
  obtain ⟨b, vs, e0, hv, l⟩ := Rp.lst_inv ((a.front).rp)
  cases e0
  exact ⟨e1, a.item (.lst hv (e2 vs (SqL.of hv)) (List.getElem?_eq_getElem hi) (.refl _ _)) (items_stable hd hst _ (List.getElem_mem hi))⟩
theorem yld_t {σ : L2.St} {H H' : Hp} {ρ : DEnv} {ts : List Rt} {a0 : Addr} {e : D} {ds : List D} {i : Nat} {x : V} (hd : itemsD e = some ds) (hst : e.stable = true) (a : At F σ H ρ (.v (.ref a0) e :: ts)) (hi : i < ds.length) (hl : e = .tup ds) (y : (Itt F.K a0).yld i H x H') :
    H' = H ∧ At F σ H ρ (.v x ds[i] :: .v (.ref a0) e :: ts) := by
  obtain ⟨e1, e2⟩ := y
  subst hl
  obtain ⟨b, vs, e0, hv, l⟩ := Rp.tup_inv ((a.front).rp)
  cases e0
  exact ⟨e1, a.item (.tup hv (e2 vs (SqT.of hv)) (List.getElem?_eq_getElem hi) (.refl _ _)) (items_stable hd hst _ (List.getElem_mem hi))⟩
theorem go_l {σ : L2.St} {H : Hp} {ρ : DEnv} {ts : List Rt} {a0 : Addr} {e : D} {ds : List D} (a : At F σ H ρ (.v (.ref a0) e :: ts)) (hl : ∃ o, e = .lst o ds) : (∀ i, i < ds.length → (Itl F.K a0).go i H) ∧ (Itl F.K a0).stop ds.length H := by
  obtain ⟨o, rfl⟩ := hl
  obtain ⟨b, vs, e0, hv, l⟩ := Rp.lst_inv ((a.front).rp)
  cases e0
  exact ⟨fun i hi => ⟨vs, vs[i]'(by rw [l.length]; exact hi), SqL.of hv, List.getElem?_eq_getElem _⟩, ⟨vs, SqL.of hv, by rw [l.length]; exact Nat.le_refl _⟩⟩
theorem go_t {σ : L2.St} {H : Hp} {ρ : DEnv} {ts : List Rt} {a0 : Addr} {e : D} {ds : List D} (a : At F σ H ρ (.v (.ref a0) e :: ts)) (hl : e = .tup ds) : (∀ i, i < ds.length → (Itt F.K a0).go i H) ∧ (Itt F.K a0).stop ds.length H := by
  subst hl
  obtain ⟨b, vs, e0, hv, l⟩ := Rp.tup_inv ((a.front).rp)
  cases e0
  exact ⟨fun i hi => ⟨vs, vs[i]'(by rw [l.length]; exact hi), SqT.of hv, List.getElem?_eq_getElem _⟩, ⟨vs, SqT.of hv, by rw [l.length]; exact Nat.le_refl _⟩⟩
theorem forL_nil {ρ ρ' : DEnv} {fl : Fl} (h : forL g body [] ρ = some (fl, ρ')) : fl = .nx ∧ ρ' = ρ := by simp only [forL] at h; cases h; exact ⟨rfl, rfl⟩
theorem imp_for {it : EM} (hg : ∀ v σ H Q, tG F g v σ H Q → gt v σ H Q) : ∀ D' σ H, tS F (sFor it g body) D' σ H → tFor (iSeq F.K (tD F it)) gt (tS F body) D' σ H := fun D' σ H ⟨ρ, ts, fl, ρ', a, q, k⟩ => by
  unfold sFor at q
  split at q
  · rename_i d ρ1 he
    split at q
    · rename_i ds hd
      refine ⟨ρ, ts, d, ρ1, a, he, fun v H1 a1 => ?_⟩
      have a2 : At F σ H1 ρ1 (.v v d.frz :: ts) := a1.of_front (by have := a1.front; exact this.frz)
      have hst := D.stable_frz d
      generalize d.frz = e at hd a2 hst
      have kk := fin_drop (r := .v v e) k
      obtain ⟨a0, vs, rfl, hl, hk⟩ := seq_root hd a2
      have fin : ∀ σ H, (∃ ρ, At F σ H ρ (.v (.ref a0) e :: ts) ∧ forL g body (ds.drop ds.length) ρ = some (fl, ρ')) → D'.nx σ H := fun σ H ⟨ρ2, b, hf⟩ => by
        rw [List.drop_length] at hf
        obtain ⟨rfl, rfl⟩ := forL_nil hf
        exact kk σ H b
      refine ⟨a0, rfl, ?_⟩
      rcases hk with ⟨hv, hk⟩ | ⟨hv, hk⟩
      · refine .inl ⟨⟨vs, SqL.of hv⟩, for_any (n := ds.length) (fun i σ H => ∃ ρ, At F σ H ρ (.v (.ref a0) e :: ts) ∧ forL g body (ds.drop i) ρ = some (fl, ρ')) ⟨ρ1, a2, q⟩ (fun i σ H hi ⟨_, b, _⟩ => (go_l b hk).1 i hi) (fun σ H ⟨_, b, _⟩ => (go_l b hk).2) ?_ fin⟩
        rintro i x σ H H' hi ⟨ρ2, b, hf⟩ y
        obtain ⟨rfl, b1⟩ := yld_l hd hst b hi hk y
        rw [List.drop_eq_getElem_cons hi] at hf
        exact for_turn hg hf b1 kk fun σ' H' ρ3 b3 hf3 => ⟨ρ3, b3, hf3⟩
      · refine .inr ⟨⟨vs, SqT.of hv⟩, for_any (n := ds.length) (fun i σ H => ∃ ρ, At F σ H ρ (.v (.ref a0) e :: ts) ∧ forL g body (ds.drop i) ρ = some (fl, ρ')) ⟨ρ1, a2, q⟩ (fun i σ H hi ⟨_, b, _⟩ => (go_t b hk).1 i hi) (fun σ H ⟨_, b, _⟩ => (go_t b hk).2) ?_ fin⟩
        rintro i x σ H H' hi ⟨ρ2, b, hf⟩ y
        obtain ⟨rfl, b1⟩ := yld_t hd hst b hi hk y
        rw [List.drop_eq_getElem_cons hi] at hf
        exact for_turn hg hf b1 kk fun σ' H' ρ3 b3 hf3 => ⟨ρ3, b3, hf3⟩
    · cases q
  · cases q
theorem rangeD_len (lo : Int) (n : Nat) : (rangeD lo n).length = n := by simp [rangeD]
theorem rangeD_get (lo : Int) (n i : Nat) (h : i < (rangeD lo n).length) : (rangeD lo n)[i] = .int (lo + (i : Int)) := by simp [rangeD]
/-- the turns over a range -/
theorem range_turns {D' : Ends} {σ : L2.St} {H : Hp} {ρ : DEnv} {ts : List Rt} {fl : Fl} {ρ' : DEnv} {lo : Int} {n : Nat} (hg : ∀ v σ H Q, tG F g v σ H Q → gt v σ H Q) (a : At F σ H ρ ts) (q : forL g body (rangeD lo n) ρ = some (fl, ρ')) (k : Fin F ts D' fl ρ') :
    ∃ W : Nat → Nat → L2.St → Hp → Prop, (∃ m, W 0 m σ H) ∧ ∀ i m σ H, W i m σ H →
      ((Itr lo n).stop i H ∧ D'.nx σ H) ∨ ((Itr lo n).go i H ∧ ∃ N : L2.St → Hp → Prop, (∀ σ' H', N σ' H' → ∃ m', m' < m ∧ W (i + 1) m' σ' H') ∧ ∀ x H', (Itr lo n).yld i H x H' → gt x σ H' fun σ2 H2 => tS F body { D' with nx := N, ct := N, bk := D'.nx } σ2 H2) := by
  refine for_any (n := n) (fun i σ H => ∃ ρ, At F σ H ρ ts ∧ forL g body ((rangeD lo n).drop i) ρ = some (fl, ρ')) ⟨ρ, a, q⟩ (fun i σ H hi _ => hi) (fun σ H _ => Nat.le_refl n) ?_ ?_
  · rintro i x σ H H' hi ⟨ρ2, b, hf⟩ ⟨rfl, rfl⟩
    have hi' : i < (rangeD lo n).length := by rw [rangeD_len]; exact hi
    rw [List.drop_eq_getElem_cons hi', rangeD_get lo n i hi'] at hf
    exact for_turn hg hf (b.mk' (mk_int _)) k fun σ' H' ρ3 b3 hf3 => ⟨ρ3, b3, hf3⟩
  · rintro σ H ⟨ρ2, b, hf⟩
    rw [List.drop_of_length_le (by rw [rangeD_len]; exact Nat.le_refl _)] at hf
    obtain ⟨rfl, rfl⟩ := forL_nil hf
    exact k σ H b
theorem okR_of {i : Int} (h : okR i = true) : -(2 ^ 62) ≤ i ∧ i < 2 ^ 62 := by have := lg60 h; omega
theorem imp_for1 {it : EM} (hg : ∀ v σ H Q, tG F g v σ H Q → gt v σ H Q) : ∀ D' σ H, tS F (sForR1 it g body) D' σ H → tFor (iRng1 (tCons (tD F it) tNil)) gt (tS F body) D' σ H := fun D' σ H ⟨ρ, ts, fl, ρ', a, q, k⟩ => by
  unfold sForR1 at q
  split at q
  · rename_i j ρ1 he
    split at q
    · rename_i hj
      refine ⟨ρ, ts, _, ρ1, a, he, fun v H1 a1 => ⟨j, ?_, (okR_of hj).1, (okR_of hj).2, range_turns hg a1.tail q k⟩⟩
      rw [Rp.int_inv ((a1.front).rp)]
    · cases q
  · cases q
theorem imp_for2 {ea eb : EM} (hg : ∀ v σ H Q, tG F g v σ H Q → gt v σ H Q) : ∀ D' σ H, tS F (sForR2 ea eb g body) D' σ H → tFor (iRng2 (tCons (tD F ea) (tCons (tD F eb) tNil))) gt (tS F body) D' σ H := fun D' σ H ⟨ρ, ts, fl, ρ', a, q, k⟩ => by
  unfold sForR2 at q
  split at q
  · rename_i i ρ1 he
    split at q
    · rename_i j ρ2 he2
      split at q
      · rename_i hj
        refine ⟨ρ, ts, _, ρ1, a, he, fun v H1 a1 => ⟨ρ1, _, _, ρ2, a1, he2, fun w H2 a2 => ?_⟩⟩
        have s2 : Sim F.K F.mg H2 (.v w (.int j) :: .v v (.int i) :: (ts ++ slotR σ ρ2)) := a2.front
        refine ⟨i, j, ?_, ⟨(okR_of hj.1).1, (okR_of hj.1).2, (okR_of hj.2).1, (okR_of hj.2).2⟩, range_turns hg (a2.of_front s2.tail.tail) q k⟩
        rw [Rp.int_inv s2.rp, Rp.int_inv s2.tail.rp]
      · cases q
    · cases q
  · cases q
end
section
variable {X : Cx} {vs0 : List V} {W : WX} {pos : Pos} {g : GM} {body : SM} {tg : Expr} {bs : List Stmt}
theorem s_for {l : Expr} {it : EM} (hc : X.calm = true) (hp : PassesOwn (model X.prog X.w) X.A X.env X.xe) (hl : PE X l (tD (fm X vs0) it)) (hg : PG X tg (tG (fm X vs0) g)) (hb : PSs X bs (tS (fmW X vs0 W) body)) (hs : ∀ x, foldedSetIterable l X.env x = pure x := by intro _; rfl) :
    PS X (.For tg l bs [] pos) (tS (fmW X vs0 W) (sFor it g body)) := (ps_for hp hc (pi_seq hl) hg hb hs).imp (imp_for fun _ _ _ _ h => h)
theorem s_for1 {a : Expr} {p pos' : Pos} {it : EM} (hc : X.calm = true) (hp : PassesOwn (model X.prog X.w) X.A X.env X.xe) (hm : X.mg "range" = none) (ha : PE X a (tD (fm X vs0) it)) (hg : PG X tg (tG (fm X vs0) g)) (hb : PSs X bs (tS (fmW X vs0 W) body)) (hgl : Gl X "range" := by rfl)
    (hs : starEach [a] X.env = [(false, eval a X.env)] := by rfl) (hf : ∀ x, foldedSetIterable (.Call (.Name "range" p) [a] [] pos') X.env x = pure x := by intro _; rfl) : PS X (.For tg (.Call (.Name "range" p) [a] [] pos') bs [] pos) (tS (fmW X vs0 W) (sForR1 it g body)) :=
  (ps_for hp hc (pi_range1 hgl hm (pa_cons ha pa_nil (by rw [hs]; rfl)) hs) hg hb hf).imp (imp_for1 fun _ _ _ _ h => h)
theorem s_for2 {a b : Expr} {p pos' : Pos} {ea eb : EM} (hc : X.calm = true) (hp : PassesOwn (model X.prog X.w) X.A X.env X.xe) (hm : X.mg "range" = none) (ha : PE X a (tD (fm X vs0) ea)) (hb' : PE X b (tD (fm X vs0) eb)) (hg : PG X tg (tG (fm X vs0) g)) (hb : PSs X bs (tS (fmW X vs0 W) body)) (hgl : Gl X "range" := by rfl)
    (hs : starEach [a, b] X.env = [(false, eval a X.env), (false, eval b X.env)] := by rfl) (hs2 : starEach [b] X.env = [(false, eval b X.env)] := by rfl) (hf : ∀ x, foldedSetIterable (.Call (.Name "range" p) [a, b] [] pos') X.env x = pure x := by intro _; rfl) :
    PS X (.For tg (.Call (.Name "range" p) [a, b] [] pos') bs [] pos) (tS (fmW X vs0 W) (sForR2 ea eb g body)) :=
  (ps_for hp hc (pi_range2 hgl hm (pa_cons ha (pa_cons hb' pa_nil (by rw [hs2]; rfl)) (by rw [hs, hs2])) hs hs2) hg hb hf).imp (imp_for2 fun _ _ _ _ h => h)
end

/-! ### while -/
def whileN (c : BM) (body : SM) : Nat → DEnv → Option (Fl × DEnv)
  | 0, _ => none
  | n + 1, ρ => match c ρ with
    | some (true, ρ1) => match body ρ1 with
      | some (.nx, ρ2) => whileN c body n ρ2
      | some (.ct, ρ2) => whileN c body n ρ2
      | some (.bk, ρ2) => some (.nx, ρ2)
      | some (.rt d, ρ2) => some (.rt d, ρ2)
      | some (.xc x, ρ2) => some (.xc x, ρ2)
      | none => none
    | some (false, ρ1) => some (.nx, ρ1)
    | none => none
theorem whileN_mono {c : BM} {body : SM} : ∀ {n m : Nat} {ρ : DEnv} {r : Fl × DEnv}, n ≤ m → whileN c body n ρ = some r → whileN c body m ρ = some r
  | 0, _, _, _, _, h => by simp [whileN] at h
  | n + 1, 0, _, _, hl, _ => by omega
  | n + 1, m + 1, ρ, r, hl, h => by
    simp only [whileN] at h ⊢
    cases hc : c ρ with
    | none => rw [hc] at h; cases h
    | some p =>
      obtain ⟨b, ρ1⟩ := p
      rw [hc] at h
      cases b with
      | false => exact h
      | true =>
        simp only at h ⊢
        cases hb : body ρ1 with
        | none => rw [hb] at h; cases h
        | some p2 =>
          obtain ⟨f2, ρ2⟩ := p2
          rw [hb] at h
          cases f2 with
          | nx => exact whileN_mono (by omega) h
          | ct => exact whileN_mono (by omega) h
          | bk => exact h
          | rt d => exact h
          | xc d => exact h
open Classical in
noncomputable def sWhile (c : BM) (body : SM) : SM := fun ρ => if h : ∃ r n, whileN c body n ρ = some r then some (Classical.choose h) else none
theorem sWhile_of {c : BM} {body : SM} {n : Nat} {ρ : DEnv} {r : Fl × DEnv} (h : whileN c body n ρ = some r) : sWhile c body ρ = some r := by
  have ex : ∃ r n, whileN c body n ρ = some r := ⟨r, n, h⟩
  unfold sWhile
  rw [dif_pos ex]
  obtain ⟨m, hm⟩ := Classical.choose_spec ex
  have h1 := whileN_mono (Nat.le_max_left n m) h
  have h2 := whileN_mono (Nat.le_max_right n m) hm
  exact h2.symm.trans h1
theorem of_sWhile {c : BM} {body : SM} {ρ : DEnv} {r : Fl × DEnv} (h : sWhile c body ρ = some r) : ∃ n, whileN c body n ρ = some r := by
  unfold sWhile at h
  split at h
  · rename_i ex
    obtain ⟨m, hm⟩ := Classical.choose_spec ex
    cases h
    exact ⟨m, hm⟩
  · cases h
theorem imp_while {F : Fm} {c : BM} {body : SM} : ∀ D' σ H, tS F (sWhile c body) D' σ H → tWhile (tT F c) (tS F body) D' σ H := fun D' σ H ⟨ρ, ts, fl, ρ', a, q, k⟩ => by
  obtain ⟨n0, h0⟩ := of_sWhile q
  refine ⟨fun n σ H => ∃ ρ, At F σ H ρ ts ∧ whileN c body n ρ = some (fl, ρ'), ⟨n0, ρ, a, h0⟩, ?_⟩
  rintro n σ1 H1 ⟨ρ1, a1, h1⟩
  cases n with
  | zero => simp [whileN] at h1
  | succ n =>
    simp only [whileN] at h1
    split at h1
    · rename_i ρ2 hc
      refine ⟨ρ1, ts, true, ρ2, a1, hc, fun H2 a2 => iteT ⟨fun σ H => ∃ ρ, At F σ H ρ ts ∧ whileN c body n ρ = some (fl, ρ'), fun σ' H' p => ⟨n, Nat.lt_succ_self n, p⟩, ?_⟩⟩
      split at h1
      · rename_i ρ3 hb; exact ⟨ρ2, ts, _, ρ3, a2, hb, fun σ' H' a' => ⟨ρ3, a', h1⟩⟩
      · rename_i ρ3 hb; exact ⟨ρ2, ts, _, ρ3, a2, hb, fun σ' H' a' => ⟨ρ3, a', h1⟩⟩
      · rename_i ρ3 hb; cases h1; exact ⟨ρ2, ts, _, _, a2, hb, k⟩
      · rename_i d ρ3 hb; cases h1; exact ⟨ρ2, ts, _, _, a2, hb, k⟩
      · rename_i d ρ3 hb; cases h1; exact ⟨ρ2, ts, _, _, a2, hb, k⟩
      · cases h1
    · rename_i ρ2 hc
      cases h1
      exact ⟨ρ1, ts, false, _, a1, hc, fun H2 a2 => iteF (k _ H2 a2)⟩
    · cases h1
theorem s_while {X : Cx} {vs0 : List V} {W : WX} {pos : Pos} {c : Expr} {bs : List Stmt} {cm : BM} {body : SM} (hp : PassesOwn (model X.prog X.w) X.A X.env X.xe) (hc : PT X c (tT (fm X vs0) cm)) (hb : PSs X bs (tS (fmW X vs0 W) body)) : PS X (.While c bs [] pos) (tS (fmW X vs0 W) (sWhile cm body)) := (ps_while hp hc hb).imp imp_while
end Dl

set_option Elab.async false
set_option linter.all false
set_option maxRecDepth 100000
set_option maxHeartbeats 1000000
/-! DL6: comprehensions. -/
namespace Dl
open PySem PySem.Spec PyProof.Rows L2

def wipeD (ρ : DEnv) : List Nat → DEnv
  | [] => ρ
  | v :: vs => (wipeD ρ vs).set v none
def bYes : BM := fun ρ => some (true, ρ)
/-- the block's turns: the items made, the frame behind -/
def compL (g : GM) (t : BM) (e : EM) (vs : List Nat) : List D → DEnv → Option (List D × DEnv)
  | [], ρ => some ([], ρ)
  | d :: ds, ρ => match g d ρ with
    | some ρ1 => match t ρ1 with
      | some (true, ρ2) => match e ρ2 with
        | some (y, ρ3) => match compL g t e vs ds (wipeD ρ3 vs) with
          | some (ys, ρ4) => some (y :: ys, ρ4)
          | none => none
        | none => none
      | some (false, ρ2) => compL g t e vs ds (wipeD ρ2 vs)
      | none => none
    | none => none
def compE (g : GM) (t : BM) (e : EM) (vs : List Nat) (ds : List D) (ρ : DEnv) : Option (D × DEnv) :=
  if ds.length ≤ sizeLine then match compL g t e vs ds (wipeD ρ vs) with
    | some (ys, ρ2) => some (.lst true ys, ρ2)
    | none => none
  else none
def eComp (it : EM) (g : GM) (t : BM) (e : EM) (vs : List Nat) : EM := fun ρ => match it ρ with
  | some (d, ρ1) => match itemsD d.frz with
    | some ds => compE g t e vs ds ρ1
    | none => none
  | none => none
def eCompR1 (it : EM) (g : GM) (t : BM) (e : EM) (vs : List Nat) : EM := fun ρ => match it ρ with
  | some (.int j, ρ1) => if okR j = true then compE g t e vs (rangeD 0 j.toNat) ρ1 else none
  | _ => none
def eCompR2 (a b : EM) (g : GM) (t : BM) (e : EM) (vs : List Nat) : EM := fun ρ => match a ρ with
  | some (.int i, ρ1) => match b ρ1 with
    | some (.int j, ρ2) => if okR i = true ∧ okR j = true then compE g t e vs (rangeD i (j - i).toNat) ρ2 else none
    | _ => none
  | _ => none
section
variable {F : Fm} {g : GM} {t : BM} {e : EM} {vs : List Nat} {gt : TG}
theorem wipeD_length (ρ : DEnv) : ∀ vs : List Nat, (wipeD ρ vs).length = ρ.length
  | [] => rfl
  | v :: vs => by unfold wipeD; rw [List.length_set, wipeD_length ρ vs]
theorem wipeD_get {ρ : DEnv} {i : Nat} {d : D} : ∀ {vs : List Nat}, (wipeD ρ vs)[i]? = some (some d) → ρ[i]? = some (some d) ∧ i ∉ vs
  | [], h => ⟨h, by simp⟩
  | v :: vs, h => by
    unfold wipeD at h
    by_cases hi : v = i
    · subst hi
      by_cases hv : v < (wipeD ρ vs).length
      · rw [List.getElem?_set_self hv] at h; cases h
      · rw [List.getElem?_eq_none (by simpa using hv)] at h; cases h
    · rw [List.getElem?_set_ne hi] at h
      obtain ⟨h1, h2⟩ := wipeD_get h
      exact ⟨h1, by simp only [List.mem_cons, not_or]; exact ⟨fun e => hi e.symm, h2⟩⟩
theorem wipe_get {σ : L2.St} {i : Nat} : ∀ {vs : List Nat}, i ∉ vs → (wipe σ vs)[i]? = σ[i]?
  | [], _ => rfl
  | v :: vs, h => by
    simp only [List.mem_cons, not_or] at h
    unfold wipe
    rw [List.getElem?_set_ne (fun e => h.1 e.symm), wipe_get h.2]
theorem slotR_agree : ∀ {σ σ' : L2.St} {ρ : DEnv}, σ.length = σ'.length → (∀ (i : Nat) (d : D), ρ[i]? = some (some d) → σ[i]? = σ'[i]?) → slotR σ ρ = slotR σ' ρ
  | [], [], _, _, _ => rfl
  | x :: σ, y :: σ', [], _, _ => by cases x <;> cases y <;> rfl
  | x :: σ, y :: σ', none :: ρ, hl, h => by
    have ih := slotR_agree (σ := σ) (σ' := σ') (ρ := ρ) (by simpa using hl) fun i d q => by simpa using h (i + 1) d (by simpa using q)
    rw [slotR_none, slotR_none, ih]
  | x :: σ, y :: σ', some d :: ρ, hl, h => by
    have ih := slotR_agree (σ := σ) (σ' := σ') (ρ := ρ) (by simpa using hl) fun i d q => by simpa using h (i + 1) d (by simpa using q)
    have e := h 0 d rfl
    simp at e
    subst e
    cases x <;> simp [slotR, ih]
  | [], _ :: _, _, h, _ => by cases h
  | _ :: _, [], _, h, _ => by cases h
theorem slotR_wipe (σ : L2.St) (ρ : DEnv) : ∀ vs : List Nat, ∃ xs, (slotR σ ρ).Perm (xs ++ slotR σ (wipeD ρ vs))
  | [] => ⟨[], by simp [wipeD]⟩
  | v :: vs => by
    obtain ⟨xs, h⟩ := slotR_wipe σ ρ vs
    obtain ⟨ys, h2⟩ := slotR_forget σ (wipeD ρ vs) v
    exact ⟨xs ++ ys, by rw [List.append_assoc]; exact h.trans (h2.append_left _)⟩
theorem At.wiped {σ : L2.St} {H : Hp} {ρ : DEnv} {ts : List Rt} (a : At F σ H ρ ts) (hv : ∀ i ∈ vs, F.vs0.length ≤ i) : At F (wipe σ vs) H (wipeD ρ vs) ts := by
  have ag : slotR (wipe σ vs) (wipeD ρ vs) = slotR σ (wipeD ρ vs) := slotR_agree (wipe_length σ vs) fun i d h => wipe_get (wipeD_get h).2
  refine ⟨by rw [wipe_length]; exact a.lenS, by rw [wipeD_length]; exact a.lenR, fun i d h => ?_, fun i v h => ?_, ?_⟩
  · obtain ⟨h1, h2⟩ := wipeD_get h
    obtain ⟨v, e⟩ := a.fit i d h1
    exact ⟨v, (wipe_get h2).trans e⟩
  · have hi : i ∉ vs := fun hm => by
      have := hv i hm
      have := (List.getElem?_eq_some_iff.mp h).1
      omega
    rw [wipe_get hi]
    exact a.par i v h
  · rw [ag]
    obtain ⟨xs, p⟩ := slotR_wipe σ ρ vs
    exact Sim.drop (xs := xs) (a.sim.perm (by rw [← List.append_assoc]; exact p.append_right _))
theorem At.unwiped {σ : L2.St} {H : Hp} {ρ : DEnv} {ts : List Rt} (hl : σ.length = F.n) (hp : ∀ (i : Nat) (v : V), F.vs0[i]? = some v → σ[i]? = some (some v)) (a : At F (wipe σ vs) H ρ ts) : At F σ H ρ ts := by
  refine ⟨hl, a.lenR, fun i d h => ?_, hp, ?_⟩
  · obtain ⟨v, e⟩ := a.fit i d h
    exact ⟨v, (wipe_some e).1⟩
  · rw [slotR_agree (σ' := wipe σ vs) (wipe_length σ vs).symm fun i d h => ?_]
    · exact a.sim
    · obtain ⟨v, e⟩ := a.fit i d h
      rw [e, (wipe_some e).1]
theorem wipe_set {σ : L2.St} {i : Nat} {y : Option V} : ∀ {vs : List Nat}, i ∈ vs → wipe (σ.set i y) vs = wipe σ vs
  | [], h => by cases h
  | v :: vs, h => by
    unfold wipe
    by_cases hm : i ∈ vs
    · rw [wipe_set hm]
    · have e : i = v := by rcases List.mem_cons.mp h with e | e; exact e; exact absurd e hm
      subst e
      have : ∀ vs : List Nat, i ∉ vs → wipe (σ.set i y) vs = (wipe σ vs).set i y := by
        intro vs
        induction vs with
        | nil => intro _; rfl
        | cons w ws ih =>
          intro hn
          simp only [List.mem_cons, not_or] at hn
          unfold wipe
          rw [ih hn.2, List.set_comm _ _ (Ne.symm hn.1)]
      rw [this vs hm, List.set_set]
theorem wipe_wipe (σ : L2.St) : ∀ vs : List Nat, wipe (wipe σ vs) vs = wipe σ vs := fun vs => by
  have : ∀ (ws : List Nat), (∀ i ∈ ws, i ∈ vs) → wipe (wipe σ ws) vs = wipe σ vs := by
    intro ws
    induction ws with
    | nil => intro _; rfl
    | cons w ws ih =>
      intro h
      show wipe ((wipe σ ws).set w none) vs = _
      rw [wipe_set (h w List.mem_cons_self), ih fun i hi => h i (List.mem_cons_of_mem _ hi)]
  exact this vs fun _ h => h
theorem wipe_setV : ∀ {is : List Nat} {xs : List V} {σ : L2.St}, (∀ i ∈ is, i ∈ vs) → wipe (setV σ is xs) vs = wipe σ vs
  | [], xs, σ, _ => by unfold setV; rfl
  | i :: is, [], σ, _ => by unfold setV; rfl
  | i :: is, x :: xs, σ, h => by
    unfold setV
    rw [wipe_setV fun j hj => h j (List.mem_cons_of_mem _ hj), wipe_set (h i List.mem_cons_self)]
/-- what a target of a comprehension must bear -/
def GtOk (F : Fm) (g : GM) (gt : TG) (vs : List Nat) : Prop := ∀ (x : V) (d : D) (σ : L2.St) (H : Hp) (ρ ρ1 : DEnv) (ts : List Rt) (Q : L2.St → Hp → Prop), At F σ H ρ (.v x d :: ts) → g d ρ = some ρ1 → (∀ σ2, At F σ2 H ρ1 ts → wipe σ2 vs = wipe σ vs → Q σ2 H) → gt x σ H Q
theorem gt_name {i : Nat} (hp : F.vs0.length ≤ i) (hi : i < F.n) (hm : i ∈ vs) : GtOk F (gN i) (gName i) vs := fun x d σ H ρ ρ1 ts Q a q k => by
  cases q
  exact k _ (a.store hp hi) (wipe_set hm)
theorem gt_tup {is : List Nat} (hi : ∀ i ∈ is, F.vs0.length ≤ i ∧ i < F.n) (hm : ∀ i ∈ is, i ∈ vs) : GtOk F (gTu is) (gTup F.K is.length (gNs is)) vs := fun x d σ H ρ ρ1 ts Q a q k => by
  unfold gTu at q
  split at q
  · rename_i ds
    obtain ⟨b, xs, rfl, hl, hb, s'⟩ := Sim.unT a.front
    have a1 : At F σ H ρ (vals xs ds ++ ts) := a.of_front (by rw [List.append_assoc]; exact s')
    obtain ⟨h1, h2⟩ := At.stores q hl hi a1
    exact ⟨b, xs, rfl, SqT.of hb, h1, gNs_ok h1 (k _ h2 (wipe_setV hm))⟩
  · cases q
theorem compL_len : ∀ {ds : List D} {ρ : DEnv} {ys : List D} {ρ' : DEnv}, compL g t e vs ds ρ = some (ys, ρ') → ys.length ≤ ds.length
  | [], ρ, ys, ρ', h => by simp only [compL] at h; cases h; exact Nat.le_refl _
  | d :: ds, ρ, ys, ρ', h => by
    simp only [compL] at h
    split at h
    · split at h
      · split at h
        · split at h
          · rename_i h4
            cases h
            have := compL_len h4
            simp only [List.length_cons]
            omega
          · cases h
        · cases h
      · have := compL_len h
        simp only [List.length_cons]
        omega
      · cases h
    · cases h
/-- the turns of a comprehension's block -/
theorem comp_turns {J : It} {σ : L2.St} {H1 : Hp} {ρ : DEnv} {ts : List Rt} {ds : List D} {ys : List D} {ρ' : DEnv} {D0 : Addr} {Qd : Hp → Prop} (hgt : GtOk F g gt vs) (hv : ∀ i ∈ vs, F.vs0.length ≤ i) (a : At F σ H1 ρ ts) (hD : H1 D0 = none)
    (hz : ds.length ≤ sizeLine) (q : compL g t e vs ds (wipeD ρ vs) = some (ys, ρ'))
    (hgo : ∀ i σ H ρ ts', i < ds.length → At F σ H ρ (.v (.ref D0) (.lst true ts') :: ts) → J.go i H) (hst : ∀ σ H ρ ts', At F σ H ρ (.v (.ref D0) (.lst true ts') :: ts) → J.stop ds.length H)
    (hy : ∀ i x σ H H' ρ zs (hi : i < ds.length), At F σ H ρ (.v (.ref D0) (.lst true zs) :: ts) → J.yld i H x H' → H' = H ∧ At F σ H ρ (.v x ds[i] :: .v (.ref D0) (.lst true zs) :: ts))
    (hd : ∀ H, At F σ H ρ' (.v (.ref D0) (.lst true ys) :: ts) → Qd H) :
    ∃ W : Nat → Nat → Hp → Prop, (∃ m, W 0 m (upd H1 D0 (.lst []))) ∧ ∀ i m H, W i m H → (J.stop i H ∧ Qd H) ∨ (J.go i H ∧ ∃ Nx : Hp → Prop, (∀ H', Nx H' → ∃ m', m' < m ∧ W (i + 1) m' H') ∧ ∀ x H', J.yld i H x H' → gt x (wipe σ vs) H' fun σ2 H2 => wipe σ2 vs = wipe σ vs ∧ tT F t σ2 H2 fun b H3 =>
      if b = true then tD F e σ2 H3 fun y H4 => ∃ acc, H4 D0 = some (.lst acc) ∧ acc.length < sizeLine ∧ Nx (upd H4 D0 (.lst (acc ++ [y]))) else Nx H3) := by
  refine ⟨fun i m H => m = ds.length - i ∧ i ≤ ds.length ∧ ∃ ρ zs rest, At F (wipe σ vs) H ρ (.v (.ref D0) (.lst true zs) :: ts) ∧ compL g t e vs (ds.drop i) ρ = some (rest, ρ') ∧ zs ++ rest = ys ∧ zs.length ≤ i, ⟨ds.length, by simp, Nat.zero_le _, wipeD ρ vs, [], ys, ?_, q, rfl, Nat.le_refl _⟩, ?_⟩
  · exact (a.wiped hv).newL (xs := []) (ds := []) rfl hD
  rintro i m H ⟨rfl, hi, ρ1, zs, rest, b, hc, hr, hzl⟩
  by_cases hlt : i < ds.length
  · refine .inr ⟨hgo i _ H ρ1 zs hlt b, fun H => ∃ ρ zs rest, At F (wipe σ vs) H ρ (.v (.ref D0) (.lst true zs) :: ts) ∧ compL g t e vs (ds.drop (i + 1)) ρ = some (rest, ρ') ∧ zs ++ rest = ys ∧ zs.length ≤ i + 1, fun H' p => ⟨ds.length - (i + 1), by omega, rfl, hlt, p⟩, fun x H' y => ?_⟩
    obtain ⟨rfl, b1⟩ := hy i x _ H H' ρ1 zs hlt b y
    rw [List.drop_eq_getElem_cons hlt] at hc
    simp only [compL] at hc
    split at hc
    · rename_i ρ2 hg
      refine hgt x _ _ _ _ ρ2 _ _ b1 hg fun σ2 b2 hw => ⟨by rw [hw, wipe_wipe], ?_⟩
      have hw2 : wipe σ2 vs = wipe σ vs := by rw [hw, wipe_wipe]
      split at hc
      · rename_i ρ3 ht
        refine ⟨ρ2, _, true, ρ3, b2, ht, fun H3 b3 => iteT ?_⟩
        split at hc
        · rename_i y' ρ4 he
          split at hc
          · rename_i ys' ρ5 h5
            cases hc
            refine ⟨ρ3, _, y', ρ4, b3, he, fun v H4 b4 => ?_⟩
            have s4 : Sim F.K F.mg H4 (.v (.ref D0) (.lst true zs) :: .v v y' :: (ts ++ slotR σ2 ρ4)) := (b4.front).perm (.swap _ _ _)
            obtain ⟨a0, acc, e0, hl, s5⟩ := s4.unL
            cases e0
            refine ⟨acc, s5.cell, by omega, wipeD ρ4 vs, zs ++ [y'], ys', ?_, h5, by rw [List.append_assoc]; exact hr, by rw [List.length_append, List.length_singleton]; omega⟩
            have s6 := s5.write (o' := .lst (acc ++ [v]))
            have s7 : Sim F.K F.mg (upd H4 D0 (.lst (acc ++ [v]))) (.c D0 (.lst (acc ++ [v])) :: vals (acc ++ [v]) (zs ++ [y']) ++ (ts ++ slotR σ2 ρ4)) := s6.perm (by
              rw [vals_append hl]
              show (Rt.c D0 _ :: (vals acc zs ++ (.v v y' :: (ts ++ slotR σ2 ρ4)))).Perm (Rt.c D0 _ :: (vals acc zs ++ [.v v y']) ++ (ts ++ slotR σ2 ρ4))
              simp)
            have s8 := s7.foL (by rw [List.length_append, List.length_append, hl]; rfl)
            have b5 : At F σ2 (upd H4 D0 (.lst (acc ++ [v]))) ρ4 (.v (.ref D0) (.lst true (zs ++ [y'])) :: ts) := b4.of_front s8
            have b6 := b5.wiped hv
            rw [hw2] at b6
            exact b6
          · cases hc
        · cases hc
      · rename_i ρ3 ht
        refine ⟨ρ2, _, false, ρ3, b2, ht, fun H3 b3 => iteF ?_⟩
        have b6 := b3.wiped hv
        rw [hw2] at b6
        exact ⟨wipeD ρ3 vs, zs, rest, b6, hc, hr, by omega⟩
      · cases hc
    · cases hc
  · have e : i = ds.length := by omega
    subst e
    rw [List.drop_length] at hc
    simp only [compL] at hc
    cases hc
    rw [List.append_nil] at hr
    subst hr
    exact .inl ⟨hst _ H ρ' zs b, hd H (At.unwiped a.lenS a.par b)⟩
theorem compE_some {ds : List D} {ρ ρ' : DEnv} {d : D} (h : compE g t e vs ds ρ = some (d, ρ')) : ds.length ≤ sizeLine ∧ ∃ ys, d = .lst true ys ∧ compL g t e vs ds (wipeD ρ vs) = some (ys, ρ') := by
  unfold compE at h
  split at h
  · rename_i hz
    split at h
    · rename_i ys ρ2 hc; cases h; exact ⟨hz, ys, rfl, hc⟩
    · cases h
  · cases h
/-- behind the new list a root stays as it was -/
theorem At.snd {σ : L2.St} {H : Hp} {ρ : DEnv} {ts : List Rt} {r : Rt} {q : Rt} (a : At F σ H ρ (r :: q :: ts)) : At F σ H ρ (q :: r :: ts) := a.perm (.swap _ _ _)
theorem imp_comp {it : EM} (hgt : GtOk F g gt vs) (hv : ∀ i ∈ vs, F.vs0.length ≤ i) : ∀ σ H Q, tD F (eComp it g t e vs) σ H Q → tLc (iSeq F.K (tD F it)) gt (tT F t) (tD F e) vs σ H Q := fun σ H Q ⟨ρ, ts, d, ρ', a, q, k⟩ => by
  unfold eComp at q
  split at q
  · rename_i d0 ρ1 he
    split at q
    · rename_i ds hd
      obtain ⟨hz, ys, rfl, hc⟩ := compE_some q
      refine ⟨ρ, ts, d0, ρ1, a, he, fun v H1 a1 => ?_⟩
      have a2 : At F σ H1 ρ1 (.v v d0.frz :: ts) := a1.of_front (by have := a1.front; exact this.frz)
      have hst := D.stable_frz d0
      generalize d0.frz = e0 at hd a2 hst
      obtain ⟨a0, us, rfl, hl, hk⟩ := seq_root hd a2
      refine ⟨a0, rfl, ?_⟩
      rcases hk with ⟨hu, hk⟩ | ⟨hu, hk⟩
      · refine .inl ⟨⟨us, SqL.of hu⟩, fun D0 hD0 => ?_⟩
        refine comp_turns hgt hv a2 hD0 hz hc (fun i σ H ρ zs hi b => (go_l b.snd hk).1 i hi) (fun σ H ρ zs b => (go_l b.snd hk).2) (fun i x σ H H' ρ zs hi b y => ?_) (fun H b => k _ H b.drop2)
        obtain ⟨e1, b1⟩ := yld_l hd hst b.snd hi hk y
        exact ⟨e1, b1.perm (List.Perm.cons _ (.swap _ _ _))⟩
      · refine .inr ⟨⟨us, SqT.of hu⟩, fun D0 hD0 => ?_⟩
        refine comp_turns hgt hv a2 hD0 hz hc (fun i σ H ρ zs hi b => (go_t b.snd hk).1 i hi) (fun σ H ρ zs b => (go_t b.snd hk).2) (fun i x σ H H' ρ zs hi b y => ?_) (fun H b => k _ H b.drop2)
        obtain ⟨e1, b1⟩ := yld_t hd hst b.snd hi hk y
        exact ⟨e1, b1.perm (List.Perm.cons _ (.swap _ _ _))⟩
    · cases q
  · cases q
theorem range_comp {σ : L2.St} {H1 : Hp} {ρ : DEnv} {ts : List Rt} {lo : Int} {n : Nat} {d : D} {ρ' : DEnv} {D0 : Addr} {Q : VK} (hgt : GtOk F g gt vs) (hv : ∀ i ∈ vs, F.vs0.length ≤ i) (a : At F σ H1 ρ ts) (hD : H1 D0 = none) (q : compE g t e vs (rangeD lo n) ρ = some (d, ρ')) (k : ∀ v H', At F σ H' ρ' (.v v d :: ts) → Q v H') :
    ∃ W : Nat → Nat → Hp → Prop, (∃ m, W 0 m (upd H1 D0 (.lst []))) ∧ ∀ i m H, W i m H → ((Itr lo n).stop i H ∧ Q (.ref D0) H) ∨ ((Itr lo n).go i H ∧ ∃ Nx : Hp → Prop, (∀ H', Nx H' → ∃ m', m' < m ∧ W (i + 1) m' H') ∧ ∀ x H', (Itr lo n).yld i H x H' → gt x (wipe σ vs) H' fun σ2 H2 => wipe σ2 vs = wipe σ vs ∧ tT F t σ2 H2 fun b H3 =>
      if b = true then tD F e σ2 H3 fun y H4 => ∃ acc, H4 D0 = some (.lst acc) ∧ acc.length < sizeLine ∧ Nx (upd H4 D0 (.lst (acc ++ [y]))) else Nx H3) := by
  obtain ⟨hz, ys, rfl, hc⟩ := compE_some q
  have hn := rangeD_len lo n
  refine comp_turns (J := Itr lo n) hgt hv a hD hz hc (fun i σ H ρ zs hi b => by rw [hn] at hi; exact hi) (fun σ H ρ zs b => by rw [hn]; exact Nat.le_refl n) (fun i x σ H H' ρ zs hi b y => ?_) (fun H b => k _ H b)
  obtain ⟨e1, e2⟩ := y
  refine ⟨e1, ?_⟩
  rw [rangeD_get lo n i hi, e2]
  exact b.mk' (mk_int _)
theorem imp_comp1 {it : EM} (hgt : GtOk F g gt vs) (hv : ∀ i ∈ vs, F.vs0.length ≤ i) : ∀ σ H Q, tD F (eCompR1 it g t e vs) σ H Q → tLc (iRng1 (tCons (tD F it) tNil)) gt (tT F t) (tD F e) vs σ H Q := fun σ H Q ⟨ρ, ts, d, ρ', a, q, k⟩ => by
  unfold eCompR1 at q
  split at q
  · rename_i j ρ1 he
    split at q
    · rename_i hj
      refine ⟨ρ, ts, _, ρ1, a, he, fun v H1 a1 => ⟨j, ?_, (okR_of hj).1, (okR_of hj).2, fun D0 hD0 => range_comp hgt hv a1.tail hD0 q k⟩⟩
      rw [Rp.int_inv ((a1.front).rp)]
    · cases q
  · cases q
theorem imp_comp2 {ea eb : EM} (hgt : GtOk F g gt vs) (hv : ∀ i ∈ vs, F.vs0.length ≤ i) : ∀ σ H Q, tD F (eCompR2 ea eb g t e vs) σ H Q → tLc (iRng2 (tCons (tD F ea) (tCons (tD F eb) tNil))) gt (tT F t) (tD F e) vs σ H Q := fun σ H Q ⟨ρ, ts, d, ρ', a, q, k⟩ => by
  unfold eCompR2 at q
  split at q
  · rename_i i ρ1 he
    split at q
    · rename_i j ρ2 he2
      split at q
      · rename_i hj
        refine ⟨ρ, ts, _, ρ1, a, he, fun v H1 a1 => ⟨ρ1, _, _, ρ2, a1, he2, fun w H2 a2 => ?_⟩⟩
        have s2 : Sim F.K F.mg H2 (.v w (.int j) :: .v v (.int i) :: (ts ++ slotR σ ρ2)) := a2.front
        refine ⟨i, j, ?_, ⟨(okR_of hj.1).1, (okR_of hj.1).2, (okR_of hj.2).1, (okR_of hj.2).2⟩, fun D0 hD0 => range_comp hgt hv (a2.of_front s2.tail.tail) hD0 q k⟩
        rw [Rp.int_inv s2.rp, Rp.int_inv s2.tail.rp]
      · cases q
    · cases q
  · cases q
theorem imp_yes : ∀ σ H Q, tT F bYes σ H Q → tYes σ H Q := fun σ H Q ⟨ρ, ts, b, ρ', a, q, k⟩ => by cases q; exact k H a
end
theorem _root_.L2.PTs.imp {X : Cx} {ifs : List Expr} {t t' : TT} (h : PTs X ifs t) (k : ∀ σ H Q, t' σ H Q → t σ H Q) : PTs X ifs t' := ⟨fun pins s σ H Q I q => h.run pins s σ H Q I (k _ _ _ q)⟩
section
variable {X : Cx} {vs0 : List V} {W : WX} {pos : Pos} {g : GM} {t : BM} {e : EM} {tg elt : Expr} {ifs : List Expr} {scope : Scope} {own : List (Str × Nat)} {gt : TG}
theorem ts_nil : PTs X [] (tT (fm X vs0) bYes) := pts_nil.imp imp_yes
theorem ts_one {c : Expr} {b : BM} (h : PT X c (tT (fm X vs0) b)) : PTs X [c] (tT (fm X vs0) b) := pts_one h
theorem gt_n (i : Nat) {vs : List Nat} (hp : vs0.length ≤ i) (hi : i < X.N.length) (hm : i ∈ vs) : GtOk (fm X vs0) (gN i) (gName i) vs := gt_name (F := fm X vs0) hp hi hm
theorem gt_t (is : List Nat) {vs : List Nat} (hi : ∀ i ∈ is, vs0.length ≤ i ∧ i < X.N.length) (hm : ∀ i ∈ is, i ∈ vs) : GtOk (fm X vs0) (gTu is) (gTup X.K is.length (gNs is)) vs := gt_tup (F := fm X vs0) hi hm
theorem e_comp {l : Expr} {it : EM} (hc : X.calm = true) (hN : X.N.Nodup) (hl : PE X l (tD (fm X vs0) it)) (ok : BlkOk X.N X.env.scope scope own) (hgt : GtOk (fm X vs0) g gt (own.map (·.2))) (hv : ∀ i ∈ own.map (·.2), vs0.length ≤ i)
    (hg : ∀ (s : Shared) (H : Hp) (C : Addr) (cl : List (Str × Addr)) (fp : List Addr), PG (X.blk s H scope (compEnvC scope cl C X.env) fp) tg gt) (ht : ∀ (s : Shared) (H : Hp) (C : Addr) (cl : List (Str × Addr)) (fp : List Addr), PTs (X.blk s H scope (compEnvC scope cl C X.env) fp) ifs (tT (fm X vs0) t))
    (he : ∀ (s : Shared) (H : Hp) (C : Addr) (cl : List (Str × Addr)) (fp : List Addr), PE (X.blk s H scope (compEnvC scope cl C X.env) fp) elt (tD (fm X vs0) e)) (hs : ∀ x, foldedSetIterable l X.env x = pure x := by intro _; rfl) :
    PE X (.ListComp elt [⟨tg, l, ifs, 0⟩] scope pos) (tD (fm X vs0) (eComp it g t e (own.map (·.2)))) := (pe_lc hc hN (pi_seq hl) ok hg ht he hs).imp (imp_comp (F := fm X vs0) hgt hv)
theorem e_comp1 {a : Expr} {p pos' : Pos} {it : EM} (hc : X.calm = true) (hN : X.N.Nodup) (hm : X.mg "range" = none) (ha : PE X a (tD (fm X vs0) it)) (ok : BlkOk X.N X.env.scope scope own) (hgt : GtOk (fm X vs0) g gt (own.map (·.2))) (hv : ∀ i ∈ own.map (·.2), vs0.length ≤ i)
    (hg : ∀ (s : Shared) (H : Hp) (C : Addr) (cl : List (Str × Addr)) (fp : List Addr), PG (X.blk s H scope (compEnvC scope cl C X.env) fp) tg gt) (ht : ∀ (s : Shared) (H : Hp) (C : Addr) (cl : List (Str × Addr)) (fp : List Addr), PTs (X.blk s H scope (compEnvC scope cl C X.env) fp) ifs (tT (fm X vs0) t))
    (he : ∀ (s : Shared) (H : Hp) (C : Addr) (cl : List (Str × Addr)) (fp : List Addr), PE (X.blk s H scope (compEnvC scope cl C X.env) fp) elt (tD (fm X vs0) e)) (hgl : Gl X "range" := by rfl) (hs : starEach [a] X.env = [(false, eval a X.env)] := by rfl) (hf : ∀ x, foldedSetIterable (.Call (.Name "range" p) [a] [] pos') X.env x = pure x := by intro _; rfl) :
    PE X (.ListComp elt [⟨tg, .Call (.Name "range" p) [a] [] pos', ifs, 0⟩] scope pos) (tD (fm X vs0) (eCompR1 it g t e (own.map (·.2)))) :=
  (pe_lc hc hN (pi_range1 hgl hm (pa_cons ha pa_nil (by rw [hs]; rfl)) hs) ok hg ht he hf).imp (imp_comp1 (F := fm X vs0) hgt hv)
theorem e_comp2 {a b : Expr} {p pos' : Pos} {ea eb : EM} (hc : X.calm = true) (hN : X.N.Nodup) (hm : X.mg "range" = none) (ha : PE X a (tD (fm X vs0) ea)) (hb : PE X b (tD (fm X vs0) eb)) (ok : BlkOk X.N X.env.scope scope own) (hgt : GtOk (fm X vs0) g gt (own.map (·.2))) (hv : ∀ i ∈ own.map (·.2), vs0.length ≤ i)
    (hg : ∀ (s : Shared) (H : Hp) (C : Addr) (cl : List (Str × Addr)) (fp : List Addr), PG (X.blk s H scope (compEnvC scope cl C X.env) fp) tg gt) (ht : ∀ (s : Shared) (H : Hp) (C : Addr) (cl : List (Str × Addr)) (fp : List Addr), PTs (X.blk s H scope (compEnvC scope cl C X.env) fp) ifs (tT (fm X vs0) t))
    (he : ∀ (s : Shared) (H : Hp) (C : Addr) (cl : List (Str × Addr)) (fp : List Addr), PE (X.blk s H scope (compEnvC scope cl C X.env) fp) elt (tD (fm X vs0) e)) (hgl : Gl X "range" := by rfl) (hs : starEach [a, b] X.env = [(false, eval a X.env), (false, eval b X.env)] := by rfl) (hs2 : starEach [b] X.env = [(false, eval b X.env)] := by rfl)
    (hf : ∀ x, foldedSetIterable (.Call (.Name "range" p) [a, b] [] pos') X.env x = pure x := by intro _; rfl) :
    PE X (.ListComp elt [⟨tg, .Call (.Name "range" p) [a, b] [] pos', ifs, 0⟩] scope pos) (tD (fm X vs0) (eCompR2 ea eb g t e (own.map (·.2)))) :=
  (pe_lc hc hN (pi_range2 hgl hm (pa_cons ha (pa_cons hb pa_nil (by rw [hs2]; rfl)) (by rw [hs, hs2])) hs hs2) ok hg ht he hf).imp (imp_comp2 (F := fm X vs0) hgt hv)
/-- name = [..] on one line -/
theorem imp_setLc {te : TE} {f : EM} {i : Nat} (hp : vs0.length ≤ i) (hi : i < X.N.length) (h : ∀ σ H Q, tD (fm X vs0) f σ H Q → te σ H Q) : ∀ D' σ H, tS (fmW X vs0 W) (sAsg f (gN i)) D' σ H → tAsg te (gName i) D' σ H := fun D' σ H q => by
  obtain ⟨ρ, ts, d, ρ', a, q, k⟩ := imp_asg (F := fmW X vs0 W) D' σ H q
  exact h σ H _ ⟨ρ, ts, d, ρ', a, q, fun v H' a' => imp_gN (F := fm X vs0) hp hi v σ H' D'.nx (k v H' a')⟩
theorem s_comp {y : Str} {py spos : Pos} {l : Expr} {it : EM} (i : Nat) (hp : vs0.length ≤ i) (hc : X.calm = true) (hN : X.N.Nodup) (hl : PE X l (tD (fm X vs0) it)) (ok : BlkOk X.N X.env.scope scope own) (hgt : GtOk (fm X vs0) g gt (own.map (·.2))) (hv : ∀ i ∈ own.map (·.2), vs0.length ≤ i)
    (hg : ∀ (s : Shared) (H : Hp) (C : Addr) (cl : List (Str × Addr)) (fp : List Addr), PG (X.blk s H scope (compEnvC scope cl C X.env) fp) tg gt) (ht : ∀ (s : Shared) (H : Hp) (C : Addr) (cl : List (Str × Addr)) (fp : List Addr), PTs (X.blk s H scope (compEnvC scope cl C X.env) fp) ifs (tT (fm X vs0) t))
    (he : ∀ (s : Shared) (H : Hp) (C : Addr) (cl : List (Str × Addr)) (fp : List Addr), PE (X.blk s H scope (compEnvC scope cl C X.env) fp) elt (tD (fm X vs0) e)) (hsw : swapsWith (.ListComp elt [⟨tg, l, ifs, 0⟩] scope pos) (some (.Name y py)) spos.line X.env = pure true) (hy : X.N[i]? = some y := by rfl) (hyl : X.env.scope.names.lookup y = some .local := by rfl)
    (hs : ∀ x, foldedSetIterable l X.env x = pure x := by intro _; rfl) : PS X (.Assign [.Name y py] (.ListComp elt [⟨tg, l, ifs, 0⟩] scope pos) spos) (tS (fmW X vs0 W) (sAsg (eComp it g t e (own.map (·.2))) (gN i))) :=
  (ps_setLc hc hN hy hyl hsw (pi_seq hl) ok hg ht he hs).imp (imp_setLc hp (List.getElem?_eq_some_iff.mp hy).1 (imp_comp (F := fm X vs0) hgt hv))
theorem s_comp1 {y : Str} {py spos : Pos} {a : Expr} {p pos' : Pos} {it : EM} (i : Nat) (hp : vs0.length ≤ i) (hc : X.calm = true) (hN : X.N.Nodup) (hm : X.mg "range" = none) (ha : PE X a (tD (fm X vs0) it)) (ok : BlkOk X.N X.env.scope scope own) (hgt : GtOk (fm X vs0) g gt (own.map (·.2))) (hv : ∀ i ∈ own.map (·.2), vs0.length ≤ i)
    (hg : ∀ (s : Shared) (H : Hp) (C : Addr) (cl : List (Str × Addr)) (fp : List Addr), PG (X.blk s H scope (compEnvC scope cl C X.env) fp) tg gt) (ht : ∀ (s : Shared) (H : Hp) (C : Addr) (cl : List (Str × Addr)) (fp : List Addr), PTs (X.blk s H scope (compEnvC scope cl C X.env) fp) ifs (tT (fm X vs0) t))
    (he : ∀ (s : Shared) (H : Hp) (C : Addr) (cl : List (Str × Addr)) (fp : List Addr), PE (X.blk s H scope (compEnvC scope cl C X.env) fp) elt (tD (fm X vs0) e)) (hsw : swapsWith (.ListComp elt [⟨tg, .Call (.Name "range" p) [a] [] pos', ifs, 0⟩] scope pos) (some (.Name y py)) spos.line X.env = pure true) (hy : X.N[i]? = some y := by rfl) (hyl : X.env.scope.names.lookup y = some .local := by rfl)
    (hgl : Gl X "range" := by rfl) (hs : starEach [a] X.env = [(false, eval a X.env)] := by rfl) (hf : ∀ x, foldedSetIterable (.Call (.Name "range" p) [a] [] pos') X.env x = pure x := by intro _; rfl) :
    PS X (.Assign [.Name y py] (.ListComp elt [⟨tg, .Call (.Name "range" p) [a] [] pos', ifs, 0⟩] scope pos) spos) (tS (fmW X vs0 W) (sAsg (eCompR1 it g t e (own.map (·.2))) (gN i))) :=
  (ps_setLc hc hN hy hyl hsw (pi_range1 hgl hm (pa_cons ha pa_nil (by rw [hs]; rfl)) hs) ok hg ht he hf).imp (imp_setLc hp (List.getElem?_eq_some_iff.mp hy).1 (imp_comp1 (F := fm X vs0) hgt hv))
end
end Dl

set_option Elab.async false
set_option linter.all false
set_option maxRecDepth 100000
set_option maxHeartbeats 1000000
/-! DL7: calls of built-ins. -/
namespace Dl
open PySem PySem.Spec PyProof.Rows L2

def pAll : List PM → DEnv → Option (List D)
  | [], _ => some []
  | f :: r, ρ => match f ρ, pAll r ρ with
    | some d, some ds => some (d :: ds)
    | _, _ => none
def tAP (F : Fm) (fs : List PM) : TA := fun σ H Q => ∃ ρ ts ds, At F σ H ρ ts ∧ pAll fs ρ = some ds ∧ ∀ vs H', Same H H' → RpL F.K F.mg H' vs ds → Q vs H'
def RnD (K : PySem.W.Frag) (mg : MG) (r : List V → Hp → VK → Prop) (op : List D → Option D) : Prop :=
  ∀ (vs : List V) (H : Hp) (ds : List D) (d : D) (Q : VK), RpL K mg H vs ds → op ds = some d → (∀ z H', Same H H' → Mk K mg H H' z d → Q z H') → r vs H Q
/-- a built-in of values read alone -/
def pBi (op : List D → Option D) (fs : List PM) : PM := fun ρ => match pAll fs ρ with
  | some ds => op ds
  | none => none
/-- .. its value new (perhaps owned) -/
def eBiP (op : List D → Option D) (fs : List PM) : EM := fun ρ => match pBi op fs ρ with
  | some d => some (d, ρ)
  | none => none
/-- a built-in of values reckoned -/
def eBi (op : List D → Option D) (am : AM) : EM := fun ρ => match am ρ with
  | some (as, ρ1) => match takeA as ρ1 with
    | some (ds, _) => match op ds with
      | some d => some (d, ρ1)
      | none => none
    | none => none
  | none => none
section
variable {X : Cx} {F : Fm} {vs0 : List V} {f : PM} {fs : List PM} {am : AM} {r r' : List V → Hp → VK → Prop} {op : List D → Option D} {e : Expr} {es : List Expr} {pos p : Pos} {K : PySem.W.Frag} {mg : MG}
theorem ap_nil : PA X [] (tAP (fm X vs0) []) := pa_nil.imp fun σ H Q ⟨ρ, ts, ds, a, q, k⟩ => by
  cases q
  exact k _ H (Same.refl H) .nil
theorem imp_ap : ∀ σ H Q, tAP F (f :: fs) σ H Q → tCons (tP F f) (tAP F fs) σ H Q := fun σ H Q ⟨ρ, ts, ds, a, q, k⟩ => by
  unfold pAll at q
  split at q
  · rename_i d ds' e1 e2
    cases q
    refine ⟨ρ, ts, d, a, e1, fun v H1 g1 rv _ => ⟨ρ, ts, ds', a.grow g1, e2, fun vs H2 g2 rs => k _ H2 (g1.trans g2) (.cons (rv.grow g2) rs)⟩⟩
  · cases q
theorem ap_cons (ha : PE X e (tP (fm X vs0) f)) (hr : PA X es (tAP (fm X vs0) fs)) (hs : starEach (e :: es) X.env = (false, eval e X.env) :: starEach es X.env := by rfl) : PA X (e :: es) (tAP (fm X vs0) (f :: fs)) := (pa_cons ha hr hs).imp imp_ap
theorem imp_bi (hr : RnD F.K F.mg r op) : ∀ σ H Q, tP F (pBi op fs) σ H Q → tCB r (tAP F fs) σ H Q := fun σ H Q ⟨ρ, ts, d, a, q, k⟩ => by
  unfold pBi at q
  split at q
  · rename_i ds e1
    refine ⟨ρ, ts, ds, a, e1, fun vs H1 g1 rs => ?_⟩
    refine hr vs H1 ds d Q rs q fun z H2 g2 m => ?_
    have a2 := (a.grow g1).mk' m
    exact k z H2 (g1.trans g2) (a2.front).rp (Cj.of a2)
  · cases q
theorem imp_biP (hr : RnD F.K F.mg r op) : ∀ σ H Q, tD F (eBiP op fs) σ H Q → tCB r (tAP F fs) σ H Q := fun σ H Q ⟨ρ, ts, d, ρ', a, q, k⟩ => by
  unfold eBiP pBi at q
  split at q
  · rename_i d' e0
    cases q
    split at e0
    · rename_i ds e1
      refine ⟨ρ, ts, ds, a, e1, fun vs H1 g1 rs => ?_⟩
      refine hr vs H1 ds d Q rs e0 fun z H2 g2 m => ?_
      exact k z H2 ((a.grow g1).mk' m)
    · cases e0
  · cases q
theorem vals_rpL {H : Hp} : ∀ {vs : List V} {ds : List D} {rs : List Rt}, vs.length = ds.length → Sim K mg H (vals vs ds ++ rs) → RpL K mg H vs ds
  | [], [], _, _, _ => .nil
  | v :: vs, d :: ds, rs, hl, s => .cons (Sim.rp (rs := vals vs ds ++ rs) s) (vals_rpL (rs := rs) (by simpa using hl) (Sim.tail (r := .v v d) (rs := vals vs ds ++ rs) s))
theorem imp_biE (hr : RnD F.K F.mg r op) : ∀ σ H Q, tD F (eBi op am) σ H Q → tCB r (tA F am) σ H Q := fun σ H Q ⟨ρ, ts, d, ρ', a, q, k⟩ => by
  unfold eBi at q
  split at q
  · rename_i as ρ1 e1
    split at q
    · rename_i ds ρ2 e2
      split at q
      · rename_i d' e3
        cases q
        refine ⟨ρ, ts, as, _, a, e1, fun vs H1 tm ar a1 => ?_⟩
        obtain ⟨lo, _, t⟩ := take_sim ar e2 (a1.front.perm (by rw [List.append_assoc]; exact (List.perm_append_comm (l₁ := ts)).append_left tm))
        refine hr vs H1 ds d Q (vals_rpL t.1 t.2.2.2) e3 fun z H2 g2 m => ?_
        exact k z H2 ((a1.of_front (ts' := ts) (by exact Sim.drop (xs := tm) (by rw [← List.append_assoc]; exact a1.front))).mk' m)
      · cases q
    · cases q
  · cases q
end
end Dl

set_option Elab.async false
set_option linter.all false
set_option maxRecDepth 100000
set_option maxHeartbeats 1000000
/-! DL8: the built-ins one by one. -/
namespace Dl
open PySem PySem.Spec PyProof.Rows L2

def intsL : List D → Option (List Int)
  | [] => some []
  | .int i :: ds => match intsL ds with
    | some l => some (i :: l)
    | none => none
  | _ :: _ => none
def blsL : List D → Option (List Bool)
  | [] => some []
  | .bl i :: ds => match blsL ds with
    | some l => some (i :: l)
    | none => none
  | _ :: _ => none
def strsL : List D → Option (List Str)
  | [] => some []
  | .str i :: ds => match strsL ds with
    | some l => some (i :: l)
    | none => none
  | _ :: _ => none
section
variable {K : PySem.W.Frag} {mg : MG} {H : Hp}
theorem RpL.ints : ∀ {xs : List V} {ds : List D} {l : List Int}, RpL K mg H xs ds → intsL ds = some l → xs = l.map V.int
  | _, [], l, .nil, e => by simp only [intsL] at e; cases e; rfl
  | _, d :: ds, l, .cons (v := v) h t, e => by
    cases d <;> simp only [intsL, reduceCtorEq] at e
    split at e
    · rename_i l' e'
      cases e
      obtain rfl := h.int_inv
      rw [RpL.ints t e', List.map_cons]
    · cases e
theorem RpL.bls : ∀ {xs : List V} {ds : List D} {l : List Bool}, RpL K mg H xs ds → blsL ds = some l → xs = l.map V.bl
  | _, [], l, .nil, e => by simp only [blsL] at e; cases e; rfl
  | _, d :: ds, l, .cons (v := v) h t, e => by
    cases d <;> simp only [blsL, reduceCtorEq] at e
    split at e
    · rename_i l' e'
      cases e
      obtain rfl := h.bl_inv
      rw [RpL.bls t e', List.map_cons]
    · cases e
theorem RpL.strs : ∀ {xs : List V} {ds : List D} {l : List Str}, RpL K mg H xs ds → strsL ds = some l → xs = l.map V.str
  | _, [], l, .nil, e => by simp only [strsL] at e; cases e; rfl
  | _, d :: ds, l, .cons (v := v) h t, e => by
    cases d <;> simp only [strsL, reduceCtorEq] at e
    split at e
    · rename_i l' e'
      cases e
      obtain rfl := h.str_inv
      rw [RpL.strs t e', List.map_cons]
    · cases e
theorem rpL_strs : ∀ (l : List Str), RpL K mg H (l.map V.str) (l.map D.str)
  | [] => .nil
  | x :: l => .cons (.str x) (rpL_strs l)
theorem rpL_ints : ∀ (l : List Int), RpL K mg H (l.map V.int) (l.map D.int)
  | [] => .nil
  | x :: l => .cons (.int x) (rpL_ints l)
theorem imm_strs : ∀ (l : List Str), immL (l.map D.str) = true
  | [] => by simp [immL]
  | x :: l => by rw [List.map_cons, immL, imm_strs l]; simp [D.imm]
theorem imm_ints : ∀ (l : List Int), immL (l.map D.int) = true
  | [] => by simp [immL]
  | x :: l => by rw [List.map_cons, immL, imm_ints l]; simp [D.imm]
theorem RpL.one {vs : List V} {d : D} (h : RpL K mg H vs [d]) : ∃ v, vs = [v] ∧ Rp K mg H v d := by
  cases h with
  | cons a b => cases b; exact ⟨_, rfl, a⟩
theorem RpL.two {vs : List V} {d d' : D} (h : RpL K mg H vs [d, d']) : ∃ v w, vs = [v, w] ∧ Rp K mg H v d ∧ Rp K mg H w d' := by
  cases h with
  | cons a b => cases b with
    | cons b c => cases c; exact ⟨_, _, rfl, a, b⟩
end

/-! ### len -/
def opLen : List D → Option D
  | [.lst _ ds] => some (.int ds.length)
  | [.tup ds] => some (.int ds.length)
  | [.scr ns] => some (.int ns.length)
  | [.str s] => if s.length ≤ 16777216 then some (.int s.length) else none
  | [.dic _ .k ks _] => some (.int ks.length)
  | [.dic _ .t ks _] => some (.int ks.length)
  | _ => none
def rLenR : List V → Hp → VK → Prop := fun xs H Q => ∃ a, xs = [V.ref a] ∧ ((∃ kvs, Rd H a (.dK kvs) ∧ Q (.int kvs.length) H) ∨ ∃ kvs, Rd H a (.dT kvs) ∧ Q (.int kvs.length) H)
theorem c_lenR {X : Cx} : CallR X (.builtin "len") rLenR := by
  intro pins s σ H xs us Q I r h
  obtain ⟨a, rfl, h⟩ := h
  obtain ⟨u, rfl, rx⟩ := vals1 r
  obtain rfl : u = .ref a := rx
  rcases h with ⟨kvs, hd, q⟩ | ⟨kvs, hd, q⟩
  · exact d_len I hd fun t s' I' => ⟨.int kvs.length, H, I', ⟨t, rfl⟩, q⟩
  · obtain ⟨z, hd, ys, rel, dd⟩ := dt_rd I.hok hd
    have hl : kvs.length = ys.length := Paired.length rel
    refine call_len_dictH hd dd (by rw [← hl]; rw [sizeLine_eq] at z; omega) ?_
    rw [← hl]
    exact ⟨.int ((kvs.length : Nat) : Int), H, I.tok _, ⟨_, rfl⟩, q⟩
def rLenD (K : PySem.W.Frag) : List V → Hp → VK → Prop := fun xs H Q => (∃ x n, xs = [x] ∧ LenV K x H n ∧ Q (.int n) H) ∨ rLenR xs H Q
theorem c_len {X : Cx} : CallR X (.builtin "len") (rLenD X.K) := CallR.or call_len c_lenR
section
variable {K : PySem.W.Frag} {mg : MG} {H : Hp}
theorem r_len : RnD K mg (rLenD K) opLen := by
  intro vs H ds d Q rs e k
  unfold opLen at e
  split at e
  · cases e
    obtain ⟨v, rfl, r⟩ := rs.one
    obtain ⟨a, xs, rfl, ha, l⟩ := r.lst_inv
    exact .inl ⟨_, _, rfl, .inl ⟨xs, SqL.of ha, l.length.symm⟩, k _ H (Same.refl H) (mk_int _)⟩
  · cases e
    obtain ⟨v, rfl, r⟩ := rs.one
    obtain ⟨a, xs, rfl, ha, l⟩ := r.tup_inv
    exact .inl ⟨_, _, rfl, .inr ⟨xs, SqT.of ha, l.length.symm⟩, k _ H (Same.refl H) (mk_int _)⟩
  · rename_i ns
    cases e
    obtain ⟨v, rfl, r⟩ := rs.one
    cases r with
    | scr hs => exact .inl ⟨_, _, rfl, .inl ⟨_, hs, by rw [List.length_map]⟩, k _ H (Same.refl H) (mk_int _)⟩
  · split at e
    · rename_i hl
      cases e
      obtain ⟨v, rfl, r⟩ := rs.one
      obtain rfl := r.str_inv
      exact .inl ⟨_, _, rfl, ⟨by rw [sizeLine_eq]; exact hl, rfl⟩, k _ H (Same.refl H) (mk_int _)⟩
    · cases e
  · rename_i o ks ws
    cases e
    obtain ⟨v, rfl, r⟩ := rs.one
    obtain ⟨a, kvs, rfl, hr, rfl, l⟩ := r.dk_inv
    refine .inr ⟨a, rfl, .inl ⟨kvs, hr, ?_⟩⟩
    have := k (.int kvs.length) H (Same.refl H)
    rw [List.length_map] at this
    exact this (mk_int _)
  · rename_i o ks ws
    cases e
    obtain ⟨v, rfl, r⟩ := rs.one
    obtain ⟨a, kvs, rfl, hr, rfl, l⟩ := r.dt_inv
    refine .inr ⟨a, rfl, .inr ⟨kvs, hr, ?_⟩⟩
    have := k (.int kvs.length) H (Same.refl H)
    rw [List.length_map] at this
    exact this (mk_int _)
  · cases e
end

/-! ### min, max, sum, all, any -/
def maxL : List Int → Option Int
  | [] => none
  | i :: l => some (l.foldl max i)
def minL : List Int → Option Int
  | [] => none
  | i :: l => some (l.foldl min i)
theorem foldl_max : ∀ (l : List Int) (i : Int), (l.foldl max i = i ∨ l.foldl max i ∈ l) ∧ i ≤ l.foldl max i ∧ ∀ y ∈ l, y ≤ l.foldl max i
  | [], i => ⟨.inl rfl, by simp, by simp⟩
  | a :: l, i => by
    obtain ⟨h1, h2, h3⟩ := foldl_max l (max i a)
    simp only [List.foldl_cons, List.mem_cons]
    refine ⟨?_, by omega, fun y hy => ?_⟩
    · rcases h1 with h1 | h1
      · rw [h1]
        by_cases h : i ≤ a
        · exact .inr (.inl (by omega))
        · exact .inl (by omega)
      · exact .inr (.inr h1)
    · rcases hy with rfl | hy
      · omega
      · exact h3 y hy
theorem foldl_min : ∀ (l : List Int) (i : Int), (l.foldl min i = i ∨ l.foldl min i ∈ l) ∧ l.foldl min i ≤ i ∧ ∀ y ∈ l, l.foldl min i ≤ y
  | [], i => ⟨.inl rfl, by simp, by simp⟩
  | a :: l, i => by
    obtain ⟨h1, h2, h3⟩ := foldl_min l (min i a)
    simp only [List.foldl_cons, List.mem_cons]
    refine ⟨?_, by omega, fun y hy => ?_⟩
    · rcases h1 with h1 | h1
      · rw [h1]
        by_cases h : i ≤ a
        · exact .inl (by omega)
        · exact .inr (.inl (by omega))
      · exact .inr (.inr h1)
    · rcases hy with rfl | hy
      · omega
      · exact h3 y hy
theorem maxL_ok {l : List Int} {m : Int} (h : maxL l = some m) : 0 < l.length ∧ m ∈ l ∧ ∀ y ∈ l, y ≤ m := by
  cases l with
  | nil => cases h
  | cons i l =>
    simp only [maxL, Option.some.injEq] at h
    obtain ⟨h1, h2, h3⟩ := foldl_max l i
    subst h
    refine ⟨by simp, ?_, fun y hy => ?_⟩
    · rcases h1 with h1 | h1
      · rw [h1]; simp
      · simp [h1]
    · rcases List.mem_cons.mp hy with rfl | hy
      · exact h2
      · exact h3 y hy
theorem minL_ok {l : List Int} {m : Int} (h : minL l = some m) : 0 < l.length ∧ m ∈ l ∧ ∀ y ∈ l, m ≤ y := by
  cases l with
  | nil => cases h
  | cons i l =>
    simp only [minL, Option.some.injEq] at h
    obtain ⟨h1, h2, h3⟩ := foldl_min l i
    subst h
    refine ⟨by simp, ?_, fun y hy => ?_⟩
    · rcases h1 with h1 | h1
      · rw [h1]; simp
      · simp [h1]
    · rcases List.mem_cons.mp hy with rfl | hy
      · exact h2
      · exact h3 y hy
def opMax : List D → Option D
  | [.int i, .int j] => some (.int (if j > i then j else i))
  | [.lst _ ds] => match intsL ds with
    | some l => (maxL l).map D.int
    | none => none
  | _ => none
def opMin : List D → Option D
  | [.int i, .int j] => some (.int (if j < i then j else i))
  | [.lst _ ds] => match intsL ds with
    | some l => (minL l).map D.int
    | none => none
  | _ => none
def opSum : List D → Option D
  | [.lst _ ds] => match intsL ds with
    | some l => some (.int l.sum)
    | none => none
  | _ => none
def opAll : List D → Option D
  | [.lst _ ds] => match blsL ds with
    | some l => some (.bl (l.all id))
    | none => none
  | _ => none
def opAny : List D → Option D
  | [.lst _ ds] => match blsL ds with
    | some l => some (.bl (l.any id))
    | none => none
  | _ => none
def rMax2 : List V → Hp → VK → Prop := fun xs H Q => ∃ i j, xs = [V.int i, V.int j] ∧ Q (.int (if j > i then j else i)) H
def rMin2 : List V → Hp → VK → Prop := fun xs H Q => ∃ i j, xs = [V.int i, V.int j] ∧ Q (.int (if j < i then j else i)) H
def rMaxA (K : PySem.W.Frag) : List V → Hp → VK → Prop := fun xs H Q => rMax2 xs H Q ∨ rMax K xs H Q
def rMinA (K : PySem.W.Frag) : List V → Hp → VK → Prop := fun xs H Q => rMin2 xs H Q ∨ rMin K xs H Q
theorem c_max {X : Cx} (hc : X.calm = true) : CallR X (.builtin "max") (rMaxA X.K) := CallR.or (call_max2 hc) (cr_max hc)
theorem c_min {X : Cx} (hc : X.calm = true) : CallR X (.builtin "min") (rMinA X.K) := CallR.or (call_min2 hc) (cr_min hc)
section
variable {K : PySem.W.Frag} {mg : MG} {H : Hp}
theorem r_max : RnD K mg (rMaxA K) opMax := by
  intro vs H ds d Q rs e k
  unfold opMax at e
  split at e
  · cases e
    obtain ⟨v, w, rfl, r1, r2⟩ := rs.two
    obtain rfl := r1.int_inv
    obtain rfl := r2.int_inv
    exact .inl ⟨_, _, rfl, k _ H (Same.refl H) (mk_int _)⟩
  · rename_i o ds'
    split at e
    · rename_i l hl
      obtain ⟨v, rfl, r⟩ := rs.one
      obtain ⟨a, xs, rfl, ha, rl⟩ := r.lst_inv
      obtain ⟨m, hm, rfl⟩ := Option.map_eq_some_iff.mp e
      obtain rfl := rl.ints hl
      obtain ⟨h1, h2, h3⟩ := maxL_ok hm
      refine .inr ⟨a, l, rfl, SqL.of ha, h1, fun m' h4 h5 => ?_⟩
      obtain rfl : m' = m := Int.le_antisymm (h3 _ h4) (h5 _ h2)
      exact k _ H (Same.refl H) (mk_int _)
    · cases e
  · cases e
theorem r_min : RnD K mg (rMinA K) opMin := by
  intro vs H ds d Q rs e k
  unfold opMin at e
  split at e
  · cases e
    obtain ⟨v, w, rfl, r1, r2⟩ := rs.two
    obtain rfl := r1.int_inv
    obtain rfl := r2.int_inv
    exact .inl ⟨_, _, rfl, k _ H (Same.refl H) (mk_int _)⟩
  · rename_i o ds'
    split at e
    · rename_i l hl
      obtain ⟨v, rfl, r⟩ := rs.one
      obtain ⟨a, xs, rfl, ha, rl⟩ := r.lst_inv
      obtain ⟨m, hm, rfl⟩ := Option.map_eq_some_iff.mp e
      obtain rfl := rl.ints hl
      obtain ⟨h1, h2, h3⟩ := minL_ok hm
      refine .inr ⟨a, l, rfl, SqL.of ha, h1, fun m' h4 h5 => ?_⟩
      obtain rfl : m' = m := Int.le_antisymm (h5 _ h2) (h3 _ h4)
      exact k _ H (Same.refl H) (mk_int _)
    · cases e
  · cases e
theorem r_sum : RnD K mg (rSum K) opSum := by
  intro vs H ds d Q rs e k
  unfold opSum at e
  split at e
  · split at e
    · rename_i l hl
      cases e
      obtain ⟨v, rfl, r⟩ := rs.one
      obtain ⟨a, xs, rfl, ha, rl⟩ := r.lst_inv
      obtain rfl := rl.ints hl
      exact ⟨a, l, rfl, SqL.of ha, k _ H (Same.refl H) (mk_int _)⟩
    · cases e
  · cases e
theorem r_all : RnD K mg (rAll K) opAll := by
  intro vs H ds d Q rs e k
  unfold opAll at e
  split at e
  · split at e
    · rename_i l hl
      cases e
      obtain ⟨v, rfl, r⟩ := rs.one
      obtain ⟨a, xs, rfl, ha, rl⟩ := r.lst_inv
      obtain rfl := rl.bls hl
      exact ⟨a, l, rfl, SqL.of ha, k _ H (Same.refl H) (mk_bl _)⟩
    · cases e
  · cases e
theorem r_any : RnD K mg (rAny K) opAny := by
  intro vs H ds d Q rs e k
  unfold opAny at e
  split at e
  · split at e
    · rename_i l hl
      cases e
      obtain ⟨v, rfl, r⟩ := rs.one
      obtain ⟨a, xs, rfl, ha, rl⟩ := r.lst_inv
      obtain rfl := rl.bls hl
      exact ⟨a, l, rfl, SqL.of ha, k _ H (Same.refl H) (mk_bl _)⟩
    · cases e
  · cases e
end

/-! ### tuple, list, int, str -/
def opTuple : List D → Option D
  | [.lst _ ds] => if immL ds = true then some (.tup ds) else none
  | [.tup ds] => if immL ds = true then some (.tup ds) else none
  | _ => none
def opList : List D → Option D
  | [.lst _ ds] => if immL ds = true then some (.lst true ds) else none
  | [.tup ds] => if immL ds = true then some (.lst true ds) else none
  | [.dic _ .k ks _] => if immL ks = true then some (.lst true ks) else none
  | [.dic _ .t ks _] => if immL ks = true then some (.lst true ks) else none
  | _ => none
def opInt : List D → Option D
  | [.int i] => some (.int i)
  | [.bl b] => some (.int (if b then 1 else 0))
  | [.str s] => match PySem.intText? s with
    | some n => if s.length ≤ 640 then some (.int n) else none
    | none => none
  | _ => none
def opStr : List D → Option D
  | [.int i] => if i.natAbs.log2 < 1920 then some (.str (toString i)) else none
  | [.str s] => some (.str s)
  | _ => none
def rTupleA (K : PySem.W.Frag) : List V → Hp → VK → Prop := fun xs H Q => ∃ p ys, xs = [V.ref p] ∧ ((SqL K H p ys ∧ ∀ l, H l = none → Q (.ref l) (upd H l (.tup ys))) ∨ (SqT K H p ys ∧ Q (.ref p) H))
theorem c_tuple {X : Cx} : CallR X (.type "tuple") (rTupleA X.K) := call_tuple_of
def rListQ (K : PySem.W.Frag) : List V → Hp → VK → Prop := fun xs H Q => ∃ p ys, xs = [V.ref p] ∧ (SqL K H p ys ∨ SqT K H p ys) ∧ ∀ l, H l = none → Q (.ref l) (upd H l (.lst ys))
def rListK : List V → Hp → VK → Prop := fun xs H Q => ∃ (a : Addr) (kvs : List (Key × V)), xs = [V.ref a] ∧ Rd H a (.dK kvs) ∧ ∀ p, H p = none → Q (.ref p) (upd H p (.lst (kvs.map fun kv => kV kv.1)))
def rListT : List V → Hp → VK → Prop := fun xs H Q => ∃ d kvs, xs = [V.ref d] ∧ Rd H d (.dT kvs) ∧ ∀ p bs, H p = none → IsKeys H kvs bs → Q (.ref p) (upd H p (.lst (bs.map V.ref)))
def rListA (K : PySem.W.Frag) : List V → Hp → VK → Prop := fun xs H Q => rListQ K xs H Q ∨ (rListK xs H Q ∨ rListT xs H Q)
theorem c_list {X : Cx} (hc : X.calm = true) : CallR X (.type "list") (rListA X.K) := CallR.or call_list_of (CallR.or (call_listD hc) (call_list_dT hc))
def rInt1 : List V → Hp → VK → Prop := fun xs H Q => (∃ i, xs = [V.int i] ∧ Q (.int i) H) ∨ ∃ k, xs = [V.bl k] ∧ Q (.int (if k then 1 else 0)) H
def rIntS : List V → Hp → VK → Prop := fun xs H Q => ∃ a n, xs = [V.str a] ∧ PySem.intText? a = some n ∧ a.length ≤ 640 ∧ Q (.int n) H
def rIntA : List V → Hp → VK → Prop := fun xs H Q => rInt1 xs H Q ∨ rIntS xs H Q
theorem c_int {X : Cx} : CallR X (.type "int") rIntA := CallR.or call_int1 call_int_str
def rStrI : List V → Hp → VK → Prop := fun xs H Q => ∃ i, xs = [V.int i] ∧ i.natAbs.log2 < 1920 ∧ Q (.str (toString i)) H
def rStrS : List V → Hp → VK → Prop := fun xs H Q => ∃ a, xs = [V.str a] ∧ Q (.str a) H
def rStrA : List V → Hp → VK → Prop := fun xs H Q => rStrI xs H Q ∨ rStrS xs H Q
theorem c_str {X : Cx} : CallR X (.type "str") rStrA := CallR.or call_str_int SkE.call_str_str
section
variable {K : PySem.W.Frag} {mg : MG} {H : Hp}
theorem r_tuple : RnD K mg (rTupleA K) opTuple := by
  intro vs H ds d Q rs e k
  unfold opTuple at e
  split at e
  · split at e
    · rename_i hi
      cases e
      obtain ⟨v, rfl, r⟩ := rs.one
      obtain ⟨a, xs, rfl, ha, rl⟩ := r.lst_inv
      exact ⟨a, xs, rfl, .inl ⟨SqL.of ha, fun p hp => k _ _ (same_upd hp) (mk_tup rl hi hp)⟩⟩
    · cases e
  · split at e
    · rename_i hi
      cases e
      obtain ⟨v, rfl, r⟩ := rs.one
      obtain ⟨a, xs, rfl, ha, rl⟩ := r.tup_inv
      exact ⟨a, xs, rfl, .inr ⟨SqT.of ha, k _ H (Same.refl H) (mk_imm r (by simpa [D.imm] using hi))⟩⟩
    · cases e
  · cases e
theorem isKeys_rp {H : Hp} : ∀ {kvs : List (List Key × V)} {bs : List Addr}, IsKeys H kvs bs → RpL K mg H (bs.map V.ref) (kvs.map fun p => ktD p.1)
  | _, _, .nil => .nil
  | _, _, .cons h t => .cons (.tup h (rp_kys _)) (isKeys_rp t)
where rp_kys : ∀ (l : List Key), RpL K mg H (l.map kV) (l.map kyD)
  | [] => .nil
  | .inl i :: l => .cons (.int i) (rp_kys l)
  | .inr s :: l => .cons (.str s) (rp_kys l)
theorem rp_kys {H : Hp} : ∀ (kvs : List (Key × V)), RpL K mg H (kvs.map fun kv => kV kv.1) (kvs.map fun p => kyD p.1)
  | [] => .nil
  | (.inl i, _) :: l => .cons (.int i) (rp_kys l)
  | (.inr s, _) :: l => .cons (.str s) (rp_kys l)
theorem r_list : RnD K mg (rListA K) opList := by
  intro vs H ds d Q rs e k
  unfold opList at e
  split at e
  · split at e
    · rename_i hi
      cases e
      obtain ⟨v, rfl, r⟩ := rs.one
      obtain ⟨a, xs, rfl, ha, rl⟩ := r.lst_inv
      exact .inl ⟨a, xs, rfl, .inl (SqL.of ha), fun p hp => k _ _ (same_upd hp) (mk_lst rl hi hp)⟩
    · cases e
  · split at e
    · rename_i hi
      cases e
      obtain ⟨v, rfl, r⟩ := rs.one
      obtain ⟨a, xs, rfl, ha, rl⟩ := r.tup_inv
      exact .inl ⟨a, xs, rfl, .inr (SqT.of ha), fun p hp => k _ _ (same_upd hp) (mk_lst rl hi hp)⟩
    · cases e
  · rename_i o ks ws
    split at e
    · rename_i hi
      cases e
      obtain ⟨v, rfl, r⟩ := rs.one
      obtain ⟨a, kvs, rfl, hr, rfl, l⟩ := r.dk_inv
      exact .inr (.inl ⟨a, kvs, rfl, hr, fun p hp => k _ _ (same_upd hp) (mk_lst (rp_kys kvs) hi hp)⟩)
    · cases e
  · rename_i o ks ws
    split at e
    · rename_i hi
      cases e
      obtain ⟨v, rfl, r⟩ := rs.one
      obtain ⟨a, kvs, rfl, hr, rfl, l⟩ := r.dt_inv
      exact .inr (.inr ⟨a, kvs, rfl, hr, fun p bs hp hb => k _ _ (same_upd hp) (mk_lst (isKeys_rp hb) hi hp)⟩)
    · cases e
  · cases e
theorem r_int : RnD K mg rIntA opInt := by
  intro vs H ds d Q rs e k
  unfold opInt at e
  split at e
  · cases e
    obtain ⟨v, rfl, r⟩ := rs.one
    obtain rfl := r.int_inv
    exact .inl (.inl ⟨_, rfl, k _ H (Same.refl H) (mk_int _)⟩)
  · cases e
    obtain ⟨v, rfl, r⟩ := rs.one
    obtain rfl := r.bl_inv
    exact .inl (.inr ⟨_, rfl, k _ H (Same.refl H) (mk_int _)⟩)
  · split at e
    · rename_i n hn
      split at e
      · rename_i hl
        cases e
        obtain ⟨v, rfl, r⟩ := rs.one
        obtain rfl := r.str_inv
        exact .inr ⟨_, _, rfl, hn, hl, k _ H (Same.refl H) (mk_int _)⟩
      · cases e
    · cases e
  · cases e
theorem r_str : RnD K mg rStrA opStr := by
  intro vs H ds d Q rs e k
  unfold opStr at e
  split at e
  · split at e
    · rename_i hl
      cases e
      obtain ⟨v, rfl, r⟩ := rs.one
      obtain rfl := r.int_inv
      exact .inl ⟨_, rfl, hl, k _ H (Same.refl H) (mk_str _)⟩
    · cases e
  · cases e
    obtain ⟨v, rfl, r⟩ := rs.one
    obtain rfl := r.str_inv
    exact .inr ⟨_, rfl, k _ H (Same.refl H) (mk_str _)⟩
  · cases e
end
end Dl

set_option Elab.async false
set_option linter.all false
set_option maxRecDepth 100000
set_option maxHeartbeats 1000000
/-! DL9: *, chains, .. if .. else .., isinstance, steps of a slice, dict(..), sorted(..). -/
namespace Dl
open PySem PySem.Spec PyProof.Rows L2

/-! ### * of ints, texts, lists, tuples -/
def opMulA : D → D → Option D
  | .int i, .int j => opMul (.int i) (.int j)
  | .str s, .int n => if lg 9 n = true ∧ s.length ≤ 1000 then some (.str (Txt.mul s n)) else none
  | .lst _ ds, .int n => if immL ds = true ∧ lg 9 n = true ∧ ds.length ≤ 1000 then some (.lst true (List.replicate n.toNat ds).flatten) else none
  | .tup ds, .int n => if immL ds = true ∧ 2 ≤ n ∧ n ≤ 1000 ∧ ds ≠ [] ∧ ds.length ≤ 1000 then some (.tup (List.replicate n.toNat ds).flatten) else none
  | _, _ => none
def rMulS : R2 := fun x y H Q => ∃ s n, x = .str s ∧ y = .int n ∧ MulOk s n ∧ Q (.str (Txt.mul s n)) H
theorem op_muls {X : Cx} : OpR X (binaryOp .Mult) rMulS := by
  intro pins s σ H x y v u Q I rx ry h
  obtain ⟨z, n, rfl, rfl, hm, q⟩ := h
  obtain ⟨t, rfl⟩ := rx
  obtain ⟨t', rfl⟩ := ry
  exact SB.mul hm fun t' k => ⟨.str _, H, I.tok _, ⟨_, rfl⟩, q⟩
def rMulA (K : PySem.W.Frag) : R2 := fun x y H Q => rI CMul (fun i j => .int (i * j)) x y H Q ∨ (rMulS x y H Q ∨ (rRep x y H Q ∨ rRepT K x y H Q))
theorem op_mulA {X : Cx} : OpR X (binaryOp .Mult) (rMulA X.K) := OpR.or op_mul (OpR.or op_muls (OpR.or op_rep op_repT))
theorem mulOk_small {s : Str} {n : Int} (h1 : n ≤ 1000) (h2 : s.length ≤ 1000) (h3 : -(2 ^ 63) ≤ n) : MulOk s n := by
  refine ⟨?_, fun h4 _ => ?_, fun h4 _ => ?_⟩
  · simp only [Bool.or_eq_false_iff, decide_eq_false_iff_not]
    omega
  · have : (1000 : Int) ≤ (2 ^ 63 - 1) / n := by
      apply Int.le_ediv_of_mul_le (by omega)
      have : (1000 : Int) * n ≤ 1000 * 1000 := by omega
      omega
    omega
  · have h5 : s.length * n.toNat ≤ 1000 * 1000 := Nat.mul_le_mul h2 (by omega)
    unfold Builtin.Str.tooLong
    rw [decide_eq_false_iff_not]
    have := sizeLine_eq
    omega
section
variable {K : PySem.W.Frag} {mg : MG} {H : Hp}
theorem RpL.rep {xs : List V} {ds : List D} (h : RpL K mg H xs ds) : ∀ n, RpL K mg H (List.replicate n xs).flatten (List.replicate n ds).flatten
  | 0 => .nil
  | n + 1 => by
    rw [List.replicate_succ, List.replicate_succ, List.flatten_cons, List.flatten_cons]
    exact RpL.append h (RpL.rep h n)
theorem immL_rep {ds : List D} (h : immL ds = true) : ∀ n, immL (List.replicate n ds).flatten = true
  | 0 => by simp [immL]
  | n + 1 => by
    rw [List.replicate_succ, List.flatten_cons]
    exact immL_app h (immL_rep h n)
theorem r_mulA : R2D K mg (rMulA K) opMulA := by
  intro x y H dx dy d Q rx ry e k
  cases dx <;> cases dy <;> simp only [opMulA, reduceCtorEq] at e
  · exact .inl (r_mul x y H _ _ d Q rx ry e k)
  · split at e
    · rename_i h
      cases e
      obtain rfl := rx.str_inv
      obtain rfl := ry.int_inv
      have := lg_lt h.1 (by decide)
      exact .inr (.inl ⟨_, _, rfl, rfl, mulOk_small (by omega) h.2 (by omega), k _ H (Same.refl H) (mk_str _)⟩)
    · cases e
  · split at e
    · rename_i h
      cases e
      obtain ⟨a, xs, rfl, ha, l⟩ := rx.tup_inv
      obtain rfl := ry.int_inv
      have hl := l.length
      refine .inr (.inr (.inr ⟨a, _, xs, rfl, rfl, SqT.of ha, ?_, h.2.1, h.2.2.1, by omega, fun p hp => k _ _ (same_upd hp) (mk_tup (l.rep _) (immL_rep h.1 _) hp)⟩))
      intro q
      subst q
      exact h.2.2.2.1 (List.eq_nil_of_length_eq_zero hl.symm)
    · cases e
  · split at e
    · rename_i h
      cases e
      obtain ⟨a, xs, rfl, ha, l⟩ := rx.lst_inv
      obtain rfl := ry.int_inv
      have hl := l.length
      have hlg := lg_lt h.2.1 (by decide)
      refine .inr (.inr (.inl ⟨a, _, xs, rfl, rfl, ha, by omega, by omega, ?_, fun p hp => k _ _ (same_upd hp) (mk_lst (l.rep _) (immL_rep h.1 _) hp)⟩))
      rw [sizeLine_eq]
      exact Nat.le_trans (Nat.mul_le_mul (by omega : xs.length ≤ 1000) (Int.toNat_le.mpr (by omega) : _ ≤ 1000)) (by decide)
    · cases e
end

/-! ### a < b < c -/
def pCh (op op' : D → D → Option D) (a b c : PM) : PM := fun ρ => match a ρ, b ρ with
  | some x, some y => match op x y with
    | some (.bl true) => match c ρ with
      | some z => op' y z
      | none => none
    | some (.bl false) => some (.bl false)
    | _ => none
  | _, _ => none
section
variable {X : Cx} {F : Fm} {vs0 : List V} {r r' : R2} {op op' : D → D → Option D} {fa fb fc : PM} {ea eb : EM} {b1 : BM} {a b c : Expr} {pos : Pos} {o1 o2 : CmpOp}
theorem imp_ch (hr : R2D F.K F.mg r op) (hr' : R2D F.K F.mg r' op') : ∀ σ H Q, tP F (pCh op op' fa fb fc) σ H Q → tChain r r' (tP F fa) (tP F fb) (tP F fc) σ H Q := fun σ H Q ⟨ρ, ts, d, a, e, k⟩ => by
  unfold pCh at e
  split at e
  · rename_i x y ex ey
    refine ⟨ρ, ts, x, a, ex, fun v H1 g1 rx cx => ⟨ρ, ts, y, a.grow g1, ey, fun w H2 g2 ry cy => ?_⟩⟩
    split at e
    · rename_i eo
      split at e
      · rename_i z ez
        refine hr v w H2 x y _ _ (rx.grow g2) ry eo fun z1 H3 g3 m3 => ?_
        have a3 := ((a.grow g1).grow g2).mk' m3
        have e1 : z1 = .bl true := (a3.front.rp).bl_inv
        refine ⟨true, e1, ?_⟩
        rw [if_pos rfl]
        refine ⟨ρ, ts, z, ((a.grow g1).grow g2).grow g3, ez, fun w2 H4 g4 rz cz => ?_⟩
        refine hr' w w2 H4 y z d Q ((ry.grow g3).grow g4) rz e fun z2 H5 g5 m5 => ?_
        have a5 := ((((a.grow g1).grow g2).grow g3).grow g4).mk' m5
        exact k z2 H5 ((((g1.trans g2).trans g3).trans g4).trans g5) a5.front.rp (Cj.of a5)
      · cases e
    · rename_i eo
      cases e
      refine hr v w H2 x y _ _ (rx.grow g2) ry eo fun z1 H3 g3 m3 => ?_
      have a3 := ((a.grow g1).grow g2).mk' m3
      have e1 : z1 = .bl false := (a3.front.rp).bl_inv
      refine ⟨false, e1, ?_⟩
      rw [if_neg (by simp)]
      exact k (.bl false) H3 ((g1.trans g2).trans g3) (.bl false) (Cj.of (by rw [← e1]; exact a3))
    · cases e
  · cases e
theorem p_ch (ho : OpR X (compareOp o1) r) (ho' : OpR X (compareOp o2) r') (hr : R2D X.K ⟨X.mg, X.w⟩ r op) (hr' : R2D X.K ⟨X.mg, X.w⟩ r' op') (ha : PE X a (tP (fm X vs0) fa)) (hb : PE X b (tP (fm X vs0) fb)) (hc : PE X c (tP (fm X vs0) fc))
    (hm : lastMarks [o1, o2] [b, c] = false := by with_unfolding_all rfl) : PE X (.Compare a [o1, o2] [b, c] pos) (tP (fm X vs0) (pCh op op' fa fb fc)) := (pe_chain ho ho' ha hb hc hm).imp (imp_ch hr hr')

/-! ### a if c else b -/
def eIf (c : BM) (a b : EM) : EM := fun ρ => match c ρ with
  | some (true, ρ1) => a ρ1
  | some (false, ρ1) => b ρ1
  | none => none
theorem imp_eIf : ∀ σ H Q, tD F (eIf b1 ea eb) σ H Q → tIf (tT F b1) (tD F ea) (tD F eb) σ H Q := fun σ H Q ⟨ρ, ts, d, ρ', a, e, k⟩ => by
  unfold eIf at e
  split at e
  · rename_i ρ1 ec
    exact ⟨ρ, ts, true, ρ1, a, ec, fun H1 a1 => by show (if true = true then tD F ea σ H1 Q else tD F eb σ H1 Q); rw [if_pos rfl]; exact ⟨ρ1, ts, d, ρ', a1, e, k⟩⟩
  · rename_i ρ1 ec
    exact ⟨ρ, ts, false, ρ1, a, ec, fun H1 a1 => by show (if false = true then tD F ea σ H1 Q else tD F eb σ H1 Q); rw [if_neg (by simp)]; exact ⟨ρ1, ts, d, ρ', a1, e, k⟩⟩
  · cases e
theorem e_if (hc : PT X c (tT (fm X vs0) b1)) (ha : PE X a (tD (fm X vs0) ea)) (hb : PE X b (tD (fm X vs0) eb)) : PE X (.IfExp c a b pos) (tD (fm X vs0) (eIf b1 ea eb)) := (pe_ifExp hc ha hb).imp imp_eIf
end

/-! ### isinstance(x, T), T built in -/
def tyD : D → Option String
  | .non => some "NoneType"
  | .bl _ => some "bool"
  | .int _ => some "int"
  | .str _ => some "str"
  | .tup _ => some "tuple"
  | .lst _ _ => some "list"
  | .dic _ .k _ _ => some "dict"
  | _ => none
def opIsi (T : String) : D → Option D := fun d => match tyD d with
  | some t => (kitB t T).map D.bl
  | none => none
def pIsi (T : String) (a : PM) : PM := pOp1 (opIsi T) a
section
variable {X : Cx} {F : Fm} {vs0 : List V} {fa : PM} {a : Expr} {T : String} {K : PySem.W.Frag} {mg : MG} {H : Hp}
theorem tyD_ok {v : V} {d : D} {t : String} (r : Rp K mg H v d) (e : tyD d = some t) : TyX K H v (.type t) := by
  cases r with
  | non => cases e; exact .base .non
  | bl b => cases e; exact .base (.bl _)
  | int i => cases e; exact .base (.int _)
  | str s => cases e; exact .base (.str _)
  | tup h l => cases e; exact .base (.tup h)
  | lst h l => cases e; exact .base (.lst h)
  | dk h _ _ =>
    cases e
    rcases h with h | ⟨o, h⟩
    · exact .base (.dK h)
    · exact .fDict h
  | dt _ _ _ => cases e
  | dn _ _ _ _ => cases e
  | obj _ _ _ _ => cases e
  | scr _ => cases e
  | exn _ _ _ _ _ => cases e
theorem imp_isi : ∀ σ H Q, tP F (pIsi T fa) σ H Q → tCB (rIsi F.K) (tCons (tP F fa) (tCons (tC (.ty T)) tNil)) σ H Q := fun σ H Q ⟨ρ, ts, d, a, e, k⟩ => by
  unfold pIsi pOp1 at e
  split at e
  · rename_i x ex
    refine ⟨ρ, ts, x, a, ex, fun v H1 g1 rx cx => ?_⟩
    unfold opIsi at e
    split at e
    · rename_i t et
      obtain ⟨b, hb, rfl⟩ := Option.map_eq_some_iff.mp e
      exact ⟨v, _, _, _, b, rfl, .ty T, tyD_ok rx et, kit_ty hb, k _ H1 g1 (.bl b) (Cj.of ((a.grow g1).mk' (mk_bl b)))⟩
    · cases e
  · cases e
end

/-! ### x[::1], x[::-1] of tuples -/
def opStp (x y : D) : Option D := match x, y with
  | .tup ds, .int i => if immL ds = true then (if i = 1 then some (.tup ds) else if i = -1 then some (.tup ds.reverse) else none) else none
  | _, _ => none
end Dl

set_option Elab.async false
set_option linter.all false
set_option maxRecDepth 100000
set_option maxHeartbeats 1000000
/-! DL10: t[::1], t[::-1]; isinstance; dict(pairs); sorted(list). -/
namespace Dl
open PySem PySem.Spec PyProof.Rows L2

section
variable {prog : Program} {w : World} {A : Around} {E : Value → Shared → Prop} {s : Shared}
theorem rev_pick (xs : Array Value) : ((List.range xs.size).filterMap fun (m : Nat) => xs[(((xs.size : Int) - 1) + (m : Int) * (-1)).toNat]?).toArray = xs.toList.reverse.toArray := by
  congr 1
  obtain ⟨l⟩ := xs
  simp only [List.size_toArray]
  have key : ∀ n, n ≤ l.length → (List.range n).filterMap (fun (m : Nat) => (l.toArray)[(((l.length : Int) - 1) + (m : Int) * (-1)).toNat]?) = (l.drop (l.length - n)).reverse := by
    intro n
    induction n with
    | zero => intro _; simp
    | succ n ih =>
      intro hn
      rw [List.range_succ, List.filterMap_append, ih (by omega)]
      have e1 : (((l.length : Int) - 1) + (n : Int) * (-1)).toNat = l.length - (n + 1) := by omega
      have e2 : l.drop (l.length - (n + 1)) = l[l.length - (n + 1)]'(by omega) :: l.drop (l.length - n) := by
        rw [List.drop_eq_getElem_cons (by omega)]
        congr 2
        omega
      rw [e2, List.reverse_cons]
      congr 1
      rw [List.filterMap_cons, e1]
      have e3 : (l.toArray)[l.length - (n + 1)]? = some (l[l.length - (n + 1)]'(by omega)) := by
        rw [List.getElem?_toArray, List.getElem?_eq_getElem (by omega)]
      rw [e3]
      rfl
  have := key l.length (Nat.le_refl _)
  rw [Nat.sub_self, List.drop_zero] at this
  exact this
theorem stp_applied {sl : Addr} {u : Tok} {i : Int} {n : Nat} {Q : Int × Int × Nat → Shared → Prop} (hs : s.heap.IsSliceOf sl .none .none (.int i u)) (hi : i ≠ 0)
    (h : Q ((Builtin.Slice.sliceAdjust none none i (n : Int)).1, i, Builtin.Slice.slicePlaces (Builtin.Slice.sliceAdjust none none i (n : Int)).1 (Builtin.Slice.sliceAdjust none none i (n : Int)).2 i) s) :
    wpAny (model prog w) A (Builtin.Slice.sliceApplied (.ref sl) (pure (n : Int))) Q E s := by
  obtain ⟨os, hos, hcs, hds⟩ := id hs
  unfold Builtin.Slice.sliceApplied Builtin.Slice.sliceFields
  refine wpAny_bind (wpAny_bind (wpAny_field hos hds (x := .none) rfl (wpAny_bind (wpAny_field hos hds (x := .none) rfl (wpAny_bind (wpAny_field hos hds (x := .int i u) rfl (wpAny_pure ?_)))))))
  refine wpAny_bind (slicePart_int ?_)
  show wpAny _ _ (if (i == 0) = true then _ else _) _ _ s
  rw [if_neg (by simpa using hi)]
  refine wpAny_bind (slicePart_none (wpAny_bind (slicePart_none (wpAny_bind (wpAny_pure ?_)))))
  exact wpAny_pure h
theorem adj_one (n : Nat) : Builtin.Slice.sliceAdjust none none 1 (n : Int) = (0, (n : Int)) := by
  unfold Builtin.Slice.sliceAdjust
  simp
theorem adj_neg (n : Nat) : Builtin.Slice.sliceAdjust none none (-1) (n : Int) = ((n : Int) - 1, -1) := by
  unfold Builtin.Slice.sliceAdjust
  simp
theorem pl_one (n : Nat) : Builtin.Slice.slicePlaces 0 (n : Int) 1 = n := by
  unfold Builtin.Slice.slicePlaces
  have h1 : (1 : Int) > 0 := by omega
  simp only [h1, if_true, Int.ediv_one]
  split <;> omega
theorem pl_neg (n : Nat) : Builtin.Slice.slicePlaces ((n : Int) - 1) (-1) (-1) = n := by
  unfold Builtin.Slice.slicePlaces
  have h1 : ¬ ((-1 : Int) > 0) := by omega
  have h2 : -(-1 : Int) = 1 := by omega
  simp only [h1, if_false, h2, Int.ediv_one]
  split <;> omega
theorem getItem_stp {t sl : Addr} {items : Array Value} {i : Int} {u : Tok} {Q : Value → Shared → Prop} (ht : IsTup s.heap t items) (hs : s.heap.IsSliceOf sl .none .none (.int i u))
    (h : (i = 1 ∧ Q (.ref t) s) ∨ (i = -1 ∧ Q (.ref s.heap.objs.size) { s with heap := s.heap.push { cls := .type "tuple", data := .seq items.toList.reverse.toArray } }))
    (hsz : items.size ≤ sizeLine) : wpAny (model prog w) A (getItem (.ref t) (.ref sl)) Q E s := by
  have hz : sizeOk (.seq items.toList.reverse.toArray) := by
    show items.toList.reverse.toArray.size ≤ sizeLine
    rw [List.size_toArray, List.length_reverse, Array.length_toList]
    exact hsz
  obtain ⟨os, hos, hcs, hds⟩ := id hs
  have hTs : s.TypeIs (.ref sl) "slice" := ⟨os, hos, hcs⟩
  unfold getItem
  try with_reducible refine wpAny_holding ?_
  first | refine wpAny_bind (wpAny_pure ?_) | skip
  refine wpAny_bind (wpAny_sequenceKey ht.typeIs (by decide) ?_)
  refine wpAny_bind (wpAny_callSpecial?_slot (name := Str.ofString "__getitem__") ht.typeIs PyProof.Rows.slot_tuple_getitem
    (wpAny_call_entry PyProof.Rows.slot_tuple_getitem ht.typeIs entry_tuple_getitem ?_ (args_tuple_getitem _ _)))
  show wpAny _ _ (Builtin.Tuple.tupleItemsOf (.ref t) >>= _) _ _ s
  refine wpAny_bind (tupleItemsOf_ ht ?_)
  refine wpAny_bind (wpAny_typeOf hTs ?_)
  rw [if_pos (by decide)]
  rcases h with ⟨rfl, h⟩ | ⟨rfl, h⟩
  · refine wpAny_bind (stp_applied hs (by decide) ?_)
    rw [adj_one]
    simp only [pl_one]
    show wpAny _ _ (if ((0 : Int) == 0 && (1 : Int) == 1 && items.size == items.size) = true then _ else _) _ _ s
    rw [if_pos (by simp)]
    refine wpAny_bind ?_
    show wpAny _ _ (typeOf (.ref t) >>= fun T => pure (T == .type "tuple")) _ _ s
    refine wpAny_bind (wpAny_typeOf ht.typeIs (wpAny_pure ?_))
    first
      | rw [if_pos (by decide)]
      | simp only [beq_self_eq_true, if_true]
    first
      | exact wpAny_bind (wpAny_rule (wpAny_pure ⟨_, rfl, wpAny_pure h⟩))
      | exact wpAny_bind (wpAny_rule (wpAny_bind (wpAny_pure (wpAny_pure ⟨_, rfl, wpAny_pure h⟩))))
  · refine wpAny_bind (stp_applied hs (by decide) ?_)
    rw [adj_neg]
    simp only [pl_neg]
    have hno : ¬ ((((items.size : Int) - 1) == 0 && (-1 : Int) == 1 && items.size == items.size) = true) := by simp
    show wpAny _ _ (if (((items.size : Int) - 1) == 0 && (-1 : Int) == 1 && items.size == items.size) = true then _ else _) _ _ s
    rw [if_neg hno, rev_pick]
    first
      | exact wpAny_bind (m := Builtin.Tuple.tupleExact _) (wpAny_newObj_type (wpAny_pure ⟨_, rfl, wpAny_pure h⟩) hz)
      | exact wpAny_bind (m := Builtin.Tuple.tupleExact _) (wpAny_newObj_type (wpAny_bind (wpAny_pure (wpAny_pure ⟨_, rfl, wpAny_pure h⟩))) hz)
      | exact wpAny_bind (wpAny_bind (m := Builtin.Tuple.tupleExact _) (wpAny_newObj_type (wpAny_pure (wpAny_pure ⟨_, rfl, wpAny_pure h⟩)) hz))
      | exact wpAny_bind (wpAny_bind (m := Builtin.Tuple.tupleExact _) (wpAny_newObj_type (wpAny_pure ⟨_, rfl, wpAny_pure h⟩) hz))
end
def rStp (K : PySem.W.Frag) : R2 := fun x y H Q => ∃ a xs i, x = .ref a ∧ y = .int i ∧ SqT K H a xs ∧ ((i = 1 ∧ Q (.ref a) H) ∨ (i = -1 ∧ ∀ p, H p = none → Q (.ref p) (upd H p (.tup xs.reverse))))
theorem pe_stp {X : Cx} {e st : Expr} {te ts : TE} {p3 pos : Pos} (he : PE X e te) (hs : PE X st ts) : PE X (.Subscript e (.Slice none none (some st) p3) pos) (tOp (rStp X.K) te ts) := by
  refine ⟨fun pins s σ H Q I h => ?_⟩
  refine Subscript_ (thn (he.run pins s σ H _ I h) fun v s1 ⟨x, H1, I1, r1, q1⟩ => ?_)
  have hst : PO X (some st) (tPart ts) := po_some hs
  refine wpAny_Slice (thn (po_none.run pins s1 σ H1 (fun o H2 => o = none ∧ H2 = H1) I1 ⟨rfl, rfl⟩) fun vl s2 ⟨l, H2, I2, pl, el, e2⟩ => ?_)
  subst el e2
  refine thn (po_none.run pins s2 σ H2 (fun o H3 => o = none ∧ H3 = H2) I2 ⟨rfl, rfl⟩) fun vu s3 ⟨u, H3, I3, pu, eu, e3⟩ => ?_
  subst eu e3
  cases pl
  cases pu
  rw [evalPart_some]
  refine thn (hs.run pins s3 σ H3 _ I3 q1) fun vs s4 ⟨y, H4, I4, ps, q4⟩ => ?_
  obtain ⟨a, xs, i, rfl, rfl, hx, q⟩ := q4
  obtain ⟨tk, rfl⟩ := ps
  cases r1
  have I5 : Inv X pins σ H4 { s4 with heap := s4.heap.push { cls := .type "slice", data := .fields #[.none, .none, .int i tk] } } := I4.kept (t' := s4.toks) fun b ob q => Heap.get?_push_of_some _ q
  obtain ⟨its, r, ht, hz⟩ := I5.tuple hx
  have hlen := r.length
  show wpAny (model X.prog X.w) X.A (subscriptTail e (.Slice none none (some st) p3) (.ref a) (.ref s4.heap.objs.size)) (EP X pins σ Q) X.xe { s4 with heap := s4.heap.push { cls := .type "slice", data := .fields #[.none, .none, .int i tk] } }
  refine tail_any (ops := [.ref a, .ref s4.heap.objs.size]) ht.typeIs (PyProof.Rows.slot_tuple_getitem.lookup) ?_ (by with_unfolding_all rfl)
  refine getItem_stp ht (Heap.IsSliceOf.new _ _ _ _) ?_ (by rw [List.size_toArray]; omega)
  rcases q with ⟨e1, q⟩ | ⟨e1, q⟩
  · exact .inl ⟨e1, .ref a, H4, I5, rfl, q⟩
  · refine .inr ⟨e1, .ref _, _, I5.laid (t' := s4.toks) (o := .tup xs.reverse) (fun b ob q => Heap.get?_push_of_some _ q) (Nat.le_refl _) ?_, rfl, q _ (I5.hok.fresh (Nat.le_refl _))⟩
    exact ⟨by rw [List.length_reverse]; exact hz, _, r.reverse, IsTup.new _ _⟩
section
variable {K : PySem.W.Frag} {mg : MG} {H : Hp}
theorem RpL.reverse {xs : List V} {ds : List D} (h : RpL K mg H xs ds) : RpL K mg H xs.reverse ds.reverse := by
  induction xs generalizing ds with
  | nil => cases h; exact .nil
  | cons x xs ih =>
    cases h with
    | cons a b =>
      rw [List.reverse_cons, List.reverse_cons]
      exact (ih b).append (.cons a .nil)
theorem immL_reverse : ∀ {ds : List D}, immL ds = true → immL ds.reverse = true := fun {ds} h => by
  rw [immL_all] at h ⊢
  rw [List.all_reverse]
  exact h
theorem r_stp : R2D K mg (rStp K) opStp := by
  intro x y H dx dy d Q rx ry e k
  cases dx <;> cases dy <;> simp only [opStp, reduceCtorEq] at e
  split at e
  · rename_i hi
    obtain ⟨a, xs, rfl, ha, l⟩ := rx.tup_inv
    obtain rfl := ry.int_inv
    split at e
    · rename_i h1
      cases e
      exact ⟨a, xs, _, rfl, rfl, SqT.of ha, .inl ⟨h1, k _ H (Same.refl H) (mk_imm rx (by simpa [D.imm] using hi))⟩⟩
    · split at e
      · rename_i h1
        cases e
        exact ⟨a, xs, _, rfl, rfl, SqT.of ha, .inr ⟨h1, fun p hp => k _ _ (same_upd hp) (mk_tup l.reverse (immL_reverse hi) hp)⟩⟩
      · cases e
  · cases e
end
section
variable {X : Cx} {vs0 : List V} {fa fb : PM} {ea eb : EM} {a b : Expr} {p3 pos p p1 p2 : Pos} {T : String}
theorem p_stp (ha : PE X a (tP (fm X vs0) fa)) (hb : PE X b (tP (fm X vs0) fb)) : PE X (.Subscript a (.Slice none none (some b) p3) pos) (tP (fm X vs0) (pOp2 opStp fa fb)) := (pe_stp ha hb).imp (imp_p2 r_stp)
theorem e_stp (ha : PE X a (tD (fm X vs0) ea)) (hb : PE X b (tD (fm X vs0) eb)) : PE X (.Subscript a (.Slice none none (some b) p3) pos) (tD (fm X vs0) (eOp2 opStp ea eb)) := (pe_stp ha hb).imp (imp_e2 r_stp)
/-- isinstance(x, T) -/
theorem p_isi (hm : X.mg "isinstance" = none) (ha : PE X a (tP (fm X vs0) fa)) (hb : PE X b (tC (.ty T))) (hg : Gl X "isinstance" := by rfl)
    (he : starEach (a :: [b]) X.env = (false, eval a X.env) :: starEach [b] X.env := by rfl) (he2 : starEach (b :: []) X.env = (false, eval b X.env) :: starEach [] X.env := by rfl) (hpl : (backTo pos (starEach [b] X.env)).any (·.1) = false := by rfl) :
    PE X (.Call (.Name "isinstance" p) [a, b] [] pos) (tP (fm X vs0) (pIsi T fa)) :=
  (pe_callB call_isi hg hm (by rfl) (pa_cons ha (pa_cons hb pa_nil he2) he) (by decide) (by decide) he hpl).imp imp_isi
end
end Dl

set_option Elab.async false
set_option linter.all false
set_option maxRecDepth 100000
set_option maxHeartbeats 1000000
/-! DL11: places (a slot, a part of it), methods that change what stands there. -/
namespace Dl
open PySem PySem.Spec PyProof.Rows L2

/-! ### a method that changes its receiver -/
def RmD (K : PySem.W.Frag) (mg : MG) (r : V → List V → Hp → VK → Prop) (op : D → List D → Option (D × D)) : Prop :=
  ∀ (x : V) (d : D) (vs : List V) (ds : List D) (d' res : D) (H : Hp) (Q : VK) (rs : List Rt), Sim K mg H (.v x d :: (vals vs ds ++ rs)) → vs.length = ds.length → op d ds = some (d', res) →
    (∀ z H', Sim K mg H' (.v z res :: .v x d' :: rs) → Q z H') → r x vs H Q
/-- what type a receiver must be of -/
def TyR (K : PySem.W.Frag) (mg : MG) (T : String) (op : D → List D → Option (D × D)) : Prop := ∀ (x : V) (d : D) (ds : List D) (q : D × D) (H : Hp) (rs : List Rt), Sim K mg H (.v x d :: rs) → op d ds = some q → tyV K T x H
/-- slot i, arguments reckoned and given away -/
def eMt (op : D → List D → Option (D × D)) (i : Nat) (am : AM) : EM := fun ρ => match ρ.getD i none with
  | some d0 => match am ρ with
    | some (as, ρ1) => match valsA as with
      | some ds => match ρ1.getD i none with
        | some d => match op d ds with
          | some (d', res) => if (op d0 ds).isSome = true then some (res, ρ1.set i (some d')) else none
          | none => none
        | none => none
      | none => none
    | none => none
  | none => none
/-- slot i, no arguments -/
def eMt0 (op : D → List D → Option (D × D)) (i : Nat) : EM := fun ρ => match ρ.getD i none with
  | some d => match op d [] with
    | some (d', res) => some (res, ρ.set i (some d'))
    | none => none
  | none => none
section
variable {X : Cx} {F : Fm} {vs0 : List V} {op : D → List D → Option (D × D)} {r : V → List V → Hp → VK → Prop} {T : String} {am : AM} {i : Nat} {K : PySem.W.Frag} {mg : MG}
theorem imp_mt (hr : RmD F.K F.mg r op) (ht : TyR F.K F.mg T op) : ∀ σ H Q, tD F (eMt op i am) σ H Q → tBM F.K T r (tVar i) (tA F am) σ H Q := fun σ H Q ⟨ρ, ts, d, ρ', a, e, k⟩ => by
  unfold eMt at e
  split at e
  · rename_i d0 e0
    split at e
    · rename_i as ρ1 e1
      split at e
      · rename_i ds e2
        split at e
        · rename_i dd e3
          split at e
          · rename_i d' re e4
            split at e
            · rename_i e5
              cases e
              obtain ⟨v, hv, s0⟩ := a.slot (getD_some e0)
              obtain ⟨q0, e5⟩ := Option.isSome_iff_exists.mp e5
              refine ⟨v, hv, ht v d0 ds q0 H _ s0 e5, ρ, ts, as, ρ1, a, e1, fun vs H1 tm ar a1 => ?_⟩
              obtain ⟨hl, rfl⟩ := argsR_vals ar e2
              obtain ⟨v', hv', s1⟩ := a1.slot (getD_some e3)
              rw [hv] at hv'
              cases hv'
              refine hr v dd vs ds d' _ H1 Q (slotR σ (ρ1.set i none) ++ ts) (s1.perm (List.Perm.cons _ ?_)) hl e4 fun z H2 s2 => k z H2 ?_
              · rw [← List.append_assoc, ← List.append_assoc]
                exact List.Perm.append_right _ List.perm_append_comm
              · exact a1.back hv (s2.perm (by
                  refine List.Perm.trans (List.Perm.swap _ _ _) (List.Perm.cons _ ?_)
                  exact (List.perm_middle).symm))
            · cases e
          · cases e
        · cases e
      · cases e
    · cases e
  · cases e
theorem imp_mt0 (hr : RmD F.K F.mg r op) (ht : TyR F.K F.mg T op) : ∀ σ H Q, tD F (eMt0 op i) σ H Q → tBM0 F.K T r (tVar i) σ H Q := fun σ H Q ⟨ρ, ts, d, ρ', a, e, k⟩ => by
  unfold eMt0 at e
  split at e
  · rename_i d0 e0
    split at e
    · rename_i d' re e4
      cases e
      obtain ⟨v, hv, s0⟩ := a.slot (getD_some e0)
      refine ⟨v, hv, ht v d0 [] _ H _ s0 e4, ?_⟩
      refine hr v d0 [] [] d' _ H Q (slotR σ (ρ.set i none) ++ ts) s0 rfl e4 fun z H2 s2 => k z H2 ?_
      exact a.back hv (s2.perm (by
        refine List.Perm.trans (List.Perm.swap _ _ _) (List.Perm.cons _ ?_)
        exact (List.perm_middle).symm))
    · cases e
  · cases e
end

/-! ### list methods -/
def mAppend : D → List D → Option (D × D)
  | .lst true ds, [d] => if ds.length < 10000 then some (.lst true (ds ++ [d]), .non) else none
  | _, _ => none
def mExtend : D → List D → Option (D × D)
  | .lst true ds, [.lst true es] => if ds.length + es.length < 10000 then some (.lst true (ds ++ es), .non) else none
  | .lst true ds, [.lst false es] => if ds.length + es.length < 10000 ∧ immL es = true then some (.lst true (ds ++ es), .non) else none
  | _, _ => none
def mPop : D → List D → Option (D × D)
  | .lst true ds, [] => match ds.getLast? with
    | some d => some (.lst true ds.dropLast, d)
    | none => none
  | _, _ => none
def mPopAt : D → List D → Option (D × D)
  | .lst true ds, [.int i] => if lg 60 i = true then match PySem.seqIndex? i ds.length with
      | some k => match ds[k]? with
        | some d => some (.lst true (ds.eraseIdx k), d)
        | none => none
      | none => none
    else none
  | _, _ => none
def mClear : D → List D → Option (D × D)
  | .lst true ds, [] => some (.lst true [], .non)
  | _, _ => none
def mInsert : D → List D → Option (D × D)
  | .lst true ds, [.int i, d] => if ds.length < 10000 ∧ 0 ≤ i ∧ i < 10000 then some (.lst true (ds.take i.toNat ++ [d] ++ ds.drop i.toNat), .non) else none
  | _, _ => none
section
variable {K : PySem.W.Frag} {mg : MG}
theorem tyV_lst {H : Hp} {x : V} {o : Bool} {ds : List D} (r : Rp K mg H x (.lst o ds)) : tyV K "list" x H := by
  obtain ⟨a, xs, rfl, ha, l⟩ := r.lst_inv
  exact .inl ⟨rfl, xs, SqL.of ha⟩
theorem ty_append : TyR K mg "list" mAppend := fun x d ds q H rs s e => by
  have r := s.rp
  unfold mAppend at e; split at e
  · exact tyV_lst r
  · cases e
theorem ty_extend : TyR K mg "list" mExtend := fun x d ds q H rs s e => by
  have r := s.rp
  unfold mExtend at e; split at e
  · exact tyV_lst r
  · exact tyV_lst r
  · cases e
theorem ty_pop : TyR K mg "list" mPop := fun x d ds q H rs s e => by
  have r := s.rp
  unfold mPop at e; split at e
  · exact tyV_lst r
  · cases e
theorem ty_popAt : TyR K mg "list" mPopAt := fun x d ds q H rs s e => by
  have r := s.rp
  unfold mPopAt at e; split at e
  · exact tyV_lst r
  · cases e
theorem ty_clear : TyR K mg "list" mClear := fun x d ds q H rs s e => by
  have r := s.rp
  unfold mClear at e; split at e
  · exact tyV_lst r
  · cases e
theorem ty_insert : TyR K mg "list" mInsert := fun x d ds q H rs s e => by
  have r := s.rp
  unfold mInsert at e; split at e
  · exact tyV_lst r
  · cases e
theorem line_of {n : Nat} (h : n < 10001) : n ≤ sizeLine := by rw [sizeLine_eq]; omega
theorem Sim.non {H : Hp} {rs : List Rt} (s : Sim K mg H rs) : Sim K mg H (.v .non .non :: rs) := mk_non rs s
theorem Sim.unL' {H : Hp} {x : V} {ds : List D} {rs : List Rt} (s : Sim K mg H (.v x (.lst true ds) :: rs)) : ∃ a xs, x = .ref a ∧ xs.length = ds.length ∧ H a = some (.lst xs) ∧ Sim K mg H (.c a (.lst xs) :: (vals xs ds ++ rs)) := by
  obtain ⟨a, xs, h1, h2, h3⟩ := s.unL
  exact ⟨a, xs, h1, h2, Sim.cell (rs := vals xs ds ++ rs) h3, h3⟩
theorem Sim.setL {H : Hp} {a : Addr} {xs ys : List V} {es : List D} {r0 r1 r2 : List Rt} (s : Sim K mg H (.c a (.lst xs) :: r1)) (p : r1.Perm (r0 ++ (vals ys es ++ r2))) (hl : ys.length = es.length) :
    Sim K mg (upd H a (.lst ys)) (.v (.ref a) (.lst true es) :: r2) := by
  have s2 := s.write (o' := .lst ys)
  have s3 : Sim K mg (upd H a (.lst ys)) (r0 ++ (.c a (.lst ys) :: (vals ys es ++ r2))) := s2.perm (List.Perm.trans (List.Perm.cons _ p) (List.perm_middle).symm)
  exact Sim.foL (xs := ys) (ds := es) (rs := r2) s3.drop hl
theorem rm_append : RmD K mg rAppend mAppend := fun x d vs ds d' res H Q rs s hl e k => by
  unfold mAppend at e
  split at e
  · rename_i es y
    split at e
    · rename_i hz
      cases e
      obtain ⟨a, xs, rfl, hx, hc, s1⟩ := s.unL'
      obtain ⟨w, rfl⟩ : ∃ w, vs = [w] := List.length_eq_one_iff.mp hl
      refine ⟨a, xs, w, rfl, rfl, hc, by have := line_of (n := xs.length + 1) (by omega); omega, k _ _ (Sim.non (s1.setL (r0 := []) ?_ (by simp [hx])))⟩
      rw [vals_append hx, List.append_assoc]
      exact List.Perm.refl _
    · cases e
  · cases e
theorem rm_clear : RmD K mg rClear mClear := fun x d vs ds d' res H Q rs s hl e k => by
  unfold mClear at e
  split at e
  · rename_i es
    cases e
    obtain ⟨a, xs, rfl, hx, hc, s1⟩ := s.unL'
    obtain rfl : vs = [] := List.length_eq_zero_iff.mp hl
    exact ⟨a, xs, rfl, rfl, hc, k _ _ (Sim.non (s1.setL (r0 := vals xs es) (ys := []) (es := []) (List.Perm.refl _) rfl))⟩
  · cases e
theorem rm_extend : RmD K mg rExtend mExtend := fun x d vs ds d' res H Q rs s hl e k => by
  unfold mExtend at e
  split at e
  · rename_i es fs
    split at e
    · rename_i hz
      cases e
      obtain ⟨a, xs, rfl, hx, hc, s1⟩ := s.unL'
      obtain ⟨w, rfl⟩ : ∃ w, vs = [w] := List.length_eq_one_iff.mp hl
      have s2 : Sim K mg H (.v w (.lst true fs) :: (.c a (.lst xs) :: (vals xs es ++ rs))) := s1.perm (by
        refine List.Perm.trans (List.Perm.cons _ ?_) (List.Perm.swap _ _ _)
        exact List.perm_middle)
      obtain ⟨b, zs, rfl, hz', hcb, s3⟩ := s2.unL'
      refine ⟨a, b, xs, zs, rfl, rfl, hc, hcb, by have := line_of (n := xs.length + zs.length) (by omega); omega, k _ _ (Sim.non ?_)⟩
      have s4 : Sim K mg H (.c a (.lst xs) :: (.c b (.lst zs) :: (vals zs fs ++ (vals xs es ++ rs)))) := s3.perm (by
        refine List.Perm.trans (List.Perm.cons _ List.perm_middle) (List.Perm.swap _ _ _))
      refine s4.setL (r0 := [.c b (.lst zs)]) ?_ (by simp [hx, hz'])
      rw [vals_append hx]
      show (Rt.c b (.lst zs) :: _).Perm (Rt.c b (.lst zs) :: _)
      refine List.Perm.cons _ ?_
      rw [← List.append_assoc]
      exact List.Perm.append_right _ List.perm_append_comm
    · cases e
  · rename_i es fs
    split at e
    · rename_i hz
      cases e
      obtain ⟨a, xs, rfl, hx, hc, s1⟩ := s.unL'
      obtain ⟨w, rfl⟩ : ∃ w, vs = [w] := List.length_eq_one_iff.mp hl
      have s2 : Sim K mg H (.v w (.lst false fs) :: (.c a (.lst xs) :: (vals xs es ++ rs))) := s1.perm (by
        refine List.Perm.trans (List.Perm.cons _ ?_) (List.Perm.swap _ _ _)
        exact List.perm_middle)
      obtain ⟨b, zs, rfl, hcb, rz⟩ := s2.rp.lst_inv
      have hz' := rz.length
      refine ⟨a, b, xs, zs, rfl, rfl, hc, hcb, by have := line_of (n := xs.length + zs.length) (by omega); omega, k _ _ (Sim.non ?_)⟩
      have s3 : Sim K mg H (vals zs fs ++ (.c a (.lst xs) :: (vals xs es ++ rs))) := (s2.tail).imms rz hz.2
      have s4 : Sim K mg H (.c a (.lst xs) :: (vals zs fs ++ (vals xs es ++ rs))) := s3.perm List.perm_middle
      refine s4.setL (r0 := []) ?_ (by simp [hx, hz'])
      rw [vals_append hx]
      show (vals zs fs ++ (vals xs es ++ rs)).Perm (vals xs es ++ vals zs fs ++ rs)
      rw [← List.append_assoc]
      exact List.Perm.append_right _ List.perm_append_comm
    · cases e
  · cases e
theorem vals_erase : ∀ {xs : List V} {ds : List D} {k : Nat} {x : V} {d : D}, xs.length = ds.length → xs[k]? = some x → ds[k]? = some d → (vals xs ds).Perm (.v x d :: vals (xs.eraseIdx k) (ds.eraseIdx k))
  | x0 :: xs, d0 :: ds, 0, x, d, hl, h1, h2 => by
    simp at h1 h2
    subst h1 h2
    exact List.Perm.refl _
  | x0 :: xs, d0 :: ds, k + 1, x, d, hl, h1, h2 => by
    simp at h1 h2
    refine List.Perm.trans (List.Perm.cons (Rt.v x0 d0) (vals_erase (by simpa using hl) h1 h2)) ?_
    exact List.Perm.swap _ _ _
  | [], d0 :: ds, k, x, d, hl, h1, h2 => by cases hl
  | [], [], k, x, d, hl, h1, h2 => by simp at h1
  | x0 :: xs, [], k, x, d, hl, h1, h2 => by cases hl
theorem rm_popAt : RmD K mg rPopAt mPopAt := fun x d vs ds d' res H Q rs s hl e k => by
  unfold mPopAt at e
  split at e
  · rename_i es i
    split at e
    · rename_i hi
      split at e
      · rename_i j hj
        split at e
        · rename_i y hy
          cases e
          obtain ⟨a, xs, rfl, hx, hc, s1⟩ := s.unL'
          obtain ⟨w, rfl⟩ : ∃ w, vs = [w] := List.length_eq_one_iff.mp hl
          have rw' : Rp K mg H w (.int i) := Sim.rp (rs := .c a (.lst xs) :: (vals xs es ++ rs)) (s1.perm (by
            refine List.Perm.trans (List.Perm.cons _ ?_) (List.Perm.swap _ _ _)
            exact List.perm_middle))
          obtain rfl := rw'.int_inv
          obtain ⟨hj', _⟩ := List.getElem?_eq_some_iff.mp hy
          have hxj : xs[j]? = some (xs[j]'(by omega)) := List.getElem?_eq_getElem (by omega)
          refine ⟨a, xs, i, j, xs[j]'(by omega), rfl, rfl, hc, by have := lg60 hi; omega, by have := lg60 hi; omega, by rw [hx]; exact hj, hxj, k _ _ ?_⟩
          have s2 := s1.setL (r0 := [.v (V.int i) (.int i)]) (ys := xs.eraseIdx j) (es := es.eraseIdx j) (r2 := .v (xs[j]'(by omega)) res :: rs) (by
            show (vals xs es ++ (Rt.v (V.int i) (.int i) :: rs)).Perm (Rt.v (V.int i) (.int i) :: _)
            refine List.Perm.trans List.perm_middle (List.Perm.cons _ ?_)
            refine List.Perm.trans (List.Perm.append_right _ (vals_erase hx hxj hy)) ?_
            exact (List.perm_middle).symm) (by rw [List.length_eraseIdx, List.length_eraseIdx, hx])
          exact s2.perm (List.Perm.swap _ _ _)
        · cases e
      · cases e
    · cases e
  · cases e
theorem dropLast_erase {α : Type} (l : List α) : l.dropLast = l.eraseIdx (l.length - 1) := by
  rw [List.dropLast_eq_take, List.eraseIdx_eq_take_drop_succ]
  have : l.drop (l.length - 1 + 1) = [] := List.drop_eq_nil_of_le (by omega)
  rw [this, List.append_nil]
theorem rm_pop : RmD K mg rPop mPop := fun x d vs ds d' res H Q rs s hl e k => by
  unfold mPop at e
  split at e
  · rename_i es
    split at e
    · rename_i y hy
      cases e
      obtain ⟨a, xs, rfl, hx, hc, s1⟩ := s.unL'
      obtain rfl : vs = [] := List.length_eq_zero_iff.mp hl
      rw [List.getLast?_eq_getElem?] at hy
      obtain ⟨hj', _⟩ := List.getElem?_eq_some_iff.mp hy
      have hxj : xs[xs.length - 1]? = some (xs[xs.length - 1]'(by omega)) := List.getElem?_eq_getElem (by omega)
      refine ⟨a, xs, _, rfl, rfl, hc, hxj, k _ _ ?_⟩
      rw [← hx] at hy
      have s2 := s1.setL (r0 := []) (ys := xs.dropLast) (es := es.dropLast) (r2 := .v (xs[xs.length - 1]'(by omega)) res :: rs) (by
        show (vals xs es ++ rs).Perm (vals xs.dropLast es.dropLast ++ _)
        rw [dropLast_erase xs, dropLast_erase es, ← hx]
        refine List.Perm.trans (List.Perm.append_right _ (vals_erase hx hxj hy)) ?_
        exact (List.perm_middle).symm) (by rw [List.length_dropLast, List.length_dropLast, hx])
      exact s2.perm (List.Perm.swap _ _ _)
    · cases e
  · cases e
end
end Dl

set_option Elab.async false
set_option linter.all false
set_option maxRecDepth 100000
set_option maxHeartbeats 1000000
/-! DL12: places within a slot's value (lists, dicts, objects), stores. -/
namespace Dl
open PySem PySem.Spec PyProof.Rows L2

inductive PStep where
  | fld (c : Str) (f : Str)
  | ix (k : D)
def D.subs : D → List D
  | .lst _ ds => ds
  | .tup ds => ds
  | .dic _ _ _ vs => vs
  | .obj _ _ _ vs => vs
  | _ => []
def D.withSubs : D → List D → D
  | .lst o _, es => .lst o es
  | .tup _, es => .tup es
  | .dic o kd ks _, es => .dic o kd ks es
  | .obj o c fs _, es => .obj o c fs es
  | d, _ => d
def posS : PStep → D → Option Nat
  | .ix k, .lst true ds => match k with
    | .int i => ixN ds.length i
    | _ => none
  | .ix k, .tup ds => match k with
    | .int i => ixN ds.length i
    | _ => none
  | .ix k, .dic true kd ks _ => if keyOk kd k = true then ks.findIdx? (fun q => decide (q = k)) else none
  | .fld c f, .obj true c' fs _ => if c' = c then fs.findIdx? (fun q => decide (q = f)) else none
  | _, _ => none
def getS (s : PStep) (d : D) : Option D := match posS s d with
  | some j => d.subs[j]?
  | none => none
def putS (s : PStep) (d d1 : D) : Option D := match posS s d with
  | some j => some (d.withSubs (d.subs.set j d1))
  | none => none
def getP : List PStep → D → Option D
  | [], d => some d
  | s :: p, d => match getS s d with
    | some d1 => getP p d1
    | none => none
def putP : List PStep → D → D → Option D
  | [], _, d1 => some d1
  | s :: p, d, d1 => match getS s d with
    | some d2 => match putP p d2 d1 with
      | some d3 => putS s d d3
      | none => none
    | none => none
def partsO : HO → List V
  | .lst xs => xs
  | .tup xs => xs
  | .dK kvs => kvs.map (·.2)
  | .dT kvs => kvs.map (·.2)
  | .ins _ _ fvs => fvs.map (·.2)
  | _ => []
def StepTo (H : Hp) (v : V) (d : D) (s : PStep) (z : V) : Prop := ∃ a o j, v = .ref a ∧ H a = some o ∧ posS s d = some j ∧ (partsO o)[j]? = some z
def PathTo (H : Hp) : V → D → List PStep → V → Prop
  | v, _, [], z => z = v
  | v, d, s :: p, z => ∃ z1 d1, StepTo H v d s z1 ∧ getS s d = some d1 ∧ PathTo H z1 d1 p z
section
variable {K : PySem.W.Frag} {mg : MG} {H H' : Hp}
theorem StepTo.grow {v z : V} {d : D} {s : PStep} (h : StepTo H v d s z) (g : Same H H') : StepTo H' v d s z := by
  obtain ⟨a, o, j, h1, h2, h3, h4⟩ := h
  exact ⟨a, o, j, h1, g a o h2, h3, h4⟩
theorem PathTo.grow (g : Same H H') : ∀ {p : List PStep} {v z : V} {d : D}, PathTo H v d p z → PathTo H' v d p z
  | [], _, _, _, h => h
  | s :: p, v, z, d, ⟨z1, d1, h1, h2, h3⟩ => ⟨z1, d1, h1.grow g, h2, PathTo.grow g h3⟩
theorem unfold_sub {v : V} {d : D} {s : PStep} {j : Nat} {rs : List Rt} (h : Sim K mg H (.v v d :: rs)) (hp : posS s d = some j) : ∃ a o r, v = .ref a ∧ (partsO o).length = d.subs.length ∧ H a = some o ∧ Sim K mg H (r :: (vals (partsO o) d.subs ++ rs)) ∧
    ∀ H' es rs2, es.length = (partsO o).length → Sim K mg H' (r :: (vals (partsO o) es ++ rs2)) → Sim K mg H' (.v v (d.withSubs es) :: rs2) := by
  cases d with
  | lst o ds =>
    cases o with
    | false => cases s <;> simp [posS] at hp
    | true =>
      obtain ⟨a, xs, rfl, h1, h2, h3⟩ := h.unL'
      exact ⟨a, .lst xs, _, rfl, h1, h2, h3, fun H' es rs2 hl s2 => Sim.foL s2 hl.symm⟩
  | tup ds =>
    obtain ⟨a, xs, rfl, h1, h2, h3⟩ := h.unT'
    exact ⟨a, .tup xs, _, rfl, h1, h2, h3, fun H' es rs2 hl s2 => Sim.foT s2 hl.symm⟩
  | dic o kd ks vs =>
    cases o with
    | false => cases s <;> simp [posS] at hp
    | true =>
      cases kd with
      | k =>
        obtain ⟨a, kvs, rfl, h1, h2, h3⟩ := h.unDk
        exact ⟨a, .dK kvs, _, rfl, by show (List.map _ _).length = _; rw [List.length_map]; exact h2, Sim.cell (rs := vals (kvs.map (·.2)) vs ++ rs) h3, h3, fun H' es rs2 hl s2 => Sim.foDk s2 h1 (by have q : es.length = (List.map _ _).length := hl; rw [List.length_map] at q; exact q.symm)⟩
      | t =>
        obtain ⟨a, kvs, rfl, h1, h2, h3⟩ := h.unDt
        exact ⟨a, .dT kvs, _, rfl, by show (List.map _ _).length = _; rw [List.length_map]; exact h2, Sim.cell (rs := vals (kvs.map (·.2)) vs ++ rs) h3, h3, fun H' es rs2 hl s2 => Sim.foDt s2 h1 (by have q : es.length = (List.map _ _).length := hl; rw [List.length_map] at q; exact q.symm)⟩
      | n => cases s <;> simp [posS, keyOk] at hp
  | obj o c fs vs =>
    cases o with
    | false => cases s <;> simp [posS] at hp
    | true =>
      obtain ⟨a, dx, C, fvs, rfl, h0, h1, h2, h3⟩ := h.unO
      exact ⟨a, .ins C dx fvs, _, rfl, by show (List.map _ _).length = _; rw [List.length_map]; exact h2, Sim.cell (rs := vals (fvs.map (·.2)) vs ++ rs) h3, h3, fun H' es rs2 hl s2 => Sim.foO s2 h0 h1 (by have q : es.length = (List.map _ _).length := hl; rw [List.length_map] at q; exact q.symm)⟩
  | _ => cases s <;> simp [posS] at hp
theorem focus1 {v z : V} {d d1 : D} {s : PStep} {rs : List Rt} (h : Sim K mg H (.v v d :: rs)) (st : StepTo H v d s z) (hg : getS s d = some d1) : ∃ cs, Sim K mg H (.v z d1 :: (cs ++ rs)) ∧
    ∀ H' d1' d' rs2, putS s d d1' = some d' → Sim K mg H' (.v z d1' :: (cs ++ rs2)) → Sim K mg H' (.v v d' :: rs2) := by
  obtain ⟨a, o, j, h1, h2, h3, h4⟩ := st
  obtain ⟨a', o', r0, h5, h6, h7, h8, h9⟩ := unfold_sub h h3
  rw [h1] at h5
  cases h5
  rw [h2] at h7
  cases h7
  unfold getS at hg
  rw [h3] at hg
  have hj : j < d.subs.length := (List.getElem?_eq_some_iff.mp hg).1
  refine ⟨r0 :: vals ((partsO o).eraseIdx j) (d.subs.eraseIdx j), h8.perm ?_, fun H' d1' d' rs2 hp s2 => ?_⟩
  · refine List.Perm.trans (List.Perm.cons _ (List.Perm.append_right _ (vals_erase h6 h4 hg))) ?_
    exact List.Perm.swap _ _ _
  · unfold putS at hp
    rw [h3] at hp
    cases hp
    refine h9 H' (d.subs.set j d1') rs2 (by rw [List.length_set, h6]) (s2.perm ?_)
    have e1 := vals_erase (xs := partsO o) (ds := d.subs.set j d1') (k := j) (x := z) (d := d1') (by rw [List.length_set, h6]) h4 (List.getElem?_set_self hj)
    rw [List.eraseIdx_set_eq] at e1
    refine List.Perm.symm (List.Perm.trans (List.Perm.cons _ (List.Perm.append_right _ e1)) ?_)
    exact List.Perm.swap _ _ _
theorem focus : ∀ {p : List PStep} {v z : V} {d d1 : D} {rs : List Rt}, Sim K mg H (.v v d :: rs) → PathTo H v d p z → getP p d = some d1 → ∃ cs, Sim K mg H (.v z d1 :: (cs ++ rs)) ∧
    ∀ H' d1' d' rs2, putP p d d1' = some d' → Sim K mg H' (.v z d1' :: (cs ++ rs2)) → Sim K mg H' (.v v d' :: rs2)
  | [], v, z, d, d1, rs, h, hp, hg => by
    cases hp
    cases hg
    exact ⟨[], h, fun H' d1' d' r0 hq s2 => by cases hq; exact s2⟩
  | s :: p, v, z, d, d1, rs, h, ⟨z1, d2, h1, h2, h3⟩, hg => by
    simp only [getP, h2] at hg
    obtain ⟨r1, f1, f2⟩ := focus1 h h1 h2
    obtain ⟨r2, g1, g2⟩ := focus f1 h3 hg
    refine ⟨r2 ++ r1, by rw [List.append_assoc]; exact g1, fun H' d1' d' rs2 hq s2 => ?_⟩
    simp only [putP, h2] at hq
    split at hq
    · rename_i d3 hq3
      exact f2 H' d3 d' rs2 hq (g2 H' d1' d3 _ hq3 (by rw [List.append_assoc] at s2; exact s2))
    · cases hq
end

/-! ### the expression of a place -/
abbrev LM := DEnv → Option (Nat × List PStep)
def tL (F : Fm) (f : LM) : TE := fun σ H Q => ∃ ρ ts i p d0 d1, At F σ H ρ ts ∧ f ρ = some (i, p) ∧ ρ.getD i none = some d0 ∧ getP p d0 = some d1 ∧ ∀ v z H', Same H H' → σ[i]? = some (some v) → PathTo H' v d0 p z → Q z H'
def lVar (i : Nat) : LM := fun _ => some (i, [])
def lIx (l : LM) (k : PM) : LM := fun ρ => match l ρ with
  | some (i, p) => match k ρ with
    | some q => some (i, p ++ [.ix q])
    | none => none
  | none => none
def lFld (l : LM) (c f : Str) : LM := fun ρ => match l ρ with
  | some (i, p) => some (i, p ++ [.fld c f])
  | none => none
theorem getP_append : ∀ {p q : List PStep} {d : D}, getP (p ++ q) d = (getP p d).bind (getP q)
  | [], q, d => rfl
  | s :: p, q, d => by
    simp only [List.cons_append, getP]
    split
    · exact getP_append
    · rfl
theorem PathTo.append {H : Hp} : ∀ {p q : List PStep} {v z1 z : V} {d d1 : D}, PathTo H v d p z1 → getP p d = some d1 → PathTo H z1 d1 q z → PathTo H v d (p ++ q) z
  | [], q, v, z1, z, d, d1, h, e, h' => by cases h; cases e; exact h'
  | s :: p, q, v, z1, z, d, d1, ⟨z2, d2, h1, h2, h3⟩, e, h' => by
    simp only [getP, h2] at e
    exact ⟨z2, d2, h1, h2, PathTo.append h3 e h'⟩
section
variable {X : Cx} {F : Fm} {vs0 : List V} {fl : LM} {fa fk : PM} {i : Nat}
theorem imp_lVar : ∀ σ H Q, tL F (lVar i) σ H Q → tVar i σ H Q := fun σ H Q ⟨ρ, ts, j, p, d0, d1, a, e, e0, e1, k⟩ => by
  cases e
  obtain ⟨v, hv, _⟩ := a.slot (getD_some e0)
  exact ⟨v, hv, k v v H (Same.refl H) hv rfl⟩
theorem l_var (i : Nat) {x : Str} {p : Pos} (hN : X.N[i]? = some x := by rfl) (hv : Vis X.env.scope x := by first | exact Or.inl rfl | exact Or.inr (Or.inl rfl) | exact Or.inr (Or.inr rfl)) (hd : (x == ("__debug__" : Str)) = false := by decide) (hcd : (x == ("__classdict__" : Str)) = false := by decide) : PE X (.Name x p) (tL (fm X vs0) (lVar i)) :=
  (pe_var hN hv hd hcd).imp imp_lVar
theorem valV_find {κ : Type} [DecidableEq κ] {f : κ → D} (hf : ∀ a b, f a = f b → a = b) : ∀ {kvs : List (κ × V)} {k : κ} {j : Nat} {z : V}, (kvs.map fun p => f p.1).findIdx? (fun q => decide (q = f k)) = some j → (kvs.map (·.2))[j]? = some z → valV kvs k = some z
  | [], k, j, z, h, _ => by simp at h
  | (k0, v0) :: kvs, k, j, z, h, hz => by
    rw [List.map_cons, List.findIdx?_cons] at h
    by_cases e : k0 = k
    · subst e
      simp only [decide_true] at h
      cases h
      simp at hz
      subst hz
      exact valV_pos rfl
    · have e' : ¬ f k0 = f k := fun q => e (hf _ _ q)
      simp only [e', decide_false, Bool.false_eq_true, if_false, Option.map_eq_some_iff] at h
      obtain ⟨j', h', rfl⟩ := h
      rw [valV_neg (p := (k0, v0)) e]
      exact valV_find hf h' (by simpa using hz)
theorem imp_lIx : ∀ σ H Q, tL F (lIx fl fk) σ H Q → tOp (rIxAll F.K) (tL F fl) (tP F fk) σ H Q := fun σ H Q ⟨ρ, ts, i, p', d0, d1, a, e, e0, e1, k⟩ => by
  unfold lIx at e
  split at e
  · rename_i i0 p el
    split at e
    · rename_i q eq
      cases e
      rw [getP_append] at e1
      obtain ⟨d2, e2, e3⟩ := Option.bind_eq_some_iff.mp e1
      refine ⟨ρ, ts, _, p, d0, d2, a, el, e0, e2, fun v z H1 g1 hv pt => ⟨ρ, ts, q, a.grow g1, eq, fun w H2 g2 rw' _ => ?_⟩⟩
      obtain ⟨v', hv', s2⟩ := ((a.grow g1).grow g2).slot (getD_some e0)
      rw [hv] at hv'
      cases hv'
      obtain ⟨cs, s3, _⟩ := focus s2 (pt.grow g2) e2
      simp only [getP] at e3
      split at e3
      · rename_i d3 eg
        cases e3
        have eg0 := eg
        unfold getS at eg
        split at eg
        · rename_i j ej
          obtain ⟨b, o, _, rfl, hl, hb, s4, _⟩ := unfold_sub s3 ej
          have hjl : j < (partsO o).length := by rw [hl]; exact (List.getElem?_eq_some_iff.mp eg).1
          have hz : (partsO o)[j]? = some ((partsO o)[j]'hjl) := List.getElem?_eq_getElem hjl
          have fin : Q ((partsO o)[j]'hjl) H2 := k v _ H2 (g1.trans g2) hv (PathTo.append (pt.grow g2) e2 ⟨_, _, ⟨b, o, j, rfl, hb, ej, hz⟩, eg0, rfl⟩)
          cases d2 with
          | lst o2 ds =>
            cases o2 with
            | false => simp [posS] at ej
            | true =>
              obtain ⟨b', xs, hb', h1, h2, h3⟩ := s3.unL'
              cases hb'
              rw [hb] at h2
              cases h2
              cases q <;> simp only [posS, reduceCtorEq] at ej
              obtain rfl := rw'.int_inv
              refine .inl (.inl ⟨b, xs, _, _, rfl, rfl, SqL.of hb, ?_, fin⟩)
              unfold atI
              rw [h1, ej]
              exact hz
          | tup ds =>
            obtain ⟨b', xs, hb', h1, h2, h3⟩ := s3.unT'
            cases hb'
            rw [hb] at h2
            cases h2
            cases q <;> simp only [posS, reduceCtorEq] at ej
            obtain rfl := rw'.int_inv
            refine .inl (.inr (.inl ⟨b, xs, _, _, rfl, rfl, SqT.of hb, ?_, fin⟩))
            unfold atI
            rw [h1, ej]
            exact hz
          | dic o2 kd ks vs =>
            cases o2 with
            | false => simp [posS] at ej
            | true =>
              simp only [posS] at ej
              split at ej
              · rename_i hk
                cases kd with
                | n => simp [keyOk] at hk
                | k =>
                  obtain ⟨b', kvs, hb', h1, h2, h3⟩ := s3.unDk
                  cases hb'
                  have h4 := Sim.cell (rs := vals (kvs.map (·.2)) vs ++ (cs ++ _)) h3
                  rw [hb] at h4
                  cases h4
                  unfold keyOk at hk
                  obtain ⟨key, ek⟩ := Option.isSome_iff_exists.mp hk
                  have ek' := key_kyD ek
                  subst ek'
                  subst h1
                  have e5 := valV_find (fun _ _ h => kyD_inj h) ej hz
                  exact .inr ⟨b, _, rfl, .inl ⟨kvs, key, .inl hb, rw'.ky, e5.symm⟩, fin⟩
                | t =>
                  obtain ⟨b', kvs, hb', h1, h2, h3⟩ := s3.unDt
                  cases hb'
                  have h4 := Sim.cell (rs := vals (kvs.map (·.2)) vs ++ (cs ++ _)) h3
                  rw [hb] at h4
                  cases h4
                  have hk' := hk
                  unfold keyOk at hk'
                  cases q <;> simp only [reduceCtorEq, Bool.false_eq_true] at hk'
                  rename_i qs
                  obtain ⟨key, ek⟩ := Option.isSome_iff_exists.mp hk'
                  have ek' := keysL_kyD ek
                  subst ek'
                  subst h1
                  obtain ⟨b2, rfl, hb2⟩ := Rp.kt (l := key) rw'
                  have e5 := valV_find (f := ktD) (k := key) (fun _ _ h => ktD_inj h) ej hz
                  exact .inr ⟨b, _, rfl, .inr ⟨kvs, key, b2, .inl hb, rfl, hb2, e5.symm⟩, fin⟩
              · cases ej
          | obj o2 c fs vs => simp [posS] at ej
          | _ => simp [posS] at ej
        · cases eg
      · cases e3
    · cases e
  · cases e
end
end Dl

set_option Elab.async false
set_option linter.all false
set_option maxRecDepth 100000
set_option maxHeartbeats 1000000
/-! DL13: stores into places, methods on places, attributes. -/
namespace Dl
open PySem PySem.Spec PyProof.Rows L2

/-! ### x[k] = v -/
def opPut (d k v : D) : Option D := match d with
  | .lst true ds => match k with
    | .int i => match ixN ds.length i with
      | some j => some (.lst true (ds.set j v))
      | none => none
    | _ => none
  | .dic true kd ks vs => if keyOk kd k = true ∧ ks.length < 10000 ∧ ks.length = vs.length then
      (if k ∈ ks then
        (if v.stable = true then some (.dic true kd ks (List.zipWith (fun q u => if q = k then v else u) ks vs))
        else match ks.findIdx? (fun q => decide (q = k)) with
          | some j => if (ks.eraseIdx j).all (fun q => decide (q ≠ k)) = true then some (.dic true kd ks (vs.set j v)) else none
          | none => none)
      else some (.dic true kd (ks ++ [k]) (vs ++ [v])))
    else none
  | _ => none
section
variable {K : PySem.W.Frag} {mg : MG} {H H' : Hp}
/-- a dict's keys and values, as one list of parts -/
theorem putK_vals {κ : Type} [DecidableEq κ] {f : κ → D} (hf : ∀ a b, f a = f b → a = b) {kvs : List (κ × V)} {vs : List D} {k : κ} {w : V} {v : D} {a : Addr} {o : HO} {rs : List Rt} (hl : kvs.length = vs.length)
    (s : Sim K mg H (.c a o :: (vals (kvs.map (·.2)) vs ++ (.v w v :: rs)))) :
    (¬ f k ∈ kvs.map (fun p => f p.1) → (putK kvs k w).map (fun p => f p.1) = kvs.map (fun p => f p.1) ++ [f k] ∧ (putK kvs k w).length = (vs ++ [v]).length ∧ Sim K mg H (.c a o :: (vals ((putK kvs k w).map (·.2)) (vs ++ [v]) ++ rs))) ∧
    (f k ∈ kvs.map (fun p => f p.1) → (putK kvs k w).map (fun p => f p.1) = kvs.map (fun p => f p.1) ∧ (v.stable = true →
      (putK kvs k w).length = (List.zipWith (fun q u => if q = f k then v else u) (kvs.map fun p => f p.1) vs).length ∧ Sim K mg H (.c a o :: (vals ((putK kvs k w).map (·.2)) (List.zipWith (fun q u => if q = f k then v else u) (kvs.map fun p => f p.1) vs) ++ rs))) ∧
      ∀ j, (kvs.map fun p => f p.1).findIdx? (fun q => decide (q = f k)) = some j → ((kvs.map fun p => f p.1).eraseIdx j).all (fun q => decide (q ≠ f k)) = true →
        (putK kvs k w).length = (vs.set j v).length ∧ Sim K mg H (.c a o :: (vals ((putK kvs k w).map (·.2)) (vs.set j v) ++ rs))) := by
  have hany : (kvs.any fun kv => decide (kv.1 = k)) = true ↔ f k ∈ kvs.map (fun p => f p.1) := by
    rw [List.any_eq_true, List.mem_map]
    constructor
    · rintro ⟨p, hp, e⟩
      exact ⟨p, hp, by rw [of_decide_eq_true e]⟩
    · rintro ⟨p, hp, e⟩
      exact ⟨p, hp, decide_eq_true (hf _ _ e)⟩
  constructor
  · intro hn
    have hn' : ¬ (kvs.any fun kv => decide (kv.1 = k)) = true := fun q => hn (hany.mp q)
    unfold putK
    rw [if_neg hn']
    refine ⟨by simp, by simp [hl], ?_⟩
    rw [List.map_append, vals_append (by simpa using hl), List.append_assoc]
    exact s
  · intro hm
    unfold putK
    rw [if_pos (hany.mpr hm)]
    refine ⟨?_, fun hst => ⟨by simp [hl], ?_⟩, fun j hj hu => ⟨by simp [hl], ?_⟩⟩
    · rw [List.map_map]
      apply List.map_congr_left
      intro p hp
      simp only [Function.comp]
      split <;> rfl
    · have key : ∀ (kvs : List (κ × V)) (vs : List D) (pre : List Rt), kvs.length = vs.length → Sim K mg H (pre ++ (vals (kvs.map (·.2)) vs ++ (.v w v :: rs))) →
          Sim K mg H (pre ++ (vals ((kvs.map fun kv => if kv.1 = k then (kv.1, w) else kv).map (·.2)) (List.zipWith (fun q u => if q = f k then v else u) (kvs.map fun p => f p.1) vs) ++ (.v w v :: rs))) := by
        intro kvs
        induction kvs with
        | nil =>
          intro vs pre hl s
          cases vs with
          | nil => exact s
          | cons _ _ => cases hl
        | cons p kvs ih =>
          intro vs pre hl s
          cases vs with
          | nil => cases hl
          | cons u vs =>
            have hl' : kvs.length = vs.length := by simpa using hl
            have s1 : Sim K mg H ((pre ++ [.v p.2 u]) ++ (vals (kvs.map (·.2)) vs ++ (.v w v :: rs))) := by
              rw [List.append_assoc]
              exact s
            have s2 := ih vs _ hl' s1
            rw [List.append_assoc] at s2
            by_cases e : p.1 = k
            · have e' : f p.1 = f k := by rw [e]
              show Sim K mg H (pre ++ (vals (((p :: kvs).map fun kv => if kv.1 = k then (kv.1, w) else kv).map (·.2)) (List.zipWith _ (f p.1 :: _) (u :: vs)) ++ _))
              rw [List.map_cons, List.map_cons, if_pos e, List.zipWith_cons_cons, if_pos e']
              -- a copy of w in place of the old part
              have s3 : Sim K mg H (.v w v :: (pre ++ (vals ((kvs.map fun kv => if kv.1 = k then (kv.1, w) else kv).map (·.2)) (List.zipWith (fun q u => if q = f k then v else u) (kvs.map fun p => f p.1) vs) ++ rs))) := by
                refine Sim.tail (r := .v p.2 u) (s2.perm ?_)
                refine List.Perm.trans List.perm_middle (List.Perm.cons _ ?_)
                refine List.Perm.trans (List.Perm.append_left _ List.perm_middle) ?_
                exact List.perm_middle
              have s4 := s3.dup hst
              refine s4.perm (List.Perm.symm ?_)
              refine List.Perm.trans List.perm_middle (List.Perm.cons _ ?_)
              refine List.Perm.trans (List.Perm.append_left _ List.perm_middle) ?_
              exact List.perm_middle
            · have e' : ¬ f p.1 = f k := fun q => e (hf _ _ q)
              show Sim K mg H (pre ++ (vals (((p :: kvs).map fun kv => if kv.1 = k then (kv.1, w) else kv).map (·.2)) (List.zipWith _ (f p.1 :: _) (u :: vs)) ++ _))
              rw [List.map_cons, List.map_cons, if_neg e, List.zipWith_cons_cons, if_neg e']
              exact s2
      have s1 := key kvs vs [.c a o] hl s
      have s2 : Sim K mg H (.v w v :: (.c a o :: (vals ((kvs.map fun kv => if kv.1 = k then (kv.1, w) else kv).map (·.2)) (List.zipWith (fun q u => if q = f k then v else u) (kvs.map fun p => f p.1) vs) ++ rs))) := s1.perm (by
        refine List.Perm.trans (List.Perm.cons _ List.perm_middle) ?_
        exact List.Perm.swap _ _ _)
      exact s2.tail
    · -- one place alone
      have key : ∀ (kvs : List (κ × V)) (j : Nat), (kvs.map fun p => f p.1).findIdx? (fun q => decide (q = f k)) = some j → ((kvs.map fun p => f p.1).eraseIdx j).all (fun q => decide (q ≠ f k)) = true →
          (kvs.map fun kv => if kv.1 = k then (kv.1, w) else kv).map (·.2) = (kvs.map (·.2)).set j w := by
        intro kvs
        induction kvs with
        | nil => intro j hj _; simp at hj
        | cons p kvs ih =>
          intro j hj hu
          rw [List.map_cons, List.findIdx?_cons] at hj
          by_cases e : p.1 = k
          · have e' : f p.1 = f k := by rw [e]
            simp only [e', decide_true] at hj
            cases hj
            rw [List.map_cons, List.eraseIdx_cons_zero] at hu
            rw [List.map_cons, List.map_cons, if_pos e, List.map_cons, List.set_cons_zero]
            congr 1
            rw [List.map_map]
            apply List.map_congr_left
            intro q hq
            have := List.all_eq_true.mp hu (f q.1) (List.mem_map.mpr ⟨q, hq, rfl⟩)
            have e2 : ¬ q.1 = k := fun z => by simp [z] at this
            simp only [Function.comp, if_neg e2]
          · have e' : ¬ f p.1 = f k := fun q => e (hf _ _ q)
            simp only [e', decide_false, Bool.false_eq_true, if_false, Option.map_eq_some_iff] at hj
            obtain ⟨j', h', rfl⟩ := hj
            rw [List.map_cons, List.eraseIdx_cons_succ, List.all_cons, Bool.and_eq_true] at hu
            rw [List.map_cons, List.map_cons, if_neg e, List.map_cons, List.set_cons_succ, ih j' h' hu.2]
      rw [key kvs j hj hu]
      have hjl : j < kvs.length := by
        obtain ⟨h1, _⟩ := List.findIdx?_eq_some_iff_getElem.mp hj
        simpa using h1
      have e1 : (kvs.map (·.2))[j]? = some ((kvs.map (·.2))[j]'(by simpa using hjl)) := List.getElem?_eq_getElem (by simpa using hjl)
      have e2 : vs[j]? = some (vs[j]'(by omega)) := List.getElem?_eq_getElem (by omega)
      have p1 := vals_erase (xs := kvs.map (·.2)) (ds := vs) (by simpa using hl) e1 e2
      have p2 := vals_erase (xs := (kvs.map (·.2)).set j w) (ds := vs.set j v) (k := j) (x := w) (d := v) (by simpa using hl) (List.getElem?_set_self (by simpa using hjl)) (List.getElem?_set_self (by omega))
      rw [List.eraseIdx_set_eq, List.eraseIdx_set_eq] at p2
      have s1 : Sim K mg H (.v ((kvs.map (·.2))[j]'(by simpa using hjl)) (vs[j]'(by omega)) :: (.c a o :: (vals ((kvs.map (·.2)).set j w) (vs.set j v) ++ rs))) := s.perm (by
        refine List.Perm.trans (List.Perm.cons _ (List.Perm.append_right _ p1)) ?_
        refine List.Perm.trans (List.Perm.swap _ _ _) (List.Perm.cons _ (List.Perm.cons _ ?_))
        refine List.Perm.trans List.perm_middle ?_
        exact (List.Perm.append_right rs p2).symm)
      exact s1.tail
end
end Dl

set_option Elab.async false
set_option linter.all false
set_option maxRecDepth 100000
set_option maxHeartbeats 1000000
/-! DL14: stores into places, methods on places, attributes. -/
namespace Dl
open PySem PySem.Spec PyProof.Rows L2

section
variable {X : Cx} {F : Fm} {vs0 : List V} {K : PySem.W.Frag} {mg : MG} {H H' : Hp}
def rPut : V → V → V → Hp → (Hp → Prop) → Prop := fun o i v H Q => rSetL o i v H Q ∨ rSetD o i v H Q
theorem set_put (hu : X.A.units + 1 < cLine) : PSet X rPut := by
  intro pins s σ H o i v ov iv u Q I ro ri rv h
  rcases h with h | h
  · exact set_list pins s σ H o i v ov iv u Q I ro ri rv h
  · exact set_dict hu pins s σ H o i v ov iv u Q I ro ri rv h
theorem Sim.setDk {a : Addr} {o : HO} {kvs : List (Key × V)} {ks es : List D} {r2 : List Rt} (s : Sim K mg H (.c a o :: (vals (kvs.map (·.2)) es ++ r2))) (hk : ks = kvs.map (fun p => kyD p.1)) (hl : kvs.length = es.length) :
    Sim K mg (upd H a (.dK kvs)) (.v (.ref a) (.dic true .k ks es) :: r2) := Sim.foDk (s.write (o' := .dK kvs)) hk hl
theorem Sim.setDt {a : Addr} {o : HO} {kvs : List (List Key × V)} {ks es : List D} {r2 : List Rt} (s : Sim K mg H (.c a o :: (vals (kvs.map (·.2)) es ++ r2))) (hk : ks = kvs.map (fun p => ktD p.1)) (hl : kvs.length = es.length) :
    Sim K mg (upd H a (.dT kvs)) (.v (.ref a) (.dic true .t ks es) :: r2) := Sim.foDt (s.write (o' := .dT kvs)) hk hl
theorem put_ok {z y w : V} {d q v d' : D} {rs : List Rt} {Q : Hp → Prop} (s : Sim K mg H (.v z d :: .v w v :: rs)) (ry : Rp K mg H y q) (e : opPut d q v = some d') (k : ∀ H', Sim K mg H' (.v z d' :: rs) → Q H') : rPut z y w H Q := by
  unfold opPut at e
  split at e
  · rename_i ds
    split at e
    · split at e
      · rename_i j hj
        cases e
        obtain rfl := ry.int_inv
        obtain ⟨a, xs, rfl, hx, hc, s1⟩ := s.unL'
        refine .inl ⟨a, xs, _, j, rfl, rfl, hc, by rw [hx]; exact hj, k _ ?_⟩
        have hjl : j < ds.length := by
          unfold ixN at hj
          split at hj
          · split at hj
            · cases hj; omega
            · cases hj
          · split at hj
            · cases hj; omega
            · cases hj
        have e1 : xs[j]? = some (xs[j]'(by omega)) := List.getElem?_eq_getElem (by omega)
        have e2 : ds[j]? = some (ds[j]'hjl) := List.getElem?_eq_getElem hjl
        have p1 := vals_erase hx e1 e2
        have p2 := vals_erase (xs := xs.set j w) (ds := ds.set j v) (k := j) (x := w) (d := v) (by simpa using hx) (List.getElem?_set_self (by omega)) (List.getElem?_set_self hjl)
        rw [List.eraseIdx_set_eq, List.eraseIdx_set_eq] at p2
        refine s1.setL (r0 := [.v (xs[j]'(by omega)) (ds[j]'hjl)]) ?_ (by simpa using hx)
        refine List.Perm.trans (List.Perm.append_right _ p1) ?_
        show (Rt.v _ _ :: (vals (xs.eraseIdx j) (ds.eraseIdx j) ++ (.v w v :: rs))).Perm (Rt.v _ _ :: _)
        refine List.Perm.cons _ ?_
        refine List.Perm.trans List.perm_middle ?_
        exact (List.Perm.append_right rs p2).symm
      · cases e
    · cases e
  · rename_i kd ks vs
    split at e
    · rename_i hk
      obtain ⟨h1, h2, h3⟩ := hk
      cases kd with
      | n => simp [keyOk] at h1
      | k =>
        unfold keyOk at h1
        obtain ⟨key, ek⟩ := Option.isSome_iff_exists.mp h1
        have e0 := key_kyD ek
        subst e0
        have ey := ry.ky
        subst ey
        obtain ⟨a, kvs, rfl, rfl, hl, s1⟩ := s.unDk
        have hc := Sim.cell (rs := vals (kvs.map (·.2)) vs ++ (.v w v :: rs)) s1
        obtain ⟨g1, g2⟩ := putK_vals (f := kyD) (fun _ _ h => kyD_inj h) (k := key) hl s1
        have hz : kvs.length < sizeLine := by rw [sizeLine_eq]; rw [List.length_map] at h2; omega
        refine .inr ⟨a, _, rfl, .k hc hz, k _ ?_⟩
        split at e
        · rename_i hm
          obtain ⟨g3, g4, g5⟩ := g2 hm
          split at e
          · rename_i hst
            cases e
            exact Sim.setDk (g4 hst).2 g3.symm (g4 hst).1
          · split at e
            · rename_i j hj
              split at e
              · rename_i hu
                cases e
                exact Sim.setDk (g5 j hj hu).2 g3.symm (g5 j hj hu).1
              · cases e
            · cases e
        · rename_i hm
          cases e
          obtain ⟨g3, g4, g5⟩ := g1 hm
          exact Sim.setDk g5 g3.symm g4
      | t =>
        unfold keyOk at h1
        cases q <;> simp only [reduceCtorEq, Bool.false_eq_true] at h1
        rename_i qs
        obtain ⟨key, ek⟩ := Option.isSome_iff_exists.mp h1
        have e0 := keysL_kyD ek
        subst e0
        obtain ⟨b, rfl, hb⟩ := Rp.kt (l := key) ry
        obtain ⟨a, kvs, rfl, rfl, hl, s1⟩ := s.unDt
        have hc := Sim.cell (rs := vals (kvs.map (·.2)) vs ++ (.v w v :: rs)) s1
        obtain ⟨g1, g2⟩ := putK_vals (f := ktD) (fun _ _ h => ktD_inj h) (k := key) hl s1
        have hz : kvs.length < sizeLine := by rw [sizeLine_eq]; rw [List.length_map] at h2; omega
        refine .inr ⟨a, _, rfl, .t hc hb hz, k _ ?_⟩
        split at e
        · rename_i hm
          obtain ⟨g3, g4, g5⟩ := g2 hm
          split at e
          · rename_i hst
            cases e
            exact Sim.setDt (g4 hst).2 g3.symm (g4 hst).1
          · split at e
            · rename_i j hj
              split at e
              · rename_i hu
                cases e
                exact Sim.setDt (g5 j hj hu).2 g3.symm (g5 j hj hu).1
              · cases e
            · cases e
        · rename_i hm
          cases e
          obtain ⟨g3, g4, g5⟩ := g1 hm
          exact Sim.setDt g5 g3.symm g4
    · cases e
  · cases e

/-- the target x[k], x a place -/
def gSt (l : LM) (k : PM) : GM := fun v ρ => match l ρ, k ρ with
  | some (i, p), some q => match ρ.getD i none with
    | some d0 => match getP p d0 with
      | some d1 => match opPut d1 q v with
        | some d1' => match putP p d0 d1' with
          | some d0' => some (ρ.set i (some d0'))
          | none => none
        | none => none
      | none => none
    | none => none
  | _, _ => none
variable {fl : LM} {fk : PM} {a b : Expr} {pos : Pos}
theorem imp_gSt : ∀ v σ H Q, tG F (gSt fl fk) v σ H Q → gSub (tL F fl) (tP F fk) rPut v σ H Q := fun v σ H Q ⟨ρ, ts, d, ρ', a, e, k⟩ => by
  unfold gSt at e
  split at e
  · rename_i i p q el eq
    split at e
    · rename_i d0 e0
      split at e
      · rename_i d1 e1
        split at e
        · rename_i d1' e2
          split at e
          · rename_i d0' e3
            cases e
            refine ⟨ρ, _, i, p, d0, d1, a, el, e0, e1, fun x z H1 g1 hx pt => ⟨ρ, _, q, a.grow g1, eq, fun y H2 g2 ry _ => ?_⟩⟩
            have a2 := (a.grow g1).grow g2
            obtain ⟨x', hx', s2⟩ := a2.slot (getD_some e0)
            rw [hx] at hx'
            cases hx'
            obtain ⟨cs, s3, back⟩ := focus s2 (pt.grow g2) e1
            have s4 : Sim F.K F.mg H2 (.v z d1 :: .v v d :: (cs ++ (slotR σ (ρ.set i none) ++ ts))) := s3.perm (by
              refine List.Perm.cons _ ?_
              refine List.Perm.trans (List.Perm.append_left _ List.perm_middle) ?_
              exact List.perm_middle)
            refine put_ok s4 ry e2 fun H3 s5 => k σ H3 ?_
            have s6 := back H3 d1' d0' _ e3 s5
            exact At.back (At.tail a2) hx s6
          · cases e
        · cases e
      · cases e
    · cases e
  · cases e
theorem g_st (hu : X.A.units + 1 < cLine) (ha : PE X a (tL (fm X vs0) fl)) (hb : PE X b (tP (fm X vs0) fk))
    (hs : ∀ v, assign (.Subscript a b pos) X.env v = (do
      let ov ← holding [v] (eval a X.env)
      let iv ← holding [v, ov] (eval b X.env)
      standAt pos
      holding [v, ov, iv] (setItem ov iv v)
      release [v, ov, iv] []) := by exact fun _ => rfl) : PG X (.Subscript a b pos) (tG (fm X vs0) (gSt fl fk)) := (pg_sub ha hb (set_put hu) hs).imp imp_gSt
theorem l_ix (hu : X.A.units + 1 < cLine) (ha : PE X a (tL (fm X vs0) fl)) (hb : PE X b (tP (fm X vs0) fk)) (hs : PlainIx b := by exact fun _ _ => rfl) : PE X (.Subscript a b pos) (tL (fm X vs0) (lIx fl fk)) := (pe_ix (ix_all hu) ha hb hs).imp imp_lIx
end

/-! ### a method on a place: its arguments read alone, never to change -/
def eMtL (op : D → List D → Option (D × D)) (l : LM) (fs : List PM) : EM := fun ρ => match l ρ, pAll fs ρ with
  | some (i, p), some ds => match ρ.getD i none with
    | some d0 => match getP p d0 with
      | some d1 => match op d1 ds with
        | some (d1', res) => if immL ds = true then match putP p d0 d1' with
            | some d0' => some (res, ρ.set i (some d0'))
            | none => none
          else none
        | none => none
      | none => none
    | none => none
  | _, _ => none
section
variable {X : Cx} {F : Fm} {vs0 : List V} {op : D → List D → Option (D × D)} {r : V → List V → Hp → VK → Prop} {T : String} {fs : List PM} {fl : LM}
theorem mtL_core {σ : L2.St} {H2 : Hp} {ρ : DEnv} {ts : List Rt} {i : Nat} {p : List PStep} {d0 d1 d1' d0' res : D} {ds : List D} {x z : V} {vs : List V} {Q : VK} (hr : RmD F.K F.mg r op) (a2 : At F σ H2 ρ ts) (e0 : ρ.getD i none = some d0) (e1 : getP p d0 = some d1)
    (hx : σ[i]? = some (some x)) (pt : PathTo H2 x d0 p z) (rl : RpL F.K F.mg H2 vs ds) (hi : immL ds = true) (e2 : op d1 ds = some (d1', res)) (e3 : putP p d0 d1' = some d0') (k : ∀ v H', At F σ H' (ρ.set i (some d0')) (.v v res :: ts) → Q v H') : r z vs H2 Q := by
  obtain ⟨x', hx', s2⟩ := a2.slot (getD_some e0)
  rw [hx] at hx'
  cases hx'
  obtain ⟨cs, s3, back⟩ := focus s2 pt e1
  have s4 : Sim F.K F.mg H2 (.v z d1 :: (vals vs ds ++ (cs ++ (slotR σ (ρ.set i none) ++ ts)))) := (s3.imms rl hi).perm List.perm_middle
  refine hr z d1 vs ds d1' res H2 Q _ s4 rl.length e2 fun u H3 s5 => k u H3 ?_
  have s6 : Sim F.K F.mg H3 (.v z d1' :: (cs ++ (.v u res :: (slotR σ (ρ.set i none) ++ ts)))) := s5.perm (by
    refine List.Perm.trans (List.Perm.swap _ _ _) (List.Perm.cons _ ?_)
    exact (List.perm_middle).symm)
  have s7 := back H3 d1' d0' _ e3 s6
  refine At.back a2 hx (s7.perm (List.Perm.cons _ ?_))
  exact (List.perm_middle).symm
theorem imp_mtL (hr : RmD F.K F.mg r op) (ht : TyR F.K F.mg T op) : ∀ σ H Q, tD F (eMtL op fl fs) σ H Q → tBM F.K T r (tL F fl) (tAP F fs) σ H Q := fun σ H Q ⟨ρ, ts, d, ρ', a, e, k⟩ => by
  unfold eMtL at e
  split at e
  · rename_i i p ds el ea
    split at e
    · rename_i d0 e0
      split at e
      · rename_i d1 e1
        split at e
        · rename_i d1' re e2
          split at e
          · rename_i hi
            split at e
            · rename_i d0' e3
              cases e
              refine ⟨ρ, _, i, p, d0, d1, a, el, e0, e1, fun x z H1 g1 hx pt => ?_⟩
              obtain ⟨x', hx', s1⟩ := (a.grow g1).slot (getD_some e0)
              rw [hx] at hx'
              cases hx'
              obtain ⟨cs, s3, _⟩ := focus s1 pt e1
              refine ⟨ht z d1 ds _ H1 _ s3 e2, ρ, ts, ds, a.grow g1, ea, fun vs H2 g2 rl => ?_⟩
              exact mtL_core hr ((a.grow g1).grow g2) e0 e1 hx (pt.grow g2) rl hi e2 e3 k
            · cases e
          · cases e
        · cases e
      · cases e
    · cases e
  · cases e
theorem imp_mtL0 (hr : RmD F.K F.mg r op) (ht : TyR F.K F.mg T op) : ∀ σ H Q, tD F (eMtL op fl []) σ H Q → tBM0 F.K T r (tL F fl) σ H Q := fun σ H Q ⟨ρ, ts, d, ρ', a, e, k⟩ => by
  unfold eMtL pAll at e
  split at e
  · rename_i i p ds el ea
    cases ea
    split at e
    · rename_i d0 e0
      split at e
      · rename_i d1 e1
        split at e
        · rename_i d1' re e2
          split at e
          · rename_i hi
            split at e
            · rename_i d0' e3
              cases e
              refine ⟨ρ, _, i, p, d0, d1, a, el, e0, e1, fun x z H1 g1 hx pt => ?_⟩
              obtain ⟨x', hx', s1⟩ := (a.grow g1).slot (getD_some e0)
              rw [hx] at hx'
              cases hx'
              obtain ⟨cs, s3, _⟩ := focus s1 pt e1
              exact ⟨ht z d1 [] _ H1 _ s3 e2, mtL_core hr (a.grow g1) e0 e1 hx pt .nil hi e2 e3 k⟩
            · cases e
          · cases e
        · cases e
      · cases e
    · cases e
  · cases e
end
end Dl

set_option Elab.async false
set_option linter.all false
set_option maxRecDepth 100000
set_option maxHeartbeats 1000000
/-! DL15: dict(pairs), update, clear, displays of dicts. -/
namespace Dl
open PySem PySem.Spec PyProof.Rows L2

def putKV (ks vs : List D) (k v : D) : List D × List D := if k ∈ ks then (ks, List.zipWith (fun q u => if q = k then v else u) ks vs) else (ks ++ [k], vs ++ [v])
def mergeD : List D → List D → List D → List D → List D × List D
  | ks, vs, k :: ks', v :: vs' => mergeD (putKV ks vs k v).1 (putKV ks vs k v).2 ks' vs'
  | ks, vs, _, _ => (ks, vs)
section
variable {K : PySem.W.Frag} {mg : MG} {H H' : Hp}
theorem mergeK_vals {a : Addr} {o : HO} : ∀ {more kvs : List (Key × V)} {ks ks' vs ws : List D} {rs : List Rt}, ks = kvs.map (fun p => kyD p.1) → ks' = more.map (fun p => kyD p.1) → kvs.length = vs.length → more.length = ws.length → stableL ws = true →
    Sim K mg H (.c a o :: (vals (kvs.map (·.2)) vs ++ (vals (more.map (·.2)) ws ++ rs))) →
    (mergeD ks vs ks' ws).1 = (mergeK kvs more).map (fun p => kyD p.1) ∧ (mergeK kvs more).length = (mergeD ks vs ks' ws).2.length ∧
    Sim K mg H (.c a o :: (vals ((mergeK kvs more).map (·.2)) (mergeD ks vs ks' ws).2 ++ rs))
  | [], kvs, ks, ks', vs, [], rs, e1, e2, h1, _, _, s => by subst e2; exact ⟨e1, h1, s⟩
  | [], kvs, ks, ks', vs, _ :: _, rs, e1, e2, h1, h2, _, s => by cases h2
  | _ :: _, kvs, ks, ks', vs, [], rs, e1, e2, h1, h2, _, s => by cases h2
  | (k, w) :: more, kvs, ks, ks', vs, u :: ws, rs, e1, e2, h1, h2, h3, s => by
    simp only [stableL, Bool.and_eq_true] at h3
    subst e2
    have s0 : Sim K mg H (.c a o :: (vals (kvs.map (·.2)) vs ++ (.v w u :: (vals (more.map (·.2)) ws ++ rs)))) := s
    obtain ⟨g1, g2⟩ := putK_vals (f := kyD) (fun _ _ h => kyD_inj h) (k := k) h1 s0
    rw [← e1] at g1 g2
    show (mergeD (putKV ks vs (kyD k) u).1 (putKV ks vs (kyD k) u).2 _ ws).1 = (mergeK (putK kvs k w) more).map _ ∧ (mergeK (putK kvs k w) more).length = (mergeD (putKV ks vs (kyD k) u).1 (putKV ks vs (kyD k) u).2 _ ws).2.length ∧
      Sim K mg H (.c a o :: (vals ((mergeK (putK kvs k w) more).map (·.2)) (mergeD (putKV ks vs (kyD k) u).1 (putKV ks vs (kyD k) u).2 _ ws).2 ++ rs))
    unfold putKV
    by_cases hm : kyD k ∈ ks
    · obtain ⟨q1, q2, _⟩ := g2 hm
      obtain ⟨q3, q4⟩ := q2 h3.1
      rw [if_pos hm]
      exact mergeK_vals (more := more) q1.symm rfl q3 (by simpa using h2) h3.2 q4
    · obtain ⟨q1, q3, q4⟩ := g1 hm
      rw [if_neg hm]
      exact mergeK_vals (more := more) q1.symm rfl q3 (by simpa using h2) h3.2 q4
end

/-! ### d.update(e), d.clear() -/
def mUpdate : D → List D → Option (D × D)
  | .dic true .k ks vs, [.dic _ .k ks' vs'] => if stableL vs' = true ∧ ks.length + ks'.length < 10000 ∧ ks.length = vs.length ∧ ks'.length = vs'.length then
      some (.dic true .k (mergeD ks vs ks' vs').1 (mergeD ks vs ks' vs').2, .non) else none
  | _, _ => none
def mDClear : D → List D → Option (D × D)
  | .dic true .k _ _, [] => some (.dic true .k [] [], .non)
  | _, _ => none
def rDUpd : V → List V → Hp → VK → Prop := fun x vs H Q => ∃ (a b : Addr) (kvs more : List (Key × V)), x = .ref a ∧ vs = [.ref b] ∧ a ≠ b ∧ H a = some (.dK kvs) ∧ Rd H b (.dK more) ∧ kvs.length + more.length ≤ sizeLine ∧ Q .non (upd H a (.dK (mergeK kvs more)))
theorem mtd_update {X : Cx} : MtR X "dict.update" rDUpd := by
  intro pins s σ H x vs v us Q I rx rv h
  obtain ⟨a, b, kvs, more, ex, ev, hab, e, eb, hz, q⟩ := h
  subst ex
  subst ev
  obtain rfl : v = Value.ref a := rx
  obtain ⟨u, rfl, ru⟩ := rv.one
  obtain rfl : u = Value.ref b := ru
  obtain ⟨z, hd, ws, rel, dd⟩ := dk_of I.hok e
  obtain ⟨z2, hd2, ws2, rel2, dd2⟩ := dk_rd I.hok eb
  refine call_meetsIn PySem.F.slot_dict_update dd.typeIs PySem.F.entry_dict_update (PySem.F.args_dict_update_2 _ _) (meets_dict_update (mixKind X.prog X.w) a b hab hd2) ⟨ws, ws2, dd, dd2, by rw [← rel.length, ← rel2.length]; exact hz, fun h' dd' _ hs => ?_⟩
  have he : ∃ q, h'.get? a = some q := let ⟨q, _, _, hq, _⟩ := dd'; ⟨q, hq⟩
  have rel3 := KV.merge rel2 rel
  have hl3 : (mergeK kvs more).length ≤ sizeLine := by
    have q1 := merged_length_le ws ws2
    have q2 := rel3.length
    have q3 := rel.length
    have q4 := rel2.length
    omega
  have I' := d_write (t' := s.toks) I (by rw [e]; exact True.intro) hs he (dk_new hl3 hd rel3 dd')
  exact ⟨.non, _, I', rfl, q⟩
section
variable {K : PySem.W.Frag} {mg : MG}
theorem ty_update : TyR K mg "dict" mUpdate := fun x d ds q H rs s e => by
  unfold mUpdate at e
  split at e
  · obtain ⟨a, kvs, rfl, _, _, s1⟩ := s.unDk
    exact .inr (.inr (.inl ⟨rfl, .inl ⟨kvs, s1.cell⟩⟩))
  · cases e
theorem ty_dclear : TyR K mg "dict" mDClear := fun x d ds q H rs s e => by
  unfold mDClear at e
  split at e
  · obtain ⟨a, kvs, rfl, _, _, s1⟩ := s.unDk
    exact .inr (.inr (.inl ⟨rfl, .inl ⟨kvs, s1.cell⟩⟩))
  · cases e
theorem rm_dclear : RmD K mg rDClear mDClear := fun x d vs ds d' res H Q rs s hl e k => by
  unfold mDClear at e
  split at e
  · rename_i ks es
    cases e
    obtain ⟨a, kvs, rfl, h1, h2, s1⟩ := s.unDk
    obtain rfl : vs = [] := List.length_eq_zero_iff.mp hl
    refine ⟨a, kvs, rfl, rfl, s1.cell, k _ _ (Sim.non ?_)⟩
    have s2 := Sim.write (rs := vals (kvs.map (·.2)) es ++ rs) (o' := .dK []) s1
    have s3 : Sim K mg (upd H a (.dK [])) (vals (kvs.map (·.2)) es ++ (.c a (.dK []) :: rs)) := s2.perm (List.perm_middle).symm
    exact Sim.foDk (kvs := []) (ks := []) (ds := []) s3.drop rfl rfl
  · cases e
theorem rm_update : RmD K mg rDUpd mUpdate := fun x d vs ds d' res H Q rs s hl e k => by
  unfold mUpdate at e
  split at e
  · rename_i ks es o ks' es'
    split at e
    · rename_i hc
      obtain ⟨c1, c2, c3, c4⟩ := hc
      cases e
      obtain ⟨a, kvs, rfl, h1, h2, s1⟩ := s.unDk
      obtain ⟨w, rfl⟩ : ∃ w, vs = [w] := List.length_eq_one_iff.mp hl
      have s2 : Sim K mg H (.v w (.dic o .k ks' es') :: (.c a (.dK kvs) :: (vals (kvs.map (·.2)) es ++ rs))) := s1.perm (by
        refine List.Perm.trans (List.Perm.cons _ ?_) (List.Perm.swap _ _ _)
        exact List.perm_middle)
      -- the other dict's parts as roots of their own
      obtain ⟨b, more, rfl, hb, h3, h4⟩ := s2.rp.dk_inv
      have hlm := h4.length
      rw [List.length_map] at hlm
      have hca := Sim.cell (rs := vals (kvs.map (·.2)) es ++ rs) s2.tail
      have hne : a ≠ b := by
        rintro rfl
        cases o with
        | true =>
          obtain ⟨b2, kvs2, e2, _, _, s3⟩ := s2.unDk
          cases e2
          obtain ⟨Hs, fp, _, o1, n1⟩ := s3.perm (rs' := .c a (.dK kvs2) :: .c a (.dK kvs) :: (vals (kvs2.map (·.2)) es' ++ (vals (kvs.map (·.2)) es ++ rs))) (List.Perm.cons _ List.perm_middle)
          cases o1 with
          | c _ _ _ o2 => cases o2 with
            | c _ _ _ _ => simp at n1
        | false =>
          obtain ⟨Hs, fp, sh, o1, n1⟩ := s2
          cases o1 with
          | v q1 q2 => cases q1 with
            | dkF q3 _ _ => cases q2 with
              | c _ q4 _ _ => rw [q4] at q3; cases q3
      have s3 : Sim K mg H (.c a (.dK kvs) :: (vals (kvs.map (·.2)) es ++ (vals (more.map (·.2)) es' ++ rs))) := by
        cases o with
        | true =>
          obtain ⟨b2, kvs2, e2, e3, e4, s3⟩ := s2.unDk
          cases e2
          have hcb := Sim.cell (rs := vals (kvs2.map (·.2)) es' ++ (.c a (.dK kvs) :: (vals (kvs.map (·.2)) es ++ rs))) s3
          have e5 : kvs2 = more := Rd.uk (.inl hcb) hb
          subst e5
          refine (Sim.tail (r := .c b (.dK kvs2)) (rs := vals (kvs2.map (·.2)) es' ++ (.c a (.dK kvs) :: (vals (kvs.map (·.2)) es ++ rs))) s3).perm ?_
          refine List.Perm.trans List.perm_middle (List.Perm.cons _ ?_)
          rw [← List.append_assoc, ← List.append_assoc]
          exact List.Perm.append_right _ List.perm_append_comm
        | false =>
          obtain ⟨Hs, fp, sh, o1, n1⟩ := s2
          cases o1 with
          | v q1 q2 => cases q1 with
            | dkF q3 q4 q5 =>
              have e5 := Rd.uk (sh.rdK q3) hb
              subst e5
              have z0 := vals_ownR q5 q2
              rw [List.nil_append] at z0 n1
              have z : Sim K mg H _ := ⟨Hs, _, sh, z0, n1⟩
              refine z.perm ?_
              refine List.Perm.trans List.perm_middle (List.Perm.cons _ ?_)
              rw [← List.append_assoc, ← List.append_assoc]
              exact List.Perm.append_right _ List.perm_append_comm
      obtain ⟨g1, g2, g3⟩ := mergeK_vals h1 h3 h2 hlm c1 s3
      have hz : kvs.length + more.length ≤ sizeLine := by
        rw [sizeLine_eq]
        rw [h1, h3, List.length_map, List.length_map] at c2
        omega
      exact ⟨a, b, kvs, more, rfl, rfl, hne, hca, hb, hz, k _ _ (Sim.non (Sim.setDk g3 g1 g2))⟩
    · cases e
  · cases e
end

/-! ### dict([(k, v), ..]) -/
def pairsD : List D → Option (List D × List D)
  | [] => some ([], [])
  | .tup [k, v] :: ds => match pairsD ds with
    | some (ks, vs) => if k.key.isSome = true then some (k :: ks, v :: vs) else none
    | none => none
  | _ :: _ => none
def opDict : List D → Option D
  | [.lst _ ds] => match pairsD ds with
    | some (ks, vs) => if immL vs = true then some (.dic true .k (mergeD [] [] ks vs).1 (mergeD [] [] ks vs).2) else none
    | none => none
  | _ => none
def rDictP (K : PySem.W.Frag) : List V → Hp → VK → Prop := fun xs H Q => ∃ (a : Addr) (ps : List Addr) (kvs : List (Key × V)), xs = [V.ref a] ∧ SqL K H a (ps.map V.ref) ∧ Paired (fun p kv => SqT K H p [kV kv.1, kv.2]) ps kvs ∧ ∀ p, H p = none → Q (.ref p) (upd H p (.dK (mergeK [] kvs)))
theorem c_dict {X : Cx} (hc : X.calm = true) : CallR X (.type "dict") (rDictP X.K) := call_dictP hc
section
variable {K : PySem.W.Frag} {mg : MG}
theorem pairs_rp {H : Hp} : ∀ {ds : List D} {xs : List V} {ks vs : List D}, RpL K mg H xs ds → pairsD ds = some (ks, vs) → ∃ (ps : List Addr) (kvs : List (Key × V)), xs = ps.map V.ref ∧ Paired (fun p kv => SqT K H p [kV kv.1, kv.2]) ps kvs ∧ ks = kvs.map (fun p => kyD p.1) ∧ RpL K mg H (kvs.map (·.2)) vs
  | [], _, ks, vs, .nil, e => by cases e; exact ⟨[], [], rfl, .nil, rfl, .nil⟩
  | d :: ds, _, ks, vs, .cons h t, e => by
    unfold pairsD at e
    split at e
    · rename_i e0; cases e0
    · rename_i k v ds' e0
      cases e0
      split at e
      · rename_i ks' vs' e1
        split at e
        · rename_i hk
          cases e
          obtain ⟨ps, kvs, rfl, h1, rfl, h2⟩ := pairs_rp t e1
          obtain ⟨a, xs, rfl, ha, l⟩ := h.tup_inv
          obtain ⟨y, w, rfl, r1, r2⟩ := l.two
          obtain ⟨key, ek⟩ := Option.isSome_iff_exists.mp hk
          have e0 := key_kyD ek
          subst e0
          have ey := r1.ky
          subst ey
          exact ⟨a :: ps, (key, w) :: kvs, rfl, .cons (SqT.of ha) h1, rfl, .cons r2 h2⟩
        · cases e
      · cases e
    · cases e
theorem r_dict : RnD K mg (rDictP K) opDict := by
  intro vs H ds d Q rs e k
  unfold opDict at e
  split at e
  · split at e
    · rename_i ks ws hp
      split at e
      · rename_i hi
        cases e
        obtain ⟨v, rfl, r⟩ := rs.one
        obtain ⟨a, xs, rfl, ha, rl⟩ := r.lst_inv
        obtain ⟨ps, kvs, rfl, h1, h2, h3⟩ := pairs_rp rl hp
        refine ⟨a, ps, kvs, rfl, SqL.of ha, h1, fun p hpn => k _ _ (same_upd hpn) fun rs0 s0 => ?_⟩
        have s1 : Sim K mg (upd H p (.dK (mergeK [] kvs))) (.c p (.dK (mergeK [] kvs)) :: (vals (([] : List (Key × V)).map (·.2)) [] ++ (vals (kvs.map (·.2)) ws ++ rs0))) := (s0.imms h3 hi).alloc hpn
        have hl := h3.length
        rw [List.length_map] at hl
        obtain ⟨g1, g2, g3⟩ := mergeK_vals (kvs := []) (ks := []) (vs := []) rfl h2 rfl hl (stableL_of_imm _ hi) s1
        exact Sim.foDk g3 g1 g2
      · cases e
    · cases e
  · cases e
end
end Dl

set_option Elab.async false
set_option linter.all false
set_option maxRecDepth 100000
set_option maxHeartbeats 1000000
/-! DL16: and, or, not as values; a call by its name; a def by its mirror. -/
namespace Dl
open PySem PySem.Spec PyProof.Rows L2

theorem h65_of {k : Nat} {A : Around} (r : Room k A) : A.units + 65 < cLine := by have := r.un; omega
theorem h64_of {k : Nat} {A : Around} (r : Room k A) : A.units + 64 < cLine := by have := r.un; omega
theorem h1_of {k : Nat} {A : Around} (r : Room k A) : A.units + 1 < cLine := by have := r.un; omega

/-! ### and, or, not as values -/
def eAndV (a b : EM) : EM := fun ρ => match a ρ with
  | some (.bl true, ρ1) => b ρ1
  | some (.bl false, ρ1) => some (.bl false, ρ1)
  | _ => none
def eOrV (a b : EM) : EM := fun ρ => match a ρ with
  | some (.bl true, ρ1) => some (.bl true, ρ1)
  | some (.bl false, ρ1) => b ρ1
  | _ => none
def pAndV (a b : PM) : PM := fun ρ => match a ρ with
  | some (.bl true) => b ρ
  | some (.bl false) => some (.bl false)
  | _ => none
def pOrV (a b : PM) : PM := fun ρ => match a ρ with
  | some (.bl true) => some (.bl true)
  | some (.bl false) => b ρ
  | _ => none
def eNotV (a : EM) : EM := fun ρ => match a ρ with
  | some (.bl c, ρ1) => some (.bl (!c), ρ1)
  | _ => none
def pNotV (a : PM) : PM := fun ρ => match a ρ with
  | some (.bl c) => some (.bl (!c))
  | _ => none
section
variable {X : Cx} {F : Fm} {vs0 : List V} {ea eb : EM} {fa fb : PM}
theorem bl_at {σ : L2.St} {H : Hp} {ρ : DEnv} {ts : List Rt} {v : V} {b : Bool} (a : At F σ H ρ (.v v (.bl b) :: ts)) : At F σ H ρ (.v (.bl b) (.bl b) :: ts) := by
  have e := (a.front.rp).bl_inv
  subst e
  exact a
theorem imp_eAndV : ∀ σ H Q, tD F (eAndV ea eb) σ H Q → tAndV (tD F ea) (tD F eb) σ H Q := fun σ H Q ⟨ρ, ts, d, ρ', a, e, k⟩ => by
  unfold eAndV at e
  split at e
  · rename_i ρ1 e1
    exact ⟨ρ, ts, _, ρ1, a, e1, fun v H1 a1 => ⟨true, (a1.front.rp).bl_inv, by rw [if_pos rfl]; exact ⟨ρ1, ts, d, ρ', a1.tail, e, k⟩⟩⟩
  · rename_i ρ1 e1
    cases e
    exact ⟨ρ, ts, _, _, a, e1, fun v H1 a1 => ⟨false, (a1.front.rp).bl_inv, by rw [if_neg (by simp)]; exact k _ H1 (bl_at a1)⟩⟩
  · cases e
theorem imp_eOrV : ∀ σ H Q, tD F (eOrV ea eb) σ H Q → tOrV (tD F ea) (tD F eb) σ H Q := fun σ H Q ⟨ρ, ts, d, ρ', a, e, k⟩ => by
  unfold eOrV at e
  split at e
  · rename_i ρ1 e1
    cases e
    exact ⟨ρ, ts, _, _, a, e1, fun v H1 a1 => ⟨true, (a1.front.rp).bl_inv, by rw [if_pos rfl]; exact k _ H1 (bl_at a1)⟩⟩
  · rename_i ρ1 e1
    exact ⟨ρ, ts, _, ρ1, a, e1, fun v H1 a1 => ⟨false, (a1.front.rp).bl_inv, by rw [if_neg (by simp)]; exact ⟨ρ1, ts, d, ρ', a1.tail, e, k⟩⟩⟩
  · cases e
theorem imp_pAndV : ∀ σ H Q, tP F (pAndV fa fb) σ H Q → tAndV (tP F fa) (tP F fb) σ H Q := fun σ H Q ⟨ρ, ts, d, a, e, k⟩ => by
  unfold pAndV at e
  split at e
  · rename_i e1
    exact ⟨ρ, ts, _, a, e1, fun v H1 g1 r1 c1 => ⟨true, r1.bl_inv, by rw [if_pos rfl]; exact ⟨ρ, ts, d, a.grow g1, e, fun v2 H2 g2 r2 c2 => k v2 H2 (g1.trans g2) r2 c2⟩⟩⟩
  · rename_i e1
    cases e
    exact ⟨ρ, ts, _, a, e1, fun v H1 g1 r1 c1 => ⟨false, r1.bl_inv, by rw [if_neg (by simp)]; exact k _ H1 g1 (.bl false) (Cj.of ((a.grow g1).mk' (mk_bl false)))⟩⟩
  · cases e
theorem imp_pOrV : ∀ σ H Q, tP F (pOrV fa fb) σ H Q → tOrV (tP F fa) (tP F fb) σ H Q := fun σ H Q ⟨ρ, ts, d, a, e, k⟩ => by
  unfold pOrV at e
  split at e
  · rename_i e1
    cases e
    exact ⟨ρ, ts, _, a, e1, fun v H1 g1 r1 c1 => ⟨true, r1.bl_inv, by rw [if_pos rfl]; exact k _ H1 g1 (.bl true) (Cj.of ((a.grow g1).mk' (mk_bl true)))⟩⟩
  · rename_i e1
    exact ⟨ρ, ts, _, a, e1, fun v H1 g1 r1 c1 => ⟨false, r1.bl_inv, by rw [if_neg (by simp)]; exact ⟨ρ, ts, d, a.grow g1, e, fun v2 H2 g2 r2 c2 => k v2 H2 (g1.trans g2) r2 c2⟩⟩⟩
  · cases e
theorem imp_pNotV : ∀ σ H Q, tP F (pNotV fa) σ H Q → tNotV (tP F fa) σ H Q := fun σ H Q ⟨ρ, ts, d, a, e, k⟩ => by
  unfold pNotV at e
  split at e
  · rename_i c e1
    cases e
    exact ⟨ρ, ts, _, a, e1, fun v H1 g1 r1 c1 => ⟨c, r1.bl_inv, k _ H1 g1 (.bl _) (Cj.of ((a.grow g1).mk' (mk_bl _)))⟩⟩
  · cases e
theorem imp_eNotV : ∀ σ H Q, tD F (eNotV ea) σ H Q → tNotV (tD F ea) σ H Q := fun σ H Q ⟨ρ, ts, d, ρ', a, e, k⟩ => by
  unfold eNotV at e
  split at e
  · rename_i c ρ1 e1
    cases e
    exact ⟨ρ, ts, _, _, a, e1, fun v H1 a1 => ⟨c, (a1.front.rp).bl_inv, k _ H1 (a1.tail.mk' (mk_bl _))⟩⟩
  · cases e
theorem ps_one {e : Expr} {op : BoolOp} {pos : Pos} {t : TE} (h : PE X e t) : PE X (.BoolOp op [e] pos) t := pe_one h
end

/-! ### a call of a def, by its name -/
structure Cl (P : Program) (w : World) (K : PySem.W.Frag) (mg : Str → Option Value) (base : Heap) (k : Nat) (x : Str) (m : FnM) : Prop where
  ex : ∃ (f : Addr) (fd : FuncData) (ps : List Str), FnOk P w K mg base CX0 k f fd ps (spD K ⟨mg, w⟩ m) ∧ mg x = some (.ref f) ∧ PySem.W.keepIn K (.ref f) = true ∧ Binds K fd ps []
theorem e_callC {X : Cx} {vs0 : List V} {k j : Nat} {x : Str} {m : FnM} {am : AM} {e : Expr} {es : List Expr} {p pos : Pos} (c : Cl X.prog X.w X.K X.mg X.base k x m) (hr : Room j X.A) (hk : k ≤ j)
    (ha : PA X (e :: es) (tA (fm X vs0) am)) (hg : Gl X x := by rfl) (hdb : (x == ("__debug__" : Str)) = false := by decide) (he : starEach (e :: es) X.env = (false, eval e X.env) :: starEach es X.env := by rfl) (hpl : (backTo pos (starEach es X.env)).any (·.1) = false := by rfl) :
    PE X (.Call (.Name x p) (e :: es) [] pos) (tD (fm X vs0) (eCall m am)) := by
  obtain ⟨f, fd, ps, G, hm, hkp, hb⟩ := c.ex
  exact e_call G (hr.mono hk) hm hkp hb ha hg hdb he hpl
/-- a def of the top, by its mirror -/
theorem cl_of {P : Program} {w : World} {K : PySem.W.Frag} {mg : Str → Option Value} {base : Heap} {x : Str} {st : Stmt} {f : Addr} {fd : FuncData} {N ps : List Str} {k na np : Nat} {body : SM} (F : Fun K x x st f fd) (hm : mg x = some (.ref f)) (hkp : PySem.W.keepIn K (.ref f) = true) (b : Binds K fd ps []) (S : FnScope N ps (defScope st))
    (hps : ps.length = na) (hn : na ≤ N.length) (hp : np ≤ na)
    (hbody : ∀ (cdv : Value) (A : Around) (outer : List Env) (s : Shared) (H : Hp) (E : XK) (vs0 : List V), Room k (A.deeper (envOfC x (defScope st) s.heap.objs.size f cdv)) → (∀ i, np ≤ i → vs0.length ≤ i) → vs0.length = np →
      PSs (cxOf CX0 P w K mg base N x (defScope st) f cdv A outer s H E).nox (defBody st) (tS (fmk K ⟨mg, w⟩ vs0 N.length) body)) : Cl P w K mg base (k + 1) x (fnM na np N.length body) :=
  ⟨f, fd, ps, F.ok S (fun vs H Q E h => by rw [hps]; exact fn_len h) fun cdv A outer s H vs Q E hr h =>
    ⟨_, PSs.nox (hbody cdv A outer s H E (vs.take np) hr (fun i hi => by rw [List.length_take]; omega) (by rw [List.length_take, fn_len h]; omega)), fn_in hn hp h⟩, hm, hkp, b⟩
end Dl

set_option Elab.async false
set_option linter.all false
set_option maxRecDepth 100000
set_option maxHeartbeats 1000000
/-! DL17: a name's value looked at behind the other operand; constants of the module. -/
namespace Dl
open PySem PySem.Spec PyProof.Rows L2

/-- name op E, the value new -/
def eOpN (op : D → D → Option D) (i : Nat) (b : EM) : EM := fun ρ => match ρ.getD i none with
  | some _ => match b ρ with
    | some (y, ρ1) => match ρ1.getD i none with
      | some x => match op x y with
        | some d => some (d, ρ1)
        | none => none
      | none => none
    | none => none
  | none => none
section
variable {X : Cx} {F : Fm} {vs0 : List V} {r : R2} {op : D → D → Option D} {eb : EM} {i : Nat}
theorem imp_opN (hr : R2D F.K F.mg r op) : ∀ σ H Q, tD F (eOpN op i eb) σ H Q → tOp r (tVar i) (tD F eb) σ H Q := fun σ H Q ⟨ρ, ts, d, ρ', a, e, k⟩ => by
  unfold eOpN at e
  split at e
  · rename_i d0 e0
    split at e
    · rename_i y ρ1 e1
      split at e
      · rename_i x e2
        split at e
        · rename_i d' e3
          cases e
          obtain ⟨v, hv, _⟩ := a.slot (getD_some e0)
          refine ⟨v, hv, ρ, ts, y, _, a, e1, fun w H1 a1 => ?_⟩
          obtain ⟨v', hv', s1⟩ := a1.slot (getD_some e2)
          rw [hv] at hv'
          cases hv'
          refine hr v w H1 x y d Q s1.rp (a1.front.rp) e3 fun z H2 g2 m => k z H2 ?_
          exact (At.tail a1).mk' m
        · cases e
      · cases e
    · cases e
  · cases e
/-- tests of comparisons -/
theorem imp_bPt {f : PM} {t : TE} (k : ∀ σ H Q, tP F f σ H Q → t σ H Q) : ∀ σ H Q, tT F (bP f) σ H Q → tTest t σ H Q := fun σ H Q h => k σ H _ (imp_bP σ H Q h)
theorem imp_bVt {f : EM} {t : TE} (k : ∀ σ H Q, tD F f σ H Q → t σ H Q) : ∀ σ H Q, tT F (bV f) σ H Q → tTest t σ H Q := fun σ H Q h => k σ H _ (imp_bV σ H Q h)
/-- a constant of the module -/
theorem p_globI {x : Str} {p : Pos} {n : Int} (hm : ∃ t, X.mg x = some (.int n t)) (hg : Gl X x := by rfl) (hd : (x == ("__debug__" : Str)) = false := by decide) : PE X (.Name x p) (tP (fm X vs0) (pC (.int n))) := by
  obtain ⟨t, hm⟩ := hm
  exact (pe_glob hg hm (v := .int n) ⟨t, rfl⟩ hd).imp (imp_c fun _ => mk_int n)
theorem p_globS {x : Str} {p : Pos} {n : Str} (hm : ∃ t, X.mg x = some (.str n t)) (hg : Gl X x := by rfl) (hd : (x == ("__debug__" : Str)) = false := by decide) : PE X (.Name x p) (tP (fm X vs0) (pC (.str n))) := by
  obtain ⟨t, hm⟩ := hm
  exact (pe_glob hg hm (v := .str n) ⟨t, rfl⟩ hd).imp (imp_c fun _ => mk_str n)
theorem blk_ok {N : List Str} {sc scope : Scope} {own : List (Str × Nat)} (h : (decide (scope.kind = .function) && scope.names.all (fun y => decide (scope.names.lookup y.1 = some y.2)) && own.all (fun p => decide (N[p.2]? = some p.1)) &&
    scope.names.all (fun y => !decide (y.2 = .free) || (decide (sc.names.lookup y.1 = some .cell) || decide (sc.names.lookup y.1 = some .free))) && scope.names.all (fun y => !(decide (y.2 = .local) || decide (y.2 = .cell)) || (decide (y.1 ∈ own.map (·.1)) || !decide (y.1 ∈ N)))) = true) : BlkOk N sc scope own := by
  simp only [Bool.and_eq_true, List.all_eq_true, decide_eq_true_eq, Bool.or_eq_true, Bool.not_eq_true', decide_eq_false_iff_not] at h
  obtain ⟨⟨⟨⟨h1, h2⟩, h3⟩, h4⟩, h5⟩ := h
  refine ⟨h1, h2, h3, fun y hy hf => ?_, fun y hy hf => ?_⟩
  · rcases h4 y hy with q | q
    · exact absurd hf q
    · exact q
  · rcases h5 y hy with q | q
    · exact absurd hf (by simpa using q)
    · exact q
end
end Dl

set_option Elab.async false
set_option linter.all false
set_option maxRecDepth 100000
set_option maxHeartbeats 1000000
/-! DL18: loops over reversed(..), enumerate(..). -/
namespace Dl
open PySem PySem.Spec PyProof.Rows L2 RT

def sForV (it : EM) (g : GM) (body : SM) : SM := fun ρ => match it ρ with
  | some (d, ρ1) => match itemsD d.frz with
    | some ds => forL g body ds.reverse ρ1
    | none => none
  | none => none
def enumD : Nat → List D → List D
  | _, [] => []
  | k, d :: ds => .tup [.int k, d] :: enumD (k + 1) ds
theorem enumD_len : ∀ (ds : List D) (k : Nat), (enumD k ds).length = ds.length
  | [], _ => rfl
  | d :: ds, k => by rw [enumD, List.length_cons, enumD_len ds, List.length_cons]
theorem enumD_get : ∀ (ds : List D) (k i : Nat) (h : i < (enumD k ds).length) (h' : i < ds.length), (enumD k ds)[i] = .tup [.int ((k + i : Nat) : Int), ds[i]]
  | d :: ds, k, 0, _, _ => rfl
  | d :: ds, k, i + 1, h, h' => by
    simp only [enumD, List.getElem_cons_succ]
    rw [enumD_get ds (k + 1) i (by simpa [enumD] using h) (by simpa using h')]
    congr 3
    omega
def sForE (it : EM) (g : GM) (body : SM) : SM := fun ρ => match it ρ with
  | some (d, ρ1) => match d.frz with
    | .lst _ ds => forL g body (enumD 0 ds) ρ1
    | _ => none
  | none => none
section
variable {F : Fm} {g : GM} {body : SM} {gt : TG}
theorem imp_forV {it : EM} (hg : ∀ v σ H Q, tG F g v σ H Q → gt v σ H Q) : ∀ D' σ H, tS F (sForV it g body) D' σ H → tFor (iRevA F.K (tD F it)) gt (tS F body) D' σ H := fun D' σ H ⟨ρ, ts, fl, ρ', a, q, k⟩ => by
  unfold sForV at q
  split at q
  · rename_i d ρ1 he
    split at q
    · rename_i ds hd
      refine ⟨ρ, ts, d, ρ1, a, he, fun v H1 a1 => ?_⟩
      have a2 : At F σ H1 ρ1 (.v v d.frz :: ts) := a1.of_front (by have := a1.front; exact this.frz)
      have hst := D.stable_frz d
      generalize d.frz = e at hd a2 hst
      have kk := fin_drop (r := .v v e) k
      obtain ⟨a0, vs, rfl, hl, hk⟩ := seq_root hd a2
      have fin : ∀ σ H, (∃ ρ, At F σ H ρ (.v (.ref a0) e :: ts) ∧ forL g body (ds.reverse.drop vs.length) ρ = some (fl, ρ')) → D'.nx σ H := fun σ H ⟨ρ2, b, hf⟩ => by
        rw [List.drop_of_length_le (by rw [List.length_reverse]; omega)] at hf
        obtain ⟨rfl, rfl⟩ := forL_nil hf
        exact kk σ H b
      have again : ∀ {σ H i x} {ρ2 : DEnv}, i < vs.length → At F σ H ρ2 (.v (.ref a0) e :: ts) → forL g body (ds.reverse.drop i) ρ2 = some (fl, ρ') → (∃ dz, ds[vs.length - 1 - i]? = some dz ∧ At F σ H ρ2 (.v x dz :: .v (.ref a0) e :: ts)) →
          gt x σ H fun σ2 H2 => tS F body { D' with nx := fun σ H => ∃ ρ, At F σ H ρ (.v (.ref a0) e :: ts) ∧ forL g body (ds.reverse.drop (i + 1)) ρ = some (fl, ρ'), ct := fun σ H => ∃ ρ, At F σ H ρ (.v (.ref a0) e :: ts) ∧ forL g body (ds.reverse.drop (i + 1)) ρ = some (fl, ρ'), bk := D'.nx } σ2 H2 := by
        intro σ H i x ρ2 hi b hf ⟨dz, h1, h2⟩
        have hir : i < ds.reverse.length := by rw [List.length_reverse]; omega
        have e1 : ds.reverse[i] = dz := by
          have := List.getElem_reverse (l := ds) hir
          rw [this]
          have h3 := (List.getElem?_eq_some_iff.mp h1).2
          rw [← h3]
          congr 1
          omega
        rw [List.drop_eq_getElem_cons hir, e1] at hf
        exact for_turn hg hf h2 kk fun σ' H' ρ3 b3 hf3 => ⟨ρ3, b3, hf3⟩
      refine ⟨a0, vs, rfl, ?_⟩
      rcases hk with ⟨hv, o, rfl⟩ | ⟨hv, rfl⟩
      · refine .inl ⟨SqL.of hv, for_any (n := vs.length) (fun i σ H => ∃ ρ, At F σ H ρ (.v (.ref a0) (.lst o ds) :: ts) ∧ forL g body (ds.reverse.drop i) ρ = some (fl, ρ')) ⟨ρ1, a2, q⟩ (fun i σ H hi ⟨_, b, _⟩ => ?_) (fun σ H _ => Nat.le_refl _) ?_ fin⟩
        · obtain ⟨b0, ws, e0, hw, l⟩ := Rp.lst_inv ((b.front).rp)
          cases e0
          have hwl := l.length
          exact ⟨hi, ws, ws[vs.length - 1 - i]'(by omega), SqL.of hw, List.getElem?_eq_getElem _⟩
        · rintro i x σ H H' hi ⟨ρ2, b, hf⟩ ⟨rfl, y⟩
          obtain ⟨b0, ws, e0, hw, l⟩ := Rp.lst_inv ((b.front).rp)
          cases e0
          have hj : vs.length - 1 - i < ds.length := by omega
          exact again hi b hf ⟨ds[vs.length - 1 - i], List.getElem?_eq_getElem hj, b.item (.lst hw (y ws (SqL.of hw)) (List.getElem?_eq_getElem hj) (.refl _ _)) (items_stable hd hst _ (List.getElem_mem hj))⟩
      · refine .inr ⟨SqT.of hv, for_any (n := vs.length) (fun i σ H => ∃ ρ, At F σ H ρ (.v (.ref a0) (.tup ds) :: ts) ∧ forL g body (ds.reverse.drop i) ρ = some (fl, ρ')) ⟨ρ1, a2, q⟩ (fun i σ H hi ⟨_, b, _⟩ => ?_) (fun σ H _ => Nat.le_refl _) ?_ fin⟩
        · obtain ⟨b0, ws, e0, hw, l⟩ := Rp.tup_inv ((b.front).rp)
          cases e0
          have hwl := l.length
          exact ⟨hi, ws, ws[vs.length - 1 - i]'(by omega), SqT.of hw, List.getElem?_eq_getElem _⟩
        · rintro i x σ H H' hi ⟨ρ2, b, hf⟩ ⟨rfl, y⟩
          obtain ⟨b0, ws, e0, hw, l⟩ := Rp.tup_inv ((b.front).rp)
          cases e0
          have hj : vs.length - 1 - i < ds.length := by omega
          exact again hi b hf ⟨ds[vs.length - 1 - i], List.getElem?_eq_getElem hj, b.item (.tup hw (y ws (SqT.of hw)) (List.getElem?_eq_getElem hj) (.refl _ _)) (items_stable hd hst _ (List.getElem_mem hj))⟩
    · cases q
  · cases q
end
section
variable {X : Cx} {vs0 : List V} {W : WX} {pos : Pos} {g : GM} {body : SM} {tg : Expr} {bs : List Stmt}
theorem s_forV {l : Expr} {p pos' : Pos} {it : EM} (hc : X.calm = true) (hp : PassesOwn (model X.prog X.w) X.A X.env X.xe) (hm : X.mg "reversed" = none) (hl : PE X l (tD (fm X vs0) it)) (hg : PG X tg (tG (fm X vs0) g)) (hb : PSs X bs (tS (fmW X vs0 W) body)) (hgl : Gl X "reversed" := by rfl)
    (hs : starEach [l] X.env = (false, eval l X.env) :: starEach [] X.env := by rfl) (hf : ∀ x, foldedSetIterable (.Call (.Name "reversed" p) [l] [] pos') X.env x = pure x := by intro _; rfl) :
    PS X (.For tg (.Call (.Name "reversed" p) [l] [] pos') bs [] pos) (tS (fmW X vs0 W) (sForV it g body)) := (ps_for hp hc (pi_revA hgl hm hl hs) hg hb hf).imp (imp_forV fun _ _ _ _ h => h)
end
end Dl

set_option Elab.async false
set_option linter.all false
set_option maxRecDepth 100000
set_option maxHeartbeats 1000000
/-! DL19: loops over enumerate(list); displays of dicts with text or number keys. -/
namespace Dl
open PySem PySem.Spec PyProof.Rows L2

section
variable {F : Fm} {g : GM} {body : SM} {gt : TG}
theorem imp_forE {it : EM} (hg : ∀ v σ H Q, tG F g v σ H Q → gt v σ H Q) : ∀ D' σ H, tS F (sForE it g body) D' σ H → tFor (iEnum F.K (tCons (tD F it) tNil)) gt (tS F body) D' σ H := fun D' σ H ⟨ρ, ts, fl, ρ', a, q, k⟩ => by
  unfold sForE at q
  split at q
  · rename_i d ρ1 he
    split at q
    · rename_i o ds hd
      refine ⟨ρ, ts, d, ρ1, a, he, fun v H1 a1 => ?_⟩
      have a2 : At F σ H1 ρ1 (.v v (.lst o ds) :: ts) := a1.of_front (by have := a1.front; rw [← hd]; exact this.frz)
      have hst : (D.lst o ds).stable = true := by rw [← hd]; exact D.stable_frz d
      have kk := fin_drop (r := .v v (.lst o ds)) k
      obtain ⟨a0, vs, rfl, hv, l⟩ := Rp.lst_inv ((a2.front).rp)
      have hl := l.length
      have hn := enumD_len ds 0
      have fin : ∀ σ H, (∃ ρ, At F σ H ρ (.v (.ref a0) (.lst o ds) :: ts) ∧ forL g body ((enumD 0 ds).drop ds.length) ρ = some (fl, ρ')) → D'.nx σ H := fun σ H ⟨ρ2, b, hf⟩ => by
        rw [List.drop_of_length_le (by omega)] at hf
        obtain ⟨rfl, rfl⟩ := forL_nil hf
        exact kk σ H b
      refine ⟨a0, vs, rfl, SqL.of hv, for_any (n := ds.length) (fun i σ H => ∃ ρ, At F σ H ρ (.v (.ref a0) (.lst o ds) :: ts) ∧ forL g body ((enumD 0 ds).drop i) ρ = some (fl, ρ')) ⟨ρ1, a2, q⟩ (fun i σ H hi ⟨_, b, _⟩ => ?_) (fun σ H ⟨_, b, _⟩ => ?_) ?_ fin⟩
      · obtain ⟨b0, ws, e0, hw, l⟩ := Rp.lst_inv ((b.front).rp)
        cases e0
        have hwl := l.length
        exact ⟨ws, ws[i]'(by omega), SqL.of hw, List.getElem?_eq_getElem _⟩
      · obtain ⟨b0, ws, e0, hw, l⟩ := Rp.lst_inv ((b.front).rp)
        cases e0
        exact ⟨ws, SqL.of hw, by rw [l.length]; exact Nat.le_refl _⟩
      · rintro i x σ H H' hi ⟨ρ2, b, hf⟩ ⟨T, z, rfl, hT, rfl, y⟩
        obtain ⟨b0, ws, e0, hw, l⟩ := Rp.lst_inv ((b.front).rp)
        cases e0
        have b1 : At F σ H ρ2 (.v z ds[i] :: .v (.ref a0) (.lst o ds) :: ts) := b.item (.lst hw (y ws (SqL.of hw)) (List.getElem?_eq_getElem hi) (.refl _ _)) (items_stable (e := .lst o ds) rfl hst _ (List.getElem_mem hi))
        have b2 : At F σ H ρ2 (vals [.int (i : Nat), z] [.int ((i : Nat) : Int), ds[i]] ++ (.v (.ref a0) (.lst o ds) :: ts)) := b1.mk' (mk_int _)
        have b3 := b2.newT rfl hT
        have hil : i < (enumD 0 ds).length := by omega
        rw [List.drop_eq_getElem_cons hil, enumD_get ds 0 i hil hi, Nat.zero_add] at hf
        exact for_turn hg hf b3 kk fun σ' H' ρ3 b3 hf3 => ⟨ρ3, b3, hf3⟩
    · cases q
  · cases q
end
section
variable {X : Cx} {vs0 : List V} {W : WX} {pos tpos : Pos} {g : GM} {body : SM} {elts : List Expr} {kk : Nat} {bs : List Stmt}
theorem s_forE {l : Expr} {p pos' : Pos} {it : EM} (hc : X.calm = true) (hp : PassesOwn (model X.prog X.w) X.A X.env X.xe) (hm : X.mg "enumerate" = none) (hl : PE X l (tD (fm X vs0) it)) (hg : PG X (.Tuple elts kk tpos) (tG (fm X vs0) g)) (hb : PSs X bs (tS (fmW X vs0 W) body)) (hgl : Gl X "enumerate" := by rfl)
    (hs : starEach [l] X.env = [(false, eval l X.env)] := by rfl) (hf : ∀ x, foldedSetIterable (.Call (.Name "enumerate" p) [l] [] pos') X.env x = pure x := by intro _; rfl) :
    PS X (.For (.Tuple elts kk tpos) (.Call (.Name "enumerate" p) [l] [] pos') bs [] pos) (tS (fmW X vs0 W) (sForE it g body)) :=
  (ps_for hp hc (pi_enum hgl hm (pa_cons hl pa_nil (by rw [hs]; rfl)) hs) hg hb hf).imp (imp_forE fun _ _ _ _ h => h)
end
end Dl

set_option Elab.async false
set_option linter.all false
set_option maxRecDepth 100000
set_option maxHeartbeats 1000000
/-! DL20: displays of dicts whose keys are texts or numbers, all different. -/
namespace Dl
open PySem PySem.Spec PyProof.Rows L2

def dispM : List (PM × EM) → DEnv → Option (List Key × List D × DEnv)
  | [], ρ => some ([], [], ρ)
  | (k, e) :: r, ρ => match k ρ with
    | some q => match q.key with
      | some key => match e ρ with
        | some (d, ρ1) => match dispM r ρ1 with
          | some (ks, ds, ρ2) => some (key :: ks, d :: ds, ρ2)
          | none => none
        | none => none
      | none => none
    | none => none
def eDisp (l : List (PM × EM)) : EM := fun ρ => match dispM l ρ with
  | some (ks, ds, ρ') => if ks.Nodup ∧ ks.length ≤ 15 then some (.dic true .k (ks.map kyD) ds, ρ') else none
  | none => none
section
variable {X : Cx} {F : Fm} {vs0 : List V}
theorem disp_pairs : ∀ {l : List (PM × EM)} {σ : L2.St} {H : Hp} {Q : List (V × V) → Hp → Prop} {ρ ρ' : DEnv} {ts : List Rt} {ks : List Key} {ds : List D}, At F σ H ρ ts → dispM l ρ = some (ks, ds, ρ') →
    (∀ ys H', ys.length = ds.length → ks.length = ds.length → At F σ H' ρ' (vals ys ds ++ ts) → Q ((ks.map kV).zip ys) H') → tPairs (l.map fun p => (tP F p.1, tD F p.2)) σ H Q
  | [], σ, H, Q, ρ, ρ', ts, ks, ds, a, e, k => by
    cases e
    exact k [] H rfl rfl a
  | (f, g) :: l, σ, H, Q, ρ, ρ', ts, ks, ds, a, e, k => by
    unfold dispM at e
    split at e
    · rename_i q e1
      split at e
      · rename_i key e2
        split at e
        · rename_i d ρ1 e3
          split at e
          · rename_i ks' ds' ρ2 e4
            cases e
            refine ⟨ρ, ts, q, a, e1, fun x H1 g1 rx _ => ⟨ρ, ts, d, ρ1, a.grow g1, e3, fun y H2 a2 => ?_⟩⟩
            have hx : x = kV key := by
              have := key_kyD e2
              subst this
              exact rx.ky
            subst hx
            refine disp_pairs (l := l) a2 e4 fun ys H3 h1 h2 a3 => ?_
            exact k (y :: ys) H3 (by simp [h1]) (by simp [h2]) (a3.perm (List.perm_middle))
          · cases e
        · cases e
      · cases e
    · cases e
theorem merge_nodup : ∀ {more kvs : List (Key × V)}, ((kvs ++ more).map (·.1)).Nodup → mergeK kvs more = kvs ++ more
  | [], kvs, _ => by simp [mergeK]
  | (k, v) :: more, kvs, h => by
    have hk : ¬ (kvs.any fun kv => decide (kv.1 = k)) = true := by
      intro q
      obtain ⟨p, hp, e⟩ := List.any_eq_true.mp q
      have e' := of_decide_eq_true e
      rw [List.map_append, List.nodup_append] at h
      exact h.2.2 p.1 (List.mem_map.mpr ⟨p, hp, rfl⟩) k (by simp) e'
    show mergeK (putK kvs k v) more = _
    have e : putK kvs k v = kvs ++ [(k, v)] := by unfold putK; rw [if_neg hk]
    rw [e, merge_nodup (by rw [List.append_assoc]; exact h), List.append_assoc]
    rfl
theorem imp_disp {l : List (PM × EM)} : ∀ σ H Q, tD F (eDisp l) σ H Q → tDisp (l.map fun p => (tP F p.1, tD F p.2)) σ H Q := fun σ H Q ⟨ρ, ts, d, ρ', a, e, k⟩ p hp => by
  unfold eDisp at e
  split at e
  · rename_i ks ds ρ2 e1
    split at e
    · rename_i hn
      cases e
      have a1 : At F σ (upd H p (.dK [])) ρ (.c p (.dK []) :: ts) := a.of_front (by have := a.front; exact this.alloc hp)
      refine disp_pairs a1 e1 fun ys H2 h1 h2 a2 => ?_
      have s2 : Sim F.K F.mg H2 (.c p (.dK []) :: (vals ys ds ++ (ts ++ slotR σ ρ'))) := a2.front.perm (by
        rw [List.append_assoc]
        exact List.perm_middle)
      have hm1 : (ks.zip ys).map (·.1) = ks := List.map_fst_zip (by omega)
      have hm2 : (ks.zip ys).map (·.2) = ys := List.map_snd_zip (by omega)
      have hmk : mergeK [] (ks.zip ys) = ks.zip ys := merge_nodup (by rw [List.nil_append, hm1]; exact hn.1)
      refine ⟨s2.cell, ks.zip ys, ?_, by rw [List.length_zip]; omega, k _ _ ?_⟩
      · rw [List.zip_map_left]
        apply List.map_congr_left
        intro q _
        rfl
      · rw [hmk]
        have s3 : Sim F.K F.mg (upd H2 p (.dK (ks.zip ys))) (.v (.ref p) (.dic true .k (ks.map kyD) ds) :: (ts ++ slotR σ ρ')) := by
          refine Sim.setDk (o := .dK []) ?_ ?_ (by rw [List.length_zip]; omega)
          · rw [hm2]; exact s2
          · rw [← hm1, List.map_map]
            all_goals first | rfl | (rw [hm1]; rfl)
        exact a2.of_front s3
    · cases e
  · cases e
theorem e_disp {pos : Pos} {keys : List (Option Expr)} {values : List Expr} {l : List (PM × EM)} (h : PPs X pos keys values (l.map fun p => (tP (fm X vs0) p.1, tD (fm X vs0) p.2))) (hall : keys.all (·.isSome) = true := by rfl) (hl : keys.length = values.length := by rfl) (h0 : keys ≠ [] := by exact fun h => nomatch h)
    (h15 : keys.length ≤ 15 := by decide) : PE X (.Dict keys values pos) (tD (fm X vs0) (eDisp l)) := (pe_disp h hall hl h0 h15).imp imp_disp
end
end Dl

set_option Elab.async false
set_option linter.all false
set_option maxRecDepth 100000
set_option maxHeartbeats 1000000
/-! DL21: repr of lists and tuples, where no repr stands above. -/
namespace Dl
open PySem PySem.Spec PyProof.Rows L2

def opRepr : List D → Option D
  | [d] => if d.dat = true ∧ d.py.showable = true ∧ d.py.hasDict = false ∧ d.py.depth ≤ 60 ∧ d.py.shown.length ≤ 16777216 then (match d with
    | .lst _ _ => some (.str d.py.shown)
    | .tup _ => some (.str d.py.shown)
    | _ => none) else none
  | _ => none
def rRepr (K : PySem.W.Frag) : List V → Hp → VK → Prop := fun xs H Q => ∃ (a : Addr) (d : PyData), xs = [V.ref a] ∧ Dp K H (.ref a) d ∧ d.showable = true ∧ d.hasDict = false ∧ d.depth ≤ 60 ∧ d.shown.length ≤ 16777216 ∧ Q (.str d.shown) H
theorem c_repr {X : Cx} (hg : X.A.guards = some []) (hu : X.A.units + 65 < cLine) : CallR X (.builtin "repr") (rRepr X.K) := by
  intro pins s σ H xs us Q I r h
  obtain ⟨a, d, rfl, hd, h1, h2, h3, h4, q⟩ := h
  obtain ⟨u, rfl, ru⟩ := vals1 r
  obtain ⟨as, rd⟩ := Dp.reads I d (.ref a) u hd ru
  obtain rfl : u = .ref a := ru
  refine repr_of_reads' rd h1 (fun z => by rw [h2] at z; cases z) hg (by omega) (fun b o e => e) (fun h' u tk hk => ?_) (by rw [sizeLine_eq]; exact h4)
  exact ⟨.str d.shown, H, I.kept (t' := tk) hk, ⟨u, rfl⟩, q⟩
section
variable {K : PySem.W.Frag} {mg : MG}
theorem r_repr : RnD K mg (rRepr K) opRepr := by
  intro vs H ds d Q rs e k
  unfold opRepr at e
  split at e
  · rename_i d0
    split at e
    · rename_i hc
      obtain ⟨v, rfl, r⟩ := rs.one
      have hd := r.dp hc.1
      split at e
      · rename_i o xs
        cases e
        obtain ⟨a, ys, rfl, ha, l⟩ := r.lst_inv
        exact ⟨a, _, rfl, hd, hc.2.1, hc.2.2.1, hc.2.2.2.1, hc.2.2.2.2, k _ H (Same.refl H) (mk_str _)⟩
      · rename_i xs
        cases e
        obtain ⟨a, ys, rfl, ha, l⟩ := r.tup_inv
        exact ⟨a, _, rfl, hd, hc.2.1, hc.2.2.1, hc.2.2.2.1, hc.2.2.2.2, k _ H (Same.refl H) (mk_str _)⟩
      · cases e
    · cases e
  · cases e
end
end Dl

set_option Elab.async false
set_option linter.all false
set_option maxRecDepth 100000
set_option maxHeartbeats 1000000
/-! DL22: sorted(list) of numbers, of texts. -/
namespace Dl
open PySem PySem.Spec PyProof.Rows L2

theorem sorted_unique {α : Type} {le : α → α → Prop} (anti : ∀ a b, le a b → le b a → a = b) : ∀ {l m : List α}, l.Perm m → l.Pairwise le → m.Pairwise le → l = m
  | [], m, p, _, _ => (List.Perm.nil_eq p)
  | a :: l, [], p, _, _ => by have := p.length_eq; simp at this
  | a :: l, b :: m, p, h1, h2 => by
    rw [List.pairwise_cons] at h1 h2
    have e : a = b := by
      have ha : a ∈ b :: m := p.mem_iff.mp (by simp)
      have hb : b ∈ a :: l := p.mem_iff.mpr (by simp)
      rcases List.mem_cons.mp ha with e | ha
      · exact e
      · rcases List.mem_cons.mp hb with e | hb
        · exact e.symm
        · exact anti a b (h1.1 b hb) (h2.1 a ha)
    subst e
    rw [sorted_unique anti (List.Perm.cons_inv p) h1.2 h2.2]
/-- the texts' order -/
def leS (a b : Str) : Bool := !decide (b.cps.toList < a.cps.toList)
theorem leS_anti (a b : Str) (h1 : leS a b = true) (h2 : leS b a = true) : a = b := by
  unfold leS at h1 h2
  simp only [Bool.not_eq_true', decide_eq_false_iff_not] at h1 h2
  have e : a.cps.toList = b.cps.toList := List.le_antisymm (List.not_lt.mp h1) (List.not_lt.mp h2)
  obtain ⟨x⟩ := a
  obtain ⟨y⟩ := b
  have e2 : x = y := Array.toList_inj.mp e
  rw [e2]
theorem leS_trans (a b c : Str) (h1 : leS a b = true) (h2 : leS b c = true) : leS a c = true := by
  unfold leS at *
  simp only [Bool.not_eq_true', decide_eq_false_iff_not] at *
  exact List.not_lt.mpr (List.le_trans (List.not_lt.mp h1) (List.not_lt.mp h2))
theorem leS_total (a b : Str) : (leS a b || leS b a) = true := by
  unfold leS
  simp only [Bool.or_eq_true, Bool.not_eq_true', decide_eq_false_iff_not]
  rcases List.le_total a.cps.toList b.cps.toList with h | h
  · exact .inl (List.not_lt.mpr h)
  · exact .inr (List.not_lt.mpr h)
def sortS (l : List Str) : List Str := l.mergeSort leS
def sortI (l : List Int) : List Int := l.mergeSort fun a b => decide (a ≤ b)
theorem sortS_perm (l : List Str) : (sortS l).Perm l := List.mergeSort_perm l leS
theorem sortS_sorted (l : List Str) : (sortS l).Pairwise fun a b => leS a b = true := List.pairwise_mergeSort leS_trans leS_total l
theorem sortI_perm (l : List Int) : (sortI l).Perm l := List.mergeSort_perm l _
theorem sortI_sorted (l : List Int) : (sortI l).Pairwise fun a b => a ≤ b := by
  have := List.pairwise_mergeSort (le := fun (a b : Int) => decide (a ≤ b)) (fun a b c h1 h2 => by simp at *; omega) (fun a b => by simp; omega) l
  exact this.imp fun h => by simpa using h
theorem ltCps_dec (a b : List Nat) : ltCps a b = decide (a < b) := ltCps_eq a b
theorem rising_all : ∀ (p : Str) (l : List Str), risingS p l = true → (p :: l).Pairwise fun a b => leS a b = true
  | p, [], _ => List.pairwise_singleton _ _
  | p, x :: r, h => by
    have h' : (!ltCps x.cps.toList p.cps.toList && risingS x r) = true := h
    rw [Bool.and_eq_true] at h'
    have ih := rising_all x r h'.2
    have e : leS p x = true := by
      have := h'.1
      unfold leS
      rw [← ltCps_dec]
      exact this
    refine List.pairwise_cons.mpr ⟨fun y hy => ?_, ih⟩
    rcases List.mem_cons.mp hy with rfl | hy
    · exact e
    · exact leS_trans _ _ _ e ((List.pairwise_cons.mp ih).1 y hy)
theorem sortedS_all : ∀ (l : List Str), sortedS l = true → l.Pairwise fun a b => leS a b = true
  | [], _ => List.Pairwise.nil
  | x :: r, h => rising_all x r h
theorem sortS_only {l m : List Str} (p : m.Perm l) (h : sortedS m = true) : m = sortS l := sorted_unique (le := fun a b => leS a b = true) leS_anti (p.trans (sortS_perm l).symm) (sortedS_all m h) (sortS_sorted l)
theorem sortI_only {l m : List Int} (p : m.Perm l) (h : m.Pairwise (· ≤ ·)) : m = sortI l := sorted_unique (le := fun a b => a ≤ b) (fun a b h1 h2 => Int.le_antisymm h1 h2) (p.trans (sortI_perm l).symm) h (sortI_sorted l)
/-- sorted of a list of numbers, or of less than 64 texts -/
def opSorted : List D → Option D
  | [.lst _ ds] => match intsL ds with
    | some l => some (.lst true ((sortI l).map D.int))
    | none => match strsL ds with
      | some l => if l.length < 64 then some (.lst true ((sortS l).map D.str)) else none
      | none => none
  | _ => none
def rSortedA (K : PySem.W.Frag) : List V → Hp → VK → Prop := fun xs H Q => rSortedI K xs H Q ∨ rSortedS K xs H Q
theorem c_sorted {X : Cx} : CallR X (.builtin "sorted") (rSortedA X.K) := CallR.or cr_sortedI cr_sortedS
section
variable {K : PySem.W.Frag} {mg : MG}
theorem r_sorted : RnD K mg (rSortedA K) opSorted := by
  intro vs H ds d Q rs e k
  unfold opSorted at e
  split at e
  · split at e
    · rename_i l hl
      cases e
      obtain ⟨v, rfl, r⟩ := rs.one
      obtain ⟨a, xs, rfl, ha, rl⟩ := r.lst_inv
      obtain rfl := rl.ints hl
      refine .inl ⟨a, l, rfl, SqL.of ha, fun ns' p h1 h2 hp => ?_⟩
      have e := sortI_only h1 h2
      subst e
      exact k _ _ (same_upd hp) (mk_lst (rpL_ints _) (imm_ints _) hp)
    · split at e
      · rename_i l hl
        split at e
        · rename_i hz
          cases e
          obtain ⟨v, rfl, r⟩ := rs.one
          obtain ⟨a, xs, rfl, ha, rl⟩ := r.lst_inv
          obtain rfl := rl.strs hl
          refine .inr ⟨a, l, rfl, SqL.of ha, hz, fun ys p h1 h2 hp => ?_⟩
          have e := sortS_only h1 h2
          subst e
          exact k _ _ (same_upd hp) (mk_lst (rpL_strs _) (imm_strs _) hp)
        · cases e
      · cases e
  · cases e
end
end Dl

set_option Elab.async false
set_option linter.all false
set_option maxRecDepth 100000
set_option maxHeartbeats 2000000
/-! DL23: sorted(d.items()), keys texts, values numbers. -/
namespace Dl
open PySem PySem.Spec PySem.W PySem.Calls PyProof.Rows

/-- a pair of a text and a number -/
def PairS (h : Heap) (v : Value) (y : Str) (n : Int) : Prop := ∃ (a : Addr) (t t' : Tok), v = .ref a ∧ IsTup h a #[.str y t, .int n t']
def keyS (h : Heap) (v : Value) : Str := DT.txOf (DT.seqAt0 h (DT.refOf (some v)))
theorem PairS.tx {h : Heap} {v : Value} {y : Str} {n : Int} (x : PairS h v y n) : keyS h v = y := by
  obtain ⟨a, t, t', rfl, h1⟩ := x
  show DT.txOf (DT.seqAt0 h a) = y
  rw [DT.seqAt0_of h1]
  rfl
theorem firstsS {h : Heap} {M : Str → Int} : ∀ vs : List Value, (∀ v ∈ vs, ∃ y, PairS h v y (M y)) → ∃ fs : List Value, KatTups h vs fs ∧ fs.length = vs.length ∧ ∀ f ∈ fs, ∃ y t, f = Value.str y t
  | [], _ => ⟨[], True.intro, rfl, fun f hf => by cases hf⟩
  | v :: vs, x => by
    obtain ⟨fs, k, hl, hi⟩ := firstsS vs fun u hu => x u (List.mem_cons_of_mem _ hu)
    obtain ⟨y, a, t, t', rfl, ⟨o, ho, hc, n, hd⟩⟩ := x v (List.mem_cons_self ..)
    refine ⟨.str y t :: fs, KatTups.cons ho hc hd rfl k, by rw [List.length_cons, List.length_cons, hl], fun f hf => ?_⟩
    rcases List.mem_cons.mp hf with rfl | hf
    · exact ⟨y, t, rfl⟩
    · exact hi f hf
section
variable {prog : Program} {w : World} {A : Around} {E : Value → Shared → Prop} {s : Shared}
theorem kindS {vs : List Value} {ρ : Str → Int} {M : Str → Int} (h2 : 2 ≤ vs.length) (x : ∀ v ∈ vs, ∃ y, PairS s.heap v y (M y))
    (hρ : ∀ v ∈ vs, ∀ u ∈ vs, decide ((keyS s.heap v).cps.toList < (keyS s.heap u).cps.toList) = decide (ρ (keyS s.heap v) < ρ (keyS s.heap u))) (Q : SortKind → Shared → Prop)
    (h : ∀ κ, TS.Cmp prog w A s κ (pairsOf vs) (fun v => ρ (keyS s.heap v)) → Q κ s) : wpAny (model prog w) A (keyKind' vs.toArray) Q E s := by
  obtain ⟨fs, k, hl, hi⟩ := firstsS vs x
  refine kat_kind (T := Value.type "str") k (by omega) (fun f hf => ?_) rfl (h _ ?_)
  · obtain ⟨y, t, rfl⟩ := hi f hf
    exact .now
  · have hb : (Value.type "str" != Value.type "tuple") = true := by first | rfl | decide | simp
    rw [hb]
    intro p q hp hq Q' E' hQ
    rw [pairsOf_toList] at hp hq
    have mp := (mem_zip_self hp).2
    have mq := (mem_zip_self hq).2
    obtain ⟨y, py⟩ := x _ mp
    obtain ⟨z, pz⟩ := x _ mq
    have hr := hρ _ mp _ mq
    have hQ' : Q' (decide (y.cps.toList < z.cps.toList)) s := by
      have hQ2 : Q' (decide (ρ (keyS s.heap p.1) < ρ (keyS s.heap q.1))) s := hQ
      rw [← hr, py.tx, pz.tx] at hQ2
      exact hQ2
    obtain ⟨a, t, u, e1, ⟨o, ho, hc, n, hd⟩⟩ := py
    obtain ⟨a', t', u', e2, ⟨o', ho', hc', n', hd'⟩⟩ := pz
    rw [e1, e2]
    refine kat_lt ho hd ho' hd' ?_
    show KatLex prog w A true false Q' [(Value.str y t, Value.str z t'), (Value.int (M y) u, Value.int (M z) u')] 0 s
    by_cases e : y = z
    · subst e
      have irr : decide (y.cps.toList < y.cps.toList) = false := decide_eq_false (List.lt_irrefl _)
      rw [irr] at hQ'
      refine kat_cons (wpAny_eqBool_str ?_)
      rw [decide_eq_true rfl]
      refine kat_yes (kat_cons (wpAny_eqBool_int ?_))
      rw [beq_self_eq_true]
      exact kat_yes (kat_nil hQ')
    · refine kat_cons (wpAny_eqBool_str ?_)
      rw [decide_eq_false e]
      refine kat_no ?_
      show wpAny _ _ (oneLt' true _ _) _ _ _
      exact oneLt_str hQ'
end
/-- how many of these texts stand ahead of s -/
def rankS (l : List Str) (s : Str) : Int := ((l.countP fun t => decide (t.cps.toList < s.cps.toList) : Nat) : Int)
theorem countP_lt {α : Type} {p q : α → Bool} : ∀ {l : List α} {x : α}, x ∈ l → (∀ y ∈ l, p y = true → q y = true) → p x = false → q x = true → l.countP p < l.countP q
  | a :: l, x, hx, h, h1, h2 => by
    have hm := List.countP_mono_left (l := l) (p := p) (q := q) fun y hy => h y (List.mem_cons_of_mem _ hy)
    rcases List.mem_cons.mp hx with rfl | hx
    · simp [List.countP_cons, h1, h2]; omega
    · have ih := countP_lt (l := l) hx (fun y hy => h y (List.mem_cons_of_mem _ hy)) h1 h2
      rw [List.countP_cons, List.countP_cons]
      by_cases ha : p a = true
      · have := h a (List.mem_cons_self ..) ha
        simp [ha, this]; omega
      · simp [ha]; omega
theorem rankS_lt {l : List Str} {a b : Str} (ha : a ∈ l) : decide (a.cps.toList < b.cps.toList) = decide (rankS l a < rankS l b) := by
  unfold rankS
  by_cases h : a.cps.toList < b.cps.toList
  · rw [decide_eq_true h]
    symm
    refine decide_eq_true ?_
    have := countP_lt (p := fun t => decide (t.cps.toList < a.cps.toList)) (q := fun t => decide (t.cps.toList < b.cps.toList)) ha (fun y _ hy => decide_eq_true (List.lt_trans (of_decide_eq_true hy) h)) (decide_eq_false (List.lt_irrefl _)) (decide_eq_true h)
    omega
  · rw [decide_eq_false h]
    symm
    refine decide_eq_false ?_
    have := List.countP_mono_left (l := l) (p := fun t => decide (t.cps.toList < b.cps.toList)) (q := fun t => decide (t.cps.toList < a.cps.toList)) fun y _ hy => by
      refine decide_eq_true ?_
      have h1 := of_decide_eq_true hy
      exact List.not_le.mp fun z => h (List.lt_of_le_of_lt z h1)
    omega
end Dl

set_option Elab.async false
set_option linter.all false
set_option maxRecDepth 100000
set_option maxHeartbeats 2000000
/-! DL24: sorted(d.items()), keys texts, values numbers: the rule. -/
namespace Dl
open PySem PySem.Spec PyProof.Rows L2

def entS (e : Str × Int) : Key × V := (Sum.inr e.1, V.int e.2)
def rItemsK : V → List V → Hp → VK → Prop := fun x xs H Q => ∃ (a : Addr) (kvs : List (Key × V)), x = .ref a ∧ xs = [] ∧ H a = some (.dK kvs) ∧ ∀ p, H p = none → Q (.ref p) (upd H p (DX.itemsO p a))
theorem mt_itemsK {X : Cx} : MtR X "dict.items" rItemsK := by
  intro pins s σ H x xs v us Q I rx rxs h
  obtain ⟨a, kvs, rfl, rfl, ha, q⟩ := h
  obtain rfl : v = .ref a := rx
  cases rxs
  obtain ⟨z, hd, ws, rel, o, es, ep, ho, hx, hdat, _⟩ := dk_of I.hok ha
  refine DT.callItems (es := es) (ep := ep) hd ⟨o, ho, hx, hdat⟩ ?_
  have hf : H s.heap.objs.size = none := I.hok.fresh (Nat.le_refl _)
  exact ⟨.ref s.heap.objs.size, upd H s.heap.objs.size (DX.itemsO s.heap.objs.size a), I.laid (t' := s.toks) (fun b u e => Heap.get?_push_of_some _ e) (Nat.le_refl _) (DX.itemsO_ok (Heap.get?_push_size _ rfl)), rfl, q _ hf⟩
def rSortIt : List V → Hp → VK → Prop := fun vs H Q => ∃ (p a : Addr) (ks : List (Str × Int)), vs = [.ref p] ∧ H p = some (DX.itemsO p a) ∧ H a = some (.dK (ks.map entS)) ∧ (ks.map (·.1)).Nodup ∧ ks.length < 64 ∧
  ∀ (H' : Hp) (l : Addr) (ps : List (Addr × Str × Int)), Same H H' → (ps.map (·.2)).Perm ks → (ps.map (·.2)).Pairwise (fun e f => leS e.1 f.1 = true) → H' l = some (.lst (ps.map fun z => V.ref z.1)) → H l = none → (∀ z ∈ ps, H' z.1 = some (.tup [.str z.2.1, .int z.2.2])) → Q (.ref l) H'
theorem pairs_at {P : Program} {w : World} : ∀ {es : List DictEntry} {ws : List (Key × Value)} {j : Nat} {e : DictEntry}, Pairs (mixKind P w) es ws → es[j]? = some e → ∃ k, ws[j]? = some (k, e.val) ∧ keyIs k e.key = true
  | [], _, j, e, _, h => by simp at h
  | a :: es, _, 0, e, .cons (kv := kv) h1 h2 _, h => by
    simp at h
    subst h
    exact ⟨kv.1, by rw [h2]; rfl, h1⟩
  | a :: es, _, j + 1, e, .cons _ _ h2, h => by
    simp at h
    obtain ⟨k, h3, h4⟩ := pairs_at h2 h
    exact ⟨k, by simpa using h3, h4⟩
theorem find_nodup : ∀ {ks : List (Str × Int)} {e : Str × Int}, (ks.map (·.1)).Nodup → e ∈ ks → ks.find? (fun f => decide (f.1 = e.1)) = some e
  | a :: ks, e, h, he => by
    rw [List.map_cons, List.nodup_cons] at h
    rcases List.mem_cons.mp he with rfl | he
    · simp
    · have : ¬ a.1 = e.1 := fun z => h.1 (by rw [z]; exact List.mem_map.mpr ⟨e, he, rfl⟩)
      rw [List.find?_cons, decide_eq_false this]
      exact find_nodup h.2 he
theorem cr_sortIt {X : Cx} (hc : X.calm = true) : CallR X (.builtin "sorted") rSortIt := by
  intro pins s σ H xs us Q I r h
  obtain ⟨p, a, ks, rfl, hp, ha, hnd, h64, q⟩ := h
  obtain rfl := Vals.ref1 r
  have view : s.heap.IsItemsView p a := (show ObjOk X.prog X.w H s.heap p (DX.itemsO p a) from I.hok p _ hp).1
  obtain ⟨z, hd, ws, rel, o, es, ep, ho, hx, hdat, _, hpr, _⟩ := dk_of I.hok ha
  have l1 : (ks.map entS).length = ws.length := rel.length
  rw [List.length_map] at l1
  have l2 : es.size = ws.length := by rw [← Array.length_toList]; exact hpr.length
  refine DT.sortedI (es := es) (ep := ep) (I.ok.hd hc) view ⟨o, ho, hx, hdat⟩ (by rw [sizeLine_eq]; omega) fun h' tk as hk hlt hl hG => ?_
  have lak : as.length = ks.length := by omega
  have nd : as.Nodup := hG.rise.imp fun h => Nat.ne_of_lt h
  -- what was made for each entry
  have pr : ∀ (j : Nat) (b : Addr), as[j]? = some b → ∃ (e : Str × Int) (t t' : Tok), ks[j]? = some e ∧ h'.get? b = some { cls := .type "tuple", data := .seq #[Value.str e.1 t, Value.int e.2 t'] } := by
    intro j b hj
    obtain ⟨en, he, hg⟩ := hG.pairs j b hj
    rw [← Array.getElem?_toList] at he
    obtain ⟨k, hw, hki⟩ := pairs_at hpr he
    obtain ⟨kv, hkv, e1, e2⟩ := DX.pget (F := fun (p : Key × V) (q : Key × Value) => p.1 = q.1 ∧ RelV p.2 q.2) rel hw
    rw [List.getElem?_map] at hkv
    obtain ⟨e, hke, rfl⟩ := Option.map_eq_some_iff.mp hkv
    have e1' : Sum.inr e.1 = k := e1
    subst e1'
    obtain ⟨t', ev⟩ : ∃ t', en.val = Value.int e.2 t' := e2
    rcases keyIs_shape hki with ⟨i, t, z1, _⟩ | ⟨x, t, z1, z2⟩
    · cases z1
    · cases z1
      exact ⟨e, t, t', hke, by rw [hg, z2, ev]⟩
  have hob : (h'.push { cls := .type "list", data := .seq (as.map Value.ref).toArray }).get? h'.objs.size = some (seqObj "list" (as.map Value.ref).toArray 0) := Heap.get?_push_size _ rfl
  have ne0 : ∀ b o, h'.get? b = some o → b ≠ h'.objs.size := fun b o e => Nat.ne_of_lt (Heap.lt_size e)
  have ka : ∀ b o, h'.get? b = some o → (h'.push { cls := .type "list", data := .seq (as.map Value.ref).toArray }).get? b = some o := fun b o e => Heap.get?_push_of_some _ e
  generalize h'.push { cls := .type "list", data := .seq (as.map Value.ref).toArray } = h2 at hob ka ⊢
  have at_ : ∀ v ∈ as.map Value.ref, ∃ (j : Nat) (b : Addr) (e : Str × Int), v = .ref b ∧ as[j]? = some b ∧ ks[j]? = some e ∧ PairS (TS.midHeap h2 h'.objs.size (as.map Value.ref)) (.ref b) e.1 e.2 := by
    intro v hv'
    obtain ⟨b, hb, rfl⟩ := List.mem_map.mp hv'
    obtain ⟨j, hj⟩ := List.mem_iff_getElem?.mp hb
    obtain ⟨e, t, t', he, hg⟩ := pr j b hj
    exact ⟨j, b, e, rfl, hj, he, b, t, t', rfl, ⟨_, TS.midHeap_old (ne0 _ _ hg) (ka _ _ hg), rfl, 0, rfl⟩⟩
  obtain ⟨M, hM⟩ : ∃ M : Str → Int, ∀ e ∈ ks, M e.1 = e.2 := by
    refine ⟨fun y => ((ks.find? fun e => decide (e.1 = y)).map (·.2)).getD 0, fun e he => ?_⟩
    have : ks.find? (fun f => decide (f.1 = e.1)) = some e := find_nodup hnd he
    simp only [this, Option.map_some, Option.getD_some]
  have hA : as.map Value.ref = as.map Value.ref := rfl
  refine wpAny_call_entry PyProof.Rows.slot_list_sort ⟨_, hob, rfl⟩ PyProof.Rows.entry_list_sort
    (SK.plain_sort (s := { s with heap := h2, toks := tk }) (r := fun v => rankS (ks.map (·.1)) (keyS (TS.midHeap h2 h'.objs.size (as.map Value.ref)) v)) hob (by rw [List.length_map]; omega) (fun h2' Qk hQk => ?_) fun ps out o1 o2 o3 => ⟨.none, rfl, ?_⟩) (PyProof.Rows.args_list_sort _)
  · refine kindS (s := { s with heap := TS.midHeap h2 h'.objs.size (as.map Value.ref), toks := tk }) (ρ := rankS (ks.map (·.1))) (M := M) h2' (fun v hv' => ?_) (fun v hv' u hu' => ?_) Qk hQk
    · obtain ⟨j, b, e, rfl, hj, he, hp'⟩ := at_ v hv'
      exact ⟨e.1, by rw [hM e (List.mem_of_getElem? he)]; exact hp'⟩
    · obtain ⟨j, b, e, rfl, hj, he, hp'⟩ := at_ v hv'
      refine rankS_lt ?_
      rw [hp'.tx]
      exact List.mem_map.mpr ⟨e, List.mem_of_getElem? he, rfl⟩
  · show EP X pins σ Q (.ref h'.objs.size) { s with heap := sortedHeap h2 h'.objs.size (as.map Value.ref) out, toks := tk }
    obtain ⟨zs, pz, ez⟩ := perm_lift (fun z : Addr × Str × Int => (Value.ref z.1, Value.ref z.1)) o2 (as.zip ks) (DX.zip_self Value.ref as ks lak)
    have idx : ∀ z ∈ zs, ∃ j : Nat, as[j]? = some z.1 ∧ ks[j]? = some z.2 := by
      intro z' hz'
      obtain ⟨j, hj⟩ := List.mem_iff_getElem?.mp (pz.mem_iff.mp hz')
      exact ⟨j, List.getElem?_zip_eq_some.mp hj⟩
    have key : ∀ z ∈ zs, keyS (TS.midHeap h2 h'.objs.size (as.map Value.ref)) (.ref z.1) = z.2.1 := by
      intro z' hz'
      obtain ⟨j, j1, j2⟩ := idx z' hz'
      obtain ⟨i, b, e, e1, i1, i2, hp'⟩ := at_ (.ref z'.1) (List.mem_map.mpr ⟨z'.1, List.mem_of_getElem? j1, rfl⟩)
      cases e1
      have eij : i = j := (List.getElem?_inj (List.getElem?_eq_some_iff.mp i1).1 nd).mp (i1.trans j1.symm)
      subst eij
      rw [hp'.tx, Option.some.inj (i2.symm.trans j2)]
    have hout : out.toList = zs.map fun z => Value.ref z.1 := by
      rw [o1, ← ez, List.map_map]
      rfl
    have hperm : (zs.map (·.2)).Perm ks := by
      have e := pz.map (·.2)
      rwa [show (as.zip ks).map (·.2) = ks from List.map_snd_zip (by omega)] at e
    have hsort : (zs.map (·.2)).Pairwise (fun e f => leS e.1 f.1 = true) := by
      rw [← ez, List.pairwise_map] at o3
      rw [List.pairwise_map]
      refine o3.imp_of_mem fun {x y} hx hy h => ?_
      have h3 : rankS (ks.map (·.1)) (keyS (TS.midHeap h2 h'.objs.size (as.map Value.ref)) (.ref x.1)) ≤ rankS (ks.map (·.1)) (keyS (TS.midHeap h2 h'.objs.size (as.map Value.ref)) (.ref y.1)) := h
      rw [key x hx, key y hy] at h3
      obtain ⟨j, _, j2⟩ := idx y hy
      unfold leS
      rw [rankS_lt (l := ks.map (·.1)) (List.mem_map.mpr ⟨y.2, List.mem_of_getElem? j2, rfl⟩), decide_eq_false (by omega)]
      rfl
    have kF : ∀ b o, b ≠ h'.objs.size → h2.get? b = some o → (sortedHeap h2 h'.objs.size (as.map Value.ref) out).get? b = some o := fun b o hb e => (sortedHeap_old hb (Heap.lt_size e)).trans e
    have kS : ∀ b o, s.heap.get? b = some o → (sortedHeap h2 h'.objs.size (as.map Value.ref) out).get? b = some o := fun b o e => kF b o (ne0 _ _ (hk b o e)) (ka _ _ (hk b o e))
    obtain ⟨eF, heF⟩ := sortedHeap_at (vs := as.map Value.ref) (out := out) hob
    have I1 : L2.Inv X pins σ H { s with heap := sortedHeap h2 h'.objs.size (as.map Value.ref) out, toks := tk } := I.kept (t' := tk) kS
    have hn0 : H h'.objs.size = none := I.hok.fresh (Nat.le_of_lt hlt)
    have hlen : (zs.map fun z => V.ref z.1).length ≤ sizeLine := by
      have e := hperm.length_eq
      rw [List.length_map] at e
      rw [List.length_map, sizeLine_eq]
      omega
    have rv : Vals (zs.map fun z => V.ref z.1) out.toList := by
      rw [hout]
      exact vals_maps (fun z : Addr × Str × Int => V.ref z.1) (fun z => Value.ref z.1) zs fun _ _ => rfl
    have I2 : L2.Inv X pins σ (upd H h'.objs.size (.lst (zs.map fun z => V.ref z.1))) { s with heap := sortedHeap h2 h'.objs.size (as.map Value.ref) out, toks := tk } :=
      I1.take (h' := sortedHeap h2 h'.objs.size (as.map Value.ref) out) (t' := tk) (fun b ob _ e => e) (I.fpOk (Nat.le_of_lt hlt) hn0) ⟨hlen, out.toList, eF, rv, heF⟩
    obtain ⟨H2, I3, g, qt⟩ := DX.takeT (P := fun b vs => ∃ (j : Nat) (e : Str × Int), as[j]? = some b ∧ ks[j]? = some e ∧ vs = [V.str e.1, V.int e.2]) I as _ I2 nd fun b hb => by
      obtain ⟨j, hj⟩ := List.mem_iff_getElem?.mp hb
      obtain ⟨e, t, t', he, hg⟩ := pr j b hj
      have hbl : s.heap.objs.size ≤ b := Nat.le_of_lt (hG.above b hb)
      refine ⟨hbl, ?_, [V.str e.1, V.int e.2], ⟨j, e, hj, he, rfl⟩, fun H3 => ⟨(by rw [sizeLine_eq]; show 2 ≤ 16777216; omega), [Value.str e.1 t, Value.int e.2 t'], .cons ⟨_, rfl⟩ (.cons ⟨_, rfl⟩ .nil), ⟨_, kF _ _ (ne0 _ _ hg) (ka _ _ hg), rfl, 0, rfl⟩⟩⟩
      rw [upd_ne (ne0 _ _ hg)]
      exact I.hok.fresh hbl
    have gr : Same H H2 := fun b o e => g b o (by rw [upd_ne (ne_of_none e hn0)]; exact e)
    refine ⟨.ref h'.objs.size, H2, I3, rfl, q H2 h'.objs.size zs gr hperm hsort (g _ _ upd_same) hn0 fun z' hz' => ?_⟩
    obtain ⟨i, i1, i2⟩ := idx z' hz'
    obtain ⟨vs, ⟨j, e, j1, j2, ev⟩, hH⟩ := qt z'.1 (List.mem_of_getElem? i1)
    have eij : i = j := (List.getElem?_inj (List.getElem?_eq_some_iff.mp i1).1 nd).mp (i1.trans j1.symm)
    subst eij
    have ee : e = z'.2 := Option.some.inj (j2.symm.trans i2)
    rw [ev, ee] at hH
    exact hH
end Dl

set_option Elab.async false
set_option linter.all false
set_option maxRecDepth 100000
set_option maxHeartbeats 2000000
/-! DL25: sorted(d.items()) by its mirror. -/
namespace Dl
open PySem PySem.Spec PyProof.Rows L2

theorem sorted_unique_on {α : Type} {le : α → α → Prop} : ∀ {l m : List α}, (∀ a ∈ l, ∀ b ∈ l, le a b → le b a → a = b) → l.Perm m → l.Pairwise le → m.Pairwise le → l = m
  | [], m, _, p, _, _ => List.Perm.nil_eq p
  | a :: l, [], _, p, _, _ => by have := p.length_eq; simp at this
  | a :: l, b :: m, anti, p, h1, h2 => by
    rw [List.pairwise_cons] at h1 h2
    have e : a = b := by
      have ha : a ∈ b :: m := p.mem_iff.mp (by simp)
      have hb : b ∈ a :: l := p.mem_iff.mpr (by simp)
      rcases List.mem_cons.mp ha with e | ha
      · exact e
      · rcases List.mem_cons.mp hb with e | hb'
        · exact e.symm
        · exact anti a (by simp) b hb (h1.1 b hb') (h2.1 a ha)
    subst e
    rw [sorted_unique_on (fun x hx y hy => anti x (List.mem_cons_of_mem _ hx) y (List.mem_cons_of_mem _ hy)) (List.Perm.cons_inv p) h1.2 h2.2]
def leP (e f : Str × Int) : Bool := leS e.1 f.1
def sortP (l : List (Str × Int)) : List (Str × Int) := l.mergeSort leP
theorem sortP_only {l m : List (Str × Int)} (hn : (l.map (·.1)).Nodup) (p : m.Perm l) (h : m.Pairwise fun e f => leS e.1 f.1 = true) : m = sortP l := by
  refine sorted_unique_on (le := fun e f => leP e f = true) (fun a ha b hb h1 h2 => ?_) (p.trans (List.mergeSort_perm l leP).symm) h (List.pairwise_mergeSort (fun a b c => leS_trans a.1 b.1 c.1) (fun a b => leS_total a.1 b.1) l)
  have e := leS_anti a.1 b.1 h1 h2
  have f1 := find_nodup hn (p.mem_iff.mp ha)
  have f2 := find_nodup hn (p.mem_iff.mp hb)
  rw [e, f2] at f1
  exact (Option.some.inj f1).symm
def itemsSI : List D → List D → Option (List (Str × Int))
  | .str s :: ks, .int i :: vs => match itemsSI ks vs with
    | some l => some ((s, i) :: l)
    | none => none
  | [], [] => some []
  | _, _ => none
def pairD (e : Str × Int) : D := .tup [.str e.1, .int e.2]
def eSrtIt (i : Nat) : EM := fun ρ => match ρ.getD i none with
  | some (.dic true .k ks vs) => match itemsSI ks vs with
    | some l => if (l.map (·.1)).Nodup ∧ l.length < 64 then some (.lst true ((sortP l).map pairD), ρ) else none
    | none => none
  | _ => none
section
variable {K : PySem.W.Frag} {mg : MG}
theorem Sim.fresh {H H' : Hp} {l : Addr} {o : HO} {rs : List Rt} (h : Sim K mg H rs) (g : Same H H') (hn : H l = none) (e : H' l = some o) (ht : tupish o = false) : Sim K mg H' (.c l o :: rs) := by
  obtain ⟨Hs, fp, s, ow, nd⟩ := h
  have h1 := ow.fpH
  have hl : Hs l = none := s.none hn
  refine ⟨Hs, l :: fp, fun a u q => ?_, .c e hl ht (ow.mono (fun _ _ q => q) fun a ha => ?_), List.nodup_cons.mpr ⟨fun z => ?_, nd⟩⟩
  · rcases s a u q with q1 | ⟨q1, ob, q2⟩
    · exact .inl (g a _ q1)
    · exact .inr ⟨q1, ob, g a _ q2⟩
  · obtain ⟨⟨u, hu, _⟩, _⟩ := h1 a ha
    exact ⟨by rw [hu, g a u hu], fun z => z⟩
  · obtain ⟨⟨u, hu, _⟩, _⟩ := h1 l z
    rw [hn] at hu
    cases hu
theorem items_ent : ∀ {kvs : List (Key × V)} {ds : List D} {H : Hp} {l : List (Str × Int)}, itemsSI (kvs.map fun p => kyD p.1) ds = some l → RpL K mg H (kvs.map (·.2)) ds → kvs = l.map entS
  | [], [], H, l, e, _ => by cases e; rfl
  | [], _ :: _, H, l, e, _ => by cases e
  | (.inl i, v) :: kvs, ds, H, l, e, _ => by
    simp only [List.map_cons, kyD] at e
    cases ds <;> simp [itemsSI] at e
  | (.inr s, v) :: kvs, [], H, l, e, _ => by simp [itemsSI, kyD] at e
  | (.inr s, v) :: kvs, d :: ds, H, l, e, r => by
    cases r with
    | cons r1 r2 =>
      cases d <;> simp only [List.map_cons, kyD, itemsSI, reduceCtorEq] at e
      split at e
      · rename_i i l' e'
        cases e
        have ih := items_ent e' r2
        have := r1.int_inv
        have hv : v = V.int _ := this
        subst hv
        rw [List.map_cons, ← ih]
        rfl
      · cases e
end
section
variable {X : Cx} {F : Fm} {vs0 : List V}
theorem imp_srtIt {i : Nat} : ∀ σ H Q, tD F (eSrtIt i) σ H Q → tCB rSortIt (tCons (tBM0 F.K "dict" rItemsK (tVar i)) tNil) σ H Q := fun σ H Q ⟨ρ, ts, d, ρ', a, e, k⟩ => by
  unfold eSrtIt at e
  split at e
  · rename_i ks vs e0
    split at e
    · rename_i l el
      split at e
      · rename_i hc
        cases e
        obtain ⟨v, hv, s0⟩ := a.slot (getD_some e0)
        obtain ⟨b, kvs, rfl, h1, h2, s1⟩ := s0.unDk
        have hcell := Sim.cell (rs := vals (kvs.map (·.2)) vs ++ (slotR σ (ρ.set i none) ++ ts)) s1
        have hr : RpL F.K F.mg H (kvs.map (·.2)) vs := vals_rpL (by rw [List.length_map]; exact h2) (Sim.tail (rs := vals (kvs.map (·.2)) vs ++ (slotR σ (ρ.set i none) ++ ts)) s1)
        subst h1
        have hk := items_ent el hr
        refine ⟨.ref b, hv, .inr (.inr (.inl ⟨rfl, .inl ⟨kvs, hcell⟩⟩)), b, kvs, rfl, rfl, hcell, fun p hp => ?_⟩
        have hbp : b ≠ p := ne_of_none hcell hp
        refine ⟨p, b, l, rfl, upd_same, by rw [upd_ne hbp, hcell, hk], hc.1, hc.2, fun H' lq ps g p1 p2 p3 p4 p5 => ?_⟩
        have g2 : Same H H' := (same_upd hp).trans g
        have hl0 : H lq = none := by
          by_cases z : lq = p
          · subst z; exact hp
          · rw [upd_ne z] at p4; exact p4
        have es : ps.map (·.2) = sortP l := sortP_only hc.1 p1 p2
        have rp : ∀ {qs : List (Addr × Str × Int)}, (∀ z ∈ qs, H' z.1 = some (.tup [.str z.2.1, .int z.2.2])) → RpL F.K F.mg H' (qs.map fun z => V.ref z.1) (qs.map fun z => pairD z.2) := fun {qs} hq => by
          induction qs with
          | nil => exact .nil
          | cons z qs ih => exact .cons (.tup (hq z (by simp)) (.cons (.str _) (.cons (.int _) .nil))) (ih fun y hy => hq y (by simp [hy]))
        have im : ∀ qs : List (Addr × Str × Int), immL (qs.map fun z => pairD z.2) = true := fun qs => by
          rw [immL_all, List.all_map]
          exact List.all_eq_true.mpr fun z _ => by simp [pairD, D.imm, immL]
        have ed : (sortP l).map pairD = ps.map fun z => pairD z.2 := by rw [← es, List.map_map]; rfl
        rw [ed] at k
        have s2 : Sim F.K F.mg H' (.c lq (.lst (ps.map fun z => V.ref z.1)) :: (ts ++ slotR σ _)) := (a.front).fresh g2 hl0 p3 rfl
        have s3 := (s2.imms (rp p5) (im ps)).perm List.perm_middle
        exact k _ H' (At.of_front (a.grow g2) (ts' := .v (.ref lq) (.lst true (ps.map fun z => pairD z.2)) :: ts) (Sim.foL (rs := ts ++ slotR σ _) s3 (by simp)))
      · cases e
    · cases e
  · cases e
end
end Dl

set_option Elab.async false
set_option linter.all false
set_option maxRecDepth 100000
set_option maxHeartbeats 1000000
/-! DL26: loops over the keys of a dict in a slot, which is read-only from there. -/
namespace Dl
open PySem PySem.Spec PyProof.Rows L2

/-- nothing is raised -/
def noX : Option (Fl × DEnv) → Option (Fl × DEnv)
  | some (.xc _, _) => none
  | r => r
theorem noX_of {r : Option (Fl × DEnv)} {fl : Fl} {ρ : DEnv} (h : noX r = some (fl, ρ)) : r = some (fl, ρ) ∧ ∀ x, fl ≠ .xc x := by
  unfold noX at h
  split at h
  · cases h
  · rename_i hn
    exact ⟨h, fun x e => hn x ρ (by rw [h, e])⟩
def sForK (i : Nat) (g : GM) (body : SM) : SM := fun ρ => match ρ[i]? with
  | some (some (.dic true kd ks vs)) => if kd = .n then none else noX (forL g body ks (ρ.set i (some (.dic false kd ks (frzL vs)))))
  | _ => none
section
variable {F : Fm} {g : GM} {body : SM} {gt : TG}
theorem at_unlock {d : Addr} {od : Obj} {u : HO} {σ : L2.St} {H : Hp} {ρ : DEnv} {ts : List Rt} (a : At F σ H ρ (.h d od u :: ts)) : H d = some (.frz od u) ∧ At F σ (upd H d u) ρ ts := by
  obtain ⟨h1, h2⟩ := (a.front).unlock
  exact ⟨h1, a.of_front h2⟩
def lockE (D' : Ends) (d : Addr) (od : Obj) (u : HO) : Ends := ⟨fun σ' H' => H' d = some (.frz od u) ∧ D'.nx σ' (upd H' d u), fun v H' => H' d = some (.frz od u) ∧ D'.rt v (upd H' d u), fun σ' H' => H' d = some (.frz od u) ∧ D'.bk σ' (upd H' d u), fun σ' H' => H' d = some (.frz od u) ∧ D'.ct σ' (upd H' d u)⟩
theorem fin_lock {D' : Ends} {d : Addr} {od : Obj} {u : HO} {ts : List Rt} {fl : Fl} {ρ' : DEnv} (k : Fin F ts D' fl ρ') (hx : ∀ x, fl ≠ .xc x) : Fin F (.h d od u :: ts) (lockE D' d od u) fl ρ' := by
  cases fl with
  | nx => exact fun σ H a => ⟨(at_unlock a).1, k σ _ (at_unlock a).2⟩
  | bk => exact fun σ H a => ⟨(at_unlock a).1, k σ _ (at_unlock a).2⟩
  | ct => exact fun σ H a => ⟨(at_unlock a).1, k σ _ (at_unlock a).2⟩
  | rt e =>
    intro v σ H a
    have a' := a.perm (.swap _ _ _)
    exact ⟨(at_unlock a').1, k v σ _ (at_unlock a').2⟩
  | xc x => exact absurd rfl (hx x)
theorem rp_key {K : PySem.W.Frag} {mg : MG} {H : Hp} : ∀ (k : Key), Rp K mg H (kV k) (kyD k)
  | .inl i => .int i
  | .inr s => .str s
theorem kyD_imm : ∀ (k : Key), (kyD k).imm = true
  | .inl _ => rfl
  | .inr _ => rfl
theorem rpL_keys {K : PySem.W.Frag} {mg : MG} {H : Hp} : ∀ (l : List Key), RpL K mg H (l.map kV) (l.map kyD)
  | [] => .nil
  | k :: l => .cons (rp_key k) (rpL_keys l)
theorem keysL_imm : ∀ (l : List Key), immL (l.map kyD) = true
  | [] => rfl
  | k :: l => by simp only [List.map_cons, immL, kyD_imm, keysL_imm l, Bool.and_self]
theorem rp_keyT {K : PySem.W.Frag} {mg : MG} {H : Hp} {q : Addr} {l : List Key} (h : H q = some (.tup (l.map kV))) : Rp K mg H (.ref q) (ktD l) := .tup h (rpL_keys l)
theorem ktD_imm (l : List Key) : (ktD l).imm = true := by
  unfold ktD
  rw [D.imm]
  exact keysL_imm l
theorem At.imm {σ : L2.St} {H : Hp} {ρ : DEnv} {ts : List Rt} {v : V} {d : D} (a : At F σ H ρ ts) (r : Rp F.K F.mg H v d) (hi : d.imm = true) : At F σ H ρ (.v v d :: ts) := a.of_front ((a.front).imm r hi)
theorem imp_forK {i : Nat} {td : TE} (hg : ∀ v σ H Q, tG F g v σ H Q → gt v σ H Q) (htd : ∀ σ H Q, (∃ v, σ[i]? = some (some v) ∧ Q v H) → td σ H Q) : ∀ D' σ H, tS F (sForK i g body) D' σ H → tLock (tFor (iKeys td) gt (tS F body)) D' σ H := fun D' σ H ⟨ρ, ts, fl, ρ', a, q, k⟩ => by
  unfold sForK at q
  split at q
  · rename_i kd ks ds hi
    split at q
    · cases q
    rename_i hkd
    obtain ⟨q, hx⟩ := noX_of q
    obtain ⟨v, hv, s⟩ := a.slot hi
    cases kd with
    | n => exact absurd rfl hkd
    | k =>
      obtain ⟨d, kvs, rfl, hk, hd, s2⟩ := s.lockK
      refine ⟨d, _, hd, trivial, fun od => ?_⟩
      have hn : kvs.length = ks.length := by rw [hk, List.length_map]
      have a1 : At F σ (upd H d (.frz od (.dK kvs))) (ρ.set i (some (.dic false .k ks (frzL ds)))) (.h d od (.dK kvs) :: ts) := a.back hv ((s2 od).perm ((List.Perm.swap _ _ _).trans (List.Perm.cons _ List.perm_middle.symm)))
      have kk : Fin F (.h d od (.dK kvs) :: ts) (lockE D' d od (.dK kvs)) fl ρ' := fin_lock k hx
      have fin : ∀ σ H, (∃ ρ, At F σ H ρ (.h d od (.dK kvs) :: ts) ∧ forL g body (ks.drop kvs.length) ρ = some (fl, ρ')) → (lockE D' d od (.dK kvs)).nx σ H := fun σ H ⟨ρ2, b, hf⟩ => by
        rw [List.drop_of_length_le (by omega)] at hf
        obtain ⟨rfl, rfl⟩ := forL_nil hf
        exact kk σ H b
      refine htd _ _ _ ⟨_, hv, d, od, rfl, .inl ⟨kvs, upd_same, for_any (n := kvs.length) (fun i σ H => ∃ ρ, At F σ H ρ (.h d od (.dK kvs) :: ts) ∧ forL g body (ks.drop i) ρ = some (fl, ρ')) ⟨_, a1, q⟩ (fun i σ H hi ⟨_, b, _⟩ => ⟨(at_unlock b).1, hi⟩) (fun σ H ⟨_, b, _⟩ => ⟨(at_unlock b).1, Nat.le_refl _⟩) ?_ fin⟩⟩
      rintro i x σ H H' hi ⟨ρ2, b, hf⟩ ⟨rfl, y, w, hy, rfl⟩
      have hky : ks[i]'(by omega) = kyD y := by
        subst hk
        rw [List.getElem_map]
        rw [(List.getElem?_eq_some_iff.mp hy).2]
      rw [List.drop_eq_getElem_cons (by omega), hky] at hf
      exact for_turn hg hf (b.imm (rp_key y) (kyD_imm y)) kk fun σ' H' ρ3 b3 hf3 => ⟨ρ3, b3, hf3⟩
    | t =>
      obtain ⟨d, kvs, rfl, hk, hd, s2⟩ := s.lockT
      refine ⟨d, _, hd, trivial, fun od => ?_⟩
      have hn : kvs.length = ks.length := by rw [hk, List.length_map]
      have a1 : At F σ (upd H d (.frz od (.dT kvs))) (ρ.set i (some (.dic false .t ks (frzL ds)))) (.h d od (.dT kvs) :: ts) := a.back hv ((s2 od).perm ((List.Perm.swap _ _ _).trans (List.Perm.cons _ List.perm_middle.symm)))
      have kk : Fin F (.h d od (.dT kvs) :: ts) (lockE D' d od (.dT kvs)) fl ρ' := fin_lock k hx
      have fin : ∀ σ H, (∃ ρ, At F σ H ρ (.h d od (.dT kvs) :: ts) ∧ forL g body (ks.drop kvs.length) ρ = some (fl, ρ')) → (lockE D' d od (.dT kvs)).nx σ H := fun σ H ⟨ρ2, b, hf⟩ => by
        rw [List.drop_of_length_le (by omega)] at hf
        obtain ⟨rfl, rfl⟩ := forL_nil hf
        exact kk σ H b
      refine htd _ _ _ ⟨_, hv, d, od, rfl, .inr ⟨kvs, upd_same, for_any (n := kvs.length) (fun i σ H => ∃ ρ, At F σ H ρ (.h d od (.dT kvs) :: ts) ∧ forL g body (ks.drop i) ρ = some (fl, ρ')) ⟨_, a1, q⟩ (fun i σ H hi ⟨_, b, _⟩ => ⟨(at_unlock b).1, hi⟩) (fun σ H ⟨_, b, _⟩ => ⟨(at_unlock b).1, Nat.le_refl _⟩) ?_ fin⟩⟩
      rintro i x σ H H' hi ⟨ρ2, b, hf⟩ ⟨rfl, y, w, z, hy, rfl, hz⟩
      have hky : ks[i]'(by omega) = ktD y := by
        subst hk
        rw [List.getElem_map]
        rw [(List.getElem?_eq_some_iff.mp hy).2]
      rw [List.drop_eq_getElem_cons (by omega), hky] at hf
      exact for_turn hg hf (b.imm (rp_keyT hz) (ktD_imm y)) kk fun σ' H' ρ3 b3 hf3 => ⟨ρ3, b3, hf3⟩
  · cases q
end
section
variable {X : Cx} {vs0 : List V} {W : WX} {pos p : Pos} {g : GM} {body : SM} {tg : Expr} {bs : List Stmt}
theorem s_forK {n : Str} {i : Nat} (hc : X.calm = true) (hp : PassesOwn (model X.prog X.w) X.A X.env X.xe) (hg : PG X tg (tG (fm X vs0) g)) (hb : PSs X bs (tS (fmW X vs0 W) body)) (hN : X.N[i]? = some n := by rfl) (hv : Vis X.env.scope n := by first | exact Or.inl rfl | exact Or.inr (Or.inl rfl) | exact Or.inr (Or.inr rfl)) (hd : (n == ("__debug__" : Str)) = false := by decide) (hcd : (n == ("__classdict__" : Str)) = false := by decide)
    (hf : ∀ x, foldedSetIterable (.Name n p) X.env x = pure x := by intro _; rfl) :
    PS X (.For tg (.Name n p) bs [] pos) (tS (fmW X vs0 W) (sForK i g body)) := (ps_lock (ps_for hp hc (pi_keys (pe_var hN hv hd hcd)) hg hb hf)).imp (imp_forK (fun _ _ _ _ h => h) fun _ _ _ ⟨v, e, q⟩ => ⟨v, e, q⟩)
end
end Dl

set_option Elab.async false
set_option linter.all false
set_option maxRecDepth 100000
set_option maxHeartbeats 1000000
/-! DL27: objects: attributes read and stored, methods, making. -/
namespace Dl
open PySem PySem.Spec PyProof.Rows L2

def lookF : List Str → List D → Str → Option D
  | k :: ks, v :: vs, q => if k = q then some v else lookF ks vs q
  | _, _, _ => none
def opFld (c f : Str) : D → Option D
  | .obj _ c' fs vs => if c' = c then lookF fs vs f else none
  | _ => none
def pFld (c f : Str) (a : PM) : PM := pOp1 (opFld c f) a
/-- what of the text an attribute asks -/
def ClsOk (K : PySem.W.Frag) (mg : Str → Option Value) (c f : Str) : Prop := ∀ C, mg c = some (.ref C) → Cls K C ∧ NoAttr K C f
theorem lookF_at {K : PySem.W.Frag} {mg : MG} {H : Hp} : ∀ {fvs : List (Str × V)} {ds : List D} {f : Str} {d : D}, RpL K mg H (fvs.map (·.2)) ds → lookF (fvs.map (·.1)) ds f = some d →
    ∃ (j : Nat) (v : V), fvs.lookup f = some v ∧ (fvs.map (·.2))[j]? = some v ∧ ds[j]? = some d
  | [], ds, f, d, _, e => by simp [lookF] at e
  | (k, v) :: fvs, [], f, d, r, e => by simp [lookF] at e
  | (k, v) :: fvs, u :: ds, f, d, r, e => by
    cases r with
    | cons r1 r2 =>
      simp only [List.map_cons, lookF] at e
      split at e
      · rename_i h
        cases e
        subst h
        exact ⟨0, v, by rw [List.lookup_cons]; simp, rfl, rfl⟩
      · rename_i h
        obtain ⟨j, v', h1, h2, h3⟩ := lookF_at r2 e
        have h' : (f == k) = false := by simpa using fun q => h q.symm
        exact ⟨j + 1, v', by rw [List.lookup_cons, h']; exact h1, by simpa using h2, by simpa using h3⟩
theorem find_lookup : ∀ {fvs : List (Str × V)} {f : Str} {j : Nat}, (fvs.map (·.1)).findIdx? (fun q => decide (q = f)) = some j → ∃ z, (fvs.map (·.2))[j]? = some z ∧ fvs.lookup f = some z ∧ ∀ w, (putF f w fvs).map (·.1) = fvs.map (·.1) ∧ (putF f w fvs).map (·.2) = (fvs.map (·.2)).set j w
  | [], f, j, h => by simp at h
  | (k, v) :: fvs, f, j, h => by
    rw [List.map_cons, List.findIdx?_cons] at h
    by_cases e : k = f
    · subst e
      simp only [decide_true] at h
      cases h
      refine ⟨v, rfl, by rw [List.lookup_cons]; simp, fun w => ?_⟩
      simp [putF]
    · simp only [e, decide_false, Bool.false_eq_true, if_false, Option.map_eq_some_iff] at h
      obtain ⟨j', h', rfl⟩ := h
      obtain ⟨z, h1, h2, h3⟩ := find_lookup h'
      have e' : (f == k) = false := by simpa using fun q => e q.symm
      refine ⟨z, by simpa using h1, by rw [List.lookup_cons, e']; exact h2, fun w => ?_⟩
      obtain ⟨h4, h5⟩ := h3 w
      simp only [putF, if_neg e, List.map_cons, h4, h5, List.set_cons_succ]
      exact ⟨trivial, trivial⟩
theorem find_none : ∀ {fvs : List (Str × V)} {f : Str}, (fvs.map (·.1)).findIdx? (fun q => decide (q = f)) = none → ∀ w, putF f w fvs = fvs ++ [(f, w)]
  | [], f, _, w => rfl
  | (k, v) :: fvs, f, h, w => by
    rw [List.map_cons, List.findIdx?_cons] at h
    by_cases e : k = f
    · subst e; simp at h
    · simp only [e, decide_false, Bool.false_eq_true, if_false, Option.map_eq_none_iff] at h
      rw [putF, if_neg e, find_none h w]
      rfl
section
variable {F : Fm} {fa : PM} {fl : LM} {c f : Str}
theorem imp_pFld (hc : ClsOk F.K F.mg c f) : ∀ σ H Q, tP F (pFld c f fa) σ H Q → tFld F.K (tP F fa) f σ H Q := fun σ H Q ⟨ρ, ts, d, a, e, k⟩ => by
  unfold pFld pOp1 at e
  split at e
  · rename_i x ex
    unfold opFld at e
    split at e
    · rename_i o c' fs vs
      split at e
      · rename_i hcc
        subst hcc
        refine ⟨ρ, ts, _, a, ex, fun v H1 g1 rx cx => ?_⟩
        cases rx with
        | obj g hH hfs l =>
          subst hfs
          obtain ⟨j, w, h1, h2, h3⟩ := lookF_at l e
          exact ⟨_, _, _, _, w, rfl, hH, (hc _ g).1, (hc _ g).2, h1, k w H1 g1 (l.get h2 h3) fun H2 g2 v1 d1 q hs => cx H2 g2 v1 d1 (.obj (g2 _ _ hH) h2 h3 q) hs⟩
      · cases e
    · cases e
  · cases e
theorem imp_lFld (hc : ClsOk F.K F.mg c f) : ∀ σ H Q, tL F (lFld fl c f) σ H Q → tFld F.K (tL F fl) f σ H Q := fun σ H Q ⟨ρ, ts, i, p', d0, d1, a, e, e0, e1, k⟩ => by
  unfold lFld at e
  split at e
  · rename_i i0 p el
    cases e
    rw [getP_append] at e1
    obtain ⟨d2, e2, e3⟩ := Option.bind_eq_some_iff.mp e1
    refine ⟨ρ, ts, _, p, d0, d2, a, el, e0, e2, fun v z H1 g1 hv pt => ?_⟩
    obtain ⟨v', hv', s2⟩ := (a.grow g1).slot (getD_some e0)
    rw [hv] at hv'
    cases hv'
    obtain ⟨cs, s3, _⟩ := focus s2 pt e2
    simp only [getP] at e3
    split at e3
    · rename_i d3 eg
      cases e3
      have eg0 := eg
      unfold getS at eg
      split at eg
      · rename_i j ej
        have ej0 := ej
        cases d2 with
        | obj o2 c' fs vs =>
          cases o2 with
          | false => simp [posS] at ej
          | true =>
            simp only [posS] at ej
            split at ej
            · rename_i hcc
              subst hcc
              obtain ⟨b, dx, C, fvs, rfl, h0, h1, h2, h3⟩ := s3.unO
              have hb := Sim.cell (rs := vals (fvs.map (·.2)) vs ++ (cs ++ (slotR σ (ρ.set i none) ++ ts))) h3
              subst h1
              obtain ⟨z, q1, q2, _⟩ := find_lookup ej
              exact ⟨b, C, dx, fvs, z, rfl, hb, (hc _ h0).1, (hc _ h0).2, q2, k v z H1 g1 hv (PathTo.append pt e2 ⟨_, _, ⟨b, .ins C dx fvs, j, rfl, hb, ej0, q1⟩, eg0, rfl⟩)⟩
            · cases ej
        | lst o2 _ => cases o2 <;> simp [posS] at ej
        | dic o2 _ _ _ => cases o2 <;> simp [posS] at ej
        | _ => simp [posS] at ej
      · cases eg
    · cases e3
  · cases e
end
section
variable {X : Cx} {vs0 : List V} {W : WX} {fa : PM} {fl : LM} {c f : Str} {e : Expr} {pos : Pos}
theorem p_fld (hc : ClsOk X.K X.mg c f) (ha : PE X e (tP (fm X vs0) fa)) (hb : attributeBase e f X.env (eval e X.env) = eval e X.env := by rfl) : PE X (.Attribute e f pos) (tP (fm X vs0) (pFld c f fa)) := (pe_fld ha hb).imp (imp_pFld hc)
theorem l_fld (hc : ClsOk X.K X.mg c f) (ha : PE X e (tL (fm X vs0) fl)) (hb : attributeBase e f X.env (eval e X.env) = eval e X.env := by rfl) : PE X (.Attribute e f pos) (tL (fm X vs0) (lFld fl c f)) := (pe_fld ha hb).imp (imp_lFld hc)
end

/-! ### o.f = value -/
def opSetF (c f : Str) (d v : D) : Option D := match d with
  | .obj true c' fs vs => if c' = c ∧ fs.length < 1000 ∧ fs.length = vs.length then
      (match fs.findIdx? (fun q => decide (q = f)) with
      | some j => some (.obj true c fs (vs.set j v))
      | none => some (.obj true c (fs ++ [f]) (vs ++ [v])))
    else none
  | _ => none
def sSetF (e : EM) (l : LM) (c f : Str) : SM := fun ρ => match e ρ with
  | some (v, ρ1) => match l ρ1 with
    | some (i, p) => match ρ1.getD i none with
      | some d0 => match getP p d0 with
        | some d1 => match opSetF c f d1 v with
          | some d1' => match putP p d0 d1' with
            | some d0' => some (.nx, ρ1.set i (some d0'))
            | none => none
          | none => none
        | none => none
      | none => none
    | none => none
  | none => none
theorem setF_ok {K : PySem.W.Frag} {mg : MG} {H : Hp} {z w : V} {d v d' : D} {c f : Str} {rs : List Rt} (s : Sim K mg H (.v z d :: .v w v :: rs)) (e : opSetF c f d v = some d') :
    ∃ a C dx fs, z = .ref a ∧ H a = some (.ins C dx fs) ∧ mg c = some (.ref C) ∧ fs.length < 1000 ∧ Sim K mg (upd H a (.ins C dx (putF f w fs))) (.v z d' :: rs) := by
  unfold opSetF at e
  split at e
  · rename_i c' fs vs
    split at e
    · rename_i hc
      obtain ⟨rfl, h1000, hlen⟩ := hc
      obtain ⟨a, dx, C, fvs, rfl, h0, h1, h2, h3⟩ := s.unO
      have hb := Sim.cell (rs := vals (fvs.map (·.2)) vs ++ (.v w v :: rs)) h3
      subst h1
      refine ⟨a, C, dx, fvs, rfl, hb, h0, by rw [List.length_map] at h1000; exact h1000, ?_⟩
      have s2 := Sim.write (rs := vals (fvs.map (·.2)) vs ++ (.v w v :: rs)) (o' := .ins C dx (putF f w fvs)) h3
      split at e
      · rename_i j hj
        cases e
        obtain ⟨z, q1, _, q3⟩ := find_lookup hj
        obtain ⟨q4, q5⟩ := q3 w
        have hjl : j < vs.length := by rw [← h2, ← List.length_map (f := (·.2)) (as := fvs)]; exact (List.getElem?_eq_some_iff.mp q1).1
        have e2 : vs[j]? = some (vs[j]'hjl) := List.getElem?_eq_getElem hjl
        have hx : (fvs.map (·.2)).length = vs.length := by rw [List.length_map]; exact h2
        have p1 := vals_erase hx q1 e2
        have p2 := vals_erase (xs := (fvs.map (·.2)).set j w) (ds := vs.set j v) (k := j) (x := w) (d := v) (by simpa using hx) (List.getElem?_set_self (by omega)) (List.getElem?_set_self hjl)
        rw [List.eraseIdx_set_eq, List.eraseIdx_set_eq] at p2
        have s3 : Sim K mg (upd H a (.ins C dx (putF f w fvs))) (.v z (vs[j]'hjl) :: (.c a (.ins C dx (putF f w fvs)) :: (vals ((putF f w fvs).map (·.2)) (vs.set j v) ++ rs))) := by
          refine s2.perm ?_
          rw [q5]
          refine List.Perm.trans (List.Perm.cons _ (List.Perm.append_right _ p1)) ?_
          refine List.Perm.trans (List.Perm.swap _ _ _) (List.Perm.cons _ (List.Perm.cons _ ?_))
          refine List.Perm.trans List.perm_middle ?_
          exact (List.Perm.append_right rs p2).symm
        exact Sim.foO (rs := rs) s3.tail h0 q4.symm (by rw [List.length_set, ← h2]; have := congrArg List.length q4; simpa using this)
      · rename_i hj
        cases e
        have q := find_none hj w
        refine Sim.foO (rs := rs) (dx := dx) (fvs := putF f w fvs) (s2.perm ?_) h0 (by rw [q, List.map_append]; rfl) (by rw [q, List.length_append, List.length_append, h2]; rfl)
        rw [q, List.map_append, vals_append (by rw [List.length_map]; exact h2)]
        simp [vals, List.append_assoc]
    · cases e
  · cases e
section
variable {F : Fm} {fl : LM} {c f : Str} {e : EM}
theorem imp_setF (hc : ClsOk F.K F.mg c f) : ∀ D' σ H, tS F (sSetF e fl c f) D' σ H → sFld F.K (tL F fl) (tD F e) f D' σ H := fun D' σ H ⟨ρ, ts, fz, ρ', a, q, k⟩ => by
  unfold sSetF at q
  split at q
  · rename_i v ρ1 ev
    split at q
    · rename_i i p el
      split at q
      · rename_i d0 e0
        split at q
        · rename_i d1 e1
          split at q
          · rename_i d1' e2
            split at q
            · rename_i d0' e3
              cases q
              refine ⟨ρ, ts, v, ρ1, a, ev, fun w H1 a1 => ⟨ρ1, _, i, p, d0, d1, a1, el, e0, e1, fun x z H2 g2 hx pt => ?_⟩⟩
              have a2 := a1.grow g2
              obtain ⟨x', hx', s2⟩ := a2.slot (getD_some e0)
              rw [hx] at hx'
              cases hx'
              obtain ⟨cs, s3, back⟩ := focus s2 pt e1
              have s4 : Sim F.K F.mg H2 (.v z d1 :: .v w v :: (cs ++ (slotR σ (ρ1.set i none) ++ ts))) := s3.perm (by
                refine List.Perm.cons _ ?_
                refine List.Perm.trans (List.Perm.append_left _ List.perm_middle) ?_
                exact List.perm_middle)
              obtain ⟨b, C, dx, fs, rfl, hb, hm, hl, s5⟩ := setF_ok s4 e2
              refine ⟨b, C, dx, fs, rfl, hb, (hc C hm).1, (hc C hm).2, hl, k σ _ ?_⟩
              have s6 := back _ d1' d0' _ e3 s5
              exact At.back (At.tail a2) hx s6
            · cases q
          · cases q
        · cases q
      · cases q
    · cases q
  · cases q
end
section
variable {X : Cx} {vs0 : List V} {W : WX} {fl : LM} {c f : Str} {e : EM} {o value : Expr} {pos pos' : Pos}
theorem s_fld (hc : ClsOk X.K X.mg c f) (hv : PE X value (tD (fm X vs0) e)) (ha : PE X o (tL (fm X vs0) fl)) (hs : swapsWith value (some (.Attribute o f pos')) pos.line X.env = pure false := by rfl) :
    PS X (.Assign [.Attribute o f pos'] value pos) (tS (fmW X vs0 W) (sSetF e fl c f)) := (ps_fld ha hv hs).imp (imp_setF hc)
end

/-! ### methods of one's own, making -/
structure ClM (P : Program) (w : World) (K : PySem.W.Frag) (mg : Str → Option Value) (base : Heap) (k : Nat) (c mn : Str) (m : FnM) : Prop where
  ex : ∃ (C f : Addr) (fd : FuncData) (ps : List Str), FnOk P w K mg base CX0 k f fd ps (spD K ⟨mg, w⟩ m) ∧ mg c = some (.ref C) ∧ Cls K C ∧ Meth K C mn f ∧ Binds K fd ps []
structure ClI (P : Program) (w : World) (K : PySem.W.Frag) (mg : Str → Option Value) (base : Heap) (k : Nat) (c : Str) (m : FnM) : Prop where
  ex : ∃ (C f : Addr) (fd : FuncData) (ps : List Str), FnOk P w K mg base CX0 k f fd ps (spD K ⟨mg, w⟩ m) ∧ mg c = some (.ref C) ∧ L2.Mk K C f ∧ Binds K fd ps []
def eMth (m : FnM) (c mn : Str) (i : Nat) (am : AM) : EM := fun ρ => match ρ.getD i none with
  | some (.obj true c' fs _) => if c' = c ∧ mn ∉ fs then eCall m (aS i am) ρ else none
  | _ => none
theorem lookup_none_of : ∀ {fvs : List (Str × V)} {f : Str}, f ∉ fvs.map (·.1) → fvs.lookup f = none
  | [], f, _ => rfl
  | (k, v) :: fvs, f, h => by
    simp only [List.map_cons, List.mem_cons, not_or] at h
    have e : (f == k) = false := by simpa using h.1
    rw [List.lookup_cons, e]
    exact lookup_none_of h.2
section
variable {F : Fm} {m : FnM} {c mn : Str} {i : Nat} {am : AM} {C : Addr} {E : XK}
theorem imp_mth (hC : F.mg c = some (.ref C)) : ∀ σ H Q, tD F (eMth m c mn i am) σ H Q → tMeth C mn (spD F.K F.mg m) [] E (tVar i) (tA F am) σ H Q := fun σ H Q ⟨ρ, ts, d, ρ', a, q, k⟩ => by
  unfold eMth at q
  split at q
  · rename_i c' fs vs e0
    split at q
    · rename_i hc
      obtain ⟨rfl, hmn⟩ := hc
      obtain ⟨v, hv, s0⟩ := a.slot (getD_some e0)
      obtain ⟨b, dx, C', fvs, rfl, h0, h1, h2, h3⟩ := s0.unO
      have hb := Sim.cell (rs := vals (fvs.map (·.2)) vs ++ (slotR σ (ρ.set i none) ++ ts)) h3
      rw [hC] at h0
      cases h0
      subst h1
      refine ⟨_, hv, b, dx, fvs, rfl, hb, lookup_none_of hmn, ?_⟩
      unfold eCall at q
      split at q
      · rename_i as ρ1 ha
        unfold aS at ha
        split at ha
        · split at ha
          · rename_i as' ρ2 ham
            cases ha
            refine ⟨ρ, ts, as', ρ1, a, ham, fun us H1 tm ar a1 => ?_⟩
            show spD F.K F.mg m (V.ref b :: (us ++ [])) H1 Q E
            rw [List.append_nil]
            exact callA_ok (.s hv ar) q a1 k
          · cases ha
        · cases ha
      · cases q
    · cases q
  · cases q
end
section
variable {X : Cx} {vs0 : List V} {W : WX} {k j : Nat} {c mn x : Str} {m : FnM} {am : AM} {e : Expr} {es : List Expr} {p apos pos : Pos} {pl : Sem Bool}
theorem e_mth (i : Nat) (cl : ClM X.prog X.w X.K X.mg X.base k c mn m) (hr : Room j X.A) (hk : k ≤ j) (ha : PA X (e :: es) (tA (fm X vs0) am)) (hN : X.N[i]? = some x := by rfl) (hv : Vis X.env.scope x := by first | exact Or.inl rfl | exact Or.inr (Or.inl rfl) | exact Or.inr (Or.inr rfl)) (hd : (x == ("__debug__" : Str)) = false := by decide)
    (hcd : (x == ("__classdict__" : Str)) = false := by decide) (hst : starEach (e :: es) X.env = (false, eval e X.env) :: starEach es X.env := by rfl) (hpl : (backTo pos (starEach es X.env)).any (·.1) = false := by rfl)
    (ht : eval (.Call (.Attribute (.Name x p) mn apos) (e :: es) [] pos) X.env = (do
      let ov ← eval (.Name x p) X.env
      standAt apos.atName
      let (f, first) ← holding [ov] (getMethod ov mn pl)
      callWith pos f first (backTo pos (starEach (e :: es) X.env)) (backToKw pos (keywordEach [] X.env))) := by rfl) :
    PE X (.Call (.Attribute (.Name x p) mn apos) (e :: es) [] pos) (tD (fm X vs0) (eMth m c mn i am)) := by
  obtain ⟨C, f, fd, ps, G, hm, hc, hM, hb⟩ := cl.ex
  exact (pe_meth (pv i hN hv hd hcd) hc hM G (hr.mono hk) hb .nil pass0 ha hst hpl ht).imp (imp_mth hm)
theorem e_mth0 (i : Nat) (cl : ClM X.prog X.w X.K X.mg X.base k c mn m) (hr : Room j X.A) (hk : k ≤ j) (hN : X.N[i]? = some x := by rfl) (hv : Vis X.env.scope x := by first | exact Or.inl rfl | exact Or.inr (Or.inl rfl) | exact Or.inr (Or.inr rfl)) (hd : (x == ("__debug__" : Str)) = false := by decide)
    (hcd : (x == ("__classdict__" : Str)) = false := by decide)
    (ht : eval (.Call (.Attribute (.Name x p) mn apos) [] [] pos) X.env = (do
      let ov ← eval (.Name x p) X.env
      standAt apos.atName
      let (f, first) ← holding [ov] (getMethod ov mn pl)
      callWith pos f first (backTo pos (starEach [] X.env)) (backToKw pos (keywordEach [] X.env))) := by rfl) :
    PE X (.Call (.Attribute (.Name x p) mn apos) [] [] pos) (tD (fm X vs0) (eMth m c mn i aNil)) := by
  obtain ⟨C, f, fd, ps, G, hm, hc, hM, hb⟩ := cl.ex
  refine (pe_meth0 (pv i hN hv hd hcd) hc hM G (hr.mono hk) hb .nil pass0 ht).imp fun σ H Q h => ?_
  obtain ⟨v, e0, b, dx, fs, h1, h2, h3, h4⟩ := imp_mth (F := fm X vs0) (E := E0) hm σ H Q h
  refine ⟨v, e0, b, dx, fs, h1, h2, h3, ?_⟩
  obtain ⟨ρ, ts, as, ρ', a, q, k'⟩ := h4
  cases q
  exact k' [] H [] .nil a
end
def eMk (m : FnM) (c : Str) (am : AM) : EM := fun ρ => match am ρ with
  | some (as, ρ1) => match takeA as ρ1 with
    | some (ds, ρ2) => match m (.obj true c [] [] :: ds) with
      | some (.non, d0 :: ds') => match putA as ds' ρ2 with
        | some ρ3 => some (d0, ρ3)
        | none => none
      | _ => none
    | none => none
  | none => none
section
variable {F : Fm} {m : FnM} {c : Str} {am : AM} {C : Addr} {E : XK}
theorem imp_mk (hC : F.mg c = some (.ref C)) : ∀ σ H Q, tD F (eMk m c am) σ H Q → tMake C (spD F.K F.mg m) [] E (tA F am) σ H Q := fun σ H Q ⟨ρ, ts, d, ρ', a, q, k⟩ => by
  unfold eMk at q
  split at q
  · rename_i as ρ1 ha
    split at q
    · rename_i ds ρ2 ht
      split at q
      · rename_i d0 ds' hm
        split at q
        · rename_i ρ3 hp
          cases q
          refine ⟨ρ, ts, as, ρ1, a, ha, fun vs H1 tm ar a1 x dx hx hdx hne => ?_⟩
          show spD F.K F.mg m (V.ref x :: (vs ++ [])) _ _ E
          rw [List.append_nil]
          have s0 := a1.sim.perm (rs' := tm ++ (slotR σ ρ1 ++ ts)) (by
            rw [← List.append_assoc, ← List.append_assoc]
            exact List.Perm.append_right _ List.perm_append_comm)
          obtain ⟨lo, lr, e1, e2, e3, s1⟩ := take_sim ar ht s0
          have s2 := (s1.alloc (o := .own x) hdx).keep
          have s3 := s2.alloc (a := x) (o := .ins C dx []) (by rw [upd_ne (Ne.symm hne)]; exact hx)
          have s4 : Sim F.K F.mg (upd (upd H1 dx (.own x)) x (.ins C dx [])) (.v (.ref x) (.obj true c [] []) :: (vals vs ds ++ (slotR σ ρ2 ++ (lo ++ ts)))) := Sim.foO (fvs := []) (ds := []) (rs := vals vs ds ++ (slotR σ ρ2 ++ (lo ++ ts))) s3 hC rfl rfl
          refine ⟨.obj true c [] [] :: ds, slotR σ ρ2 ++ (lo ++ ts), .non, d :: ds', by rw [List.length_cons, List.length_cons, e1], s4, hm, fun v H' s5 => ⟨(s5.rp).non_inv, k _ H' ?_⟩⟩
          have s6 : Sim F.K F.mg H' (.v (.ref x) d :: (vals vs ds' ++ (slotR σ ρ2 ++ (lo ++ ts)))) := s5.tail
          have s7 := s6.perm (rs' := vals vs ds' ++ (slotR σ ρ2 ++ (lo ++ (.v (.ref x) d :: ts)))) (by
            refine List.Perm.trans (List.perm_middle).symm ?_
            refine List.Perm.append_left _ (List.perm_middle.symm.trans ?_)
            exact List.Perm.append_left _ (List.perm_middle).symm)
          obtain ⟨f1, f2, f3⟩ := put_sim lr hp (by rw [e2, a1.lenR]; exact a1.lenS) (fun i d q => a1.fit i d (e3 i d q)) s7
          exact ⟨a1.lenS, by rw [f1, e2]; exact a1.lenR, f2, a1.par, f3⟩
        · cases q
      · cases q
    · cases q
  · cases q
end
section
variable {X : Cx} {vs0 : List V} {W : WX} {k j : Nat} {c : Str} {m : FnM} {am : AM} {e : Expr} {es : List Expr} {p pos : Pos}
theorem e_mk (cl : ClI X.prog X.w X.K X.mg X.base k c m) (hr : Room j X.A) (hk : k + 1 ≤ j) (ha : PA X (e :: es) (tA (fm X vs0) am)) (hg : Gl X c := by rfl) (hdb : (c == ("__debug__" : Str)) = false := by decide) (he : starEach (e :: es) X.env = (false, eval e X.env) :: starEach es X.env := by rfl) (hpl : (backTo pos (starEach es X.env)).any (·.1) = false := by rfl) :
    PE X (.Call (.Name c p) (e :: es) [] pos) (tD (fm X vs0) (eMk m c am)) := by
  obtain ⟨C, f, fd, ps, G, hm, hM, hb⟩ := cl.ex
  exact (pe_make hM G (hr.mono hk) hg hm hb .nil pass0 ha hdb he hpl).imp (imp_mk hm)
theorem e_mk0 (cl : ClI X.prog X.w X.K X.mg X.base k c m) (hr : Room j X.A) (hk : k + 1 ≤ j) (hg : Gl X c := by rfl) (hdb : (c == ("__debug__" : Str)) = false := by decide) :
    PE X (.Call (.Name c p) [] [] pos) (tD (fm X vs0) (eMk m c aNil)) := by
  obtain ⟨C, f, fd, ps, G, hm, hM, hb⟩ := cl.ex
  refine (pe_make0 hM G (hr.mono hk) hg hm hb .nil pass0 hdb).imp fun σ H Q h => ?_
  obtain ⟨ρ, ts, as, ρ', a, q, k'⟩ := imp_mk (F := fm X vs0) (E := E0) hm σ H Q h
  cases q
  exact k' [] H [] .nil a
end
/-- a def by its mirror -/
theorem fnOk_of {P : Program} {w : World} {K : PySem.W.Frag} {mg : Str → Option Value} {base : Heap} {x q : Str} {st : Stmt} {f : Addr} {fd : FuncData} {N ps : List Str} {k na np : Nat} {body : SM} (F : Fun K x q st f fd) (S : FnScope N ps (defScope st))
    (hps : ps.length = na) (hn : na ≤ N.length) (hp : np ≤ na)
    (hbody : ∀ (cdv : Value) (A : Around) (outer : List Env) (s : Shared) (H : Hp) (E : XK) (vs0 : List V), Room k (A.deeper (envOfC q (defScope st) s.heap.objs.size f cdv)) → (∀ i, np ≤ i → vs0.length ≤ i) → vs0.length = np →
      PSs (cxOf CX0 P w K mg base N q (defScope st) f cdv A outer s H E).nox (defBody st) (tS (fmk K ⟨mg, w⟩ vs0 N.length) body)) : FnOk P w K mg base CX0 (k + 1) f fd ps (spD K ⟨mg, w⟩ (fnM na np N.length body)) :=
  F.ok S (fun vs H Q E h => by rw [hps]; exact fn_len h) fun cdv A outer s H vs Q E hr h =>
    ⟨_, PSs.nox (hbody cdv A outer s H E (vs.take np) hr (fun i hi => by rw [List.length_take]; omega) (by rw [List.length_take, fn_len h]; omega)), fn_in hn hp h⟩
end Dl

set_option Elab.async false
set_option linter.all false
set_option maxRecDepth 100000
set_option maxHeartbeats 1000000
/-! DL28: d.pop(k), l.remove(text or number). -/
namespace Dl
open PySem PySem.Spec PyProof.Rows L2

def mDPop : D → List D → Option (D × D)
  | .dic true .k ks vs, [q] => if q.key.isSome = true then (match ks.findIdx? (fun z => decide (z = q)) with
      | some j => match vs[j]? with
        | some v => if (ks.eraseIdx j).all (fun z => decide (z ≠ q)) = true then some (.dic true .k (ks.eraseIdx j) (vs.eraseIdx j), v) else none
        | none => none
      | none => none) else none
  | _, _ => none
def rDPopK : V → List V → Hp → VK → Prop := fun x xs H Q => ∃ (a : Addr) (kvs : List (Key × V)) (k : Key) (v : V), x = .ref a ∧ xs = [kV k] ∧ H a = some (.dK kvs) ∧ valV kvs k = some v ∧ Q v (upd H a (.dK (dropK kvs k)))
theorem mtd_pop {X : Cx} : MtR X "dict.pop" rDPopK := by
  intro pins s σ H x xs v us Q I rx rxs h
  obtain ⟨a, kvs, k, w, rfl, rfl, ha, hv, q⟩ := h
  cases rx
  obtain ⟨u, rfl, ru⟩ := rxs.one
  exact d_pop I ha ru hv (.inl rfl) fun w' s' I' rw' => ⟨w, _, I', rw', q⟩
theorem map_erase {α β : Type} (f : α → β) : ∀ (l : List α) (j : Nat), (l.eraseIdx j).map f = (l.map f).eraseIdx j
  | [], _ => rfl
  | _ :: _, 0 => rfl
  | a :: l, j + 1 => by simp [map_erase f l j]
theorem drop_erase : ∀ {kvs : List (Key × V)} {k : Key} {j : Nat}, (kvs.map fun p => kyD p.1).findIdx? (fun z => decide (z = kyD k)) = some j → ((kvs.map fun p => kyD p.1).eraseIdx j).all (fun z => decide (z ≠ kyD k)) = true → dropK kvs k = kvs.eraseIdx j := by
  intro kvs
  induction kvs with
  | nil => intro k j h _; simp at h
  | cons p kvs ih =>
    intro k j h ha
    rw [List.map_cons, List.findIdx?_cons] at h
    by_cases e : kyD p.1 = kyD k
    · simp only [e, decide_true] at h
      cases h
      have e' := kyD_inj e
      simp only [List.map_cons, List.eraseIdx_cons_zero] at ha ⊢
      unfold dropK
      rw [List.filter_cons, if_neg (by simp [e'])]
      refine List.filter_eq_self.mpr fun q hq => ?_
      have := List.all_eq_true.mp ha (kyD q.1) (List.mem_map.mpr ⟨q, hq, rfl⟩)
      simp only [decide_eq_true_eq, ne_eq] at this
      simpa using fun z : q.1 = k => this (by rw [z])
    · simp only [e, decide_false, Bool.false_eq_true, if_false, Option.map_eq_some_iff] at h
      obtain ⟨j', h', rfl⟩ := h
      simp only [List.map_cons, List.eraseIdx_cons_succ, List.all_cons, Bool.and_eq_true] at ha ⊢
      have := ih h' ha.2
      unfold dropK at this ⊢
      rw [List.filter_cons, if_pos (by simpa using fun z : p.1 = k => e (by rw [z])), this]
section
variable {K : PySem.W.Frag} {mg : MG}
theorem ty_dpop : TyR K mg "dict" mDPop := fun x d ds q H rs s e => by
  have r := s.rp
  unfold mDPop at e
  split at e
  · rename_i ks vs w
    cases r with
    | dk h _ _ =>
      rcases h with h | ⟨o, h⟩
      · exact .inr (.inr (.inl ⟨rfl, .inl ⟨_, h⟩⟩))
      · obtain ⟨b, kvs, hb, h1, h2, h3⟩ := s.unDk
        cases hb
        have hc := Sim.cell (rs := vals (kvs.map (·.2)) vs ++ rs) h3
        rw [h] at hc
        cases hc
  · cases e
theorem rm_dpop : RmD K mg rDPopK mDPop := fun x d vs ds d' res H Q rs s hl e k => by
  unfold mDPop at e
  split at e
  · rename_i ks es q
    split at e
    · rename_i hk
      split at e
      · rename_i j hj
        split at e
        · rename_i v hv
          split at e
          · rename_i ha
            cases e
            obtain ⟨key, ek⟩ := Option.isSome_iff_exists.mp hk
            have e0 := key_kyD ek
            subst e0
            obtain ⟨w, rfl⟩ : ∃ w, vs = [w] := List.length_eq_one_iff.mp hl
            obtain ⟨a, kvs, rfl, h1, h2, s1⟩ := s.unDk
            subst h1
            have s1' : Sim K mg H (.c a (.dK kvs) :: (vals (kvs.map (·.2)) es ++ (.v w (kyD key) :: rs))) := s1
            have hc := Sim.cell (rs := vals (kvs.map (·.2)) es ++ (.v w (kyD key) :: rs)) s1'
            have rw' : Rp K mg H w (kyD key) := Sim.rp (rs := .c a (.dK kvs) :: (vals (kvs.map (·.2)) es ++ rs)) (s1'.perm (by
              refine List.Perm.trans (List.Perm.cons _ ?_) (List.Perm.swap _ _ _)
              exact List.perm_middle))
            have ew := rw'.ky
            subst ew
            have hjl := (List.getElem?_eq_some_iff.mp hv).1
            have hz : (kvs.map (·.2))[j]? = some ((kvs.map (·.2))[j]'(by rw [List.length_map]; omega)) := List.getElem?_eq_getElem (by rw [List.length_map]; omega)
            have hval := valV_find (fun _ _ h => kyD_inj h) hj hz
            have hd := drop_erase hj ha
            refine ⟨a, kvs, key, _, rfl, rfl, hc, hval, k _ _ ?_⟩
            rw [hd]
            have p1 := vals_erase (by rw [List.length_map]; exact h2) hz hv
            have s2 := Sim.write (o' := .dK (kvs.eraseIdx j)) s1'
            have s3 : Sim K mg (upd H a (.dK (kvs.eraseIdx j))) (.v (kV key) (kyD key) :: (.v ((kvs.map (·.2))[j]'(by rw [List.length_map]; omega)) res :: (.c a (.dK (kvs.eraseIdx j)) :: (vals ((kvs.eraseIdx j).map (·.2)) (es.eraseIdx j) ++ rs)))) := by
              refine s2.perm ?_
              rw [map_erase]
              refine List.Perm.trans (List.Perm.cons _ (List.Perm.trans List.perm_middle (List.Perm.cons _ (List.Perm.append_right _ p1)))) ?_
              refine List.Perm.trans (List.Perm.swap _ _ _) (List.Perm.cons _ ?_)
              exact List.Perm.swap _ _ _
            have s4 := s3.tail
            have s5 := s4.perm (rs' := .c a (.dK (kvs.eraseIdx j)) :: (vals ((kvs.eraseIdx j).map (·.2)) (es.eraseIdx j) ++ (.v ((kvs.map (·.2))[j]'(by rw [List.length_map]; omega)) res :: rs))) (by
              refine List.Perm.trans (List.Perm.swap _ _ _) (List.Perm.cons _ ?_)
              exact (List.perm_middle).symm)
            have s6 := Sim.foDk (ks := (kvs.map fun p => kyD p.1).eraseIdx j) s5 (map_erase _ _ _).symm (by rw [List.length_eraseIdx, List.length_eraseIdx, h2])
            exact s6.perm (List.Perm.swap _ _ _)
          · cases e
        · cases e
      · cases e
    · cases e
  · cases e
end

/-! ### l.remove(text) -/
def eqks (k : Str) (v : Value) : Bool := match v with
  | .str n _ => n.cps.toList == k.cps.toList
  | _ => false
theorem eqks_gives {k : Str} {t : Tok} : ∀ {us : List Value} {ns : List Str}, StrsAre us ns → ∀ y ∈ us, MeetsSeq.EqGives y (.str k t) (eqks k y)
  | _, _, .nil => fun y hy => by cases hy
  | _, _, .cons n t' h => fun y hy => by
    rcases List.mem_cons.mp hy with e | e
    · rw [e]
      exact SeqRoads2.EqGives.str n k t' t
    · exact eqks_gives h y e
theorem first_of {α : Type} [DecidableEq α] : ∀ {ns : List α} {k : α}, k ∈ ns → ∃ j, j < ns.length ∧ ns[j]? = some k ∧ (∀ i, i < j → ns[i]? ≠ some k) ∧ ns.eraseIdx j = ns.erase k
  | [], k, h => absurd h (by simp)
  | a :: r, k, h => by
    by_cases e : a = k
    · refine ⟨0, Nat.succ_pos _, by rw [e] <;> rfl, fun i hi => absurd hi (Nat.not_lt_zero _), ?_⟩
      rw [e, List.erase_cons_head] <;> rfl
    · have hr : k ∈ r := by
        rcases List.mem_cons.mp h with z | z
        · exact absurd z.symm e
        · exact z
      obtain ⟨j, h1, h2, h3, h4⟩ := first_of hr
      refine ⟨j + 1, Nat.succ_lt_succ h1, h2, fun i hi => ?_, ?_⟩
      · cases i with
        | zero =>
          intro z
          exact e (Option.some.inj z)
        | succ i => exact h3 i (Nat.lt_of_succ_lt_succ hi)
      · rw [List.erase_cons_tail (by rw [beq_iff_eq]; exact e), ← h4] <;> rfl
def rRemS : V → List V → Hp → VK → Prop := fun x xs H Q => ∃ (l : Addr) (ns : List Str) (k : Str) (j : Nat), x = .ref l ∧ xs = [.str k] ∧ H l = some (.lst (ns.map V.str)) ∧ ns[j]? = some k ∧ (∀ m : Nat, m < j → ns[m]? ≠ some k) ∧ Q .non (upd H l (.lst ((ns.eraseIdx j).map V.str)))
theorem mt_removeS {X : Cx} : MtR X "list.remove" rRemS := by
  intro pins s σ H x xs v us Q I rx rxs h
  obtain ⟨l, ns, k, j, rfl, rfl, hH, hj, hno, q⟩ := h
  cases rx
  obtain ⟨u, rfl, ru⟩ := rxs.one
  obtain ⟨t, rfl⟩ := ru
  obtain ⟨z, its, n, r, hl, e⟩ := I.lstM hH
  have hi := strs_of_vals r
  rw [List.length_map] at hl z
  have hjn : j < ns.length := (List.getElem?_eq_some_iff.mp hj).1
  have hjl : j < its.toArray.size := by rw [List.size_toArray]; omega
  refine call_meets PySem.F.slot_list_remove ⟨_, e, rfl⟩ PySem.F.entry_list_remove (PySem.F.args_list_remove_2 _ _)
    (MeetsSeq.list_remove l its.toArray n (.str k t) (eqks k) (fun y hy => eqks_gives hi y (by simpa using hy)) j hjl ?_ ?_ (by rw [List.size_toArray]; omega)) ⟨e, ?_⟩
  · obtain ⟨tj, hjt⟩ := hi.get j k hj
    obtain ⟨h1, h2⟩ := List.getElem?_eq_some_iff.mp hjt
    have e1 : its.toArray[j] = .str k tj := by simpa using h2
    rw [e1]
    exact beq_self_eq_true k.cps.toList
  · intro m hm hmj
    have hmn : m < ns.length := by omega
    obtain ⟨tm, hmt⟩ := hi.get m _ (List.getElem?_eq_getElem hmn)
    obtain ⟨h1, h2⟩ := List.getElem?_eq_some_iff.mp hmt
    have e1 : its.toArray[m] = .str ns[m] tm := by simpa using h2
    rw [e1]
    refine beq_eq_false_iff_ne.mpr fun e2 => hno m hmj ?_
    have e3 : ns[m] = k := by
      have e4 := Array.toList_inj.mp e2
      cases k
      generalize ns[m] = y at e4
      cases y
      exact congrArg Str.mk e4
    rw [List.getElem?_eq_getElem hmn, e3]
  · have rr := r.eraseIdx j
    rw [← map_erase] at rr
    refine ⟨.non, _, I.lset (its' := its.eraseIdx j) (t' := s.toks) hH e ?_ rr ?_, rfl, q⟩
    · show its.toArray.eraseIdxIfInBounds j = (its.eraseIdx j).toArray
      rw [List.eraseIdxIfInBounds_toArray]
    · have z2 := len_erase ns j
      rw [List.length_map]
      omega
theorem strsL_eq : ∀ {ds : List D} {l : List Str}, strsL ds = some l → ds = l.map D.str
  | [], l, h => by simp [strsL] at h; subst h; rfl
  | d :: ds, l, h => by
    cases d <;> simp only [strsL, reduceCtorEq] at h
    split at h
    · rename_i l' h'
      cases h
      rw [strsL_eq h']
      rfl
    · cases h
def mRemove : D → List D → Option (D × D)
  | .lst true ds, [.str q] => match strsL ds with
    | some l => if q ∈ l then some (.lst true ((l.erase q).map D.str), .non) else none
    | none => none
  | _, _ => none
section
variable {K : PySem.W.Frag} {mg : MG}
theorem ty_remove : TyR K mg "list" mRemove := fun x d ds q H rs s e => by
  have r := s.rp
  unfold mRemove at e; split at e
  · exact tyV_lst r
  · cases e
theorem rm_remove : RmD K mg rRemS mRemove := fun x d vs ds d' res H Q rs s hl e k => by
  unfold mRemove at e
  split at e
  · rename_i es q
    split at e
    · rename_i l hs
      split at e
      · rename_i hq
        cases e
        obtain ⟨w, rfl⟩ : ∃ w, vs = [w] := List.length_eq_one_iff.mp hl
        obtain ⟨a, xs, rfl, hx, hc, s1⟩ := s.unL'
        have s1' : Sim K mg H (.c a (.lst xs) :: (vals xs es ++ (.v w (.str q) :: rs))) := s1
        have rw' : Rp K mg H w (.str q) := Sim.rp (rs := .c a (.lst xs) :: (vals xs es ++ rs)) (s1'.perm (by
          refine List.Perm.trans (List.Perm.cons _ ?_) (List.Perm.swap _ _ _)
          exact List.perm_middle))
        obtain rfl := rw'.str_inv
        have rl := vals_rpL hx (Sim.tail (rs := vals xs es ++ (.v (.str q) (.str q) :: rs)) s1')
        have exs := rl.strs hs
        have ees := strsL_eq hs
        subst exs
        subst ees
        obtain ⟨j, h1, h2, h3, h4⟩ := first_of hq
        refine ⟨a, l, q, j, rfl, rfl, hc, h2, h3, k _ _ (Sim.non ?_)⟩
        rw [← h4]
        have p1 := vals_erase (xs := l.map V.str) (ds := l.map D.str) (k := j) (x := .str q) (d := .str q) (by simp) (by simp [h2]) (by simp [h2])
        rw [← map_erase, ← map_erase] at p1
        refine s1'.setL (r0 := [.v (.str q) (.str q), .v (.str q) (.str q)]) (ys := (l.eraseIdx j).map V.str) (es := (l.eraseIdx j).map D.str) ?_ (by simp)
        refine List.Perm.trans List.perm_middle (List.Perm.cons _ ?_)
        exact List.Perm.append_right _ p1
      · cases e
    · cases e
  · cases e
end
end Dl

set_option Elab.async false
set_option linter.all false
set_option maxRecDepth 100000
set_option maxHeartbeats 1000000
/-! DL29: tuples read alone; blocks over a list that stays owned (reading alone); a place frozen. -/
namespace Dl
open PySem PySem.Spec PyProof.Rows L2

def pTup (fs : List PM) : PM := fun ρ => match pAll fs ρ with
  | some ds => if immL ds = true ∧ ds.length ≤ 1000 then some (.tup ds) else none
  | none => none
section
variable {X : Cx} {vs0 : List V} {W : WX} {pos : Pos} {F : Fm} {fs : List PM}
theorem p_tup {es : List Expr} {x1} (h : PA X es (tAP (fm X vs0) fs)) : PE X (.Tuple es x1 pos) (tP (fm X vs0) (pTup fs)) := (pe_tup h).imp fun σ H Q ⟨ρ, ts, d, a, e, k⟩ => by
  unfold pTup at e
  split at e
  · rename_i ds ha
    split at e
    · rename_i hz
      cases e
      refine ⟨ρ, ts, ds, a, ha, fun vs H1 g1 rl => ⟨by rw [rl.length]; exact small_line hz.2, fun p hp => ?_⟩⟩
      have a1 : At (fm X vs0) σ H1 ρ (vals vs ds ++ ts) := (a.grow g1).of_front (by
        have := ((a.grow g1).front).imms rl hz.1
        rwa [← List.append_assoc] at this)
      have a2 := a1.newT rl.length hp
      have g2 := same_upd (o := .tup vs) hp
      exact k _ _ (g1.trans g2) (a2.front).rp (Cj.of a2)
    · cases e
  · cases e
end
/-- [e for x in l], l a list or tuple of immutable things that may be owned; e reads alone -/
def eCompQ (it : PM) (g : GM) (e : PM) (vs : List Nat) : EM := fun ρ => match it ρ with
  | some d => match itemsD d with
    | some ds => if immL ds = true then compE g bYes (eP e) vs ds ρ else none
    | none => none
  | none => none
section
variable {F : Fm} {g : GM} {gt : TG} {e : PM} {vs : List Nat}
theorem compQ_turns {J : It} {σ : L2.St} {H1 : Hp} {ρ : DEnv} {ts : List Rt} {ds : List D} {ys : List D} {ρ' : DEnv} {D0 : Addr} {Qd : Hp → Prop} (hgt : GtOk F g gt vs) (hv : ∀ i ∈ vs, F.vs0.length ≤ i) (a : At F σ H1 ρ ts) (hD : H1 D0 = none)
    (hz : ds.length ≤ sizeLine) (q : compL g bYes (eP e) vs ds (wipeD ρ vs) = some (ys, ρ')) (him : immL ds = true)
    (hgo : ∀ i H, i < ds.length → Same H1 H → J.go i H) (hst : ∀ H, Same H1 H → J.stop ds.length H)
    (hy : ∀ i x H H' (hi : i < ds.length), Same H1 H → J.yld i H x H' → H' = H ∧ Rp F.K F.mg H x ds[i])
    (hd : ∀ H, At F σ H ρ' (.v (.ref D0) (.lst true ys) :: ts) → Qd H) :
    ∃ W : Nat → Nat → Hp → Prop, (∃ m, W 0 m (upd H1 D0 (.lst []))) ∧ ∀ i m H, W i m H → (J.stop i H ∧ Qd H) ∨ (J.go i H ∧ ∃ Nx : Hp → Prop, (∀ H', Nx H' → ∃ m', m' < m ∧ W (i + 1) m' H') ∧ ∀ x H', J.yld i H x H' → gt x (wipe σ vs) H' fun σ2 H2 => wipe σ2 vs = wipe σ vs ∧ tYes σ2 H2 fun b H3 =>
      if b = true then tP F e σ2 H3 fun y H4 => ∃ acc, H4 D0 = some (.lst acc) ∧ acc.length < sizeLine ∧ Nx (upd H4 D0 (.lst (acc ++ [y]))) else Nx H3) := by
  refine ⟨fun i m H => m = ds.length - i ∧ i ≤ ds.length ∧ ∃ ρ zs rest, At F (wipe σ vs) H ρ (.v (.ref D0) (.lst true zs) :: ts) ∧ compL g bYes (eP e) vs (ds.drop i) ρ = some (rest, ρ') ∧ zs ++ rest = ys ∧ zs.length ≤ i ∧ Same H1 H, ⟨ds.length, by simp, Nat.zero_le _, wipeD ρ vs, [], ys, ?_, q, rfl, Nat.le_refl _, same_upd hD⟩, ?_⟩
  · exact (a.wiped hv).newL (xs := []) (ds := []) rfl hD
  rintro i m H ⟨rfl, hi, ρ1, zs, rest, b, hc, hr, hzl, hS⟩
  by_cases hlt : i < ds.length
  · refine .inr ⟨hgo i H hlt hS, fun H => ∃ ρ zs rest, At F (wipe σ vs) H ρ (.v (.ref D0) (.lst true zs) :: ts) ∧ compL g bYes (eP e) vs (ds.drop (i + 1)) ρ = some (rest, ρ') ∧ zs ++ rest = ys ∧ zs.length ≤ i + 1 ∧ Same H1 H, fun H' p => ⟨ds.length - (i + 1), by omega, rfl, hlt, p⟩, fun x H' y => ?_⟩
    obtain ⟨rfl, rx⟩ := hy i x H H' hlt hS y
    have him' : ds[i].imm = true := by rw [immL_all] at him; exact List.all_eq_true.mp him _ (List.getElem_mem hlt)
    have b1 : At F (wipe σ vs) H' ρ1 (.v x ds[i] :: .v (.ref D0) (.lst true zs) :: ts) := b.imm rx him'
    rw [List.drop_eq_getElem_cons hlt] at hc
    simp only [compL] at hc
    split at hc
    · rename_i ρ2 hg
      refine hgt x _ _ _ _ ρ2 _ _ b1 hg fun σ2 b2 hw => ⟨by rw [hw, wipe_wipe], ?_⟩
      have hw2 : wipe σ2 vs = wipe σ vs := by rw [hw, wipe_wipe]
      unfold tYes
      dsimp only
      rw [if_pos rfl]
      simp only [bYes] at hc
      split at hc
      · rename_i y' ρ4 he
        split at hc
        · rename_i ys' ρ5 h5
          cases hc
          have he2 : e ρ2 = some y' ∧ y'.stable = true ∧ ρ4 = ρ2 := by
            unfold eP at he
            split at he
            · rename_i d0 e0
              split at he
              · rename_i hs
                cases he
                exact ⟨e0, hs, rfl⟩
              · cases he
            · cases he
          obtain ⟨he3, hys, rfl⟩ := he2
          refine ⟨ρ4, _, y', b2, he3, fun v H4 g4 rv cv => ?_⟩
          have b4 := cv.now hys
          have s4 : Sim F.K F.mg H4 (.v (.ref D0) (.lst true zs) :: .v v y' :: (ts ++ slotR σ2 ρ4)) := (b4.front).perm (.swap _ _ _)
          obtain ⟨a0, acc, e0, hl, s5⟩ := s4.unL
          cases e0
          refine ⟨acc, s5.cell, by omega, wipeD ρ4 vs, zs ++ [y'], ys', ?_, h5, by rw [List.append_assoc]; exact hr, by rw [List.length_append, List.length_singleton]; omega, fun c o hc => ?_⟩
          · have s6 := s5.write (o' := .lst (acc ++ [v]))
            have s7 : Sim F.K F.mg (upd H4 D0 (.lst (acc ++ [v]))) (.c D0 (.lst (acc ++ [v])) :: vals (acc ++ [v]) (zs ++ [y']) ++ (ts ++ slotR σ2 ρ4)) := s6.perm (by
              rw [vals_append hl]
              show (Rt.c D0 _ :: (vals acc zs ++ (.v v y' :: (ts ++ slotR σ2 ρ4)))).Perm (Rt.c D0 _ :: (vals acc zs ++ [.v v y']) ++ (ts ++ slotR σ2 ρ4))
              simp)
            have s8 := s7.foL (by rw [List.length_append, List.length_append, hl]; rfl)
            have b5 : At F σ2 (upd H4 D0 (.lst (acc ++ [v]))) ρ4 (.v (.ref D0) (.lst true (zs ++ [y'])) :: ts) := b4.of_front s8
            have b6 := b5.wiped hv
            rw [hw2] at b6
            exact b6
          · rw [upd_ne (ne_of_none hc hD)]
            exact g4 _ _ (hS _ _ hc)
        · cases hc
      · cases hc
    · cases hc
  · have e : i = ds.length := by omega
    subst e
    rw [List.drop_length] at hc
    simp only [compL] at hc
    cases hc
    rw [List.append_nil] at hr
    subst hr
    exact .inl ⟨hst H hS, hd H (At.unwiped a.lenS a.par b)⟩
theorem imp_compQ {it : PM} (hgt : GtOk F g gt vs) (hv : ∀ i ∈ vs, F.vs0.length ≤ i) : ∀ σ H Q, tD F (eCompQ it g e vs) σ H Q → tLc (iSeq F.K (tP F it)) gt tYes (tP F e) vs σ H Q := fun σ H Q ⟨ρ, ts, d, ρ', a, q, k⟩ => by
  unfold eCompQ at q
  split at q
  · rename_i d0 he
    split at q
    · rename_i ds hd
      split at q
      · rename_i him
        obtain ⟨hz, ys, rfl, hc⟩ := compE_some q
        refine ⟨ρ, ts, d0, a, he, fun v H1 g1 r1 _ => ?_⟩
        have a1 := a.grow g1
        cases d0 with
        | lst o es =>
          cases hd
          obtain ⟨b, us, rfl, hu, l⟩ := r1.lst_inv
          refine ⟨b, rfl, .inl ⟨⟨us, SqL.of hu⟩, fun D0 hD0 => ?_⟩⟩
          refine compQ_turns hgt hv a1 hD0 hz hc him (fun i H hi hS => ⟨us, us[i]'(by rw [l.length]; exact hi), SqL.of (hS _ _ hu), List.getElem?_eq_getElem _⟩) (fun H hS => ⟨us, SqL.of (hS _ _ hu), by rw [l.length]; exact Nat.le_refl _⟩) (fun i x H H' hi hS y => ?_) (fun H b => k _ H b)
          obtain ⟨e1, e2⟩ := y
          exact ⟨e1, (l.grow hS).get (e2 us (SqL.of (hS _ _ hu))) (List.getElem?_eq_getElem hi)⟩
        | tup es =>
          cases hd
          obtain ⟨b, us, rfl, hu, l⟩ := r1.tup_inv
          refine ⟨b, rfl, .inr ⟨⟨us, SqT.of hu⟩, fun D0 hD0 => ?_⟩⟩
          refine compQ_turns hgt hv a1 hD0 hz hc him (fun i H hi hS => ⟨us, us[i]'(by rw [l.length]; exact hi), SqT.of (hS _ _ hu), List.getElem?_eq_getElem _⟩) (fun H hS => ⟨us, SqT.of (hS _ _ hu), by rw [l.length]; exact Nat.le_refl _⟩) (fun i x H H' hi hS y => ?_) (fun H b => k _ H b)
          obtain ⟨e1, e2⟩ := y
          exact ⟨e1, (l.grow hS).get (e2 us (SqT.of (hS _ _ hu))) (List.getElem?_eq_getElem hi)⟩
        | _ => cases hd
      · cases q
    · cases q
  · cases q
end
section
variable {X : Cx} {vs0 : List V} {W : WX} {pos : Pos} {g : GM} {e : PM} {tg elt : Expr} {scope : Scope} {own : List (Str × Nat)} {gt : TG}
theorem e_compQ {l : Expr} {it : PM} (hc : X.calm = true) (hN : X.N.Nodup) (hl : PE X l (tP (fm X vs0) it)) (ok : BlkOk X.N X.env.scope scope own) (hgt : GtOk (fm X vs0) g gt (own.map (·.2))) (hv : ∀ i ∈ own.map (·.2), vs0.length ≤ i)
    (hg : ∀ (s : Shared) (H : Hp) (C : Addr) (cl : List (Str × Addr)) (fp : List Addr), PG (X.blk s H scope (compEnvC scope cl C X.env) fp) tg gt)
    (he : ∀ (s : Shared) (H : Hp) (C : Addr) (cl : List (Str × Addr)) (fp : List Addr), PE (X.blk s H scope (compEnvC scope cl C X.env) fp) elt (tP (fm X vs0) e)) (hs : ∀ x, foldedSetIterable l X.env x = pure x := by intro _; rfl) :
    PE X (.ListComp elt [⟨tg, l, [], 0⟩] scope pos) (tD (fm X vs0) (eCompQ it g e (own.map (·.2)))) := (pe_lc hc hN (pi_seq hl) ok hg (fun _ _ _ _ _ => pts_nil) he hs).imp (imp_compQ (F := fm X vs0) hgt hv)
theorem s_compQ {y : Str} {py spos : Pos} {l : Expr} {it : PM} (i : Nat) (hp : vs0.length ≤ i) (hc : X.calm = true) (hN : X.N.Nodup) (hl : PE X l (tP (fm X vs0) it)) (ok : BlkOk X.N X.env.scope scope own) (hgt : GtOk (fm X vs0) g gt (own.map (·.2))) (hv : ∀ i ∈ own.map (·.2), vs0.length ≤ i)
    (hg : ∀ (s : Shared) (H : Hp) (C : Addr) (cl : List (Str × Addr)) (fp : List Addr), PG (X.blk s H scope (compEnvC scope cl C X.env) fp) tg gt)
    (he : ∀ (s : Shared) (H : Hp) (C : Addr) (cl : List (Str × Addr)) (fp : List Addr), PE (X.blk s H scope (compEnvC scope cl C X.env) fp) elt (tP (fm X vs0) e)) (hsw : swapsWith (.ListComp elt [⟨tg, l, [], 0⟩] scope pos) (some (.Name y py)) spos.line X.env = pure true) (hy : X.N[i]? = some y := by rfl) (hyl : X.env.scope.names.lookup y = some .local := by rfl)
    (hs : ∀ x, foldedSetIterable l X.env x = pure x := by intro _; rfl) : PS X (.Assign [.Name y py] (.ListComp elt [⟨tg, l, [], 0⟩] scope pos) spos) (tS (fmW X vs0 W) (sAsg (eCompQ it g e (own.map (·.2))) (gN i))) :=
  (ps_setLc hc hN hy hyl hsw (pi_seq hl) ok hg (fun _ _ _ _ _ => pts_nil) he hs).imp (imp_setLc hp (List.getElem?_eq_some_iff.mp hy).1 (imp_compQ (F := fm X vs0) hgt hv))
end

/-! ### a place frozen -/
def eFrL (l : LM) : EM := fun ρ => match l ρ with
  | some (i, p) => match ρ.getD i none with
    | some d0 => match getP p d0 with
      | some d1 => match putP p d0 d1.frz with
        | some d0' => some (d1.frz, ρ.set i (some d0'))
        | none => none
      | none => none
    | none => none
  | none => none
section
variable {F : Fm} {fl : LM}
theorem imp_frL : ∀ σ H Q, tD F (eFrL fl) σ H Q → tL F fl σ H Q := fun σ H Q ⟨ρ, ts, d, ρ', a, q, k⟩ => by
  unfold eFrL at q
  split at q
  · rename_i i p el
    split at q
    · rename_i d0 e0
      split at q
      · rename_i d1 e1
        split at q
        · rename_i d0' e3
          cases q
          refine ⟨ρ, ts, i, p, d0, d1, a, el, e0, e1, fun v z H1 g1 hv pt => k z H1 ?_⟩
          have a1 := a.grow g1
          obtain ⟨v', hv', s2⟩ := a1.slot (getD_some e0)
          rw [hv] at hv'
          cases hv'
          obtain ⟨cs, s3, back⟩ := focus s2 pt e1
          have s4 := (s3.frz).dup (D.stable_frz d1)
          have s5 : Sim F.K F.mg H1 (.v z d1.frz :: (cs ++ (.v z d1.frz :: (slotR σ (ρ.set i none) ++ ts)))) := s4.perm (List.Perm.cons _ (List.perm_middle).symm)
          have s6 := back H1 d1.frz d0' _ e3 s5
          exact At.back a1 hv (s6.perm (List.Perm.cons _ (List.perm_middle).symm))
        · cases q
      · cases q
    · cases q
  · cases q
end
theorem e_frL {X : Cx} {vs0 : List V} {fl : LM} {e : Expr} (h : PE X e (tL (fm X vs0) fl)) : PE X e (tD (fm X vs0) (eFrL fl)) := h.imp imp_frL
end Dl

set_option Elab.async false
set_option linter.all false
set_option maxRecDepth 100000
set_option maxHeartbeats 1000000
/-! DL30: methods of texts, blocks over a text's signs, dicts of the module (text keys, numbers). -/
namespace Dl
open PySem PySem.Spec PyProof.Rows L2

/-! ### methods of texts -/
def RsD (K : PySem.W.Frag) (mg : MG) (r : V → List V → Hp → VK → Prop) (op : D → List D → Option D) : Prop :=
  ∀ (x : V) (vs : List V) (H : Hp) (d0 : D) (ds : List D) (d : D) (Q : VK), Rp K mg H x d0 → RpL K mg H vs ds → op d0 ds = some d → (∀ z H', Same H H' → Mk K mg H H' z d → Q z H') → r x vs H Q
/-- a text read alone, then arguments reckoned -/
def eSm (op : D → List D → Option D) (fo : PM) (am : AM) : EM := fun ρ => match fo ρ with
  | some (.str x) => match am ρ with
    | some (as, ρ1) => match valsA as with
      | some ds => match op (.str x) ds with
        | some d => some (d, ρ1)
        | none => none
      | none => none
    | none => none
  | _ => none
def eSm0 (op : D → List D → Option D) (fo : PM) : EM := fun ρ => match fo ρ with
  | some (.str x) => match op (.str x) [] with
    | some d => some (d, ρ)
    | none => none
  | _ => none
section
variable {F : Fm} {op : D → List D → Option D} {r : V → List V → Hp → VK → Prop} {fo : PM} {am : AM}
theorem imp_sm (hr : RsD F.K F.mg r op) : ∀ σ H Q, tD F (eSm op fo am) σ H Q → tBM F.K "str" r (tP F fo) (tA F am) σ H Q := fun σ H Q ⟨ρ, ts, d, ρ', a, q, k⟩ => by
  unfold eSm at q
  split at q
  · rename_i x ex
    split at q
    · rename_i as ρ1 ha
      split at q
      · rename_i ds hv
        split at q
        · rename_i d' ho
          cases q
          refine ⟨ρ, ts, _, a, ex, fun v H1 g1 rx _ => ?_⟩
          obtain rfl := rx.str_inv
          refine ⟨rfl, ρ, ts, as, _, a.grow g1, ha, fun vs H2 tm ar a2 => ?_⟩
          obtain ⟨hl, rfl⟩ := argsR_vals ar hv
          have rl := vals_rpL hl (a2.front.perm (by rw [List.append_assoc]))
          refine hr _ vs H2 _ ds d Q (.str x) rl ho fun z H3 g3 m => k z H3 ?_
          have a3 := a2.mk' m
          have s3 : Sim F.K F.mg H3 (.v z d :: (vals vs ds ++ (ts ++ slotR σ ρ'))) := by have := a3.front; simpa [List.append_assoc] using this
          exact a3.of_front ((s3.perm (List.perm_middle).symm).drop)
        · cases q
      · cases q
    · cases q
  · cases q
theorem imp_sm0 (hr : RsD F.K F.mg r op) : ∀ σ H Q, tD F (eSm0 op fo) σ H Q → tBM0 F.K "str" r (tP F fo) σ H Q := fun σ H Q ⟨ρ, ts, d, ρ', a, q, k⟩ => by
  unfold eSm0 at q
  split at q
  · rename_i x ex
    split at q
    · rename_i d' ho
      cases q
      refine ⟨ρ, ts, _, a, ex, fun v H1 g1 rx _ => ?_⟩
      obtain rfl := rx.str_inv
      refine ⟨rfl, hr _ [] H1 _ [] d Q (.str x) .nil ho fun z H3 g3 m => k z H3 ((a.grow g1).mk' m)⟩
    · cases q
  · cases q
end
def rJoinS (K : PySem.W.Frag) : V → List V → Hp → VK → Prop := fun x xs H Q => ∃ a p, ∃ ys : List Str, x = .str a ∧ xs = [.ref p] ∧ (SqL K H p (ys.map V.str) ∨ SqT K H p (ys.map V.str)) ∧ (ys.map (·.length)).sum + ys.length * a.length ≤ 16777216 ∧ Q (.str (Txt.join a ys)) H
theorem mt_joinS {X : Cx} : MtR X "str.join" (rJoinS X.K) := mt_join
def rSplitS : V → List V → Hp → VK → Prop := fun x xs H Q => ∃ a b, x = .str a ∧ xs = [.str b] ∧ (b.length == 0) = false ∧ a.length + 2 ≤ sizeLine ∧ rNewStrs (Txt.split a b) H Q
theorem mt_splitS {X : Cx} : MtR X "str.split" rSplitS := mt_split
def rUpperS : V → List V → Hp → VK → Prop := fun x xs H Q => ∃ a, x = .str a ∧ xs = [] ∧ a.length ≤ 5592405 ∧ Q (.str (Txt.upper a)) H
theorem mt_upperS {X : Cx} : MtR X "str.upper" rUpperS := mt_upper
def mJoin : D → List D → Option D
  | .str a, [.lst _ ds] => match strsL ds with
    | some l => if (l.map (·.length)).sum + l.length * a.length ≤ 16777216 then some (.str (Txt.join a l)) else none
    | none => none
  | _, _ => none
def mSplit : D → List D → Option D
  | .str a, [.str b] => if (b.length == 0) = false ∧ a.length + 2 ≤ 100000 then some (.lst true ((Txt.split a b).map D.str)) else none
  | _, _ => none
def mUpper : D → List D → Option D
  | .str a, [] => if a.length ≤ 100000 then some (.str (Txt.upper a)) else none
  | _, _ => none
section
variable {K : PySem.W.Frag} {mg : MG}
theorem strs_imm' : ∀ (l : List Str), immL (l.map D.str) = true
  | [] => rfl
  | x :: l => by rw [List.map_cons, immL, strs_imm' l]; rfl
theorem rpL_strs' {H : Hp} : ∀ l : List Str, RpL K mg H (l.map V.str) (l.map D.str)
  | [] => .nil
  | x :: l => .cons (.str x) (rpL_strs' l)
theorem rs_join : RsD K mg (rJoinS K) mJoin := by
  intro x vs H d0 ds d Q rx rl e k
  unfold mJoin at e
  split at e
  · rename_i a o es
    split at e
    · rename_i l hl
      split at e
      · rename_i hz
        cases e
        obtain rfl := rx.str_inv
        obtain ⟨v, rfl, r⟩ := rl.one
        obtain ⟨b, xs, rfl, hb, r2⟩ := r.lst_inv
        have hx := r2.strs hl
        subst hx
        exact ⟨a, b, l, rfl, rfl, .inl (SqL.of hb), hz, k _ H (Same.refl H) (mk_str _)⟩
      · cases e
    · cases e
  · cases e
theorem rs_split : RsD K mg rSplitS mSplit := by
  intro x vs H d0 ds d Q rx rl e k
  unfold mSplit at e
  split at e
  · rename_i a b
    split at e
    · rename_i hz
      cases e
      obtain rfl := rx.str_inv
      obtain ⟨v, rfl, r⟩ := rl.one
      obtain rfl := r.str_inv
      refine ⟨a, b, rfl, rfl, hz.1, by rw [sizeLine_eq]; omega, fun p hp => k _ _ (same_upd hp) (mk_lst (rpL_strs' _) (strs_imm' _) hp)⟩
    · cases e
  · cases e
theorem rs_upper : RsD K mg rUpperS mUpper := by
  intro x vs H d0 ds d Q rx rl e k
  unfold mUpper at e
  split at e
  · rename_i a
    split at e
    · rename_i hz
      cases e
      obtain rfl := rx.str_inv
      cases rl
      exact ⟨a, rfl, rfl, by omega, k _ H (Same.refl H) (mk_str _)⟩
    · cases e
  · cases e
end

/-! ### blocks over a text's signs -/
def charsD (x : Str) : List D := x.cps.toList.map fun c => D.str ⟨#[c]⟩
def eCompS (it : PM) (g : GM) (t : BM) (e : EM) (vs : List Nat) : EM := fun ρ => match it ρ with
  | some (.str x) => compE g t e vs (charsD x) ρ
  | _ => none
section
variable {F : Fm} {g : GM} {gt : TG} {t : BM} {e : EM} {vs : List Nat}
theorem imp_compS {it : PM} (hgt : GtOk F g gt vs) (hv : ∀ i ∈ vs, F.vs0.length ≤ i) : ∀ σ H Q, tD F (eCompS it g t e vs) σ H Q → tLc (iStr (tP F it)) gt (tT F t) (tD F e) vs σ H Q := fun σ H Q ⟨ρ, ts, d, ρ', a, q, k⟩ => by
  unfold eCompS at q
  split at q
  · rename_i x he
    obtain ⟨hz, ys, rfl, hc⟩ := compE_some q
    refine ⟨ρ, ts, _, a, he, fun v H1 g1 r1 _ => ?_⟩
    obtain rfl := r1.str_inv
    have hn : (charsD x).length = x.cps.size := by unfold charsD; rw [List.length_map, Array.length_toList]
    refine ⟨x, rfl, fun D0 hD0 => comp_turns (J := Its x) hgt hv (a.grow g1) hD0 hz hc (fun i σ H ρ zs hi b => by rw [hn] at hi; exact hi) (fun σ H ρ zs b => by rw [hn]; exact Nat.le_refl _) (fun i x' σ H H' ρ zs hi b y => ?_) (fun H b => k _ H b)⟩
    obtain ⟨e1, c, hc', rfl⟩ := y
    refine ⟨e1, ?_⟩
    have hq : (charsD x)[i] = .str ⟨#[c]⟩ := by
      have h1 : (charsD x)[i]? = some (.str ⟨#[c]⟩) := by
        unfold charsD
        rw [List.getElem?_map, Array.getElem?_toList, hc']
        rfl
      exact (List.getElem?_eq_some_iff.mp h1).2
    rw [hq]
    exact b.mk' (mk_str _)
  · cases q
end
section
variable {X : Cx} {vs0 : List V} {pos : Pos} {g : GM} {t : BM} {e : EM} {tg elt : Expr} {ifs : List Expr} {scope : Scope} {own : List (Str × Nat)} {gt : TG}
theorem e_compS {l : Expr} {it : PM} (hc : X.calm = true) (hN : X.N.Nodup) (hl : PE X l (tP (fm X vs0) it)) (ok : BlkOk X.N X.env.scope scope own) (hgt : GtOk (fm X vs0) g gt (own.map (·.2))) (hv : ∀ i ∈ own.map (·.2), vs0.length ≤ i)
    (hg : ∀ (s : Shared) (H : Hp) (C : Addr) (cl : List (Str × Addr)) (fp : List Addr), PG (X.blk s H scope (compEnvC scope cl C X.env) fp) tg gt) (ht : ∀ (s : Shared) (H : Hp) (C : Addr) (cl : List (Str × Addr)) (fp : List Addr), PTs (X.blk s H scope (compEnvC scope cl C X.env) fp) ifs (tT (fm X vs0) t))
    (he : ∀ (s : Shared) (H : Hp) (C : Addr) (cl : List (Str × Addr)) (fp : List Addr), PE (X.blk s H scope (compEnvC scope cl C X.env) fp) elt (tD (fm X vs0) e)) (hs : ∀ x, foldedSetIterable l X.env x = pure x := by intro _; rfl) :
    PE X (.ListComp elt [⟨tg, l, ifs, 0⟩] scope pos) (tD (fm X vs0) (eCompS it g t e (own.map (·.2)))) := (pe_lc hc hN (pi_str hl) ok hg ht he hs).imp (imp_compS (F := fm X vs0) hgt hv)
end

/-! ### dicts of the module: text keys, numbers -/
inductive EsAre : List DictEntry → List (Str × Int) → Prop
  | nil : EsAre [] []
  | cons {e : DictEntry} {x : Str} {v : Int} {t u : Tok} {r : List DictEntry} {l : List (Str × Int)} : e.key = .str x t → e.val = .int v u → EsAre r l → EsAre (e :: r) ((x, v) :: l)
structure GD (K : PySem.W.Frag) (w : World) (mg : Str → Option Value) (n : Str) (tab : List (Str × Int)) : Prop where
  ex : ∃ (d : Addr) (es : Array DictEntry) (k : Nat), mg n = some (.ref d) ∧ KDict K w d es k ∧ EsAre es.toList tab
theorem EsAre.find {z : Str} : ∀ {es : List DictEntry} {tab : List (Str × Int)}, EsAre es tab → (es.any (·.refKey) = false) ∧ ((es.find? (·.key.isStr z)).isSome = (tab.lookup z).isSome) ∧ ∀ v, tab.lookup z = some v → ∃ e u, es.find? (·.key.isStr z) = some e ∧ e.val = .int v u
  | _, _, .nil => ⟨rfl, rfl, fun v h => by cases h⟩
  | e :: es, (x, v) :: tab, .cons (t := t) (u := u) hk hv r => by
    obtain ⟨h1, h2, h3⟩ := EsAre.find (z := z) r
    have hq : e.key.isStr z = (z == x) := by
      rw [hk]
      show (x == z) = _
      rw [Bool.eq_iff_iff, beq_iff_eq, beq_iff_eq]
      exact ⟨Eq.symm, Eq.symm⟩
    refine ⟨?_, ?_, fun v' hv' => ?_⟩
    · rw [List.any_cons, h1, Bool.or_false]
      unfold DictEntry.refKey
      rw [hk]
    · rw [List.find?_cons, List.lookup_cons, hq]
      cases z == x
      · exact h2
      · rfl
    · rw [List.lookup_cons] at hv'
      rw [List.find?_cons, hq]
      cases hc : z == x with
      | false => rw [hc] at hv'; exact h3 v' hv'
      | true => rw [hc] at hv'; cases hv'; exact ⟨e, u, rfl, hv⟩
theorem GD.ns {K : PySem.W.Frag} {w : World} {d : Addr} {es : Array DictEntry} {k : Nat} {tab : List (Str × Int)} (D : KDict K w d es k) (h : EsAre es.toList tab) (z : Str) : ∃ r, PySem.W.nsIn K d z = some r ∧ r.isSome = (tab.lookup z).isSome ∧ ∀ v, tab.lookup z = some v → ∃ u, r = some (.int v u) := by
  obtain ⟨h1, h2, h3⟩ := h.find (z := z)
  unfold PySem.W.nsIn
  rw [D.at_]
  dsimp only
  cases hf : es.toList.find? (·.key.isStr z) with
  | none =>
    rw [hf] at h2
    refine ⟨none, by simp [h1], h2, fun v hv => ?_⟩
    rw [hv] at h2
    cases h2
  | some e =>
    rw [hf] at h2
    refine ⟨some e.val, rfl, h2, fun v hv => ?_⟩
    obtain ⟨e', u, q1, q2⟩ := h3 v hv
    rw [hf] at q1
    cases q1
    exact ⟨u, by rw [q2]⟩
def opGIn (neg : Bool) (tab : List (Str × Int)) : D → Option D
  | .str z => some (.bl (if neg then !(tab.lookup z).isSome else (tab.lookup z).isSome))
  | _ => none
def opGIx (tab : List (Str × Int)) : D → Option D
  | .str z => (tab.lookup z).map D.int
  | _ => none
def pGIn (neg : Bool) (tab : List (Str × Int)) (fa : PM) : PM := pOp1 (opGIn neg tab) fa
def pGIx (tab : List (Str × Int)) (fa : PM) : PM := pOp1 (opGIx tab) fa
section
variable {X : Cx} {vs0 : List V} {fa : PM} {n : Str} {tab : List (Str × Int)} {a : Expr} {p pos : Pos}
theorem pe_gd {d : Addr} (hm : X.mg n = some (.ref d)) (hg : Gl X n) (hd : (n == ("__debug__" : Str)) = false) : PE X (.Name n p) (tC (.ref d)) := pe_glob hg hm (v := .ref d) rfl hd
def rGIn (K : PySem.W.Frag) (d : Addr) (neg : Bool) : R2 := fun x y H Q => ∃ (z : Str) (r : Option Value), x = .str z ∧ y = .ref d ∧ PySem.W.nsIn K d z = some r ∧ Q (.bl (if neg then !r.isSome else r.isSome)) H
theorem imp_gin {F : Fm} {w : World} {d : Addr} {es : Array DictEntry} {k : Nat} {neg : Bool} (D : KDict F.K w d es k) (h : EsAre es.toList tab) : ∀ σ H Q, tP F (pGIn neg tab fa) σ H Q → tOp (rGIn F.K d neg) (tP F fa) (tC (.ref d)) σ H Q := fun σ H Q ⟨ρ, ts, d0, at', e, k⟩ => by
  unfold pGIn pOp1 at e
  split at e
  · rename_i x ex
    refine ⟨ρ, ts, x, at', ex, fun v H1 g1 rx cx => ?_⟩
    unfold opGIn at e
    split at e
    · rename_i z
      cases e
      obtain rfl := rx.str_inv
      obtain ⟨r, h1, h2, _⟩ := GD.ns D h z
      refine ⟨z, r, rfl, rfl, h1, ?_⟩
      rw [h2]
      exact k _ H1 g1 (.bl _) (Cj.of ((at'.grow g1).mk' (mk_bl _)))
    · cases e
  · cases e
theorem p_gni (G : GD X.K X.w X.mg n tab) (ha : PE X a (tP (fm X vs0) fa)) (hg : Gl X n := by rfl) (hd : (n == ("__debug__" : Str)) = false := by decide) (hm : behindInMarks .NotIn (.Name n p) = false := by rfl) : PE X (.Compare a [.NotIn] [.Name n p] pos) (tP (fm X vs0) (pGIn true tab fa)) := by
  obtain ⟨d, es, k, h1, D, h⟩ := G.ex
  exact (pe_cmpR (op_notIn_kd D) ha (pe_gd h1 hg hd) hm).imp (imp_gin (F := fm X vs0) D h)
theorem p_gin (G : GD X.K X.w X.mg n tab) (ha : PE X a (tP (fm X vs0) fa)) (hg : Gl X n := by rfl) (hd : (n == ("__debug__" : Str)) = false := by decide) (hm : behindInMarks .In (.Name n p) = false := by rfl) : PE X (.Compare a [.In] [.Name n p] pos) (tP (fm X vs0) (pGIn false tab fa)) := by
  obtain ⟨d, es, k, h1, D, h⟩ := G.ex
  exact (pe_cmpR (op_in_kd D) ha (pe_gd h1 hg hd) hm).imp (imp_gin (F := fm X vs0) (neg := false) D h)
theorem t_gni (G : GD X.K X.w X.mg n tab) (ha : PE X a (tP (fm X vs0) fa)) (hg : Gl X n := by rfl) (hd : (n == ("__debug__" : Str)) = false := by decide) (hm : behindInMarks .NotIn (.Name n p) = false := by rfl) : PT X (.Compare a [.NotIn] [.Name n p] pos) (tT (fm X vs0) (bP (pGIn true tab fa))) := by
  obtain ⟨d, es, k, h1, D, h⟩ := G.ex
  exact (pt_cmpR (op_notIn_kd D) ha (pe_gd h1 hg hd) hm).imp (imp_bPt (imp_gin (F := fm X vs0) D h))
theorem p_gix (G : GD X.K X.w X.mg n tab) (ha : PE X a (tP (fm X vs0) fa)) (hg : Gl X n := by rfl) (hd : (n == ("__debug__" : Str)) = false := by decide) (hs : PlainIx a := by exact fun _ _ => rfl) : PE X (.Subscript (.Name n p) a pos) (tP (fm X vs0) (pGIx tab fa)) := by
  obtain ⟨d, es, k, h1, D, h⟩ := G.ex
  refine (pe_ix ix_kdict (pe_gd h1 hg hd) ha hs).imp fun σ H Q ⟨ρ, ts, d0, at', e, k'⟩ => ?_
  unfold pGIx pOp1 at e
  split at e
  · rename_i x ex
    refine ⟨ρ, ts, x, at', ex, fun v H1 g1 rx cx => ?_⟩
    unfold opGIx at e
    split at e
    · rename_i z
      obtain ⟨v0, hv, rfl⟩ := Option.map_eq_some_iff.mp e
      obtain rfl := rx.str_inv
      obtain ⟨r, q1, q2, q3⟩ := GD.ns D h z
      obtain ⟨u, rfl⟩ := q3 v0 hv
      exact ⟨d, z, .int v0, rfl, rfl, ⟨es, k, _, D.at_, D.lit, q1, ⟨u, rfl⟩⟩, k' _ H1 g1 (.int v0) (Cj.of ((at'.grow g1).mk' (mk_int v0)))⟩
    · cases e
  · cases e
end
end Dl

set_option Elab.async false
set_option linter.all false
set_option maxRecDepth 100000
set_option maxHeartbeats 1000000
/-! DL31: defs that may raise: their mirrors, promises, calls; raise. -/
namespace Dl
open PySem PySem.Spec PyProof.Rows L2

/-! ### a def that may raise, by its mirror -/
inductive Rs where
  | v (d : D)
  | x (d : D)
abbrev FnX := List D → Option (Rs × List D)
def outX (np : Nat) (ds : List D) (r : Rs) (ρ : DEnv) : Option (Rs × List D) := match outs np ρ with
  | some os => some (r, os ++ ds.drop np)
  | none => none
def fnX (na np n : Nat) (body : SM) : FnX := fun ds => if ds.length = na ∧ (ds.drop np).all D.stable = true then
    match body (ds.map some ++ List.replicate (n - na) none) with
    | some (.rt d, ρ') => outX np ds (.v d) ρ'
    | some (.nx, ρ') => outX np ds (.v .non) ρ'
    | some (.xc x, ρ') => outX np ds (.x x) ρ'
    | _ => none
  else none
def EndX (K : PySem.W.Frag) (mg : MG) (Q : VK) (E : XK) (rs : List Rt) : Rs → Prop
  | .v d => ∀ v H', Sim K mg H' (.v v d :: rs) → Q v H'
  | .x x => ∀ cls d H', Sim K mg H' rs → Xin K mg H' cls d x → E cls d H'
def spX (K : PySem.W.Frag) (mg : MG) (m : FnX) : Sp := fun vs H Q E => ∃ ds ts r ds', vs.length = ds.length ∧ Sim K mg H (vals vs ds ++ ts) ∧ m ds = some (r, ds') ∧ EndX K mg Q E (vals vs ds' ++ ts) r
/-- what a def lets out, at its own slots -/
abbrev outW (E : XK) : WX := fun cls d _ H => E cls d H
theorem at_start {K : PySem.W.Frag} {mg : MG} {na np : Nat} {N : List Str} {vs : List V} {ds : List D} {ts : List Rt} {H : Hp} (hn : na ≤ N.length) (hp : np ≤ na) (hl : vs.length = ds.length) (s : Sim K mg H (vals vs ds ++ ts)) (hc1 : ds.length = na) (hc2 : (ds.drop np).all D.stable = true) :
    At (fmk K mg (vs.take np) N.length) (start N vs) H (ds.map some ++ List.replicate (N.length - na) none) (vals (vs.drop np) (ds.drop np) ++ ts) := by
  have hlv : vs.length = na := hl.trans hc1
  have e1 : vals vs ds = vals (vs.take np) (ds.take np) ++ vals (vs.drop np) (ds.drop np) := by
    rw [← vals_append (by rw [List.length_take, List.length_take]; omega), List.take_append_drop, List.take_append_drop]
  refine ⟨?_, ?_, fun i d' q => ?_, fun i v q => ?_, ?_⟩
  · show (vs.map some ++ List.replicate (N.length - vs.length) none).length = N.length
    simp only [List.length_append, List.length_map, List.length_replicate]; omega
  · show (ds.map some ++ List.replicate (N.length - na) none).length = N.length
    simp only [List.length_append, List.length_map, List.length_replicate]; omega
  · by_cases hi : i < ds.length
    · refine ⟨vs[i]'(by omega), ?_⟩
      show (vs.map some ++ List.replicate (N.length - vs.length) none)[i]? = _
      rw [List.getElem?_append_left (by rw [List.length_map]; omega)]
      simp [show i < vs.length by omega]
    · rw [List.getElem?_append_right (by rw [List.length_map]; omega), List.getElem?_replicate] at q
      split at q <;> cases q
  · have hi : i < np := by
      have := (List.getElem?_eq_some_iff.mp q).1
      rw [List.length_take] at this
      omega
    have q' : (vs.take np)[i]? = some v := q
    rw [List.getElem?_take_of_lt hi] at q'
    show (vs.map some ++ List.replicate (N.length - vs.length) none)[i]? = _
    rw [List.getElem?_append_left (by rw [List.length_map]; exact (List.getElem?_eq_some_iff.mp q').1), List.getElem?_map, q']
    rfl
  · show Sim K mg H (slotR (vs.map some ++ List.replicate (N.length - vs.length) none) (ds.map some ++ List.replicate (N.length - na) none) ++ _)
    rw [hlv, slotR_start vs ds _ hl]
    rw [e1] at s ⊢
    have s2 := s.perm (rs' := vals (vs.drop np) (ds.drop np) ++ (vals (vs.take np) (ds.take np) ++ ts)) (by
      rw [← List.append_assoc]; exact List.Perm.append_right _ List.perm_append_comm)
    have s3 := Sim.dups (by rw [List.length_drop, List.length_drop]; omega) hc2 s2
    refine s3.perm ?_
    generalize vals (vs.drop np) (ds.drop np) = C
    generalize vals (vs.take np) (ds.take np) = B
    have q2 := List.Perm.append_right ts (show ((C ++ C) ++ B).Perm (B ++ (C ++ C)) from List.perm_append_comm)
    simpa [List.append_assoc] using q2
theorem at_end {K : PySem.W.Frag} {mg : MG} {np n : Nat} {vs : List V} {ds : List D} {xs ts : List Rt} {σ : L2.St} {H : Hp} {ρ : DEnv} {os : List D} (hlt : (vs.take np).length = np) (ho : outs np ρ = some os)
    (a : At (fmk K mg (vs.take np) n) σ H ρ (xs ++ (vals (vs.drop np) (ds.drop np) ++ ts))) : Sim K mg H (xs ++ (vals vs (os ++ ds.drop np) ++ ts)) := by
  have q := outs_sim ho hlt a.par a.sim
  have e2 : vals vs (os ++ ds.drop np) = vals (vs.take np) os ++ vals (vs.drop np) (ds.drop np) := by
    rw [← vals_append (by rw [hlt, (outs_ok ho).1]), List.take_append_drop]
  rw [e2]
  refine q.perm ?_
  generalize vals (vs.take np) os = A
  generalize vals (vs.drop np) (ds.drop np) = B
  have q2 := List.Perm.append_right (B ++ ts) (show (A ++ xs).Perm (xs ++ A) from List.perm_append_comm)
  simpa [List.append_assoc] using q2
theorem outX_of {np : Nat} {ds ds' : List D} {r r' : Rs} {ρ : DEnv} (h : outX np ds r ρ = some (r', ds')) : ∃ os, outs np ρ = some os ∧ r' = r ∧ ds' = os ++ ds.drop np := by
  unfold outX at h
  split at h
  · rename_i os e; cases h; exact ⟨os, e, rfl, rfl⟩
  · cases h
theorem fnX_in {K : PySem.W.Frag} {mg : MG} {na np : Nat} {N : List Str} {body : SM} {vs : List V} {H : Hp} {Q : VK} {E : XK} (hn : na ≤ N.length) (hp : np ≤ na) (h : spX K mg (fnX na np N.length body) vs H Q E) :
    tS ⟨K, mg, vs.take np, N.length, outW E⟩ body { nx := fun _ H' => Q .non H', rt := Q } (start N vs) H := by
  obtain ⟨ds, ts, r, ds', hl, s, hm, k⟩ := h
  unfold fnX at hm
  split at hm
  · rename_i hc
    obtain ⟨hc1, hc2⟩ := hc
    have hlt : (vs.take np).length = np := by rw [List.length_take]; omega
    have a := at_start hn hp hl s hc1 hc2
    split at hm
    · rename_i d ρ' hb
      obtain ⟨os, ho, rfl, rfl⟩ := outX_of hm
      exact ⟨_, _, .rt d, ρ', a, hb, fun v σ' H' a' => k v H' (at_end (xs := [_]) hlt ho a')⟩
    · rename_i ρ' hb
      obtain ⟨os, ho, rfl, rfl⟩ := outX_of hm
      exact ⟨_, _, .nx, ρ', a, hb, fun σ' H' a' => k .non H' (at_end (xs := [_]) hlt ho (a'.mk' mk_non))⟩
    · rename_i x ρ' hb
      obtain ⟨os, ho, rfl, rfl⟩ := outX_of hm
      exact ⟨_, _, .xc x, ρ', a, hb, fun cls d σ' H' a' hx => k cls d H' (at_end (xs := []) hlt ho a') hx⟩
    · cases hm
  · cases hm
theorem fnX_len {K : PySem.W.Frag} {mg : MG} {na np n : Nat} {body : SM} {vs : List V} {H : Hp} {Q : VK} {E : XK} (h : spX K mg (fnX na np n body) vs H Q E) : vs.length = na := by
  obtain ⟨ds, ts, r, ds', hl, s, hm, k⟩ := h
  unfold fnX at hm
  split at hm
  · rename_i hc; exact hl.trans hc.1
  · cases hm
/-- a def of the top that may raise -/
structure ClX (P : Program) (w : World) (K : PySem.W.Frag) (mg : Str → Option Value) (base : Heap) (k : Nat) (x : Str) (m : FnX) : Prop where
  ex : ∃ (f : Addr) (fd : FuncData) (ps : List Str), FnOk P w K mg base (L2.CX P w) k f fd ps (spX K ⟨mg, w⟩ m) ∧ mg x = some (.ref f) ∧ PySem.W.keepIn K (.ref f) = true ∧ Binds K fd ps []
theorem clX_of {P : Program} {w : World} {K : PySem.W.Frag} {mg : Str → Option Value} {base : Heap} {x : Str} {st : Stmt} {f : Addr} {fd : FuncData} {N ps : List Str} {k na np : Nat} {body : SM} (F : Fun K x x st f fd) (hm : mg x = some (.ref f)) (hkp : PySem.W.keepIn K (.ref f) = true) (b : Binds K fd ps []) (S : FnScope N ps (defScope st))
    (hps : ps.length = na) (hn : na ≤ N.length) (hp : np ≤ na)
    (hbody : ∀ (cdv : Value) (A : Around) (outer : List Env) (s : Shared) (H : Hp) (E : XK) (vs0 : List V), Room k (A.deeper (envOfC x (defScope st) s.heap.objs.size f cdv)) → (∀ i, np ≤ i → vs0.length ≤ i) → vs0.length = np →
      Takes (cxOf (L2.CX P w) P w K mg base N x (defScope st) f cdv A outer s H E) (outW E) →
      PassesOwn (model P w) (cxOf (L2.CX P w) P w K mg base N x (defScope st) f cdv A outer s H E).A (cxOf (L2.CX P w) P w K mg base N x (defScope st) f cdv A outer s H E).env (cxOf (L2.CX P w) P w K mg base N x (defScope st) f cdv A outer s H E).xe →
      PSs (cxOf (L2.CX P w) P w K mg base N x (defScope st) f cdv A outer s H E) (defBody st) (tS ⟨K, ⟨mg, w⟩, vs0, N.length, outW E⟩ body)) : ClX P w K mg base (k + 1) x (fnX na np N.length body) :=
  ⟨f, fd, ps, F.okX S (fun vs H Q E h => by rw [hps]; exact fnX_len h) fun cdv A outer s H vs Q E hr h =>
    ⟨_, hbody cdv A outer s H E (vs.take np) hr (fun i hi => by rw [List.length_take]; omega) (by rw [List.length_take, fnX_len h]; omega) (takes_of rfl rfl rfl rfl) (passes_of rfl), fnX_in hn hp h⟩, hm, hkp, b⟩

/-! ### calls that may raise -/
def callX (m : FnX) (as : List Arg) (ρ : DEnv) : Option (Rs × DEnv) := match takeA as ρ with
  | some (ds, ρ2) => match m ds with
    | some (r, ds') => match putA as ds' ρ2 with
      | some ρ3 => some (r, ρ3)
      | none => none
    | none => none
  | none => none
section
variable {F : Fm} {σ : L2.St} {H : Hp} {m : FnX}
theorem callX_ok {as : List Arg} {ρ ρ3 : DEnv} {r : Rs} {vs : List V} {tm ts : List Rt} {Q : VK} {E : XK} (ar : ArgsR σ vs as tm) (h : callX m as ρ = some (r, ρ3)) (a : At F σ H ρ (tm ++ ts))
    (k : match r with | .v d => ∀ v H', At F σ H' ρ3 (.v v d :: ts) → Q v H' | .x x => ∀ cls d H', At F σ H' ρ3 ts → Xin F.K F.mg H' cls d x → E cls d H') : spX F.K F.mg m vs H Q E := by
  unfold callX at h
  split at h
  · rename_i ds ρ2 ht
    split at h
    · rename_i r' ds' hm
      split at h
      · rename_i ρ3' hp
        cases h
        have s0 := a.sim.perm (rs' := tm ++ (slotR σ ρ ++ ts)) (by
          rw [← List.append_assoc, ← List.append_assoc]
          exact List.Perm.append_right _ List.perm_append_comm)
        obtain ⟨lo, lr, e1, e2, e3, s1⟩ := take_sim ar ht s0
        refine ⟨ds, slotR σ ρ2 ++ (lo ++ ts), r, ds', e1, s1, hm, ?_⟩
        cases r with
        | v d =>
          intro v H' s2
          have s3 := s2.perm (rs' := vals vs ds' ++ (slotR σ ρ2 ++ (lo ++ (.v v d :: ts)))) (by
            refine List.Perm.trans (List.perm_middle).symm ?_
            refine List.Perm.append_left _ (List.perm_middle.symm.trans ?_)
            exact List.Perm.append_left _ (List.perm_middle).symm)
          obtain ⟨f1, f2, f3⟩ := put_sim lr hp (by rw [e2, a.lenR]; exact a.lenS) (fun i d q => a.fit i d (e3 i d q)) s3
          exact k v H' ⟨a.lenS, by rw [f1, e2]; exact a.lenR, f2, a.par, f3⟩
        | x x =>
          intro cls d H' s2 hx
          obtain ⟨f1, f2, f3⟩ := put_sim lr hp (by rw [e2, a.lenR]; exact a.lenS) (fun i d q => a.fit i d (e3 i d q)) s2
          exact k cls d H' ⟨a.lenS, by rw [f1, e2]; exact a.lenR, f2, a.par, f3⟩ hx
      · cases h
    · cases h
  · cases h
end
def sExpX (m : FnX) (a : AM) : SM := fun ρ => match a ρ with
  | some (as, ρ1) => match callX m as ρ1 with
    | some (.v _, ρ2) => some (.nx, ρ2)
    | some (.x x, ρ2) => some (.xc x, ρ2)
    | none => none
  | none => none
def sSetX (m : FnX) (a : AM) (i : Nat) : SM := fun ρ => match a ρ with
  | some (as, ρ1) => match callX m as ρ1 with
    | some (.v d, ρ2) => some (.nx, ρ2.set i (some d))
    | some (.x x, ρ2) => some (.xc x, ρ2)
    | none => none
  | none => none
def sRetX (m : FnX) (a : AM) : SM := fun ρ => match a ρ with
  | some (as, ρ1) => match callX m as ρ1 with
    | some (.v d, ρ2) => some (.rt d, ρ2)
    | some (.x x, ρ2) => some (.xc x, ρ2)
    | none => none
  | none => none
section
variable {X : Cx} {vs0 : List V} {W : WX} {k j : Nat} {x : Str} {m : FnX} {am : AM} {e : Expr} {es : List Expr} {p pos pos2 : Pos}
theorem s_expX (c : ClX X.prog X.w X.K X.mg X.base k x m) (hr : Room j X.A) (hk : k ≤ j) (tk : Takes X W) (ha : PA X (e :: es) (tA (fm X vs0) am)) (hg : Gl X x := by rfl) (hdb : (x == ("__debug__" : Str)) = false := by decide)
    (he : starEach (e :: es) X.env = (false, eval e X.env) :: starEach es X.env := by rfl) (hpl : (backTo pos (starEach es X.env)).any (·.1) = false := by rfl)
    (hs : swapsWith (.Call (.Name x p) (e :: es) [] pos) none pos2.line X.env = pure false := by rfl) : PS X (.Expr (.Call (.Name x p) (e :: es) [] pos) pos2) (tS (fmW X vs0 W) (sExpX m am)) := by
  obtain ⟨f, fd, ps, G, hm, hkp, hb⟩ := c.ex
  refine (ps_expr (pe_callS (E := WE W) G (hr.mono hk) hg hm hkp hb (fun σ => passAt tk σ) ha hdb he hpl) hs).imp fun D' σ H ⟨ρ, ts, fl, ρ', a, q, k⟩ => ?_
  unfold sExpX at q
  split at q
  · rename_i as ρ1 ha'
    refine ⟨ρ, ts, as, ρ1, a, ha', fun vs H1 tm ar a1 => ?_⟩
    split at q
    · rename_i d ρ2 hc; cases q; exact callX_ok (F := fm X vs0) ar hc a1 fun v H2 a2 => k σ H2 a2.tail
    · rename_i x ρ2 hc; cases q; exact callX_ok (F := fm X vs0) ar hc a1 fun cls d H2 a2 hx => k cls d σ H2 a2 hx
    · cases q
  · cases q
theorem s_setX {y : Str} {py : Pos} (i : Nat) (hp : vs0.length ≤ i) (hN : X.N.Nodup) (c : ClX X.prog X.w X.K X.mg X.base k x m) (hr : Room j X.A) (hk : k ≤ j) (tk : Takes X W) (ha : PA X (e :: es) (tA (fm X vs0) am)) (hi : X.N[i]? = some y := by rfl) (hy : Loc X.env.scope y := by first | exact Or.inl rfl | exact Or.inr rfl) (hg : Gl X x := by rfl) (hdb : (x == ("__debug__" : Str)) = false := by decide)
    (he : starEach (e :: es) X.env = (false, eval e X.env) :: starEach es X.env := by rfl) (hpl : (backTo pos (starEach es X.env)).any (·.1) = false := by rfl)
    (hs : swapsWith (.Call (.Name x p) (e :: es) [] pos) (some (.Name y py)) pos2.line X.env = pure false := by rfl) (hf : X.fn y = true ∨ X.env.scope.names.lookup y = some .local := by first | exact .inl rfl | exact .inr rfl | assumption) :
    PS X (.Assign [.Name y py] (.Call (.Name x p) (e :: es) [] pos) pos2) (tS (fmW X vs0 W) (sSetX m am i)) := by
  obtain ⟨f, fd, ps, G, hm, hkp, hb⟩ := c.ex
  refine (ps_set hN hi hy (pe_callS (E := WE W) G (hr.mono hk) hg hm hkp hb (fun σ => passAt tk σ) ha hdb he hpl) hs hf).imp fun D' σ H ⟨ρ, ts, fl, ρ', a, q, k⟩ => ?_
  unfold sSetX at q
  split at q
  · rename_i as ρ1 ha'
    refine ⟨ρ, ts, as, ρ1, a, ha', fun vs H1 tm ar a1 => ?_⟩
    split at q
    · rename_i d ρ2 hc; cases q; exact callX_ok (F := fm X vs0) ar hc a1 fun v H2 a2 => k _ H2 (a2.store hp (List.getElem?_eq_some_iff.mp hi).1)
    · rename_i x ρ2 hc; cases q; exact callX_ok (F := fm X vs0) ar hc a1 fun cls d H2 a2 hx => k cls d σ H2 a2 hx
    · cases q
  · cases q
theorem s_retX (c : ClX X.prog X.w X.K X.mg X.base k x m) (hr : Room j X.A) (hk : k ≤ j) (tk : Takes X W) (ha : PA X (e :: es) (tA (fm X vs0) am)) (hg : Gl X x := by rfl) (hdb : (x == ("__debug__" : Str)) = false := by decide)
    (he : starEach (e :: es) X.env = (false, eval e X.env) :: starEach es X.env := by rfl) (hpl : (backTo pos (starEach es X.env)).any (·.1) = false := by rfl) : PS X (.Return (some (.Call (.Name x p) (e :: es) [] pos)) pos2) (tS (fmW X vs0 W) (sRetX m am)) := by
  obtain ⟨f, fd, ps, G, hm, hkp, hb⟩ := c.ex
  refine (ps_ret (pe_callS (E := WE W) G (hr.mono hk) hg hm hkp hb (fun σ => passAt tk σ) ha hdb he hpl)).imp fun D' σ H ⟨ρ, ts, fl, ρ', a, q, k⟩ => ?_
  unfold sRetX at q
  split at q
  · rename_i as ρ1 ha'
    refine ⟨ρ, ts, as, ρ1, a, ha', fun vs H1 tm ar a1 => ?_⟩
    split at q
    · rename_i d ρ2 hc; cases q; exact callX_ok (F := fm X vs0) ar hc a1 fun v H2 a2 => k v σ H2 a2
    · rename_i x ρ2 hc; cases q; exact callX_ok (F := fm X vs0) ar hc a1 fun cls d H2 a2 hx => k cls d σ H2 a2 hx
    · cases q
  · cases q
end

/-! ### raise -/
abbrev veB : List Value := [.type "ValueError", .type "Exception", .type "BaseException", .type "object"]
/-- an own exception class over ValueError without an __init__ of its own -/
structure XcR (K : PySem.W.Frag) (mg : Str → Option Value) (c : Str) : Prop where
  ex : ∃ C : Addr, mg c = some (.ref C) ∧ PySem.W.excIn K C veB "ValueError.__new__" = true ∧ PySem.W.keepIn K (.ref C) = true ∧ PySem.W.subIn K (.ref C) (.type "BaseException") = some true ∧ PySem.W.typeIn K (.ref C) = some (.type "type")
def sRz0 (c : Str) : SM := fun ρ => some (.xc (.exn c [] []), ρ)
/-- C.__init__: the base's __init__, then self.f = the argument -/
def spI (K : PySem.W.Frag) (f : Str) : Sp := fun vs H Q _ => ∃ (a C : Addr) (y : V), vs = [.ref a, y] ∧ OexC K C ∧ PySem.W.findIn K (.ref C) f = some none ∧ H a = some (exo a C none) ∧ ∀ dx, H dx = none → dx ≠ a → Q .non (upd (upd H dx (exd dx [(f, y)])) a (exo a C (some dx)))
/-- one with such an __init__ -/
structure XcI (P : Program) (w : World) (K : PySem.W.Frag) (mg : Str → Option Value) (base : Heap) (k : Nat) (c f : Str) : Prop where
  ex : ∃ (C fI : Addr) (fd : FuncData) (ps : List Str), mg c = some (.ref C) ∧ OexC K C ∧ PySem.W.findIn K (.ref C) f = some none ∧ PySem.W.findIn K (.ref C) "__init__" = some (some (.ref fI)) ∧ PySem.W.typeIn K (.ref fI) = some (.type "function") ∧ FnOk P w K mg base CX0 k fI fd ps (spI K f) ∧ Binds K fd ps []
def sRz1 (c f : Str) (a : PM) : SM := fun ρ => match a ρ with
  | some d => if d.imm = true then some (.xc (.exn c [f] [d]), ρ) else none
  | none => none
section
variable {X : Cx} {vs0 : List V} {W : WX} {k j : Nat} {c m f : Str} {e : Expr} {fa : PM} {i : Nat} {p p2 pos pos2 : Pos}
theorem s_rz0 (hc : X.calm = true) (tk : Takes X W) (T : XcR X.K X.mg c) (hg : Gl X c := by rfl) (hdb : (c == ("__debug__" : Str)) = false := by decide) : PS X (.Raise (some (.Call (.Name c p) [.Constant (.str m) i p2] [] pos)) none pos2) (tS (fmW X vs0 W) (sRz0 c)) := by
  obtain ⟨C, hm, q, kp, sb, ty⟩ := T.ex
  refine (ps_raise hc tk (pmk_own PySem.F.excBase_ValueError q hm kp (raises_own sb ty) hg hdb)).imp fun D' σ H ⟨ρ, ts, fl, ρ', a, q, k⟩ => ?_
  cases q
  exact k _ _ σ H a ⟨rfl, C, [], hm, rfl, rfl, rfl, .nil⟩
theorem s_rz1 (hc : X.calm = true) (tk : Takes X W) (T : XcI X.prog X.w X.K X.mg X.base k c f) (hr : Room j X.A) (hk : k + 1 ≤ j) (he : PE X e (tP (fm X vs0) fa)) (hg : Gl X c := by rfl) (hdb : (c == ("__debug__" : Str)) = false := by decide)
    (hs : starEach [e] X.env = (false, eval e X.env) :: starEach [] X.env := by rfl) (hpl : (backTo pos (starEach [] X.env)).any (·.1) = false := by rfl) : PS X (.Raise (some (.Call (.Name c p) [e] [] pos)) none pos2) (tS (fmW X vs0 W) (sRz1 c f fa)) := by
  obtain ⟨C, fI, fd, ps, hm, O, hf, iC, tI, G, hb⟩ := T.ex
  refine (ps_raise hc tk (pmk_oex O iC tI G (hr.mono hk) hb .nil pass0 hg hm (pa_cons he pa_nil hs) hdb hs hpl)).imp fun D' σ H ⟨ρ, ts, fl, ρ', a, q, k⟩ => ?_
  unfold sRz1 at q
  split at q
  · rename_i d hd
    split at q
    · rename_i hi
      cases q
      refine ⟨ρ, ts, d, a, hd, fun v H1 g1 rv _ => ⟨by show 1 ≤ 1000; decide, fun b hb => ?_⟩⟩
      refine ⟨b, C, v, rfl, O, hf, upd_same, fun dx hdx hne => ⟨rfl, dx, [(f, v)], upd_same, ?_, ?_, ?_⟩⟩
      · rw [upd_ne hne, upd_same]
      · rw [upd_ne hne] at hdx; exact hdx
      · rw [upd_ne hne] at hdx
        have g : Same H1 (upd (del (upd (upd (upd H1 b (exo b C none)) dx (exd dx [(f, v)])) b (exo b C (some dx))) b) dx (.xd [(f, v)])) := fun y o hy => by
          have h1 : y ≠ b := fun z => by rw [z, hb] at hy; cases hy
          have h2 : y ≠ dx := fun z => by rw [z, hdx] at hy; cases hy
          rw [upd_ne h2, del_ne h1, upd_ne h1, upd_ne h2, upd_ne h1]
          exact hy
        exact k _ _ σ _ ((a.grow g1).grow g) ⟨by simp only [immL, hi, Bool.and_self], C, [(f, v)], hm, rfl, upd_same, rfl, .cons (rv.grow g) .nil⟩
    · cases q
  · cases q
end
/-- the base's __init__ called through its own subclass's name -/
theorem pe_sinit {X : Cx} {S : Addr} {x : Str} {e : Expr} {es : List Expr} {ta : TA} {p1 p2 pos : Pos} {pl : Sem Bool} (hm : X.mg x = some (.ref S)) (gS : PySem.W.specialIn X.K (.ref S) "__getattribute__" = some (some (.builtin "type.__getattribute__"))) (rS : PySem.W.readsIn X.K S (.type "type") = true)
    (vS : PySem.W.findCls X.K (.ref S) (.type "type") "__init__" = some (.val (.builtin "ValueError.__init__"))) (ha : PA X (e :: es) ta) (hg : Gl X x := by rfl) (hdb : (x == ("__debug__" : Str)) = false := by decide)
    (hc : eval (.Call (.Attribute (.Name x p1) "__init__" p2) (e :: es) [] pos) X.env = (do
      let ov ← eval (.Name x p1) X.env
      standAt p2.atName
      let (f, first) ← holding [ov] (getMethod ov "__init__" pl)
      callWith pos f first (backTo pos (starEach (e :: es) X.env)) (backToKw pos (keywordEach [] X.env))) := by rfl)
    (he : starEach (e :: es) X.env = (false, eval e X.env) :: starEach es X.env := by rfl) (hpl : (backTo pos (starEach es X.env)).any (·.1) = false := by rfl) :
    PE X (.Call (.Attribute (.Name x p1) "__init__" p2) (e :: es) [] pos) (tVeI X.K ta) := by
  constructor
  intro pins s σ H Q I h
  refine PySem.W.methodCall_KW (ld_glob I hg hm (PySem.W.method_cls I.kIn gS (PySem.W.cls_value I.kIn rS vS (by decide +kernel) ?_)) hdb) hc
  refine PyProof.Rows.callWith_method1 (thn (ha.run pos pins _ σ H _ (I.tok _) h) ?_) he hpl
  rintro us s1 ⟨vs, H1, J, rv, a, C, ws, rfl, hl, O, hx, q⟩
  cases rv with
  | @cons _ u0 _ ur r0 r1 =>
    obtain rfl : u0 = Value.ref a := r0
    refine oinit_ok O J hx ?_ fun s2 J2 => ⟨.non, H1, J2, rfl, q⟩
    have e1 := Paired.length r1
    rw [sizeLine_eq]
    omega
/-- C.__init__'s promise out of its body -/
theorem exi_in {K : PySem.W.Frag} {f q : Str} {vs : List V} {H : Hp} {Q : VK} {E : XK} {ta : TE} (hta : ∀ (a : Addr) (y : V) H Q, (∀ v, Q v H) → ta (start ["self", q] [.ref a, y]) H Q) (h : spI K f vs H Q E) :
    tSeq (tDrop (tVeI K (tCons (tVar 0) (tCons ta tNil)))) (tOst K f (tVar 0) (tVar 1)) { nx := fun _ H' => Q .non H', rt := Q } (start ["self", q] vs) H := by
  obtain ⟨a, C, y, rfl, O, hf, hx, k⟩ := h
  refine ⟨.ref a, rfl, hta _ _ _ _ fun v => ⟨a, C, [v], rfl, by show 1 ≤ 1000; decide, O, hx, ?_⟩⟩
  exact ⟨y, rfl, .ref a, rfl, a, C, rfl, O, hf, .inl ⟨hx, fun dx h1 h2 => k dx h1 h2⟩⟩
end Dl

set_option Elab.async false
set_option linter.all false
set_option maxRecDepth 100000
set_option maxHeartbeats 2000000
/-! DL32: try .. except S as n: m = n: the exception kept as a value behind the clause. -/
namespace Dl
open PySem PySem.Spec PyProof.Rows L2

/-! ### an object that came since the entry is told of -/
section
variable {X : Cx} {pins : List (Addr × Obj)} {σ : L2.St} {H : Hp} {s : Shared} {a : Addr} {o : HO}
theorem inv_told (I : Inv X pins σ H s) (hn : H a = none) (h0 : X.s_0.heap.get? a = none) (hL : X.env.locals ≠ a) (hC : ∀ y c, X.env.cells.lookup y = some c → c ≠ a) (hp : ∀ p ∈ X.pn ++ pins, p.1 ≠ a) (new : ObjOk X.prog X.w (upd H a o) s.heap a o) :
    Inv X pins σ (upd H a o) s where
  ok := I.ok
  os := I.os
  bare := I.bare
  base := {
    keep := I.base.keep
    slot := I.base.slot
    there := I.base.there
    free := fun b u e n hx => by
      have : b ≠ a := fun z => by rw [z, h0] at e; cases e
      rw [upd_ne this]; exact I.base.free b u e n hx
    tups := fun b xs e => by have z := I.base.tups b xs e; rw [upd_ne (ne_of_none z hn)]; exact z
    frzs := fun b u v e => by have z := I.base.frzs b u v e; rw [upd_ne (ne_of_none z hn)]; exact z
    tbls := fun b ps e => by
      obtain ⟨more, z⟩ := I.base.tbls b ps e
      exact ⟨more, by rw [upd_ne (ne_of_none z hn)]; exact z⟩ }
  loc := I.loc
  cell := I.cell
  free := by rw [upd_ne hL]; exact I.free
  freeC := fun y c e => by rw [upd_ne (hC y c e)]; exact I.freeC y c e
  pin := fun p h => by
    obtain ⟨z1, z2, z3⟩ := I.pin p h
    exact ⟨z1, by rw [upd_ne (hp p h)]; exact z2, z3⟩
  hok := fun b u e => by
    by_cases hb : b = a
    · subst hb
      rw [upd_same] at e
      cases e
      exact new
    · rw [upd_ne hb] at e
      exact (I.hok b u e).stay (fun _ _ _ q => q) (fun c q => by rw [upd_ne (ne_of_none q hn)]; exact q) fun c xs q => by rw [upd_ne (ne_of_none q hn)]; exact q
  len := I.len
end

/-- what the clause «except c as n: m = n» wishes of an exception of the body: n at slot i, m at slot j -/
def wKeep (K : PySem.W.Frag) (c : Value) (i j : Nat) (D' : Ends) : WX := fun cls d σ H => PySem.W.exmOne K cls c = some true ∧ ∀ a, H a = none → D'.nx (((σ.set i (some (.ref a))).set j (some (.ref a))).set i none) (upd H a (exH cls d a))
section
variable {X : Cx} {x n m : Str} {c : Value} {i j : Nat} {body : List Stmt} {np pm pn pa pos pos' : Pos}
/-- the clause's own run, from an exception in the air -/
theorem keep_run {pins : List (Addr × Obj)} {D' : Ends} {xe : Value → Shared → Prop} {u : Value} {s' : Shared} (ok : X.Ok) (hs : X.stack = X.env :: X.outer) (hf : X.env.frame = some X.env.locals) (hex : X.ex = []) (hN : X.N.Nodup) (hi : X.N[i]? = some n) (hj : X.N[j]? = some m) (hln : X.env.kindOf n = some .local) (hlm : Loc X.env.scope m) (hvn : Vis X.env.scope n) (hc : Names X x c)
    (hfm : X.fn m = true ∨ X.env.scope.names.lookup m = some .local) (hdn : (n == ("__debug__" : Str)) = false) (hcn : (n == ("__classdict__" : Str)) = false) (hsw : swapsWith (.Name n pn) (some (.Name m pm)) pa.line X.env = pure false)
    (xx : XE (X.tr (X.pn ++ pins) xe) (wKeep X.K c i j D') u s') :
    wpAny (model X.prog X.w) X.A (noteFrame u X.env) (fun _ s2 => wpAny (model X.prog X.w) X.A (setFlight u none) (fun _ s3 => wpAny (model X.prog X.w) X.A (handleBy u X.env [.ExceptHandler (some (.Name x np)) (some n) [.Assign [.Name m pm] (.Name n pn) pa] pos']) (SP X pins D') X.xe s3) X.xe s2) X.xe s' := by
  obtain ⟨a, B, sI, pins', τ, G, cls, d, rfl, J0, nb, up, sky, na, os, ag, hcatch, hend⟩ := xx
  have J : Inv X pins τ G sI := J0.ofTry ok
  have onStack : X.A.frames = some (X.env :: X.outer) := ok.frames.trans (congrArg some hs)
  rw [show (X.tr (X.pn ++ pins) xe).stack = X.env :: X.outer from hs] at sky
  refine Sky.land Zc.steady onStack hf sky fun h1 f1 u1 => ?_
  -- the exception is no part of the frames, nor of what stood ahead of it
  have off : ∀ {h : Heap}, HandSPX.FlyingZ B (X.env :: X.outer) a (Zc cls d) h → a ∉ frs (X.env :: X.outer) := fun {h} fl hm => by
    obtain ⟨o, vs, e1, _, e2⟩ := fl.there
    obtain ⟨_, o2, e3, nf⟩ := fl.2.2.1.mem hm
    rw [e1] at e3; cases e3
    exact nf _ e2
  have nf := off f1
  have away : sI.heap.get? a = none := by
    cases e : sI.heap.get? a with
    | none => rfl
    | some o =>
      have z := nb a o e (by rw [show (X.tr (X.pn ++ pins) xe).stack = X.env :: X.outer from hs]; exact nf)
      rw [f1.2.1] at z; cases z
  have nL : a ≠ X.env.locals := fun z => nf (List.mem_filterMap.mpr ⟨X.env, List.mem_cons_self, by rw [hf, z]⟩)
  have nO : a ∉ X.fs := fun hm => by
    obtain ⟨e, he, q⟩ := List.mem_filterMap.mp hm
    exact nf (List.mem_filterMap.mpr ⟨e, List.mem_cons_of_mem _ he, q⟩)
  have land : ∀ {h2 : Heap}, HandSPX.FlyingZ B (X.env :: X.outer) a (Zc cls d) h2 → h1.UpToSlots h2 → Inv X pins τ G { s' with heap := h2 } := fun fl up2 => J.landed nb fl.1 ((up.trans u1).trans up2) os ag
  have hold : ∀ {t : Shared} {oe : Obj} {vs : Array Value}, Inv X pins τ G t → t.heap.get? a = some oe → oe.data = .fields vs → Inv (X.suite a ((a, oe) :: (X.pn ++ pins))) [] τ G t := fun I e1 e2 => I.suite e1 e2 na nL nO
  have I1 : Inv X pins τ G { s' with heap := h1 } := J.landed nb f1.1 (up.trans u1) os ag
  obtain ⟨o1, w1, g1, z1, y1⟩ := f1.there
  have S1 := hold I1 g1 y1
  refine wpAny_handleBy_cons (codeAny_handlers_test ?_) (by intro q; cases q)
  -- the class that the clause names
  have ask : ∀ {Q E : Value → Shared → Prop}, Q c { s' with heap := h1 } → wpAny (model X.prog X.w) (X.A.mark (some (.ref a))) (eval (.Name x np) X.env) Q E { s' with heap := h1 } := fun q => by
    rcases hc with ⟨hg, hd, hm | ⟨hm, hv, hnn⟩⟩
    · exact ld_glob S1 hg hm q hd
    · exact ld_blt S1 hg hm hv q hnn hd
  have ofCls : PySem.W.Looks (model X.prog X.w) h1 (typeOf (.ref a)) cls := fun A Q E t k q => wpAny_typeOf_ref (k _ _ g1) (by rw [z1.1]; exact q)
  refine ask ((PySem.W.exm_one I1.kIn ofCls hcatch).here ?_)
  refine codeAny_handlers_suite_as (HandSPX.lands_againZ f1 fun h2 f2 u2 => ?_)
  have I2 := land f2 u2
  obtain ⟨o2, w2, g2, z2, y2⟩ := f2.there
  have locN : Loc X.env.scope n := .inl hln
  refine store_ok (X := X.suite a ((a, o2) :: (X.pn ++ pins))) (v := .ref a) (hold I2 g2 y2) hN hi locN rfl (fun s3 S3 => ?_) (.inr hln)
  -- m = n
  have body : PSs (X.suite a ((a, o2) :: (X.pn ++ pins))) [.Assign [.Name m pm] (.Name n pn) pa] (tAsg (tVar i) (gName j)) := pss_one (ps_set hN hj hlm (pv i hi hvn hdn hcn) hsw hfm)
  have hlen : i < τ.length := by
    have z : τ.length = X.N.length := J.len
    rw [z]; exact (List.getElem?_eq_some_iff.mp hi).1
  refine wpAny_mono (body.run [] s3 _ G { nx := fun σ' H' => σ' = (τ.set i (some (.ref a))).set j (some (.ref a)) ∧ H' = G, rt := fun _ _ => False } S3 ⟨.ref a, List.getElem?_set_self hlen, rfl, rfl⟩) (fun f s4 q => ?_) (fun _ _ z => z.elim)
  cases f with
  | brk => obtain ⟨_, _, _, z⟩ := q; exact z.elim
  | cont => obtain ⟨_, _, _, z⟩ := q; exact z.elim
  | ret v => obtain ⟨_, _, _, _, _, z⟩ := q; exact z.elim
  | next =>
    obtain ⟨σ4, H4, S4, e1, e2⟩ := q
    rw [e1, e2] at S4
    have I4 : Inv X pins _ G s4 := S4.unsuite ok
    have here : s4.heap.get? a = some o2 := (S4.pin (a, o2) (List.mem_append_left _ List.mem_cons_self)).1
    have old : X.s_0.heap.get? a = none := by
      cases e : X.s_0.heap.get? a with
      | none => rfl
      | some o =>
        obtain ⟨o', z⟩ := J.base.there a o e (by rw [hex]; exact fun z => nomatch z)
        rw [away] at z; cases z
    have I5 : Inv X pins _ (upd G a (exH cls d a)) s4 := inv_told I4 na old (Ne.symm nL)
      (fun y c' e z => by
        obtain ⟨v, o, e1, _⟩ := J.cell y c' e
        rw [z, away] at e1; cases e1)
      (fun p hp z => by
        have e1 := (J.pin p hp).1
        rw [z, away] at e1; cases e1) (exH_ok here z2 y2)
    exact gone_ok I5 hN hi hln fun s5 I6 => ⟨_, _, I6, hend a na⟩
/-- try: body; except x as n: m = n -/
theorem ps_keep {tb : WX → TS} (hs : X.stack = X.env :: X.outer) (hf : X.env.frame = some X.env.locals) (hex : X.ex = []) (hN : X.N.Nodup) (hi : X.N[i]? = some n) (hj : X.N[j]? = some m) (hln : X.env.kindOf n = some .local) (hlm : Loc X.env.scope m) (hvn : Vis X.env.scope n) (hc : Names X x c)
    (hfm : X.fn m = true ∨ X.env.scope.names.lookup m = some .local) (hdn : (n == ("__debug__" : Str)) = false) (hcn : (n == ("__classdict__" : Str)) = false) (hsw : swapsWith (.Name n pn) (some (.Name m pm)) pa.line X.env = pure false)
    (hb : ∀ (W : WX) (pn : List (Addr × Obj)) (xe : Value → Shared → Prop), Takes (X.tr pn xe) W → PassesOwn (model X.prog X.w) X.A X.env xe → PSs (X.tr pn xe) body (tb W)) :
    PS X (.Try body [.ExceptHandler (some (.Name x np)) (some n) [.Assign [.Name m pm] (.Name n pn) pa] pos'] [] [] pos) (fun D' σ H => tb (wKeep X.K c i j D') D' σ H) := by
  constructor
  intro pins s σ H D' I h
  have B := hb (wKeep X.K c i j D') (X.pn ++ pins) _ (fun u s' xx => keep_run (pos' := pos') (np := np) I.ok hs hf hex hN hi hj hln hlm hvn hc hfm hdn hcn hsw xx) PassesOwn.looking
  refine wpAny_Try_except (wpAny_mono (B.run [] s σ H D' (I.toTry _) h) (fun f s1 q => ?_) fun _ _ z => z)
  have ok := I.ok
  cases f with
  | next => exact let ⟨σ1, H1, J, z⟩ := q; wpAny_execs_nil ⟨σ1, H1, J.ofTry ok, z⟩
  | brk => exact let ⟨σ1, H1, J, z⟩ := q; ⟨σ1, H1, J.ofTry ok, z⟩
  | cont => exact let ⟨σ1, H1, J, z⟩ := q; ⟨σ1, H1, J.ofTry ok, z⟩
  | ret u => exact let ⟨v, σ1, H1, J, r, z⟩ := q; ⟨v, σ1, H1, J.ofTry ok, r, z⟩
end
end Dl

set_option Elab.async false
set_option linter.all false
set_option maxRecDepth 100000
set_option maxHeartbeats 2000000
/-! DL33: try by its mirror; isinstance of a caught exception, its field. -/
namespace Dl
open PySem PySem.Spec PyProof.Rows L2

/-! ### try: body; except S as n: m = n -/
def sTry (names : List Str) (i j : Nat) (body : SM) : SM := fun ρ => match body ρ with
  | some (.xc (.exn c fs ds), ρ1) => if names.contains c = true then some (.nx, (ρ1.set i none).set j (some (.exn c fs ds))) else none
  | some (.xc _, _) => none
  | some (.nx, ρ1) => some (.nx, ρ1)
  | some (.rt d, ρ1) => some (.rt d, ρ1)
  | some (.bk, ρ1) => some (.bk, ρ1)
  | some (.ct, ρ1) => some (.ct, ρ1)
  | none => none
section
variable {F : Fm} {σ : L2.St} {H : Hp} {ρ : DEnv} {ts : List Rt} {i j : Nat}
theorem slotR_skip : ∀ (σ : L2.St) (ρ : DEnv) (i : Nat) (y : Option V), (∀ d, ρ[i]? ≠ some (some d)) → slotR (σ.set i y) ρ = slotR σ ρ
  | [], ρ, i, y, _ => by simp
  | x :: σ, [], i, y, _ => by cases i <;> simp [slotR]
  | x :: σ, z :: ρ, 0, y, h => by
    have : z = none := by
      cases z with
      | none => rfl
      | some d => exact absurd rfl (h d)
    subst this
    rw [List.set_cons_zero, slotR_none, slotR_none]
  | x :: σ, z :: ρ, i + 1, y, h => by
    have ih := slotR_skip σ ρ i y (by simpa using h)
    rw [List.set_cons_succ]
    cases x <;> cases z <;> simp [slotR, ih]
theorem At.forget (a : At F σ H ρ ts) (i : Nat) : At F σ H (ρ.set i none) ts := by
  obtain ⟨xs, p⟩ := slotR_forget σ ρ i
  have s : Sim F.K F.mg H (xs ++ (slotR σ (ρ.set i none) ++ ts)) := a.sim.perm (by rw [← List.append_assoc]; exact p.append_right _)
  exact a.away s.drop
theorem At.hide {y : Option V} (a : At F σ H ρ ts) (hn : ∀ d, ρ[i]? ≠ some (some d)) (hp : F.vs0.length ≤ i) : At F (σ.set i y) H ρ ts := by
  refine ⟨by rw [List.length_set]; exact a.lenS, a.lenR, fun k d h => ?_, fun k v h => ?_, by rw [slotR_skip σ ρ i y hn]; exact a.sim⟩
  · have ne : i ≠ k := fun e => hn d (e ▸ h)
    rw [List.getElem?_set_ne ne]; exact a.fit k d h
  · have ne : i ≠ k := fun e => by
      have := (List.getElem?_eq_some_iff.mp h).1
      omega
    rw [List.getElem?_set_ne ne]; exact a.par k v h
theorem none_at (ρ : DEnv) (i : Nat) : ∀ d, (ρ.set i none)[i]? ≠ some (some d) := fun d h => by
  by_cases hl : i < ρ.length
  · rw [List.getElem?_set_self hl] at h; cases h
  · rw [List.getElem?_eq_none (by simpa using hl)] at h; cases h
theorem imp_try {names : List Str} {body : SM} {c : Value} (hne : i ≠ j) (hi : F.vs0.length ≤ i) (hj : F.vs0.length ≤ j) (hjn : j < F.n) (hc : ∀ nm, names.contains nm = true → ∀ C, F.mg nm = some (.ref C) → PySem.W.exmOne F.K (.ref C) c = some true) :
    ∀ D' σ H, tS F (sTry names i j body) D' σ H → tS ⟨F.K, F.mg, F.vs0, F.n, wKeep F.K c i j D'⟩ body D' σ H := fun D' σ H ⟨ρ, ts, fl, ρ', a, q, k⟩ => by
  unfold sTry at q
  split at q
  · rename_i nm fs ds ρ1 hb
    split at q
    · rename_i hm
      cases q
      refine ⟨ρ, ts, .xc _, ρ1, a, hb, ?_⟩
      rintro cls d σ' H' a1 ⟨im, C, fvs, hC, rfl, hd, hf, rl⟩
      refine ⟨hc nm hm C hC, fun b hb' => k _ _ ?_⟩
      have a2 : At F σ' H' (ρ1.set i none) ts := At.forget a1 i
      have a3 : At F (σ'.set i (some (.ref b))) (upd H' b (exH (.ref C) d b)) (ρ1.set i none) (.v (.ref b) (.exn nm fs ds) :: ts) := (a2.of_front (Sim.newX a2.front hb' hC hd hf rl im)).hide (none_at ρ1 i) hi
      exact (a3.store hj hjn).hide (fun e => by rw [List.getElem?_set_ne (Ne.symm hne)]; exact none_at ρ1 i e) hi
    · cases q
  · cases q
  · rename_i ρ1 hb; cases q; exact ⟨ρ, ts, _, _, a, hb, k⟩
  · rename_i d ρ1 hb; cases q; exact ⟨ρ, ts, _, _, a, hb, k⟩
  · rename_i ρ1 hb; cases q; exact ⟨ρ, ts, _, _, a, hb, k⟩
  · rename_i ρ1 hb; cases q; exact ⟨ρ, ts, _, _, a, hb, k⟩
  · cases q
end
/-- what «except S» catches -/
structure Ctch (K : PySem.W.Frag) (mg : Str → Option Value) (S : Str) (names : List Str) : Prop where
  ex : ∃ C : Addr, mg S = some (.ref C) ∧ ∀ nm, names.contains nm = true → ∀ D : Addr, mg nm = some (.ref D) → PySem.W.exmOne K (.ref D) (.ref C) = some true
section
variable {X : Cx} {vs0 : List V} {W : WX} {x n m : Str} {body : SM} {bs : List Stmt} {names : List Str} {np pm pn pa pos pos' : Pos}
theorem s_try (i j : Nat) (hpi : vs0.length ≤ i) (hpj : vs0.length ≤ j) (hN : X.N.Nodup) (T : Ctch X.K X.mg x names)
    (hb : ∀ (W : WX) (pn : List (Addr × Obj)) (xe : Value → Shared → Prop), Takes (X.tr pn xe) W → PassesOwn (model X.prog X.w) X.A X.env xe → PSs (X.tr pn xe) bs (tS (fmW X vs0 W) body))
    (hne : i ≠ j := by decide) (hi : X.N[i]? = some n := by rfl) (hj : X.N[j]? = some m := by rfl) (hs : X.stack = X.env :: X.outer := by rfl) (hf : X.env.frame = some X.env.locals := by rfl) (hex : X.ex = [] := by rfl) (hln : X.env.kindOf n = some .local := by rfl) (hlm : Loc X.env.scope m := by first | exact Or.inl rfl | exact Or.inr rfl) (hvn : Vis X.env.scope n := by first | exact Or.inl rfl | exact Or.inr (Or.inl rfl) | exact Or.inr (Or.inr rfl))
    (hg : Gl X x := by rfl) (hdx : (x == ("__debug__" : Str)) = false := by decide) (hfm : X.fn m = true ∨ X.env.scope.names.lookup m = some .local := by first | exact .inl rfl | exact .inr rfl) (hdn : (n == ("__debug__" : Str)) = false := by decide) (hcn : (n == ("__classdict__" : Str)) = false := by decide) (hsw : swapsWith (.Name n pn) (some (.Name m pm)) pa.line X.env = pure false := by rfl) :
    PS X (.Try bs [.ExceptHandler (some (.Name x np)) (some n) [.Assign [.Name m pm] (.Name n pn) pa] pos'] [] [] pos) (tS (fmW X vs0 W) (sTry names i j body)) := by
  obtain ⟨C, hm, hc⟩ := T.ex
  exact (ps_keep (c := .ref C) (tb := fun W => tS (fmW X vs0 W) body) hs hf hex hN hi hj hln hlm hvn ⟨hg, hdx, .inl hm⟩ hfm hdn hcn hsw hb).imp (imp_try (F := fmW X vs0 W) hne hpi hpj (List.getElem?_eq_some_iff.mp hj).1 hc)
end

/-! ### isinstance(caught, T) -/
/-- what the class says, so that isinstance asks its instances rightly -/
structure ExcK (K : PySem.W.Frag) (C : Addr) : Prop where
  hcl : PySem.W.isClsIn K C = true
  hga : PySem.W.findIn K (.ref C) "__getattribute__" = some (some (.builtin "BaseException.__getattribute__"))
  hgt : PySem.W.findIn K (.ref C) "__getattr__" = some none
  hsub : PySem.W.subIn K (.ref C) (.type "BaseException") = some true
  ha : PySem.W.findIn K (.ref C) "__class__" = some (some (.builtin "object.__class__"))
  hn : PySem.W.specialIn K (.builtin "object.__class__") "__get__" = some (some (.builtin "getset_descriptor.__get__"))
  htk : PySem.W.takesIn K (.builtin "object.__class__") = some true
  hm : PySem.W.mroIn K C (.type "object") = some true
def rIsX (K : PySem.W.Frag) : List V → Hp → VK → Prop := fun xs H Q => ∃ (a C : Addr) (d : Option Addr) (fvs : List (Str × V)) (t : V) (cv : Value) (b : Bool), xs = [.ref a, t] ∧ H a = some (exH (.ref C) d a) ∧ XdAt H d fvs ∧ (∀ u, RelV t u → u = cv) ∧ ExcK K C ∧ PySem.W.kitOne K (.ref C) cv = some b ∧ Q (.bl b) H
/-- a told exception as an instance -/
theorem exc_at {X : Cx} {pins : List (Addr × Obj)} {σ : L2.St} {H : Hp} {s : Shared} {a C : Addr} {d : Option Addr} {fvs : List (Str × V)} (I : Inv X pins σ H s) (h : H a = some (exH (.ref C) d a)) (hd : XdAt H d fvs) :
    ∃ oe od, PySem.W.InstAt s.heap a oe C od ∧ ∀ f v, fvs.lookup f = some v → ∃ o u, od = some o ∧ PySem.W.lookIn f o = some (some u) ∧ RelV v u := by
  obtain ⟨⟨oe, vs, e1, ⟨z1, z2⟩, e2⟩, _, _⟩ := I.hok a _ h
  have nc : PySem.W.notCls oe := by unfold PySem.W.notCls; rw [e2] <;> rfl
  cases d with
  | none =>
    refine ⟨oe, none, ⟨e1, z1, nc, by rw [z2] <;> trivial⟩, fun f v hl => ?_⟩
    have hd' : fvs = [] := hd
    rw [hd'] at hl; cases hl
  | some dd =>
    obtain ⟨mA, hns, hr⟩ := I.hok dd _ (show H dd = some (.xd fvs) from hd)
    obtain ⟨od, ho, hl⟩ := lookIn_ns hns
    refine ⟨oe, some od, ⟨e1, z1, nc, by rw [z2]; exact ho⟩, fun f v hv => ?_⟩
    obtain ⟨u, hu, ru⟩ := RelO.some_of (v := v) (o := mA f) (by rw [← hv]; exact hr f)
    exact ⟨od, u, rfl, by rw [hl, hu], ru⟩
theorem call_isX {X : Cx} : CallR X (.builtin "isinstance") (rIsX X.K) := by
  intro pins s σ H xs us Q I r h
  obtain ⟨a, C, d, fvs, t, cv, b, rfl, hx, hd, hcv, k, e, q⟩ := h
  cases r with
  | cons rx rr =>
    cases rr with
    | cons rt rr =>
      cases rr
      cases rx
      have ec := hcv _ rt
      subst ec
      obtain ⟨oe, od, J, _⟩ := exc_at I hx hd
      exact PySem.W.kia_one (PySem.W.kitx_exc k.hcl k.hga k.hgt k.hsub k.ha k.hn k.htk k.hm) I.kIn J e (fun z => nomatch z) fun tk => ⟨.bl b, H, I.kept (t' := tk) fun _ _ z => z, rfl, q⟩
def pIsE (tab : List (Str × Bool)) (fa : PM) : PM := fun ρ => match fa ρ with
  | some (.exn c _ _) => (tab.lookup c).map .bl
  | _ => none
def IsE (K : PySem.W.Frag) (mg : Str → Option Value) (cv : Value) (tab : List (Str × Bool)) : Prop := ∀ c b, tab.lookup c = some b → ∀ C, mg c = some (.ref C) → ExcK K C ∧ PySem.W.kitOne K (.ref C) cv = some b
/-- T an own class -/
structure IsX (K : PySem.W.Frag) (mg : Str → Option Value) (T : Str) (tab : List (Str × Bool)) : Prop where
  ex : ∃ C : Addr, mg T = some (.ref C) ∧ IsE K mg (.ref C) tab
section
variable {X : Cx} {F : Fm} {vs0 : List V} {fa : PM} {a : Expr} {tab : List (Str × Bool)} {T : Str} {Tb : String} {p p1 pos : Pos} {c f : Str}
theorem imp_isX {t : V} {cv : Value} (hcv : ∀ u, RelV t u → u = cv) (hT : IsE F.K F.mg cv tab) : ∀ σ H Q, tP F (pIsE tab fa) σ H Q → tCB (rIsX F.K) (tCons (tP F fa) (tCons (tC t) tNil)) σ H Q := fun σ H Q ⟨ρ, ts, d, a, e, k⟩ => by
  unfold pIsE at e
  split at e
  · rename_i c fs ds ex
    refine ⟨ρ, ts, _, a, ex, fun v H1 g1 rx cx => ?_⟩
    obtain ⟨b, hb, rfl⟩ := Option.map_eq_some_iff.mp e
    cases rx with
    | exn hC hx hd hf rl =>
      obtain ⟨k1, k2⟩ := hT c b hb _ hC
      exact ⟨_, _, _, _, t, cv, b, rfl, hx, hd, hcv, k1, k2, k _ H1 g1 (.bl b) (Cj.of ((a.grow g1).mk' (mk_bl b)))⟩
  · cases e
theorem p_isX (hm : X.mg "isinstance" = none) (hT : IsX X.K X.mg T tab) (ha : PE X a (tP (fm X vs0) fa)) (hgT : Gl X T := by rfl) (hdT : (T == ("__debug__" : Str)) = false := by decide) (hg : Gl X "isinstance" := by rfl)
    (he : starEach (a :: [.Name T p1]) X.env = (false, eval a X.env) :: starEach [.Name T p1] X.env := by rfl) (he2 : starEach (.Name T p1 :: []) X.env = (false, eval (.Name T p1) X.env) :: starEach [] X.env := by rfl) (hpl : (backTo pos (starEach [.Name T p1] X.env)).any (·.1) = false := by rfl) :
    PE X (.Call (.Name "isinstance" p) [a, .Name T p1] [] pos) (tP (fm X vs0) (pIsE tab fa)) := by
  obtain ⟨C, hC, h⟩ := hT.ex
  exact (pe_callB call_isX hg hm (by rfl) (pa_cons ha (pa_cons (pe_glob hgT hC (show RelV (.ref C) (.ref C) from rfl) hdT) pa_nil he2) he) (by decide) (by decide) he hpl).imp (imp_isX (F := fm X vs0) (fun u r => r) h)
theorem p_isV (hm : X.mg "isinstance" = none) (hT : IsE X.K X.mg (.type Tb) tab) (ha : PE X a (tP (fm X vs0) fa)) {b : Expr} (hb : PE X b (tC (.ty Tb))) (hg : Gl X "isinstance" := by rfl)
    (he : starEach (a :: [b]) X.env = (false, eval a X.env) :: starEach [b] X.env := by rfl) (he2 : starEach (b :: []) X.env = (false, eval b X.env) :: starEach [] X.env := by rfl) (hpl : (backTo pos (starEach [b] X.env)).any (·.1) = false := by rfl) :
    PE X (.Call (.Name "isinstance" p) [a, b] [] pos) (tP (fm X vs0) (pIsE tab fa)) :=
  (pe_callB call_isX hg hm (by rfl) (pa_cons ha (pa_cons hb pa_nil he2) he) (by decide) (by decide) he hpl).imp (imp_isX (F := fm X vs0) (fun u r => r) hT)

/-! ### caught.f -/
def pXf (c f : Str) (fa : PM) : PM := fun ρ => match fa ρ with
  | some (.exn c' [f'] [d]) => if c' = c ∧ f' = f ∧ d.imm = true then some d else none
  | _ => none
/-- f of an exception of the class c -/
structure XfE (K : PySem.W.Frag) (mg : Str → Option Value) (c f : Str) : Prop where
  ex : ∀ C : Addr, mg c = some (.ref C) → XfC K C ∧ PySem.W.findIn K (.ref C) f = some none
def tXfE (K : PySem.W.Frag) (f : Str) (te : TE) : TE := fun σ H Q => te σ H fun x H1 => ∃ (a C : Addr) (d : Option Addr) (fvs : List (Str × V)) (v : V), x = .ref a ∧ H1 a = some (exH (.ref C) d a) ∧ XdAt H1 d fvs ∧ XfC K C ∧ PySem.W.findIn K (.ref C) f = some none ∧ fvs.lookup f = some v ∧ Q v H1
theorem pe_xfE {e : Expr} {te : TE} (he : PE X e te) (hb : attributeBase e f X.env (eval e X.env) = eval e X.env := by rfl) : PE X (.Attribute e f pos) (tXfE X.K f te) := by
  constructor
  intro pins s σ H Q I h
  refine attr_of hb (thn (he.run pins s σ H _ I h) ?_)
  rintro u s1 ⟨x, H1, J, rx, a, C, d, fvs, v, rfl, hx, hd, T, hno, hl, q⟩
  obtain rfl : u = Value.ref a := rx
  obtain ⟨oe, od, K1, look⟩ := exc_at J hx hd
  obtain ⟨o, w, rfl, hw, rw'⟩ := look f v hl
  exact HandSPX.exc_get J.kIn K1 T.ga T.gg T.exC (PySem.W.findObj_own T.hdC hno rfl hw) (handed_of rw') ⟨v, H1, J.tok _, rw', q⟩
theorem p_xf (T : XfE X.K X.mg c f) (ha : PE X a (tP (fm X vs0) fa)) (hb : attributeBase a f X.env (eval a X.env) = eval a X.env := by rfl) : PE X (.Attribute a f pos) (tP (fm X vs0) (pXf c f fa)) :=
  (pe_xfE ha hb).imp fun σ H Q ⟨ρ, ts, d, at0, e, k⟩ => by
    unfold pXf at e
    split at e
    · rename_i c' f' d' ex
      split at e
      · rename_i hq
        cases e
        obtain ⟨rfl, rfl, im⟩ := hq
        refine ⟨ρ, ts, _, at0, ex, fun v H1 g1 rx cx => ?_⟩
        cases rx with
        | @exn b C dd _ fvs _ _ hC hx hd hf rl =>
          obtain ⟨h1, h2⟩ := T.ex C hC
          cases fvs with
          | nil => cases hf
          | cons p ps =>
            cases ps with
            | cons _ _ => cases hf
            | nil =>
              obtain ⟨f1, v1⟩ := p
              simp only [List.map_cons, List.map_nil, List.cons.injEq, and_true] at hf
              subst hf
              cases rl with
              | cons r1 _ =>
                exact ⟨b, C, dd, [(f', v1)], v1, rfl, hx, hd, h1, h2, by simp [List.lookup], k _ H1 g1 r1 (Cj.of ((at0.grow g1).imm r1 im))⟩
      · cases e
    · cases e
end
end Dl

set_option Elab.async false
set_option linter.all false
set_option maxRecDepth 100000
set_option maxHeartbeats 1000000
/-! DL34: + of lists and tuples whose parts go along (owned or frozen); a value frozen where it is made. -/
namespace Dl
open PySem PySem.Spec PyProof.Rows L2
def addM : D → D → Option D
  | .lst true xs, .lst true ys => if xs.length + ys.length ≤ 10000 then some (.lst true (xs ++ ys)) else none
  | .tup xs, .tup ys => if xs.length + ys.length ≤ 10000 then some (.tup (xs ++ ys)) else none
  | _, _ => none
def eAddM (a b : EM) : EM := fun ρ => match a ρ with
  | some (x, ρ1) => match b ρ1 with
    | some (y, ρ2) => match addM x y with
      | some d => some (d, ρ2)
      | none => none
    | none => none
  | none => none
def eFz (a : EM) : EM := fun ρ => match a ρ with
  | some (d, ρ1) => some (d.frz, ρ1)
  | none => none
section
variable {X : Cx} {vs0 : List V} {F : Fm} {ea eb : EM} {e a b : Expr} {pos : Pos}
theorem z10 {n : Nat} (h : n ≤ 10000) : n ≤ sizeLine := by rw [sizeLine_eq]; omega
theorem imp_addM : ∀ σ H Q, tD F (eAddM ea eb) σ H Q → tOp (rAddD F.K) (tD F ea) (tD F eb) σ H Q := fun σ H Q ⟨ρ, ts, d, ρ', at0, e, k⟩ => by
  unfold eAddM at e
  split at e
  · rename_i x ρ1 ex
    split at e
    · rename_i y ρ2 ey
      split at e
      · rename_i d' ed
        cases e
        refine ⟨ρ, ts, x, ρ1, at0, ex, fun v H1 a1 => ⟨ρ1, _, y, _, a1, ey, fun w H2 a2 => ?_⟩⟩
        have s2 : Sim F.K F.mg H2 (.v w y :: .v v x :: (ts ++ slotR σ ρ')) := a2.front
        unfold addM at ed
        split at ed
        · rename_i dx dy
          split at ed
          · rename_i hz
            cases ed
            obtain ⟨b, ys, rfl, hly, s3⟩ := s2.unL
            have hb := s3.cell
            have s4 := s3.tail.perm (rs' := .v v (.lst true dx) :: (vals ys dy ++ (ts ++ slotR σ ρ'))) List.perm_middle
            obtain ⟨l, xs, rfl, hlx, s5⟩ := s4.unL
            have hl := s5.cell
            refine .inr (.inr (.inl ⟨l, b, xs, ys, rfl, rfl, hl, hb, by rw [hlx, hly]; exact z10 hz, fun p hp => k _ _ (a2.of_front ?_)⟩))
            have s6 : Sim F.K F.mg H2 (vals (xs ++ ys) (dx ++ dy) ++ (ts ++ slotR σ ρ')) := by
              rw [vals_append hlx, List.append_assoc]
              exact s5.tail
            exact Sim.foL (rs := ts ++ slotR σ ρ') (s6.alloc (o := .lst (xs ++ ys)) hp) (by rw [List.length_append, List.length_append, hlx, hly])
          · cases ed
        · rename_i dx dy
          split at ed
          · rename_i hz
            cases ed
            obtain ⟨b, ys, rfl, hly, hb, s3⟩ := s2.unT
            have s4 := s3.perm (rs' := .v v (.tup dx) :: (vals ys dy ++ (ts ++ slotR σ ρ'))) List.perm_middle
            obtain ⟨l, xs, rfl, hlx, hl, s5⟩ := s4.unT
            refine .inr (.inr (.inr ⟨l, b, xs, ys, rfl, rfl, SqT.of hl, SqT.of hb, by rw [hlx, hly]; exact z10 hz, fun q => ?_, fun _ q => ?_, fun _ _ p hp => k _ _ (a2.of_front ?_)⟩))
            · subst q
              have : dx = [] := List.length_eq_zero_iff.mp hlx.symm
              subst this
              exact k _ H2 (a2.of_front (s2.perm (.swap _ _ _)).tail)
            · subst q
              have : dy = [] := List.length_eq_zero_iff.mp hly.symm
              subst this
              rw [List.append_nil] at k
              exact k _ H2 (a2.of_front s2.tail)
            · have s6 : Sim F.K F.mg H2 (vals (xs ++ ys) (dx ++ dy) ++ (ts ++ slotR σ ρ')) := by
                rw [vals_append hlx, List.append_assoc]
                exact s5
              exact s6.newT (by rw [List.length_append, List.length_append, hlx, hly]) hp
          · cases ed
        · cases ed
      · cases e
    · cases e
  · cases e
theorem imp_fz : ∀ σ H Q, tD F (eFz ea) σ H Q → tD F ea σ H Q := fun σ H Q ⟨ρ, ts, d, ρ', a, e, k⟩ => by
  unfold eFz at e
  split at e
  · rename_i d0 ρ1 ex
    cases e
    exact ⟨ρ, ts, d0, _, a, ex, fun v H1 a1 => k v H1 (a1.of_front (by have := a1.front; exact this.frz))⟩
  · cases e
theorem e_addM (ha : PE X a (tD (fm X vs0) ea)) (hb : PE X b (tD (fm X vs0) eb)) : PE X (.BinOp a .Add b pos) (tD (fm X vs0) (eAddM ea eb)) := (pe_op op_addD ha hb).imp imp_addM
theorem e_fz (ha : PE X e (tD (fm X vs0) ea)) : PE X e (tD (fm X vs0) (eFz ea)) := ha.imp imp_fz
end
end Dl

set_option Elab.async false
set_option linter.all false
set_option maxRecDepth 100000
/-! DL35: what the head has written of exception classes, put together. -/
namespace Dl
open PySem PySem.Spec PyProof.Rows L2
theorem ctch_mk {K : PySem.W.Frag} {mg : Str → Option Value} {S : Str} {names : List Str} (C : Addr) (hm : mg S = some (.ref C)) (l : List (Str × Addr)) (hl : names = l.map (·.1)) (h : ∀ p ∈ l, mg p.1 = some (.ref p.2) ∧ PySem.W.exmOne K (.ref p.2) (.ref C) = some true) : Ctch K mg S names := by
  subst hl
  refine ⟨⟨C, hm, fun nm hn D hD => ?_⟩⟩
  obtain ⟨p, hp, rfl⟩ := List.mem_map.mp (List.contains_iff_mem.mp hn)
  obtain ⟨h1, h2⟩ := h p hp
  rw [h1] at hD
  cases hD
  exact h2
theorem lookup_mem {l : List (Str × Bool)} {c : Str} {b : Bool} (h : l.lookup c = some b) : (c, b) ∈ l := by
  induction l with
  | nil => cases h
  | cons p l ih =>
    obtain ⟨d, e⟩ := p
    rw [List.lookup_cons] at h
    by_cases z : c == d
    · rw [z] at h
      cases h
      rw [beq_iff_eq.mp z]
      exact List.mem_cons_self
    · rw [Bool.not_eq_true] at z
      rw [z] at h
      exact List.mem_cons_of_mem _ (ih h)
theorem isE_mk {K : PySem.W.Frag} {mg : Str → Option Value} {cv : Value} {tab : List (Str × Bool)} (l : List (Str × Addr × Bool)) (hl : tab = l.map fun p => (p.1, p.2.2)) (h : ∀ p ∈ l, mg p.1 = some (.ref p.2.1) ∧ ExcK K p.2.1 ∧ PySem.W.kitOne K (.ref p.2.1) cv = some p.2.2) : IsE K mg cv tab := by
  subst hl
  intro c b hb C hC
  obtain ⟨p, hp, e⟩ := List.mem_map.mp (lookup_mem hb)
  obtain ⟨h1, h2, h3⟩ := h p hp
  cases e
  rw [h1] at hC
  cases hC
  exact ⟨h2, h3⟩
theorem all1 {α : Type} {P : α → Prop} {x : α} {l : List α} (h : P x) (hl : ∀ p ∈ l, P p) : ∀ p ∈ x :: l, P p := List.forall_mem_cons.mpr ⟨h, hl⟩
theorem all0 {α : Type} {P : α → Prop} : ∀ p ∈ ([] : List α), P p := fun _ h => nomatch h
theorem kit_own {K : PySem.W.Frag} {D T : Addr} {b : Bool} (h1 : PySem.W.isClsIn K T = true) (h2 : PySem.W.typeIn K (.ref T) = some (.type "type")) (hn : (Value.ref D == Value.ref T) = false) (h : PySem.W.subIn K (.ref D) (.ref T) = some b) : PySem.W.kitOne K (.ref D) (.ref T) = some b := by
  have h1' : (PySem.W.clsIn K T).isSome = true := h1
  have e : ((PySem.W.clsIn K T).isSome && PySem.W.typeIn K (.ref T) == some (.type "type")) = true := by rw [h1', h2] <;> rfl
  unfold PySem.W.kitOne PySem.W.kitCls
  rw [if_neg (by rw [hn]; exact Bool.false_ne_true)]
  show (if ((PySem.W.clsIn K T).isSome && PySem.W.typeIn K (.ref T) == some (.type "type")) = true then PySem.W.subIn K (.ref D) (.ref T) else none) = _
  rw [if_pos e, h]
theorem kit_self {K : PySem.W.Frag} {D : Addr} : PySem.W.kitOne K (.ref D) (.ref D) = some true := by
  unfold PySem.W.kitOne
  rw [if_pos (by simp)]
theorem kit_blt {K : PySem.W.Frag} {D : Addr} {T : String} {b : Bool} (h : PySem.W.subIn K (.ref D) (.type T) = some b) (hk : PySem.W.kitMeta T = true := by decide +kernel) : PySem.W.kitOne K (.ref D) (.type T) = some b := by
  unfold PySem.W.kitOne PySem.W.kitCls
  rw [if_neg (by simp)]
  show (if PySem.W.kitMeta T = true then PySem.W.subIn K (.ref D) (.type T) else none) = _
  rw [if_pos hk, h]
end Dl

set_option Elab.async false
set_option linter.all false
set_option maxRecDepth 100000
set_option maxHeartbeats 2000000
/-! DL36: dicts whose keys are tuples of tuples: {}, k in d, d[k], d[k] = v. -/
namespace Dl
open PySem PySem.Spec PyProof.Rows L2

/-! ### keys -/
mutual
theorem NkAt.nk {H : Hp} : ∀ {v : V} {d : D} {k : NestedKey}, NkAt H v d k → d.nk = some k
  | _, _, _, .non => by rw [D.nk]
  | _, _, _, .int i => by rw [D.nk]
  | _, _, _, .str x => by rw [D.nk]
  | _, _, _, .tup e l => by rw [D.nk, NkAll.nk l]
theorem NkAll.nk {H : Hp} : ∀ {vs : List V} {ds : List D} {ks : List NestedKey}, NkAll H vs ds ks → nkL ds = some ks
  | _, _, _, .nil => by rw [nkL]
  | _, _, _, .cons o l => by rw [nkL, NkAt.nk o, NkAll.nk l]
end
theorem nkL_cons {d : D} {ds : List D} {ks : List NestedKey} (h : nkL (d :: ds) = some ks) : ∃ k r, d.nk = some k ∧ nkL ds = some r ∧ ks = k :: r := by
  rw [nkL] at h
  split at h
  · rename_i k r h1 h2; cases h; exact ⟨k, r, h1, h2, rfl⟩
  · cases h
theorem nk_tup {ds : List D} {k : NestedKey} (h : (D.tup ds).nk = some k) : ∃ ks, nkL ds = some ks ∧ k = .tup ks := by
  rw [D.nk] at h
  split at h
  · rename_i ks h1; cases h; exact ⟨ks, h1, rfl⟩
  · cases h
section
variable {K : PySem.W.Frag} {mg : MG} {H : Hp}
mutual
theorem Rp.nkAt : ∀ {v : V} {d : D} {k : NestedKey}, Rp K mg H v d → d.nk = some k → NkAt H v d k
  | _, _, _, .non, h => by rw [D.nk] at h; cases h; exact .non
  | _, _, _, .int i, h => by rw [D.nk] at h; cases h; exact .int i
  | _, _, _, .str x, h => by rw [D.nk] at h; cases h; exact .str x
  | _, _, _, .tup z l, h => by
    obtain ⟨ks, h1, rfl⟩ := nk_tup h
    exact .tup z (RpL.nkAt l h1)
  | _, _, _, .bl _, h => by simp [D.nk] at h
  | _, _, _, .lst _ _, h => by simp [D.nk] at h
  | _, _, _, .dk _ _ _, h => by simp [D.nk] at h
  | _, _, _, .dt _ _ _, h => by simp [D.nk] at h
  | _, _, _, .dn _ _ _ _, h => by simp [D.nk] at h
  | _, _, _, .obj _ _ _ _, h => by simp [D.nk] at h
  | _, _, _, .scr _, h => by simp [D.nk] at h
  | _, _, _, .exn _ _ _ _ _, h => by simp [D.nk] at h
theorem RpL.nkAt : ∀ {vs : List V} {ds : List D} {ks : List NestedKey}, RpL K mg H vs ds → nkL ds = some ks → NkAll H vs ds ks
  | _, _, _, .nil, h => by rw [nkL] at h; cases h; exact .nil
  | _, _, _, .cons o l, h => by
    obtain ⟨k, r, h1, h2, rfl⟩ := nkL_cons h
    exact .cons (Rp.nkAt o h1) (RpL.nkAt l h2)
end
end
mutual
theorem nk_inj : ∀ {a b : D} {k : NestedKey}, a.nk = some k → b.nk = some k → a = b
  | .non, b, k, h, h' => by rw [D.nk] at h; cases h; cases b <;> simp [D.nk] at h' ⊢ <;> (split at h' <;> simp at h')
  | .int i, b, k, h, h' => by rw [D.nk] at h; cases h; cases b <;> simp [D.nk] at h' ⊢ <;> first | exact h'.symm | (split at h' <;> simp at h')
  | .str i, b, k, h, h' => by rw [D.nk] at h; cases h; cases b <;> simp [D.nk] at h' ⊢ <;> first | exact h'.symm | (split at h' <;> simp at h')
  | .tup xs, b, k, h, h' => by
    obtain ⟨ks, h1, rfl⟩ := nk_tup h
    cases b with
    | tup ys =>
      obtain ⟨ls, h2, e⟩ := nk_tup h'
      cases e
      rw [nkL_inj h1 h2]
    | _ => simp [D.nk] at h'
  | .bl _, _, _, h, _ => by simp [D.nk] at h
  | .lst _ _, _, _, h, _ => by simp [D.nk] at h
  | .dic _ _ _ _, _, _, h, _ => by simp [D.nk] at h
  | .obj _ _ _ _, _, _, h, _ => by simp [D.nk] at h
  | .scr _, _, _, h, _ => by simp [D.nk] at h
  | .exn _ _ _, _, _, h, _ => by simp [D.nk] at h
theorem nkL_inj : ∀ {a b : List D} {ks : List NestedKey}, nkL a = some ks → nkL b = some ks → a = b
  | [], b, ks, h, h' => by
    rw [nkL] at h; cases h
    cases b with
    | nil => rfl
    | cons y ys => obtain ⟨_, _, _, _, e⟩ := nkL_cons h'; cases e
  | x :: xs, b, ks, h, h' => by
    obtain ⟨k, r, h1, h2, rfl⟩ := nkL_cons h
    cases b with
    | nil => rw [nkL] at h'; cases h'
    | cons y ys =>
      obtain ⟨k', r', g1, g2, e⟩ := nkL_cons h'
      cases e
      rw [nk_inj h1 g1, nkL_inj h2 g2]
end
mutual
theorem nk_is {P : Program} {w : World} {H : Hp} {h : Heap} (hok : HOk P w H h) : ∀ {v : V} {d : D} {k : NestedKey} {u : Value}, NkAt H v d k → RelV v u → NestedIs h k u
  | _, _, _, u, .non, r => by
    obtain rfl : u = Value.none := r
    exact .none
  | _, _, _, u, .int i, r => by obtain ⟨t, rfl⟩ := r; exact .int i t
  | _, _, _, u, .str x, r => by obtain ⟨t, rfl⟩ := r; exact .text x t
  | _, _, _, u, .tup (a := a) e l, r => by
    obtain rfl : u = Value.ref a := r
    obtain ⟨_, its, rv, o, h1, h2, n, h3⟩ := hok _ _ e
    exact .tup h1 h2 h3 (by have := nk_all hok l rv; simpa using this)
theorem nk_all {P : Program} {w : World} {H : Hp} {h : Heap} (hok : HOk P w H h) : ∀ {vs : List V} {ds : List D} {ks : List NestedKey} {us : List Value}, NkAll H vs ds ks → Vals vs us → NestedAll h ks us
  | _, _, _, _, .nil, .nil => .nil
  | _, _, _, _, .cons o l, .cons r rs => .cons (nk_is hok o r) (nk_all hok l rs)
end
/-- a key that a dict may have -/
def nkOk (q : D) : Bool := match q with
  | .tup ds => match nkL ds with
    | some ks => decide ((NestedKey.tup ks).depth ≤ 8)
    | none => false
  | _ => false
theorem nkOk_of {q : D} (h : nkOk q = true) : ∃ k, q.nk = some k ∧ k.depth ≤ 8 := by
  unfold nkOk at h
  split at h
  · split at h
    · rename_i ks e
      exact ⟨.tup ks, by rw [D.nk, e], of_decide_eq_true h⟩
    · cases h
  · cases h
theorem KeysN.len {H : Hp} {xs : List NEnt} {ks : List D} (h : KeysN H xs ks) : xs.length = ks.length := by
  induction h with
  | nil => rfl
  | cons _ _ _ ih => rw [List.length_cons, List.length_cons, ih]
theorem KeysN.is {P : Program} {w : World} {H : Hp} {h : Heap} (hok : HOk P w H h) {xs : List NEnt} {ks : List D} (q : KeysN H xs ks) : ∀ x ∈ xs, (nestedKind P w).is h x.1 x.2.1 := by
  induction q with
  | nil => intro x hx; nomatch hx
  | cons h1 h2 _ ih =>
    intro x hx
    rcases List.mem_cons.mp hx with rfl | hx
    · exact ⟨nk_is hok h1 rfl, h2⟩
    · exact ih x hx
theorem KeysN.snoc {H : Hp} {xs : List NEnt} {ks : List D} (h : KeysN H xs ks) {x : NEnt} {k : D} (h1 : NkAt H (.ref x.2.1) k x.1) (h2 : x.1.depth ≤ 8) : KeysN H (xs ++ [x]) (ks ++ [k]) := by
  induction h with
  | nil => exact .cons h1 h2 .nil
  | cons g1 g2 _ ih => exact .cons g1 g2 ih
theorem atKey_cons (x : NEnt) (xs : List NEnt) (k : NestedKey) : atKey (x :: xs) k = if x.1 = k then some x.2 else atKey xs k := by
  unfold atKey
  rw [List.find?_cons]
  by_cases h : x.1 = k
  · rw [if_pos h, decide_eq_true h]; rfl
  · rw [if_neg h, decide_eq_false h]
/-- looked up -/
theorem KeysN.look {K : PySem.W.Frag} {mg : MG} {H : Hp} {xs : List NEnt} {ks : List D} (h : KeysN H xs ks) {q : D} {k : NestedKey} (hq : q.nk = some k) : ∀ {vs : List V} {ds : List D}, Vals vs (xs.map (fun (x : NEnt) => x.2.2)) → RpL K mg H vs ds →
    (match lookD ks ds q with
      | some d => ∃ b u v, atKey xs k = some (b, u) ∧ RelV v u ∧ Rp K mg H v d
      | none => atKey xs k = none) := by
  induction h with
  | nil => intro vs ds hv hr; simp [lookD, atKey]
  | @cons x xs kd ks h1 h2 _ ih =>
    intro vs ds hv hr
    cases hv with
    | cons r rs =>
      cases hr with
      | cons o l =>
        have e1 := h1.nk
        rw [atKey_cons]
        unfold lookD
        by_cases e : kd = q
        · have e2 : x.1 = k := by rw [e, hq] at e1; exact (Option.some.inj e1).symm
          rw [if_pos e, if_pos e2]
          exact ⟨_, _, _, rfl, r, o⟩
        · have e2 : ¬ x.1 = k := fun z => e (nk_inj e1 (by rw [hq, z]))
          rw [if_neg e, if_neg e2]
          exact ih rs l
theorem KeysN.any {H : Hp} {xs : List NEnt} {ks : List D} (h : KeysN H xs ks) {q : D} {k : NestedKey} (hq : q.nk = some k) : (atKey xs k).isSome = ks.any fun z => decide (z = q) := by
  induction h with
  | nil => rfl
  | @cons x xs kd ks h1 h2 _ ih =>
    have e1 := h1.nk
    rw [atKey_cons, List.any_cons]
    by_cases e : kd = q
    · have e2 : x.1 = k := by rw [e, hq] at e1; exact (Option.some.inj e1).symm
      rw [if_pos e2, decide_eq_true e]; rfl
    · have e2 : ¬ x.1 = k := fun z => e (nk_inj e1 (by rw [hq, z]))
      rw [if_neg e2, decide_eq_false e, ih]; rfl

/-! ### rules -/
section
variable {X : Cx}
theorem dnH_of {pins : List (Addr × Obj)} {σ : L2.St} {H : Hp} {s : Shared} {a : Addr} {xs : List NEnt} {ks : List D} (I : Inv X pins σ H s) (h : H a = some (dnH X.w a xs)) (hk : KeysN H xs ks) : (a == sysModules) = false ∧ xs.length ≤ sizeLine ∧ s.heap.DictOfH (nestedKind X.prog X.w) a xs := by
  obtain ⟨⟨h1, h2, h3, o, es, ep, e, z, q, hl⟩, _, _⟩ := I.hok a _ h
  exact ⟨h1, h2, o, es, ep, e, z, q, hl, hk.is I.hok, h3⟩
def rInN (w : World) (neg : Bool) : R2 := fun x y H Q => ∃ (a b : Addr) (xs : List NEnt) (ks : List D) (kd : D) (k : NestedKey), x = .ref b ∧ y = .ref a ∧ H a = some (dnH w a xs) ∧ KeysN H xs ks ∧ NkAt H (.ref b) kd k ∧ k.depth ≤ 8 ∧ Q (.bl (if neg then !(atKey xs k).isSome else (atKey xs k).isSome)) H
theorem op_inN (hu : X.A.units + 65 < cLine) : OpR X (compareOp .In) (rInN X.w false) := by
  intro pins s σ H x y v u Q I rx ry h
  obtain ⟨a, b, xs, ks, kd, k, rfl, rfl, hd, hk, hb, h8, q⟩ := h
  obtain rfl : v = Value.ref b := rx
  obtain rfl : u = Value.ref a := ry
  obtain ⟨h1, _, h2⟩ := dnH_of I hd hk
  exact wpAny_in_heap (knd := nestedKind X.prog X.w) (show X.A.units + 1 + 8 < cLine by omega) ⟨nk_is I.hok hb rfl, h8⟩ h1 h2 ⟨.bl _, H, I.tok _, rfl, by simpa using q⟩
theorem op_niN (hu : X.A.units + 65 < cLine) : OpR X (compareOp .NotIn) (rInN X.w true) := by
  intro pins s σ H x y v u Q I rx ry h
  obtain ⟨a, b, xs, ks, kd, k, rfl, rfl, hd, hk, hb, h8, q⟩ := h
  obtain rfl : v = Value.ref b := rx
  obtain rfl : u = Value.ref a := ry
  obtain ⟨h1, _, h2⟩ := dnH_of I hd hk
  show wpAny _ _ (do return Value.bool (!(← contains (Value.ref a) (Value.ref b))) : Sem Value) _ _ s
  exact wpAny_bind (wpAny_contains_heap (knd := nestedKind X.prog X.w) (show X.A.units + 1 + 8 < cLine by omega) ⟨nk_is I.hok hb rfl, h8⟩ h1 h2 (wpAny_pure ⟨.bl _, H, I.tok _, rfl, by simpa using q⟩))
def rIxN (w : World) : R2 := fun x y H Q => ∃ (a b : Addr) (xs : List NEnt) (ks : List D) (kd : D) (k : NestedKey) (p : Addr × Value) (z : V), x = .ref a ∧ y = .ref b ∧ H a = some (dnH w a xs) ∧ KeysN H xs ks ∧ NkAt H (.ref b) kd k ∧ k.depth ≤ 8 ∧ atKey xs k = some p ∧ RelV z p.2 ∧ Q z H
theorem ix_N (hu : X.A.units + 65 < cLine) : IxR X (rIxN X.w) := by
  intro value slice pins s σ H x y v u Q I rx ry h hs
  obtain ⟨a, b, xs, ks, kd, k, p, z, rfl, rfl, hd, hk, hb, h8, hp, rz, q⟩ := h
  obtain rfl : v = Value.ref a := rx
  obtain rfl : u = Value.ref b := ry
  obtain ⟨h1, _, h2⟩ := dnH_of I hd hk
  exact tail_any h2.typeIs F.slot_dict_getitem.lookup (wpAny_getItem_heap (knd := nestedKind X.prog X.w) (show X.A.units + 1 + 8 < cLine by omega) ⟨nk_is I.hok hb rfl, h8⟩ h2 hp ⟨z, H, I.tok _, rz, q⟩) hs
def rSetN (w : World) : V → V → V → Hp → (Hp → Prop) → Prop := fun o i v H Q => ∃ (a b : Addr) (xs : List NEnt) (ks : List D) (kd : D) (k : NestedKey), o = .ref a ∧ i = .ref b ∧ H a = some (dnH w a xs) ∧ KeysN H xs ks ∧ NkAt H (.ref b) kd k ∧ k.depth ≤ 8 ∧ xs.length < 10000 ∧ ∀ u, RelV v u → Q (upd H a (dnH w a (storedH xs k b u)))
theorem set_N (hu : X.A.units + 65 < cLine) : PSet X (rSetN X.w) := by
  intro pins s σ H o i v ov iv u Q I ro ri rv h
  obtain ⟨a, b, xs, ks, kd, k, rfl, rfl, hd, hk, hb, h8, hz, q⟩ := h
  obtain rfl : ov = Value.ref a := ro
  obtain rfl : iv = Value.ref b := ri
  obtain ⟨h1, _, h2⟩ := dnH_of I hd hk
  refine wpAny_setItem_heap (knd := nestedKind X.prog X.w) (hsz := by rw [sizeLine_eq]; omega) (show X.A.units + 1 + 8 < cLine by omega) ⟨nk_is I.hok hb rfl, h8⟩ h2 fun h' hm hs => ?_
  obtain ⟨o', es, ep, e, z, dq, hl, _, hn⟩ := hm
  have hlen : (storedH xs k b u).length ≤ sizeLine := by
    have := PySem.storedH_length xs k b u
    rw [sizeLine_eq]; omega
  exact ⟨_, I.write (x := a) (e := a) (by rw [hd]; exact True.intro) (.inl rfl) (fun c w hc e => (hs.2 c hc).trans e) ⟨o', e⟩ (dnH_ok h1 hlen hn e z dq hl), q u rv⟩
theorem pe_dnewN {pos : Pos} : PE X (.Dict [] [] pos) (fun σ H Q => ∀ p, H p = none → Q (.ref p) (upd H p (dnH X.w p []))) := ⟨fun pins s σ H Q I h =>
  wpAny_Dict_empty ⟨.ref s.heap.objs.size, _, I.laid (a := s.heap.objs.size) (o := dnH X.w s.heap.objs.size []) (t' := s.toks) (fun _ _ q => Heap.get?_push_of_some _ q) (Nat.le_refl _)
    (dnH_ok (es := #[]) (ep := 0) (by have hb := I.big; refine Bool.eq_false_iff.mpr fun z => ?_; have z' := beq_iff_eq.mp z; rw [z'] at hb; exact absurd hb (Nat.lt_irrefl _)) (Nat.zero_le _) List.nodup_nil (Heap.get?_push_size _ rfl) ⟨rfl, rfl, rfl⟩ rfl rfl), rfl, h _ (I.hok.fresh (Nat.le_refl _))⟩⟩
end
end Dl

set_option Elab.async false
set_option linter.all false
set_option maxRecDepth 100000
set_option maxHeartbeats 2000000
/-! DL37: the mirrors of such dicts. -/
namespace Dl
open PySem PySem.Spec PyProof.Rows L2
def opInN (neg : Bool) : D → D → Option D
  | q, .dic _ .n ks _ => if nkOk q = true then some (.bl (if neg then !(ks.any fun z => decide (z = q)) else ks.any fun z => decide (z = q))) else none
  | _, _ => none
def opIxN : D → D → Option D
  | .dic _ .n ks vs, q => if nkOk q = true then match lookD ks vs q with
    | some d => if d.imm = true then some d else none
    | none => none
    else none
  | _, _ => none
/-- d[k] = v, a new key -/
def opPutN : D → D → D → Option D
  | .dic true .n ks vs, q, v => if nkOk q = true ∧ ks.length < 10000 ∧ ks.length = vs.length ∧ (ks.any fun z => decide (z = q)) = false then some (.dic true .n (ks ++ [q]) (vs ++ [v])) else none
  | _, _, _ => none
def gStN (i : Nat) (k : PM) : GM := fun v ρ => match k ρ with
  | some q => match ρ.getD i none with
    | some d0 => match opPutN d0 q v with
      | some d1 => some (ρ.set i (some d1))
      | none => none
    | none => none
  | none => none
section
variable {K : PySem.W.Frag} {mg : MG} {H : Hp}
theorem Rp.dn_inv {v : V} {o : Bool} {ks ds : List D} (h : Rp K mg H v (.dic o .n ks ds)) : ∃ a xs vs, v = .ref a ∧ H a = some (dnH mg.w a xs) ∧ KeysN H xs ks ∧ Vals vs (xs.map (fun (x : NEnt) => x.2.2)) ∧ RpL K mg H vs ds := by
  cases h with
  | dn e q r l => exact ⟨_, _, _, rfl, e, q, r, l⟩
theorem nkAt_ref {v : V} {q : D} (r : Rp K mg H v q) (h : nkOk q = true) : ∃ b k, v = .ref b ∧ q.nk = some k ∧ k.depth ≤ 8 ∧ NkAt H (.ref b) q k := by
  obtain ⟨k, h1, h2⟩ := nkOk_of h
  have n := r.nkAt h1
  cases q with
  | tup ds =>
    obtain ⟨b, xs, rfl, _⟩ := Rp.tup_inv r
    exact ⟨b, k, rfl, h1, h2, n⟩
  | _ => simp [nkOk] at h
theorem r_inN (neg : Bool) : R2D K mg (rInN mg.w neg) (opInN neg) := by
  intro x y H dx dy d Q rx ry e k
  cases dy <;> simp only [opInN, reduceCtorEq] at e
  rename_i o kd ks vs
  cases kd <;> simp only [reduceCtorEq] at e
  split at e
  · rename_i hq
    cases e
    obtain ⟨a, xs, ws, rfl, hd, hk, hv, hl⟩ := ry.dn_inv
    obtain ⟨b, key, rfl, e1, e2, n⟩ := nkAt_ref rx hq
    refine ⟨a, b, xs, ks, dx, key, rfl, rfl, hd, hk, n, e2, ?_⟩
    rw [hk.any e1]
    exact k _ H (Same.refl H) (mk_bl _)
  · cases e
theorem r_ixN : R2A K mg (rIxN mg.w) opIxN := by
  intro x y H dx dy d Q rx ry e k
  cases dx <;> simp only [opIxN, reduceCtorEq] at e
  rename_i o kd ks vs
  cases kd <;> simp only [reduceCtorEq] at e
  split at e
  · rename_i hq
    split at e
    · rename_i d' hd'
      split at e
      · rename_i hi
        cases e
        obtain ⟨a, xs, ws, rfl, hd, hk, hv, hl⟩ := rx.dn_inv
        obtain ⟨b, key, rfl, e1, e2, n⟩ := nkAt_ref ry hq
        have lk := hk.look e1 hv hl
        rw [hd'] at lk
        obtain ⟨b', u, v, h1, h2, h3⟩ := lk
        exact ⟨a, b, xs, ks, dy, key, (b', u), v, rfl, rfl, hd, hk, n, e2, h1, h2, k v (.inr ⟨h3, hi⟩)⟩
      · cases e
    · cases e
  · cases e
end
section
variable {F : Fm} {fk : PM} {i : Nat}
theorem imp_gStN : ∀ v σ H Q, tG F (gStN i fk) v σ H Q → gSub (tVar i) (tP F fk) (rSetN F.mg.w) v σ H Q := fun v σ H Q ⟨ρ, ts, d, ρ', a, e, k⟩ => by
  unfold gStN at e
  split at e
  · rename_i q hq
    split at e
    · rename_i d0 h0
      split at e
      · rename_i d1 hp
        cases e
        obtain ⟨o, ho, s0⟩ := a.slot (getD_some h0)
        refine ⟨o, ho, ρ, _, q, a, hq, fun y H2 g ry _ => ?_⟩
        have s := s0.grow g
        unfold opPutN at hp
        split at hp
        · rename_i ks vs
          split at hp
          · rename_i hc
            cases hp
            obtain ⟨c1, c2, c3, c4⟩ := hc
            obtain ⟨c, xs, ws, rfl, hl, hv, hk, s1⟩ := s.unDn
            have hd : H2 c = some (dnH F.mg.w c xs) := s1.cell
            obtain ⟨b, key, rfl, e1, e2, n⟩ := nkAt_ref ry c1
            have hnew : atKey xs key = none := by
              have := hk.any e1
              rw [c4] at this
              cases z : atKey xs key with
              | none => rfl
              | some p => rw [z] at this; cases this
            refine ⟨c, b, xs, ks, q, key, rfl, rfl, hd, hk, n, e2, by rw [hk.len]; exact c2, fun u hu => k σ _ ?_⟩
            rw [storedH_new hnew]
            have s2 := s1.write (o' := dnH F.mg.w c (xs ++ [(key, b, u)]))
            have nc : ∀ z zs, H2 z = some (.tup zs) → upd H2 c (dnH F.mg.w c (xs ++ [(key, b, u)])) z = some (.tup zs) := fun z zs hz => by
              rw [upd_ne (fun e => by rw [e, hd] at hz; cases hz)]; exact hz
            have s3 : Sim F.K F.mg (upd H2 c (dnH F.mg.w c (xs ++ [(key, b, u)]))) (.c c (dnH F.mg.w c (xs ++ [(key, b, u)])) :: vals (ws ++ [v]) (vs ++ [d]) ++ (slotR σ (ρ.set i none) ++ ts)) := by
              rw [vals_append hl]
              refine s2.perm (List.Perm.cons _ ?_)
              show (vals ws vs ++ (slotR σ (ρ.set i none) ++ (.v v d :: ts))).Perm ((vals ws vs ++ vals [v] [d]) ++ (slotR σ (ρ.set i none) ++ ts))
              rw [List.append_assoc]
              refine List.Perm.append_left _ ?_
              show (slotR σ (ρ.set i none) ++ (.v v d :: ts)).Perm (.v v d :: (slotR σ (ρ.set i none) ++ ts))
              exact List.perm_middle
            have s4 := Sim.foDn (rs := slotR σ (ρ.set i none) ++ ts) s3 ((hk.lift nc).snoc (n.lift nc) e2) (by
              rw [List.map_append]
              exact hv.append (.cons hu .nil)) (by rw [List.length_append, List.length_append, hl]; rfl)
            exact a.back ho s4
          · cases hp
        · cases hp
      · cases e
    · cases e
  · cases e
end
section
variable {X : Cx} {vs0 : List V} {fa fb : PM} {a b : Expr} {pos p : Pos} {i : Nat} {x : Str}
theorem e_dicNN : PE X (.Dict [] [] pos) (tD (fm X vs0) (eDicN .n)) := pe_dnewN.imp fun σ H Q ⟨ρ, ts, d, ρ', a, e, k⟩ p hp => by
  cases e
  exact k _ _ (a.of_front (Sim.foDn (xs := []) (vs := []) (ds := []) (a.front.alloc (o := dnH X.w p []) hp) .nil .nil rfl))
theorem p_inN (hu : X.A.units + 65 < cLine) (ha : PE X a (tP (fm X vs0) fa)) (hb : PE X b (tP (fm X vs0) fb)) (hm : behindInMarks .In b = false := by rfl) : PE X (.Compare a [.In] [b] pos) (tP (fm X vs0) (pOp2 (opInN false) fa fb)) := (pe_cmpR (op_inN hu) ha hb hm).imp (imp_p2 (r_inN false))
theorem p_niN (hu : X.A.units + 65 < cLine) (ha : PE X a (tP (fm X vs0) fa)) (hb : PE X b (tP (fm X vs0) fb)) (hm : behindInMarks .NotIn b = false := by rfl) : PE X (.Compare a [.NotIn] [b] pos) (tP (fm X vs0) (pOp2 (opInN true) fa fb)) := (pe_cmpR (op_niN hu) ha hb hm).imp (imp_p2 (r_inN true))
theorem t_inN (hu : X.A.units + 65 < cLine) (ha : PE X a (tP (fm X vs0) fa)) (hb : PE X b (tP (fm X vs0) fb)) (hm : behindInMarks .In b = false := by rfl) : PT X (.Compare a [.In] [b] pos) (tT (fm X vs0) (bP (pOp2 (opInN false) fa fb))) := (pt_cmpR (op_inN hu) ha hb hm).imp (imp_bPt (imp_p2 (r_inN false)))
theorem t_niN (hu : X.A.units + 65 < cLine) (ha : PE X a (tP (fm X vs0) fa)) (hb : PE X b (tP (fm X vs0) fb)) (hm : behindInMarks .NotIn b = false := by rfl) : PT X (.Compare a [.NotIn] [b] pos) (tT (fm X vs0) (bP (pOp2 (opInN true) fa fb))) := (pt_cmpR (op_niN hu) ha hb hm).imp (imp_bPt (imp_p2 (r_inN true)))
theorem p_ixN (hu : X.A.units + 65 < cLine) (ha : PE X a (tP (fm X vs0) fa)) (hb : PE X b (tP (fm X vs0) fb)) (hs : PlainIx b := by exact fun _ _ => rfl) : PE X (.Subscript a b pos) (tP (fm X vs0) (pOp2 opIxN fa fb)) := (pe_ix (ix_N hu) ha hb hs).imp (imp_ixP r_ixN)
theorem g_stN (i : Nat) (hu : X.A.units + 65 < cLine) (hb : PE X b (tP (fm X vs0) fb)) (hN : X.N[i]? = some x := by rfl) (hv : Vis X.env.scope x := by first | exact Or.inl rfl | exact Or.inr (Or.inl rfl) | exact Or.inr (Or.inr rfl)) (hd : (x == ("__debug__" : Str)) = false := by decide) (hcd : (x == ("__classdict__" : Str)) = false := by decide)
    (ha : ∀ v, assign (.Subscript (.Name x p) b pos) X.env v = (do
      let ov ← holding [v] (eval (.Name x p) X.env)
      let iv ← holding [v, ov] (eval b X.env)
      standAt pos
      holding [v, ov, iv] (setItem ov iv v)
      release [v, ov, iv] []) := by intro _; rfl) : PG X (.Subscript (.Name x p) b pos) (tG (fm X vs0) (gStN i fb)) := (pg_sub (pv i hN hv hd hcd) hb (set_N hu) ha).imp (imp_gStN (F := fm X vs0))
end
end Dl

set_option Elab.async false
set_option linter.all false
set_option maxRecDepth 100000
set_option maxHeartbeats 2000000
/-! DL38: sorted of a tuple of texts. -/
namespace Dl
open PySem PySem.Spec PyProof.Rows L2
section
variable {prog : Program} {w : World} {A : Around} {E : Value → Shared → Prop} {s : Shared}
/-- sorted of whatever is collected to fewer than 64 texts -/
theorem sorted_col {v : Value} {vs : List Value} {ss : List Str} {Q : Value → Shared → Prop} (hS : StrsAre vs ss) (h64 : vs.length < 64)
    (hc : ∀ {A' : Around} {E' : Value → Shared → Prop} {Q' : List Value → Shared → Prop}, (∀ h', (∀ b o', s.heap.get? b = some o' → h'.get? b = some o') → Q' vs { s with heap := h' }) → wpAny (model prog w) A' (collect v) Q' E' s)
    (h : ∀ (h1 h' : Heap) (out : List Value) (ss' : List Str) (e : Nat) (p : Addr), (∀ b o', s.heap.get? b = some o' → h1.get? b = some o') → (∀ b o', h1.get? b = some o' → h'.get? b = some o') → h1.objs.size ≤ p → h'.get? p = some (seqObj "list" out.toArray e) → StrsAre out ss' → ss'.Perm ss → sortedS ss' = true → Q (.ref p) { s with heap := h' }) :
    wpAny (model prog w) A (call (.builtin "sorted") [v]) Q E s := by
  refine Calls.call_function_entry kind_sorted plain_sorted entry_sorted (args_sorted1 _) ?_
  unfold Builtin.«sorted»
  refine wpAny_bind (m := checkCount "sorted" 1 1 _) (wpAny_pure ?_)
  refine wpAny_bind (hc fun h1 k1 => ?_)
  refine wpAny_bind (wpAny_newList ?_)
  have hoL : (h1.push (seqObj "list" vs.toArray 0)).get? h1.objs.size = some (seqObj "list" vs.toArray 0) := Heap.get?_push_size _ rfl
  show wpAny _ _ _ _ _ { s with heap := h1.push (seqObj "list" vs.toArray 0) }
  refine wpAny_bind (wpAny_holding (wpAny_call_entry slot_list_sort ⟨_, hoL, rfl⟩ entry_list_sort (list_sort_treeK strKind_oneLt hoL hS.keysOf (fun v₁ v₂ rest e => keyKind_strs (by rw [← e]; exact hS)) h64 fun st' a1 a2 => ⟨_, rfl, ?_⟩) (args_list_sort _)))
  refine wpAny_pure ⟨_, rfl, ?_⟩
  obtain ⟨ss', g1, g2, g3⟩ := sorted_out_str hS a1 a2
  obtain ⟨ep, he'⟩ := sortedHeap_at (vs := vs) (out := (arrOf st').map (·.2)) hoL
  refine h h1 _ ((arrOf st').map (·.2)).toList ss' ep _ k1 (fun b o hb1 => ?_) (Nat.le_refl _) (by rw [Array.toArray_toList]; exact he') g1 g2 g3
  rw [sortedHeap_old (Nat.ne_of_lt (Heap.lt_size hb1)) (Heap.lt_size (Heap.get?_push_of_some _ hb1))]
  exact Heap.get?_push_of_some _ hb1
end
def rSortedTS (K : PySem.W.Frag) : List V → Hp → VK → Prop := fun vs H Q => ∃ (a : Addr) (xs : List Str), vs = [V.ref a] ∧ SqT K H a (xs.map V.str) ∧ xs.length < 64 ∧
  ∀ (ys : List Str) (p : Addr), ys.Perm xs → sortedS ys = true → H p = none → Q (.ref p) (upd H p (.lst (ys.map V.str)))
theorem cr_sortedTS {X : Cx} : CallR X (.builtin "sorted") (rSortedTS X.K) := by
  intro pins s σ H vs us Q I r h
  obtain ⟨a, xs, rfl, hs, h64, q⟩ := h
  obtain ⟨its, rv, ⟨o, e, hcl, n, hd⟩, hz⟩ := I.tuple hs
  rw [Vals.ref1 r]
  have hlen0 := rv.length
  rw [List.length_map] at hlen0
  refine sorted_col (vs := its) rv.strs (by rw [← hlen0]; exact h64) (fun k => wpAny_collect_seq a (.inr rfl) e hcl hd (fun h' kk => by have := k h' kk; simpa using this) (by have := small64 h64; simp; omega)) fun h1 h' out ys ep p k1 k2 hp he' g1 g2 g3 => ?_
  have I1 := I.kept (h' := h1) (t' := s.toks) k1
  have hlen : (ys.map V.str).length ≤ sizeLine := by rw [List.length_map, g2.length_eq]; exact small64 h64
  exact ⟨.ref _, upd H p (.lst (ys.map V.str)), I1.laid (t' := s.toks) k2 hp ⟨hlen, out, ep, vals_of_strs g1, he'⟩, rfl, q ys _ g2 g3 (I1.hok.fresh hp)⟩
/-- sorted of a list of numbers, or of a row of less than 64 texts -/
def opSortedT : List D → Option D
  | [.tup ds] => match strsL ds with
    | some l => if l.length < 64 then some (.lst true ((sortS l).map D.str)) else none
    | none => none
  | _ => none
section
variable {K : PySem.W.Frag} {mg : MG}
theorem r_sortedT : RnD K mg (rSortedTS K) opSortedT := by
  intro vs H ds d Q rs e k
  unfold opSortedT at e
  split at e
  · split at e
    · rename_i l hl
      split at e
      · rename_i hz
        cases e
        obtain ⟨v, rfl, r⟩ := rs.one
        obtain ⟨a, xs, rfl, ha, rl⟩ := r.tup_inv
        obtain rfl := rl.strs hl
        refine ⟨a, l, rfl, Or.inl (Or.inl ha), hz, fun ys p h1 h2 hp => ?_⟩
        have e := sortS_only h1 h2
        subst e
        exact k _ _ (same_upd hp) (mk_lst (rpL_strs _) (imm_strs _) hp)
      · cases e
    · cases e
  · cases e
end
end Dl

set_option Elab.async false
set_option linter.all false
set_option maxRecDepth 100000
set_option maxHeartbeats 2000000
/-! DL39: slots forgotten. -/
namespace Dl
open PySem PySem.Spec PyProof.Rows L2

/-- behind it these slots are forgotten -/
def sWp (vs : List Nat) (b : SM) : SM := fun ρ => match b ρ with
  | some (fl, ρ1) => some (fl, wipeD ρ1 vs)
  | none => none
section
variable {F : Fm} {X : Cx} {vs0 : List V} {W : WX}
theorem At.forgetA {σ : L2.St} {H : Hp} {ρ : DEnv} {ts : List Rt} (a : At F σ H ρ ts) (i : Nat) : At F σ H (ρ.set i none) ts := by
  obtain ⟨xs, p⟩ := slotR_forget σ ρ i
  have s1 : Sim F.K F.mg H (xs ++ (slotR σ (ρ.set i none) ++ ts)) := a.sim.perm ((p.append_right _).trans (by rw [List.append_assoc]))
  exact a.away s1.drop
theorem At.forgetL {σ : L2.St} {H : Hp} {ρ : DEnv} {ts : List Rt} (a : At F σ H ρ ts) : ∀ vs : List Nat, At F σ H (wipeD ρ vs) ts
  | [] => a
  | v :: vs => by rw [wipeD]; exact (a.forgetL vs).forgetA v
theorem imp_wp {vs : List Nat} {b : SM} : ∀ D σ H, tS F (sWp vs b) D σ H → tS F b D σ H := fun D σ H ⟨ρ, ts, fl, ρ', a, e, k⟩ => by
  unfold sWp at e
  split at e
  · rename_i fl0 ρ0 e0
    cases e
    refine ⟨ρ, ts, fl, ρ0, a, e0, ?_⟩
    cases fl with
    | nx => exact fun σ' H' q => k σ' H' (q.forgetL vs)
    | bk => exact fun σ' H' q => k σ' H' (q.forgetL vs)
    | ct => exact fun σ' H' q => k σ' H' (q.forgetL vs)
    | rt d => exact fun v σ' H' q => k v σ' H' (q.forgetL vs)
    | xc x => exact fun cls d σ' H' q => k cls d σ' H' (q.forgetL vs)
  · cases e
theorem s_wp {vs : List Nat} {e : Stmt} {b : SM} (h : PS X e (tS F b)) : PS X e (tS F (sWp vs b)) := h.imp imp_wp
theorem s_wpB {vs : List Nat} {e : List Stmt} {b : SM} (h : PSs X e (tS F b)) : PSs X e (tS F (sWp vs b)) := h.imp imp_wp
end
end Dl

set_option Elab.async false
set_option linter.all false
set_option maxRecDepth 100000
set_option maxHeartbeats 4000000
/-! DL40: set(list of texts), its length, sorted of it. -/
namespace Dl
open PySem PySem.Spec PyProof.Rows L2

/-- the text of a value -/
def txV : Value → Str
  | .str x _ => x
  | _ => ""
def TxE (w : World) (e : Int × Value) : Prop := ∃ x tk, e.2 = Value.str x tk ∧ e.1 = hashStr w x
/-- a new set -/
def nwS (w : World) : Obj := { cls := .type "set", dict := none, data := .set #[] 0 (.fresh 0 0 (!w.params.followText "set-order")) }
/-- at a: the set of the texts l -/
def SxR (w : World) (hp : Heap) (a : Addr) (l : List Str) : Prop :=
  ∃ ob es ep tb, hp.get? a = some ob ∧ ob.ExactSet ∧ ob.data = .set es ep tb ∧ (∀ e ∈ es.toList, TxE w e) ∧ (es.toList.map fun e => txV e.2).Perm l ∧ l.Nodup ∧ es.size < scanBound ∧ tb.fits es.size = true ∧ Ris tb.place.toList ∧
    (w.params.followText "set-order" = true ∨ tb.led = true)
def addX (l : List Str) (x : Str) : List Str := if x ∈ l then l else l ++ [x]
theorem addX_nd {l : List Str} (h : l.Nodup) (x : Str) : (addX l x).Nodup := by
  unfold addX
  split
  · exact h
  · rename_i hx
    exact List.nodup_append.mpr ⟨h, by simp, fun a ha b hb e => hx (by rw [List.mem_singleton.mp hb] at e; exact e ▸ ha)⟩
theorem addX_len (l : List Str) (x : Str) : (addX l x).length ≤ l.length + 1 := by unfold addX; split <;> simp
theorem addX_mem (l : List Str) (x y : Str) : y ∈ addX l x ↔ y ∈ l ∨ y = x := by
  unfold addX
  split
  · rename_i h
    exact ⟨.inl, fun q => q.elim id fun e => e ▸ h⟩
  · simp
def dedS (l : List Str) : List Str := l.foldl addX []
theorem dedS_snoc (l : List Str) (x : Str) : dedS (l ++ [x]) = addX (dedS l) x := by unfold dedS; rw [List.foldl_append]; rfl
section
variable {P : Program} {w : World} {A : Around} {E : Value → Shared → Prop} {s : Shared} {a : Addr} {l : List Str}
theorem txe_elems {z : List (Int × Value)} (g : ∀ e ∈ z, TxE w e) : ElemsOf (strKind P w) z := fun e he => by
  obtain ⟨x, tk, q1, q2⟩ := g e he
  exact ⟨⟨x, by rw [q1]; show Value.isStrOf x (.str x tk) = true; simp [Value.isStrOf], q2⟩, by rw [q1] <;> rfl⟩
theorem txe_is {e : Int × Value} (g : TxE w e) (x : Str) : (strKind P w).is x e.2 = true ↔ txV e.2 = x := by
  obtain ⟨y, tk, q1, _⟩ := g
  rw [q1]
  show Value.isStrOf x (.str y tk) = true ↔ y = x
  unfold Value.isStrOf
  exact beq_iff_eq
theorem SxR.keep {h1 h2 : Heap} (R : SxR w h1 a l) (k : ∀ o, h1.get? a = some o → h2.get? a = some o) : SxR w h2 a l := by
  obtain ⟨ob, es, ep, tb, e0, r⟩ := R
  exact ⟨ob, es, ep, tb, k ob e0, r⟩
theorem sx_fresh {hp : Heap} (e0 : hp.get? a = some (nwS w)) : SxR w hp a [] :=
  ⟨_, #[], 0, _, e0, ⟨rfl, rfl, rfl⟩, rfl, (fun e he => by simp at he), (by simp), List.nodup_nil, (by decide), (by rfl), List.Pairwise.nil, by
    show _ ∨ (!w.params.followText "set-order") = true
    cases w.params.followText "set-order" <;> simp⟩
theorem put_at {hp : Heap} {ob : Obj} {es es1 : Array (Int × Value)} {ep : Nat} {tb t1 : SetTable} (e0 : hp.get? a = some ob) (ed : ob.data = .set es ep tb) :
    (hp.update a (Obj.putSet es1 t1)).get? a = some { ob with data := .set es1 (ep + 1) t1 } := store_at e0 ed
theorem sx_tail {g : Bool → Sem Unit} (hg : ∀ (b : Bool) (z : Shared) (Q : Unit → Shared → Prop), Q () z → wpAny (model P w) A (g b) Q E z)
    {ob : Obj} {es : Array (Int × Value)} {ep : Nat} {tb : SetTable} (e0 : s.heap.get? a = some ob) (ex : ob.ExactSet) (ed : ob.data = .set es ep tb)
    {es1 : Array (Int × Value)} {t2 : SetTable} (g1 : ∀ e ∈ es1.toList, TxE w e) (pm1 : (es1.toList.map fun e => txV e.2).Perm l) (nd : l.Nodup)
    (hb : es1.size < scanBound) (hf : t2.fits es1.size = true) (hr : Ris t2.place.toList) (hl : w.params.followText "set-order" = true ∨ t2.led = true) {wd : Bool} {R : Option Bool → Shared → Prop}
    (hR : ∀ h1, Heap.SameBut a s.heap h1 → SxR w h1 a l → R (some true) { s with heap := h1 }) :
    wpAny (model P w) A (do
        storeSet a es1 t2
        if (!wd && t2.tooFull) = true then do
            g (relayAll t2 es1 (SetTable.grown es1.size)).2.2
            storeSet a (relayAll t2 es1 (SetTable.grown es1.size)).1 (relayAll t2 es1 (SetTable.grown es1.size)).2.1
            pure (some true)
          else pure (some true)) R E s := by
  refine wpAny_bind (wpAny_storeSet_of e0 ed ?_ (fits_of_scanBound hb))
  have f1 := put_at (es1 := es1) (t1 := t2) e0 ed
  have b1 := Heap.SameBut.update s.heap a (Obj.putSet es1 t2)
  split
  · have q1 := relayAll_perm t2 es1 (SetTable.grown es1.size)
    have q2 := relayAll_fits t2 es1 (SetTable.grown es1.size)
    have q3 := relayAll_ris t2 es1 (SetTable.grown es1.size)
    have q4 := relayAll_led t2 es1 (SetTable.grown es1.size)
    generalize relayAll t2 es1 (SetTable.grown es1.size) = Y at q1 q2 q3 q4 ⊢
    obtain ⟨es2, t3, gv⟩ := Y
    dsimp only at q1 q2 q3 q4 ⊢
    have sz : es2.size = es1.size := by rw [← Array.length_toList, q1.length_eq, Array.length_toList]
    have hb2 : es2.size < scanBound := sz ▸ hb
    refine wpAny_bind (hg _ _ _ (wpAny_bind (wpAny_storeSet_of f1 rfl ?_ (fits_of_scanBound hb2))))
    have f2 := put_at (es1 := es2) (t1 := t3) f1 rfl
    exact wpAny_pure (hR _ (b1.trans (Heap.SameBut.update _ a _)) ⟨_, es2, _, t3, f2, ex, rfl, fun e he => g1 e (q1.mem_iff.mp he), (q1.map _).trans pm1, nd, hb2, q2, q3, hl.imp id fun z => q4.trans z⟩)
  · exact wpAny_pure (hR _ b1 ⟨_, es1, _, t2, f1, ex, rfl, g1, pm1, nd, hb, hf, hr, hl⟩)
theorem sx_addH {x : Str} {tk : Tok} {Q : Bool → Shared → Prop} (R : SxR w s.heap a l) (room : l.length + 1 < scanBound)
    (hQ : ∀ h1 b, Heap.SameBut a s.heap h1 → SxR w h1 a (addX l x) → Q b { s with heap := h1 }) :
    wpAny (model P w) A (setAddHashed a (.str x tk) ((strKind P w).hash x)) Q E s := by
  obtain ⟨ob, es, ep, tb, e0, ex, ed, g, pm, nd, hb, hf, hr, hl⟩ := R
  have ky : (strKind P w).is x (.str x tk) = true := by show Value.isStrOf x (.str x tk) = true; simp [Value.isStrOf]
  have sc : (Value.str x tk).scannable = true := rfl
  have el : ElemsOf (strKind P w) es.toList := txe_elems g
  have sz : es.size = l.length := by rw [← Array.length_toList, ← pm.length_eq, List.length_map]
  unfold setAddHashed setAddHashedIn
  refine wpAny_holding (wpAny_bind (wpAny_setState_of e0 ed hf ?_))
  dsimp only
  rw [byScan_of sc hb el]
  simp only [↓reduceIte]
  unfold setAddByScan
  refine wpAny_bind (wpAny_bind (wpAny_rule (wpAny_bind (wpAny_setScan_of ky e0 ed hf el ?_))))
  cases hfi : List.findIdx? (fun e => (strKind P w).is x e.2) es.toList with
  | some j =>
    dsimp only
    obtain ⟨hj, pj, _⟩ := List.findIdx?_eq_some_iff_getElem.mp hfi
    have hx : x ∈ l := pm.mem_iff.mp (List.mem_map.mpr ⟨es.toList[j], List.getElem_mem hj, (txe_is (P := P) (g _ (List.getElem_mem hj)) x).mp pj⟩)
    refine wpAny_pure (wpAny_pure (hQ s.heap _ (Heap.SameBut.refl a s.heap) ?_))
    unfold addX
    rw [if_pos hx]
    exact ⟨ob, es, ep, tb, e0, ex, ed, g, pm, nd, hb, hf, hr, hl⟩
  | none =>
    dsimp only
    have hx : x ∉ l := fun z => by
      obtain ⟨e, he, q⟩ := List.mem_map.mp (pm.mem_iff.mpr z)
      have c := List.findIdx?_eq_none_iff.mp hfi e he
      rw [(txe_is (P := P) (g e he) x).mpr q] at c
      cases c
    have hgw : ∀ (b : Bool) {z : Shared} {Q1 : Unit → Shared → Prop}, Q1 () z → wpAny (model P w) A (match b with | true => rule "set.scan.the-table-gave-way" | false => pure ()) Q1 E z :=
      fun b z Q1 q => by cases b <;> first | exact wpAny_pure q | exact wpAny_rule q
    have p1 := layNew_perm tb es ((strKind P w).hash x) (.str x tk)
    have p2 := layNew_fits tb es ((strKind P w).hash x) (.str x tk)
    have p3 := layNew_ris tb es ((strKind P w).hash x) (.str x tk) hr
    have p4 := layNew_led tb es ((strKind P w).hash x) (.str x tk)
    generalize layNew tb es ((strKind P w).hash x) (.str x tk) = Y at p1 p2 p3 p4 ⊢
    obtain ⟨es1, t1, wd, gv⟩ := Y
    dsimp only at p1 p2 p3 p4 ⊢
    rw [Array.toList_push] at p1
    have pc : (es1.toList.map fun e => txV e.2).Perm (addX l x) := by
      unfold addX
      rw [if_neg hx]
      have := p1.map fun e : Int × Value => txV e.2
      rw [List.map_append] at this
      exact this.trans (pm.append_right _)
    have g1 : ∀ e ∈ es1.toList, TxE w e := fun e he => by
      rcases List.mem_append.mp (p1.mem_iff.mp he) with z | z
      · exact g e z
      · rw [List.mem_singleton.mp z]; exact ⟨x, tk, rfl, rfl⟩
    have nd1 := addX_nd nd x
    have sz1 : es1.size = es.size + 1 := by rw [← Array.length_toList, p1.length_eq, List.length_append, Array.length_toList, List.length_singleton]
    have hb1 : es1.size < scanBound := by omega
    have ld : w.params.followText "set-order" = true ∨ t1.led = true := hl.imp id fun z => p4.trans z
    refine wpAny_bind (hgw _ ?_)
    split
    · refine wpAny_bind ?_
      rw [hashByValue_scannable 8 sc]
      refine wpAny_pure (sx_tail ?_ e0 ex ed g1 pc nd1 hb1 ?_ ?_ ?_ ?_)
      · intro b z Q1 q; cases b <;> first | exact wpAny_pure q | exact wpAny_rule q
      · first | (split <;> first | exact p2 | exact SetTable.fits_plain_off p2) | exact p2
      · first | (split <;> exact p3) | exact p3
      · first | (split <;> exact ld) | exact ld
      · intro h1 sb r; dsimp only; exact wpAny_pure (hQ h1 _ sb r)
    · refine wpAny_bind (wpAny_pure ?_)
      simp only [↓reduceIte]
      refine sx_tail ?_ e0 ex ed g1 pc nd1 hb1 p2 p3 ld ?_
      · intro b z Q1 q; cases b <;> first | exact wpAny_pure q | exact wpAny_rule q
      · intro h1 sb r; dsimp only; exact wpAny_pure (hQ h1 _ sb r)
/-- set.update's loop over texts -/
theorem sx_loop {I : Addr} {fp wr : List Addr} {G : Array GenState → Array GenState → Prop} {n : Nat} {Pv : Nat → Value → Prop} {St : Nat → Shared → Prop} {R : Result → Shared → Prop}
    (W : WalksS P w A.in1 I fp wr G n Pv St) (S : Addr) (hSf : S ∉ fp) (xs : List Str) (hn : n = xs.length) (few : xs.length < 1000) (hv : ∀ i v, Pv i v → ∃ x tk, xs[i]? = some x ∧ v = .str x tk) :
    ∀ (k i : Nat) (s : Shared), n - i = k → i ≤ n → St i s → SxR w s.heap S (dedS (xs.take i)) → (dedS (xs.take i)).length ≤ i →
      (∀ z, Moved (S :: wr) G s z → SxR w z.heap S (dedS xs) → R (.ok (.ret .none)) z) → codeAny (model P w) A (.builtin "set.update.loop" ⟨[.ref S, .ref I], []⟩) R s := by
  have hSw : S ∉ wr := fun q => hSf (W.sub _ q)
  have sub1 : ∀ b ∈ wr, b ∈ S :: wr := fun b q => List.mem_cons_of_mem _ q
  intro k
  induction k with
  | zero =>
    intro i s hk hi st hS hle hR
    obtain rfl : i = n := by omega
    refine codeAny_builtin PyProof.Rows.F.entry_set_update_loop ?_
    rw [Around.under_plainId PyProof.Rows.F.plain_set_update_loop _]
    show wpAny _ A.in1 (pyNext (.ref I) >>= _) _ _ _
    refine wpAny_bind (W.done s _ _ st fun z hm => ?_)
    show wpAny _ A.in1 (ret Value.none) _ _ z
    rw [hn, List.take_length] at hS
    exact wpAny_pure (hR z (hm.mono sub1) (hS.keep fun o e => hm.heap S o hSw e))
  | succ k ih =>
    intro i s hk hi st hS hle hR
    have lt : i < n := by omega
    refine codeAny_builtin PyProof.Rows.F.entry_set_update_loop ?_
    rw [Around.under_plainId PyProof.Rows.F.plain_set_update_loop _]
    show wpAny _ A.in1 (pyNext (.ref I) >>= _) _ _ _
    refine wpAny_bind (W.item i s _ _ lt st fun v z hP st1 hm => ?_)
    obtain ⟨x, tk, hx, rfl⟩ := hv i v hP
    have hS1 : SxR w z.heap S (dedS (xs.take i)) := hS.keep fun o e => hm.heap S o hSw e
    show wpAny _ A.in1 (holding [Value.str x tk] (setAdd S (.str x tk)) >>= _) _ _ z
    refine wpAny_bind (wpAny_holding ?_)
    unfold setAdd
    refine wpAny_holding (wpAny_bind ((strKind P w).pyHash (k := x) (by show Value.isStrOf x (.str x tk) = true; simp [Value.isStrOf]) ?_))
    have tk1 : dedS (xs.take (i + 1)) = addX (dedS (xs.take i)) x := by rw [← dedS_snoc, take_next hx]
    have ln1 := addX_len (dedS (xs.take i)) x
    refine sx_addH (P := P) (s := { z with toks := z.toks + 1 }) hS1 (by have : scanBound = 4096 := rfl; omega) fun h1 b sb S2 => ?_
    rw [← tk1] at S2 ln1
    refine wpAny_pure ⟨plainId_quiet PyProof.Rows.F.plain_set_update_loop _, ih (i + 1) _ (by omega) lt (W.frame _ z _ _ st1 (Nat.le_add_right _ _) fun c hc o e => (sb.2 c fun q => hSf (q ▸ hc)).trans e) S2 (by omega) fun y hm2 hS2 => ?_⟩
    exact hR y (Moved.trans W.gtrans ((hm.mono sub1).then_heap (Nat.le_add_right _ _) fun c o hc e => (sb.2 c fun q => hc (q ▸ List.mem_cons_self)).trans e) hm2) hS2
theorem strs_nth {us : List Value} {xs : List Str} (h : StrsAre us xs) : ∀ (i : Nat) (v : Value), us[i]? = some v → ∃ x tk, xs[i]? = some x ∧ v = .str x tk := by
  induction h with
  | nil => intro i v e; simp at e
  | cons y t _ ih =>
    intro i v e
    cases i with
    | zero => simp at e; exact ⟨y, t, rfl, e.symm⟩
    | succ i => simpa using ih i v (by simpa using e)
/-- set(list of texts) -/
theorem sx_call {q : Addr} {its : Array Value} {xs : List Str} {Q : Value → Shared → Prop} (hh : A.handled = none) (hq : s.heap.IsList q its) (hx : StrsAre its.toList xs) (few : xs.length < 1000)
    (hQ : ∀ (h1 : Heap) (tk : Nat), SxR w h1 s.heap.objs.size (dedS xs) → (∀ b o, s.heap.get? b = some o → h1.get? b = some o) → Q (.ref s.heap.objs.size) { s with heap := h1, toks := tk }) :
    wpAny (model P w) A (call (.type "set") [.ref q]) Q E s := by
  have zx : its.size = xs.length := by rw [← StrsAre.len_eq hx, Array.length_toList]
  obtain ⟨mc, mt, hmro⟩ := PySem.F.called_set.mro
  have hmade := PySem.F.called_set.made
  have hsub := PySem.F.called_set.sub
  refine wpAny_call (codeAny_of_tree ?_)
  show wpAny _ _ (callAny (.type "set") _) _ _ _
  refine wpAny_pure ⟨Code.quiet_builtin _ (by decide +kernel), codeAny_builtin PySem.F.entry_type_call (by
    rw [Around.under_plain (weight_type_call_type "set" [.ref q] []) rfl]
    have c1 := PySem.F.called_set.notType
    have c2 := PySem.F.called_set.canCreate
    have c3 := PySem.F.typeCall_set_1 (.ref q)
    repeat (any_goals (first | assumption | wp_step))
    refine codeAny_mono (code_set_led1 (.ref q) (E := E) (Q₁ := fun v z => v = .ref s.heap.objs.size ∧ z = { s with heap := s.heap.push (nwS w) }) ⟨rfl, rfl⟩) fun r z hr => ?_
    cases r with
    | error e => exact hr
    | ok fl =>
      cases fl with
      | ret v =>
        obtain ⟨rfl, rfl⟩ := hr
        have gS : (s.heap.push (nwS w)).get? s.heap.objs.size = some (nwS w) := Heap.get?_push_size _ rfl
        have tS : Shared.TypeIs { s with heap := s.heap.push (nwS w) } (.ref s.heap.objs.size) "set" := ⟨_, gS, rfl⟩
        have c4 := PySem.F.called_set.init.lookup
        have c5 := PySem.F.called_set.init.bind (.ref s.heap.objs.size)
        repeat (any_goals (first | assumption | wp_step))
        refine codeAny_mono (codeAny_call_builtin (R := wants (fun r y => r = .none ∧ ∃ h1 tk, y = { s with heap := h1, toks := tk } ∧ SxR w h1 s.heap.objs.size (dedS xs) ∧
            (∀ b o, s.heap.get? b = some o → h1.get? b = some o)) E) PySem.F.called_set.init.plain PySem.F.entry_set_init (check_set_init_1 tS ?_)) fun r2 y hr2 => ?_
        · obtain ⟨oq, eq, cq, nq, dq⟩ := hq
          obtain ⟨oc, od, odat, osl⟩ := oq
          simp only at cq dq
          subst cq; subst dq
          have eq1 : (s.heap.push (nwS w)).get? q = some { cls := .type "list", dict := od, data := .seq its nq, slots := osl } := Heap.get?_push_of_some _ eq
          have c6 := PySem.F.sub_list_set
          have c7 := PySem.F.sub_list_frozenset
          have c8 : (Value.type "list" == Value.type "dict") = false := by decide
          have il : (s.heap.push (nwS w)).IsList q its := ⟨_, eq1, rfl, nq, rfl⟩
          unfold Builtin.«set.__init__» noKeywords Builtin.Frozenset.updateFrom
          generalize hPI : pyIter = PI
          wp_walk
          subst hPI
          refine wpAny_pyIter_list il (wpAny_bind (wpAny_runValue ?_))
          have ql : q < s.heap.objs.size := Heap.lt_size eq
          have h3 : A.in1.in1.in1.handled = none := by simp [hh]
          have ne : q ≠ (s.heap.push (nwS w)).objs.size := by rw [Heap.size_push]; exact Nat.ne_of_lt (Nat.lt_succ_of_lt ql)
          have nf : s.heap.objs.size ∉ [(s.heap.push (nwS w)).objs.size, q] := by
            rw [Heap.size_push]
            simp only [List.mem_cons, List.not_mem_nil, or_false, not_or]
            exact ⟨Nat.ne_of_lt (Nat.lt_succ_self _), Nat.ne_of_gt ql⟩
          have at_ : ∀ (i : Nat) (v : Value), its[i]? = some v → ∃ x tk, xs[i]? = some x ∧ v = .str x tk := fun i v e => by
            exact strs_nth hx i v (by rw [Array.getElem?_toList]; exact e)
          refine sx_loop ((Walks.list h3 _ q ne its).toS) s.heap.objs.size nf xs zx few at_ (its.size - 0) 0 _ (by omega) (Nat.zero_le _)
            ⟨⟨_, Heap.get?_push_size _ rfl, rfl, rfl⟩, (il.push _)⟩ (sx_fresh (Heap.get?_push_of_some _ gS)) (Nat.le_refl _) fun y hm hS1 => ?_
          obtain ⟨h1, g1, d1, k1, o1⟩ := y
          obtain rfl : g1 = s.gens := hm.gens
          obtain rfl : d1 = s.drawn := hm.drawn
          obtain rfl : o1 = s.os := hm.os
          show wpAny _ _ _ _ _ _
          refine wpAny_pure ?_
          show wpAny _ _ (ret Value.none) _ _ _
          refine wpAny_pure ⟨rfl, h1, k1, rfl, hS1, fun b o e => ?_⟩
          have bl := Heap.lt_size e
          refine hm.heap b o ?_ (Heap.get?_push_of_some _ (Heap.get?_push_of_some _ e))
          rw [Heap.size_push]
          simp only [List.mem_cons, List.not_mem_nil, or_false, not_or]
          exact ⟨Nat.ne_of_lt bl, Nat.ne_of_lt (Nat.lt_succ_of_lt bl)⟩
        · cases r2 with
          | error e => exact hr2
          | ok fl2 =>
            cases fl2 with
            | ret v2 =>
              obtain ⟨rfl, h1, tk, rfl, hS1, k1⟩ := hr2
              repeat (any_goals (first | assumption | wp_step))
              exact hQ _ _ hS1 k1
            | _ => exact hr2.elim
      | _ => exact hr.elim)⟩
end
end Dl

set_option Elab.async false
set_option linter.all false
set_option maxRecDepth 100000
set_option maxHeartbeats 4000000
/-! DL41: set(tuple of texts); sorted(set(..)), len(set(..)) of texts as data. -/
namespace Dl
open PySem PySem.Spec PyProof.Rows L2
theorem sub_tup_set : isSubtype (.type "tuple") (.type "set") = pure false := by rw [isSubtype_type] <;> kernel_rfl
theorem sub_tup_fro : isSubtype (.type "tuple") (.type "frozenset") = pure false := by rw [isSubtype_type] <;> kernel_rfl
section
variable {P : Program} {w : World} {A : Around} {E : Value → Shared → Prop} {s : Shared} {a : Addr} {l : List Str}
/-- set(tuple of texts) -/
theorem sx_callT {q : Addr} {its : Array Value} {xs : List Str} {Q : Value → Shared → Prop} (hh : A.handled = none) (hq : s.heap.IsTuple q its) (hx : StrsAre its.toList xs) (few : xs.length < 1000)
    (hQ : ∀ (h1 : Heap) (tk : Nat), SxR w h1 s.heap.objs.size (dedS xs) → (∀ b o, s.heap.get? b = some o → h1.get? b = some o) → Q (.ref s.heap.objs.size) { s with heap := h1, toks := tk }) :
    wpAny (model P w) A (call (.type "set") [.ref q]) Q E s := by
  have zx : its.size = xs.length := by rw [← StrsAre.len_eq hx, Array.length_toList]
  obtain ⟨mc, mt, hmro⟩ := PySem.F.called_set.mro
  have hmade := PySem.F.called_set.made
  have hsub := PySem.F.called_set.sub
  refine wpAny_call (codeAny_of_tree ?_)
  show wpAny _ _ (callAny (.type "set") _) _ _ _
  refine wpAny_pure ⟨Code.quiet_builtin _ (by decide +kernel), codeAny_builtin PySem.F.entry_type_call (by
    rw [Around.under_plain (weight_type_call_type "set" [.ref q] []) rfl]
    have c1 := PySem.F.called_set.notType
    have c2 := PySem.F.called_set.canCreate
    have c3 := PySem.F.typeCall_set_1 (.ref q)
    repeat (any_goals (first | assumption | wp_step))
    refine codeAny_mono (code_set_led1 (.ref q) (E := E) (Q₁ := fun v z => v = .ref s.heap.objs.size ∧ z = { s with heap := s.heap.push (nwS w) }) ⟨rfl, rfl⟩) fun r z hr => ?_
    cases r with
    | error e => exact hr
    | ok fl =>
      cases fl with
      | ret v =>
        obtain ⟨rfl, rfl⟩ := hr
        have gS : (s.heap.push (nwS w)).get? s.heap.objs.size = some (nwS w) := Heap.get?_push_size _ rfl
        have tS : Shared.TypeIs { s with heap := s.heap.push (nwS w) } (.ref s.heap.objs.size) "set" := ⟨_, gS, rfl⟩
        have c4 := PySem.F.called_set.init.lookup
        have c5 := PySem.F.called_set.init.bind (.ref s.heap.objs.size)
        repeat (any_goals (first | assumption | wp_step))
        refine codeAny_mono (codeAny_call_builtin (R := wants (fun r y => r = .none ∧ ∃ h1 tk, y = { s with heap := h1, toks := tk } ∧ SxR w h1 s.heap.objs.size (dedS xs) ∧
            (∀ b o, s.heap.get? b = some o → h1.get? b = some o)) E) PySem.F.called_set.init.plain PySem.F.entry_set_init (check_set_init_1 tS ?_)) fun r2 y hr2 => ?_
        · obtain ⟨oq, eq, cq, nq, dq⟩ := hq
          obtain ⟨oc, od, odat, osl⟩ := oq
          simp only at cq dq
          subst cq; subst dq
          have eq1 : (s.heap.push (nwS w)).get? q = some { cls := .type "tuple", dict := od, data := .seq its nq, slots := osl } := Heap.get?_push_of_some _ eq
          have c6 := sub_tup_set
          have c7 := sub_tup_fro
          have c8 : (Value.type "tuple" == Value.type "dict") = false := by decide
          have il : (s.heap.push (nwS w)).IsTuple q its := ⟨_, eq1, rfl, nq, rfl⟩
          unfold Builtin.«set.__init__» noKeywords Builtin.Frozenset.updateFrom
          generalize hPI : pyIter = PI
          wp_walk
          subst hPI
          refine wpAny_pyIter_tuple il (wpAny_bind (wpAny_runValue ?_))
          have ql : q < s.heap.objs.size := Heap.lt_size eq
          have h3 : A.in1.in1.in1.handled = none := by simp [hh]
          have ne : q ≠ (s.heap.push (nwS w)).objs.size := by rw [Heap.size_push]; exact Nat.ne_of_lt (Nat.lt_succ_of_lt ql)
          have nf : s.heap.objs.size ∉ [(s.heap.push (nwS w)).objs.size, q] := by
            rw [Heap.size_push]
            simp only [List.mem_cons, List.not_mem_nil, or_false, not_or]
            exact ⟨Nat.ne_of_lt (Nat.lt_succ_self _), Nat.ne_of_gt ql⟩
          have at_ : ∀ (i : Nat) (v : Value), its[i]? = some v → ∃ x tk, xs[i]? = some x ∧ v = .str x tk := fun i v e => by
            exact strs_nth hx i v (by rw [Array.getElem?_toList]; exact e)
          refine sx_loop ((Walks.tuple h3 _ q ne its).toS) s.heap.objs.size nf xs zx few at_ (its.size - 0) 0 _ (by omega) (Nat.zero_le _)
            ⟨⟨_, Heap.get?_push_size _ rfl, rfl, rfl⟩, (il.push _)⟩ (sx_fresh (Heap.get?_push_of_some _ gS)) (Nat.le_refl _) fun y hm hS1 => ?_
          obtain ⟨h1, g1, d1, k1, o1⟩ := y
          obtain rfl : g1 = s.gens := hm.gens
          obtain rfl : d1 = s.drawn := hm.drawn
          obtain rfl : o1 = s.os := hm.os
          show wpAny _ _ _ _ _ _
          refine wpAny_pure ?_
          show wpAny _ _ (ret Value.none) _ _ _
          refine wpAny_pure ⟨rfl, h1, k1, rfl, hS1, fun b o e => ?_⟩
          have bl := Heap.lt_size e
          refine hm.heap b o ?_ (Heap.get?_push_of_some _ (Heap.get?_push_of_some _ e))
          rw [Heap.size_push]
          simp only [List.mem_cons, List.not_mem_nil, or_false, not_or]
          exact ⟨Nat.ne_of_lt bl, Nat.ne_of_lt (Nat.lt_succ_of_lt bl)⟩
        · cases r2 with
          | error e => exact hr2
          | ok fl2 =>
            cases fl2 with
            | ret v2 =>
              obtain ⟨rfl, h1, tk, rfl, hS1, k1⟩ := hr2
              repeat (any_goals (first | assumption | wp_step))
              exact hQ _ _ hS1 k1
            | _ => exact hr2.elim
      | _ => exact hr.elim)⟩
end
/-- the set of texts as a thing of the abstract heap -/
def SxO (w : World) (a : Addr) (l : List Str) : HO := .ext fun h => SxR w h a l
theorem sxO_ok {P : Program} {w : World} {H : Hp} {h : Heap} {a : Addr} {l : List Str} (R : SxR w h a l) : ObjOk P w H h a (SxO w a l) := by
  obtain ⟨ob, _, _, _, e0, _⟩ := id R
  exact ⟨R, ⟨ob, e0⟩, fun _ _ q k => q.keep k⟩
def rSetX (K : PySem.W.Frag) (w : World) : List V → Hp → VK → Prop := fun xs H Q => ∃ (q : Addr) (ys : List Str), xs = [V.ref q] ∧ (SqL K H q (ys.map V.str) ∨ SqT K H q (ys.map V.str)) ∧ ys.length < 64 ∧ ∀ a, H a = none → Q (.ref a) (upd H a (SxO w a (dedS ys)))
theorem cr_setX {X : Cx} (hc : X.calm = true) : CallR X (.type "set") (rSetX X.K X.w) := by
  intro pins s σ H xs us Q I r h
  obtain ⟨q, ys, rfl, hq, few, k⟩ := h
  rw [Vals.ref1 r]
  have hn : H s.heap.objs.size = none := I.hok.fresh (Nat.le_refl _)
  rcases hq with hq | hq
  · obtain ⟨its, rv, pl, hz⟩ := I.list hq
    refine sx_call (P := X.prog) (w := X.w) (xs := ys) (I.ok.hd hc) pl.isList (by simpa using rv.strs) (by omega) fun h1 tk R kk => ?_
    exact ⟨.ref s.heap.objs.size, upd H s.heap.objs.size (SxO X.w s.heap.objs.size (dedS ys)), I.laid (t' := tk) kk (Nat.le_refl _) (sxO_ok R), rfl, k _ hn⟩
  · obtain ⟨its, rv, ⟨o, e, hcl, n, hd⟩, hz⟩ := I.tuple hq
    refine sx_callT (P := X.prog) (w := X.w) (xs := ys) (I.ok.hd hc) ⟨o, e, hcl, n, hd⟩ (by simpa using rv.strs) (by omega) fun h1 tk R kk => ?_
    exact ⟨.ref s.heap.objs.size, upd H s.heap.objs.size (SxO X.w s.heap.objs.size (dedS ys)), I.laid (t' := tk) kk (Nat.le_refl _) (sxO_ok R), rfl, k _ hn⟩
def rLenX (w : World) : List V → Hp → VK → Prop := fun xs H Q => ∃ (a : Addr) (l : List Str), xs = [V.ref a] ∧ H a = some (SxO w a l) ∧ Q (.int l.length) H
theorem cr_lenX {X : Cx} : CallR X (.builtin "len") (rLenX X.w) := by
  intro pins s σ H xs us Q I r h
  obtain ⟨a, l, rfl, ha, k⟩ := h
  rw [Vals.ref1 r]
  obtain ⟨ob, es, ep, tb, e0, ex, ed, g, pm, nd, hb, hf, hr, hl⟩ := (I.hok a _ ha).1
  have sz : es.size = l.length := by rw [← Array.length_toList, ← pm.length_eq, List.length_map]
  have hbb : scanBound = 4096 := rfl
  exact call_len_set e0 ex ed hf (by omega) ⟨.int l.length, H, I.tok _, ⟨_, by rw [sz]⟩, k⟩
theorem txs_are {w : World} : ∀ (z : List (Int × Value)) (vs : List Value), (∀ e ∈ z, TxE w e) → vs.Perm (z.map (·.2)) → StrsAre vs (vs.map txV) := by
  intro z vs g pm
  have hv : ∀ v ∈ vs, ∃ x tk, v = Value.str x tk := fun v hv => by
    obtain ⟨e, he, rfl⟩ := List.mem_map.mp (pm.mem_iff.mp hv)
    obtain ⟨x, tk, q, _⟩ := g e he
    exact ⟨x, tk, q⟩
  clear pm
  induction vs with
  | nil => exact .nil
  | cons v vs ih =>
    obtain ⟨x, tk, rfl⟩ := hv v (by simp)
    exact .cons x tk (ih fun u hu => hv u (by simp [hu]))
section
variable {P : Program} {w : World} {A : Around} {E : Value → Shared → Prop} {s : Shared} {a : Addr} {l : List Str}
theorem sx_sorted {Q : Value → Shared → Prop} (R : SxR w s.heap a l) (hh : A.handled = none) (h64 : l.length < 64)
    (hQ : ∀ (z : Shared) (p : Addr) (out : List Value) (c : Nat), (∀ b o, s.heap.get? b = some o → z.heap.get? b = some o) → z.gens = s.gens → z.os = s.os → s.heap.objs.size ≤ p →
      z.heap.get? p = some (seqObj "list" out.toArray c) → StrsAre out (sortS l) → Q (.ref p) z) :
    wpAny (model P w) A (call (.builtin "sorted") [.ref a]) Q E s := by
  obtain ⟨ob, es, ep, tb, e0, ex, ed, g, pm, nd, hb, hf, hr, hl⟩ := R
  refine Calls.call_function_entry kind_sorted plain_sorted entry_sorted (args_sorted1 _) ?_
  unfold Builtin.«sorted»
  refine wpAny_bind (m := checkCount "sorted" 1 1 _) (wpAny_pure ?_)
  refine wpAny_bind (collect_set (A := A.in1) hh ⟨ob, e0, ex.1, ed⟩ hf hb hr hl fun z vs k1 hz g1 o1 pv => ?_)
  have hS : StrsAre vs (vs.map txV) := txs_are es.toList vs g pv
  have pl : (vs.map txV).Perm l := ((pv.map txV).trans (by rw [List.map_map]; exact List.Perm.refl _)).trans pm
  have vl : vs.length < 64 := by rw [← List.length_map (f := txV), pl.length_eq]; exact h64
  refine wpAny_bind (wpAny_newList ?_ (by rw [sizeLine_eq]; omega))
  have hoL : (z.heap.push (seqObj "list" vs.toArray 0)).get? z.heap.objs.size = some (seqObj "list" vs.toArray 0) := Heap.get?_push_size _ rfl
  refine wpAny_bind (wpAny_holding (wpAny_call_entry slot_list_sort ⟨_, hoL, rfl⟩ entry_list_sort (list_sort_treeK strKind_oneLt hoL hS.keysOf (fun v₁ v₂ rest e => keyKind_strs (by rw [← e]; exact hS)) vl fun st' a1 a2 => ⟨_, rfl, ?_⟩) (args_list_sort _)))
  refine wpAny_pure ⟨_, rfl, ?_⟩
  obtain ⟨ss, g2, g3, g4⟩ := sorted_out_str hS a1 a2
  obtain ⟨ep2, he2⟩ := sortedHeap_at (vs := vs) (out := (arrOf st').map (·.2)) hoL
  have es2 : ss = sortS l := by
    have := sortS_only g3 g4
    rw [this]
    exact sorted_unique (le := fun a b => leS a b = true) leS_anti ((sortS_perm _).trans (pl.trans (sortS_perm l).symm)) (sortS_sorted _) (sortS_sorted l)
  subst es2
  refine hQ _ z.heap.objs.size ((arrOf st').map (·.2)).toList ep2 (fun b o hb1 => ?_) g1 o1 hz (by rw [Array.toArray_toList]; exact he2) g2
  have q := k1 b o hb1
  show (sortedHeap (z.heap.push (seqObj "list" vs.toArray 0)) z.heap.objs.size vs _).get? b = some o
  rw [sortedHeap_old (Nat.ne_of_lt (Heap.lt_size q)) (Heap.lt_size (Heap.get?_push_of_some _ q))]
  exact Heap.get?_push_of_some _ q
end
def rSrtX (w : World) : List V → Hp → VK → Prop := fun xs H Q => ∃ (a : Addr) (l : List Str), xs = [V.ref a] ∧ H a = some (SxO w a l) ∧ l.length < 64 ∧ ∀ p, H p = none → Q (.ref p) (upd H p (.lst ((sortS l).map V.str)))
theorem cr_srtX {X : Cx} (hc : X.calm = true) : CallR X (.builtin "sorted") (rSrtX X.w) := by
  intro pins s σ H vs us Q I r h
  obtain ⟨a, l, rfl, ha, h64, k⟩ := h
  rw [Vals.ref1 r]
  refine sx_sorted (P := X.prog) (I.hok a _ ha).1 (I.ok.hd hc) h64 fun z p out c kk g o hp hg hs => ?_
  have hn : H p = none := I.hok.fresh hp
  have hlen : ((sortS l).map V.str).length ≤ sizeLine := by rw [List.length_map, (sortS_perm l).length_eq]; exact small64 h64
  have J : Inv X pins σ (upd H p (.lst ((sortS l).map V.str))) { s with heap := z.heap, gens := z.gens, drawn := z.drawn, toks := z.toks } :=
    I.call (ch := []) (Un.laid kk hp hn) (I.hok.laid kk hp ⟨hlen, out, c, vals_of_strs hs, hg⟩) (by rw [g]; exact I.bare) (fun _ y => nomatch y)
  have e : z = { s with heap := z.heap, gens := z.gens, drawn := z.drawn, toks := z.toks } := by
    cases z; cases s; cases o; rfl
  rw [e]
  exact ⟨.ref p, _, J, rfl, k p hn⟩
theorem dedS_len (l : List Str) : (dedS l).length ≤ l.length := by
  suffices h : ∀ (l a : List Str), (l.foldl addX a).length ≤ a.length + l.length by simpa [dedS] using h l []
  intro l
  induction l with
  | nil => intro a; simp
  | cons x l ih =>
    intro a
    have h1 := ih (addX a x)
    have h2 := addX_len a x
    simp only [List.foldl_cons, List.length_cons]
    omega
theorem dedS_mem (l : List Str) (y : Str) : y ∈ dedS l ↔ y ∈ l := by
  suffices h : ∀ (l a : List Str), y ∈ l.foldl addX a ↔ y ∈ a ∨ y ∈ l by simpa [dedS] using h l []
  intro l
  induction l with
  | nil => intro a; simp
  | cons x l ih =>
    intro a
    rw [List.foldl_cons, ih, addX_mem, List.mem_cons, or_assoc]
theorem dedS_nd (l : List Str) : (dedS l).Nodup := by
  suffices h : ∀ (l a : List Str), a.Nodup → (l.foldl addX a).Nodup from h l [] List.nodup_nil
  intro l
  induction l with
  | nil => intro a h; exact h
  | cons x l ih => intro a h; exact ih _ (addX_nd h x)
/-- the texts of a list or a row -/
def txsD : D → Option (List Str)
  | .lst _ ds => strsL ds
  | .tup ds => strsL ds
  | _ => none
/-- sorted(set(..)) -/
def opSrtSet : List D → Option D
  | [d] => match txsD d with
    | some l => if l.length < 64 then some (.lst true ((sortS (dedS l)).map D.str)) else none
    | none => none
  | _ => none
/-- len(set(..)) -/
def opLenSet : List D → Option D
  | [d] => match txsD d with
    | some l => if l.length < 64 then some (.int (dedS l).length) else none
    | none => none
  | _ => none
def rSrtSet (K : PySem.W.Frag) (w : World) : List V → Hp → VK → Prop := fun vs H Q => rSetX K w vs H fun x H1 => rSrtX w [x] H1 Q
def rLenSet (K : PySem.W.Frag) (w : World) : List V → Hp → VK → Prop := fun vs H Q => rSetX K w vs H fun x H1 => rLenX w [x] H1 Q
section
variable {K : PySem.W.Frag} {mg : MG} {w : World}
theorem txsD_sq {H : Hp} {v : V} {d : D} {l : List Str} (r : Rp K mg H v d) (h : txsD d = some l) : ∃ q, v = .ref q ∧ (SqL K H q (l.map V.str) ∨ SqT K H q (l.map V.str)) := by
  unfold txsD at h
  split at h
  · obtain ⟨a, xs, rfl, ha, rl⟩ := r.lst_inv
    obtain rfl := rl.strs h
    exact ⟨a, rfl, .inl (SqL.of ha)⟩
  · obtain ⟨a, xs, rfl, ha, rl⟩ := r.tup_inv
    obtain rfl := rl.strs h
    exact ⟨a, rfl, .inr (Or.inl (Or.inl ha))⟩
  · cases h
theorem r_srtSet : RnD K mg (rSrtSet K w) opSrtSet := by
  intro vs H ds d Q rs e k
  unfold opSrtSet at e
  split at e
  · split at e
    · rename_i l hl
      split at e
      · rename_i hz
        cases e
        obtain ⟨v, rfl, r⟩ := rs.one
        obtain ⟨q, rfl, hq⟩ := txsD_sq r hl
        refine ⟨q, l, rfl, hq, hz, fun a ha => ⟨a, _, rfl, upd_same, Nat.lt_of_le_of_lt (dedS_len l) hz, fun p hp => ?_⟩⟩
        have g : Same H (upd H a (SxO w a (dedS l))) := same_upd ha
        refine k _ _ (g.trans (same_upd hp)) fun rs s => ?_
        exact (mk_lst (rpL_strs _) (imm_strs _) hp) rs (s.grow g)
      · cases e
    · cases e
  · cases e
theorem r_lenSet : RnD K mg (rLenSet K w) opLenSet := by
  intro vs H ds d Q rs e k
  unfold opLenSet at e
  split at e
  · split at e
    · rename_i l hl
      split at e
      · rename_i hz
        cases e
        obtain ⟨v, rfl, r⟩ := rs.one
        obtain ⟨q, rfl, hq⟩ := txsD_sq r hl
        refine ⟨q, l, rfl, hq, hz, fun a ha => ⟨a, _, rfl, upd_same, ?_⟩⟩
        have g : Same H (upd H a (SxO w a (dedS l))) := same_upd ha
        exact k _ _ g fun rs s => (mk_int _) rs (s.grow g)
      · cases e
    · cases e
  · cases e
end
section
variable {X : Cx} {F : Fm} {vs0 : List V} {t : TA} {es : List Expr} {p1 p2 p3 p4 : Pos}
theorem as_srtSet {e : Expr} (h : PE X e (tCB (rSrtX X.w) (tCons (tCB (rSetX X.K X.w) t) tNil))) : PE X e (tCB (rSrtSet X.K X.w) t) := h
theorem as_lenSet {e : Expr} (h : PE X e (tCB (rLenX X.w) (tCons (tCB (rSetX X.K X.w) t) tNil))) : PE X e (tCB (rLenSet X.K X.w) t) := h
end
end Dl

set_option Elab.async false
set_option linter.all false
set_option maxRecDepth 100000
set_option maxHeartbeats 2000000
/-! DL42: xs[::-1]; d.get(k, x); max(d.values()); range by steps. -/
namespace Dl
open PySem PySem.Spec PyProof.Rows L2

/-! ### a list turned about -/
def opRevL : D → Option D
  | .lst _ ds => if immL ds = true then some (.lst true ds.reverse) else none
  | _ => none
def eRevP (a : PM) : EM := fun ρ => match a ρ with
  | some d => match opRevL d with
    | some d' => some (d', ρ)
    | none => none
  | none => none
def eRevE (a : EM) : EM := fun ρ => match a ρ with
  | some (d, ρ1) => match opRevL d with
    | some d' => some (d', ρ1)
    | none => none
  | none => none
theorem immL_rev : ∀ ds : List D, immL ds = true → immL ds.reverse = true := fun ds h => by
  rw [immL_all] at h ⊢
  simpa using h
section
variable {F : Fm} {X : Cx} {vs0 : List V} {fa : PM} {ea : EM} {a : Expr} {k : Nat} {p1 p2 p3 pos : Pos}
theorem rev_step {σ : L2.St} {H1 : Hp} {Q : VK} {x : V} {d d' : D} {ρ : DEnv} {ts : List Rt} (r : Rp F.K F.mg H1 x d) (e : opRevL d = some d') (a1 : At F σ H1 ρ ts) (k : ∀ v H', At F σ H' ρ (.v v d' :: ts) → Q v H') :
    ∃ a xs, x = V.ref a ∧ SqL F.K H1 a xs ∧ ∀ p, H1 p = none → Q (.ref p) (upd H1 p (.lst xs.reverse)) := by
  unfold opRevL at e
  split at e
  · split at e
    · rename_i hi
      cases e
      obtain ⟨q, xs, rfl, hq, rl⟩ := r.lst_inv
      refine ⟨q, xs, rfl, SqL.of hq, fun p hp => k _ _ ?_⟩
      exact a1.mk' (mk_lst rl.reverse (immL_rev _ hi) hp)
    · cases e
  · cases e
theorem e_revP (ha : PE X a (tP (fm X vs0) fa)) : PE X (.Subscript a (.Slice none none (some (.UnaryOp .USub (.Constant (.int 1) k p1) p2)) p3) pos) (tD (fm X vs0) (eRevP fa)) := (pe_revL ha).imp fun σ H Q ⟨ρ, ts, d, ρ', b, e, k⟩ => by
  unfold eRevP at e
  split at e
  · rename_i d0 e0
    split at e
    · rename_i d1 e1
      cases e
      exact ⟨ρ, ts, d0, b, e0, fun x H1 g rx _ => rev_step rx e1 (b.grow g) k⟩
    · cases e
  · cases e
theorem e_revE (ha : PE X a (tD (fm X vs0) ea)) : PE X (.Subscript a (.Slice none none (some (.UnaryOp .USub (.Constant (.int 1) k p1) p2)) p3) pos) (tD (fm X vs0) (eRevE ea)) := (pe_revL ha).imp fun σ H Q ⟨ρ, ts, d, ρ', b, e, k⟩ => by
  unfold eRevE at e
  split at e
  · rename_i d0 ρ1 e0
    split at e
    · rename_i d1 e1
      cases e
      exact ⟨ρ, ts, d0, _, b, e0, fun x H1 a1 => rev_step ((a1.front).rp) e1 a1.tail k⟩
    · cases e
  · cases e
end

/-! ### range(a, b, c) -/
def rangeC (lo c : Int) (n : Nat) : List D := (List.range n).map fun k => .int (lo + (k : Nat) * c)
theorem rangeC_len (lo c : Int) (n : Nat) : (rangeC lo c n).length = n := by simp [rangeC]
theorem rangeC_get (lo c : Int) (n i : Nat) (h : i < (rangeC lo c n).length) : (rangeC lo c n)[i] = .int (lo + (i : Nat) * c) := by simp [rangeC]
def okC (i j c : Int) (n : Nat) : Bool := decide (c ≠ 0) && decide (c.natAbs < 1073741824) && Builtin.Range.small i j c && decide (Builtin.Range.rangeSize i j c = n)
def sForR3 (a b c : EM) (n : Int → Int → Int → Nat) (g : GM) (body : SM) : SM := fun ρ => match a ρ with
  | some (.int i, ρ1) => match b ρ1 with
    | some (.int j, ρ2) => match c ρ2 with
      | some (.int l, ρ3) => if okC i j l (n i j l) = true then forL g body (rangeC i l (n i j l)) ρ3 else none
      | _ => none
    | _ => none
  | _ => none
/-- by steps of two -/
def twos (i j _c : Int) : Nat := ((j - i + 1) / 2).toNat
section
variable {F : Fm} {g : GM} {body : SM} {gt : TG} {ea eb ec : EM} {n : Int → Int → Int → Nat}
theorem rangeC_turns {D' : Ends} {σ : L2.St} {H : Hp} {ρ : DEnv} {ts : List Rt} {fl : Fl} {ρ' : DEnv} {lo c : Int} {n : Nat} (hg : ∀ v σ H Q, tG F g v σ H Q → gt v σ H Q) (a : At F σ H ρ ts) (q : forL g body (rangeC lo c n) ρ = some (fl, ρ')) (k : Fin F ts D' fl ρ') :
    ∃ W : Nat → Nat → L2.St → Hp → Prop, (∃ m, W 0 m σ H) ∧ ∀ i m σ H, W i m σ H →
      ((Itc lo c n).stop i H ∧ D'.nx σ H) ∨ ((Itc lo c n).go i H ∧ ∃ N : L2.St → Hp → Prop, (∀ σ' H', N σ' H' → ∃ m', m' < m ∧ W (i + 1) m' σ' H') ∧ ∀ x H', (Itc lo c n).yld i H x H' → gt x σ H' fun σ2 H2 => tS F body { D' with nx := N, ct := N, bk := D'.nx } σ2 H2) := by
  refine for_any (n := n) (fun i σ H => ∃ ρ, At F σ H ρ ts ∧ forL g body ((rangeC lo c n).drop i) ρ = some (fl, ρ')) ⟨ρ, a, q⟩ (fun i σ H hi _ => hi) (fun σ H _ => Nat.le_refl n) ?_ ?_
  · rintro i x σ H H' hi ⟨ρ2, b, hf⟩ ⟨rfl, rfl⟩
    have hi' : i < (rangeC lo c n).length := by rw [rangeC_len]; exact hi
    rw [List.drop_eq_getElem_cons hi', rangeC_get lo c n i hi'] at hf
    exact for_turn hg hf (b.mk' (mk_int _)) k fun σ' H' ρ3 b3 hf3 => ⟨ρ3, b3, hf3⟩
  · rintro σ H ⟨ρ2, b, hf⟩
    rw [List.drop_of_length_le (by rw [rangeC_len]; exact Nat.le_refl _)] at hf
    obtain ⟨rfl, rfl⟩ := forL_nil hf
    exact k σ H b
theorem imp_for3 (hg : ∀ v σ H Q, tG F g v σ H Q → gt v σ H Q) : ∀ D' σ H, tS F (sForR3 ea eb ec n g body) D' σ H → tFor (iRng3 (tCons (tD F ea) (tCons (tD F eb) (tCons (tD F ec) tNil)))) gt (tS F body) D' σ H := fun D' σ H ⟨ρ, ts, fl, ρ', a, q, k⟩ => by
  unfold sForR3 at q
  split at q
  · rename_i i ρ1 he
    split at q
    · rename_i j ρ2 he2
      split at q
      · rename_i l ρ3 he3
        split at q
        · rename_i hj
          refine ⟨ρ, ts, _, ρ1, a, he, fun v H1 a1 => ⟨ρ1, _, _, ρ2, a1, he2, fun w H2 a2 => ⟨ρ2, _, _, ρ3, a2, he3, fun u H3 a3 => ?_⟩⟩⟩
          have s3 : Sim F.K F.mg H3 (.v u (.int l) :: .v w (.int j) :: .v v (.int i) :: (ts ++ slotR σ ρ3)) := a3.front
          unfold okC at hj
          simp only [Bool.and_eq_true, decide_eq_true_eq] at hj
          refine ⟨i, j, l, n i j l, ?_, ⟨hj.1.1.1, hj.1.1.2, hj.1.2, hj.2⟩, rangeC_turns hg (a3.of_front s3.tail.tail.tail) q k⟩
          rw [Rp.int_inv s3.rp, Rp.int_inv s3.tail.rp, Rp.int_inv s3.tail.tail.rp]
        · cases q
      · cases q
    · cases q
  · cases q
end
section
variable {X : Cx} {vs0 : List V} {W : WX} {pos : Pos} {g : GM} {body : SM} {tg : Expr} {bs : List Stmt}
theorem s_for3 {a b c : Expr} {p pos' : Pos} {ea eb ec : EM} {n : Int → Int → Int → Nat} (hc : X.calm = true) (hp : PassesOwn (model X.prog X.w) X.A X.env X.xe) (hm : X.mg "range" = none) (ha : PE X a (tD (fm X vs0) ea)) (hb' : PE X b (tD (fm X vs0) eb)) (hc' : PE X c (tD (fm X vs0) ec)) (hg : PG X tg (tG (fm X vs0) g)) (hb : PSs X bs (tS (fmW X vs0 W) body)) (hgl : Gl X "range" := by rfl)
    (hs : starEach [a, b, c] X.env = (false, eval a X.env) :: starEach [b, c] X.env := by rfl) (hs1 : starEach [b, c] X.env = (false, eval b X.env) :: starEach [c] X.env := by rfl) (hs2 : starEach [c] X.env = [(false, eval c X.env)] := by rfl) (hpl : (backTo pos' (starEach [b, c] X.env)).any (·.1) = false := by rfl)
    (hf : ∀ x, foldedSetIterable (.Call (.Name "range" p) [a, b, c] [] pos') X.env x = pure x := by intro _; rfl) :
    PS X (.For tg (.Call (.Name "range" p) [a, b, c] [] pos') bs [] pos) (tS (fmW X vs0 W) (sForR3 ea eb ec n g body)) :=
  (ps_for hp hc (pi_range3 hgl hm (pa_cons ha (pa_cons hb' (pa_cons hc' pa_nil (by rw [hs2]; rfl)) hs1) hs) hs hpl) hg hb hf).imp (imp_for3 fun _ _ _ _ h => h)
end

/-! ### d.get(k), d.get(k, x) -/
def TyG (w : World) (x : V) (H : Hp) : Prop := ∃ a, x = V.ref a ∧ (IsD H a ∨ ∃ xs, H a = some (dnH w a xs))
def tBMG (w : World) (r : V → List V → Hp → VK → Prop) (to : TE) (t : TA) : TE := fun σ H Q => to σ H fun x H1 => TyG w x H1 ∧ t σ H1 fun xs H2 => r x xs H2 Q
theorem tyG_is {X : Cx} {pins : List (Addr × Obj)} {σ : L2.St} {H : Hp} {s : Shared} {x : V} {v : Value} (I : Inv X pins σ H s) (r : RelV x v) (ty : TyG X.w x H) : s.TypeIs v "dict" ∧ ∀ a, v = .ref a → ∃ ob, s.heap.get? a = some ob ∧ ob.dict = none := by
  obtain ⟨a, rfl, ty⟩ := ty
  obtain rfl : v = Value.ref a := r
  rcases ty with d | ⟨xs, h⟩
  · obtain ⟨t1, t2, _⟩ := isD_at I d
    exact ⟨t1, t2⟩
  · obtain ⟨⟨h1, h2, h3, o, es, ep, e, z, q, hl⟩, _, _⟩ := I.hok a _ h
    exact ⟨⟨o, e, z.1⟩, fun b hb => by cases hb; exact ⟨o, e, z.2.1⟩⟩
section
variable {X : Cx} {o e : Expr} {es : List Expr} {name : Str} {id : String} {apos cpos : Pos} {r : V → List V → Hp → VK → Prop} {to : TE} {t : TA}
theorem pe_bmG (slot : Slot "dict" name id) (hty : typeOf (.builtin id) = pure (.type "method_descriptor")) (hm : MtR X id r) (ho : PE X o to) (ha : PA X (e :: es) t)
    (h1 : attributeBase o name X.env (eval o X.env) = eval o X.env := by rfl)
    (h2 : ((backTo cpos (starEach (e :: es) X.env)).all (fun y => !y.1) && (backToKw cpos (keywordEach [] X.env)).all (fun y => y.1.isSome) && decide ((e :: es).length + ([] : List Keyword).length + (if ([] : List Keyword).isEmpty then 0 else 1) < 30)) = true := by rfl)
    (h3 : (apos.endLine == cpos.line) = true := by rfl) (h4 : starEach (e :: es) X.env = (false, eval e X.env) :: starEach es X.env := by rfl) (h5 : (backTo cpos (starEach es X.env)).any (·.1) = false := by rfl) :
    PE X (.Call (.Attribute o name apos) (e :: es) [] cpos) (tBMG X.w r to t) := by
  constructor
  intro pins s σ H Q I h
  refine wpAny_Call_method_late h1 h2 h3 rfl (thn (ho.run pins s σ H _ I h) fun v z ⟨x, H1, I1, r1, ty, q1⟩ => ?_)
  obtain ⟨t1, t2⟩ := tyG_is I1 r1 ty
  refine ⟨"dict", id, PySem.F.plainAttrs_dict, slot, hty, t1, t2, ?_⟩
  have hA := ha.run cpos pins z σ H1 _ I1 q1
  rw [h4] at hA ⊢
  refine Calls.callWith_builtin (by show (false || (backTo cpos (starEach es X.env)).any (·.1)) = false; rw [h5] <;> rfl) (Calls.evalArgs_plain ?_)
  exact thn hA fun us y ⟨vs, H2, I2, r2, q2⟩ => hm pins y σ H2 x vs v us Q I2 r1 r2 q2
def rGetN (w : World) (a : Addr) (y : V) (z : V) (H : Hp) (Q : VK) : Prop := ∃ (b : Addr) (xs : List NEnt) (ks : List D) (kd : D) (k : NestedKey), y = .ref b ∧ H a = some (dnH w a xs) ∧ KeysN H xs ks ∧ NkAt H (.ref b) kd k ∧ k.depth ≤ 8 ∧
  (match atKey xs k with | some p => ∃ v, RelV v p.2 ∧ Q v H | none => Q z H)
def rGet (w : World) : V → List V → Hp → VK → Prop := fun x vs H Q => ∃ a, x = V.ref a ∧
  ((∃ y o, vs = [y] ∧ DGet H a y o ∧ Q (o.getD .non) H) ∨ (∃ y z o, vs = [y, z] ∧ DGet H a y o ∧ Q (o.getD z) H) ∨ (∃ y, vs = [y] ∧ rGetN w a y .non H Q) ∨ (∃ y z, vs = [y, z] ∧ rGetN w a y z H Q))
theorem mt_get (hu : X.A.units + 65 < cLine) : MtR X "dict.get" (rGet X.w) := by
  intro pins s σ H x vs v us Q I rx rv h
  obtain ⟨a, rfl, h⟩ := h
  obtain rfl : v = Value.ref a := rx
  rcases h with ⟨y, ov, rfl, g, q⟩ | ⟨y, z, ov, rfl, g, q⟩ | ⟨y, rfl, g⟩ | ⟨y, z, rfl, g⟩
  · obtain ⟨u, rfl, ry⟩ := vals1 rv
    exact d_get1 (by omega) I g ry fun w' s' I' rw' => ⟨_, H, I', rw', q⟩
  · cases rv with
    | cons ry rv =>
      obtain ⟨u2, rfl, rz⟩ := vals1 rv
      exact d_get2 (by omega) I g ry rz fun w' s' I' rw' => ⟨_, H, I', rw', q⟩
  · obtain ⟨u, rfl, ry⟩ := vals1 rv
    obtain ⟨b, xs, ks, kd, k, rfl, hd, hk, hb, h8, q⟩ := g
    obtain rfl : u = Value.ref b := ry
    obtain ⟨c1, _, c2⟩ := dnH_of I hd hk
    refine call_meetsIn PySem.F.slot_dict_get c2.typeIs PySem.F.entry_dict_get (PySem.F.args_dict_get_2 _ _) (meetsH_dict_get (nestedKind X.prog X.w) a b c1) ⟨show X.A.units + 1 + 8 < cLine by omega, k, xs, ⟨nk_is I.hok hb rfl, h8⟩, c2, ?_⟩
    cases hz : atKey xs k with
    | none => rw [hz] at q; exact ⟨.non, H, I.tok _, rfl, q⟩
    | some p => rw [hz] at q; obtain ⟨z, rz, q⟩ := q; exact ⟨z, H, I.tok _, rz, q⟩
  · cases rv with
    | cons ry rv =>
      obtain ⟨u2, rfl, rz⟩ := vals1 rv
      obtain ⟨b, xs, ks, kd, k, rfl, hd, hk, hb, h8, q⟩ := g
      obtain rfl : _ = Value.ref b := ry
      obtain ⟨c1, _, c2⟩ := dnH_of I hd hk
      refine call_meetsIn PySem.F.slot_dict_get c2.typeIs PySem.F.entry_dict_get (PySem.F.args_dict_get_3 _ _ _) (meetsH_dict_get_default (nestedKind X.prog X.w) a b c1 u2) ⟨show X.A.units + 1 + 8 < cLine by omega, k, xs, ⟨nk_is I.hok hb rfl, h8⟩, c2, ?_⟩
      cases hz : atKey xs k with
      | none => rw [hz] at q; exact ⟨z, H, I.tok _, rz, q⟩
      | some p => rw [hz] at q; obtain ⟨z2, rz2, q⟩ := q; exact ⟨z2, H, I.tok _, rz2, q⟩
end
/-- d.get(k, x), what is told never changes -/
def opGet (d q x : D) : Option D := match d with
  | .dic _ kd ks vs => if kd = .n then (if nkOk q = true ∧ ks.length = vs.length then (match lookD ks vs q with
      | some v => if v.imm = true then some v else none
      | none => if x.imm = true then some x else none) else none)
    else if keyOk kd q = true then (match lookD ks vs q with
      | some v => if v.imm = true then some v else none
      | none => if x.imm = true then some x else none) else none
  | _ => none
def pGet (a : PM) (l : List PM) : PM := fun ρ => match a ρ, pAll l ρ with
  | some d, some [q] => opGet d q .non
  | some d, some [q, x] => opGet d q x
  | _, _ => none
section
variable {F : Fm} {X : Cx} {vs0 : List V} {fa : PM} {fs : List PM} {K : PySem.W.Frag} {mg : MG}
theorem imm_end {σ : L2.St} {H1 : Hp} {Q : VK} {ρ : DEnv} {ts : List Rt} {x : V} {d : D} (a1 : At F σ H1 ρ ts) (r : Rp F.K F.mg H1 x d) (hi : d.imm = true) (k : ∀ v H', Same H1 H' → Rp F.K F.mg H' v d → Cj F σ ρ ts H' v d → Q v H') : Q x H1 :=
  k x H1 (Same.refl H1) r (Cj.of (a1.imm r hi))
theorem get_core {σ : L2.St} {H : Hp} {Q : VK} {ρ : DEnv} {ts : List Rt} {a : V} {d q x e : D} {y z : V} (a1 : At F σ H ρ ts) (ra : Rp F.K F.mg H a d) (ry : Rp F.K F.mg H y q) (rz : Rp F.K F.mg H z x) (h : opGet d q x = some e)
    (k : ∀ v H', Same H H' → Rp F.K F.mg H' v e → Cj F σ ρ ts H' v e → Q v H') : ∃ b, a = V.ref b ∧ TyG F.mg.w a H ∧ ((∃ o, DGet H b y o ∧ Q (o.getD z) H) ∨ rGetN F.mg.w b y z H Q) := by
  unfold opGet at h
  split at h
  · rename_i o kd ks vs
    split at h
    · rename_i hk
      subst hk
      split at h
      · rename_i hc
        obtain ⟨b, xs, ws, rfl, hd, hks, hv, hl⟩ := ra.dn_inv
        obtain ⟨c, key, rfl, e1, e2, n⟩ := nkAt_ref ry hc.1
        have lk := hks.look e1 hv hl
        refine ⟨b, rfl, ⟨b, rfl, .inr ⟨xs, hd⟩⟩, .inr ⟨c, xs, ks, q, key, rfl, hd, hks, n, e2, ?_⟩⟩
        split at h
        · rename_i v hv2
          rw [hv2] at lk
          obtain ⟨b', u, v2, l1, l2, l3⟩ := lk
          rw [l1]
          split at h
          · rename_i hi
            cases h
            exact ⟨v2, l2, imm_end a1 l3 hi k⟩
          · cases h
        · rename_i hv2
          rw [hv2] at lk
          rw [lk]
          split at h
          · rename_i hi
            cases h
            exact imm_end a1 rz hi k
          · cases h
      · cases h
    · split at h
      · rename_i hq
        obtain ⟨b, r, rfl, g, hr⟩ := dget ra ry hq
        refine ⟨b, rfl, ⟨b, rfl, .inl ?_⟩, .inl ⟨r, g, ?_⟩⟩
        · rcases g with ⟨kvs, kk, g1, _⟩ | ⟨kvs, kk, c, g1, _⟩
          · exact .inl ⟨kvs, g1⟩
          · exact .inr ⟨kvs, g1⟩
        · split at h
          · rename_i v hv2
            rw [hv2] at hr
            obtain ⟨v2, rfl, sb⟩ := hr
            split at h
            · rename_i hi
              cases h
              exact imm_end a1 (ra.sub sb) hi k
            · cases h
          · rename_i hv2
            rw [hv2] at hr
            subst hr
            split at h
            · rename_i hi
              cases h
              exact imm_end a1 rz hi k
            · cases h
      · cases h
  · cases h
theorem imp_get : ∀ σ H Q, tP F (pGet fa fs) σ H Q → tBMG F.mg.w (rGet F.mg.w) (tP F fa) (tAP F fs) σ H Q := fun σ H Q ⟨ρ, ts, d, a, e, k⟩ => by
  unfold pGet at e
  split at e
  · rename_i d0 q e1 e2
    refine ⟨ρ, ts, d0, a, e1, fun x H1 g1 rx _ => ?_⟩
    have ty : ∀ y, Rp F.K F.mg H1 y q → TyG F.mg.w x H1 := fun y ry => by
      obtain ⟨b, e3, ty, _⟩ := get_core (Q := fun _ _ => True) (a.grow g1) rx ry .non e fun _ _ _ _ _ => trivial
      exact ty
    have ex : ∃ b, x = V.ref b ∧ ∃ o kd ks vs, d0 = .dic o kd ks vs := by
      unfold opGet at e
      split at e
      · rename_i o kd ks vs
        cases rx with
        | dk _ _ _ => exact ⟨_, rfl, _, _, _, _, rfl⟩
        | dt _ _ _ => exact ⟨_, rfl, _, _, _, _, rfl⟩
        | dn _ _ _ _ => exact ⟨_, rfl, _, _, _, _, rfl⟩
      · cases e
    obtain ⟨b, rfl, o, kd, ks, vs, rfl⟩ := ex
    refine ⟨?_, ρ, ts, [q], a.grow g1, e2, fun ws H2 g2 rs => ?_⟩
    · cases rx with
      | dk z _ _ => exact ⟨_, rfl, .inl (.inl ⟨_, z⟩)⟩
      | dt z _ _ => exact ⟨_, rfl, .inl (.inr ⟨_, z⟩)⟩
      | dn z _ _ _ => exact ⟨_, rfl, .inr ⟨_, z⟩⟩
    · obtain ⟨y, rfl, ry⟩ := rs.one
      obtain ⟨b', e3, _, hh⟩ := get_core (Q := Q) ((a.grow g1).grow g2) (rx.grow g2) ry .non e fun v H' g3 r c => k v H' ((g1.trans g2).trans g3) r c
      cases e3
      refine ⟨b, rfl, ?_⟩
      rcases hh with ⟨ov, h1, h2⟩ | hh
      · exact .inl ⟨y, ov, rfl, h1, h2⟩
      · exact .inr (.inr (.inl ⟨y, rfl, hh⟩))
  · rename_i d0 q x0 e1 e2
    refine ⟨ρ, ts, d0, a, e1, fun x H1 g1 rx _ => ?_⟩
    have ex : ∃ b, x = V.ref b ∧ ∃ o kd ks vs, d0 = .dic o kd ks vs := by
      unfold opGet at e
      split at e
      · rename_i o kd ks vs
        cases rx with
        | dk _ _ _ => exact ⟨_, rfl, _, _, _, _, rfl⟩
        | dt _ _ _ => exact ⟨_, rfl, _, _, _, _, rfl⟩
        | dn _ _ _ _ => exact ⟨_, rfl, _, _, _, _, rfl⟩
      · cases e
    obtain ⟨b, rfl, o, kd, ks, vs, rfl⟩ := ex
    refine ⟨?_, ρ, ts, [q, x0], a.grow g1, e2, fun ws H2 g2 rs => ?_⟩
    · cases rx with
      | dk z _ _ => exact ⟨_, rfl, .inl (.inl ⟨_, z⟩)⟩
      | dt z _ _ => exact ⟨_, rfl, .inl (.inr ⟨_, z⟩)⟩
      | dn z _ _ _ => exact ⟨_, rfl, .inr ⟨_, z⟩⟩
    · obtain ⟨y, z, rfl, ry, rz⟩ := rs.two
      obtain ⟨b', e3, _, hh⟩ := get_core (Q := Q) ((a.grow g1).grow g2) (rx.grow g2) ry rz e fun v H' g3 r c => k v H' ((g1.trans g2).trans g3) r c
      cases e3
      refine ⟨b, rfl, ?_⟩
      rcases hh with ⟨ov, h1, h2⟩ | hh
      · exact .inr (.inl ⟨y, z, ov, rfl, h1, h2⟩)
      · exact .inr (.inr (.inr ⟨y, z, rfl, hh⟩))
  · cases e
end
end Dl

set_option Elab.async false
set_option linter.all false
set_option maxRecDepth 100000
set_option maxHeartbeats 2000000
/-! DL43: dicts with nested keys and values that never change: {k: v}, d[k] = v, d.update(e), list(d); max(d.values()). -/
namespace Dl
open PySem PySem.Spec PyProof.Rows L2
section
variable {K : PySem.W.Frag} {mg : MG} {H H' : Hp}
mutual
theorem NkAt.rp : ∀ {v : V} {d : D} {k : NestedKey}, NkAt H v d k → Rp K mg H v d
  | _, _, _, .non => .non
  | _, _, _, .int i => .int i
  | _, _, _, .str x => .str x
  | _, _, _, .tup e l => .tup e (NkAll.rp l)
theorem NkAll.rp : ∀ {vs : List V} {ds : List D} {ks : List NestedKey}, NkAll H vs ds ks → RpL K mg H vs ds
  | _, _, _, .nil => .nil
  | _, _, _, .cons o l => .cons (NkAt.rp o) (NkAll.rp l)
end
mutual
theorem nk_imm : ∀ {d : D} {k : NestedKey}, d.nk = some k → d.imm = true
  | .non, _, _ => rfl
  | .int _, _, _ => rfl
  | .str _, _, _ => rfl
  | .tup xs, _, h => by
    obtain ⟨ks, h1, _⟩ := nk_tup h
    rw [D.imm]
    exact nkL_imm h1
  | .bl _, _, h => by simp [D.nk] at h
  | .lst _ _, _, h => by simp [D.nk] at h
  | .dic _ _ _ _, _, h => by simp [D.nk] at h
  | .obj _ _ _ _, _, h => by simp [D.nk] at h
  | .scr _, _, h => by simp [D.nk] at h
  | .exn _ _ _, _, h => by simp [D.nk] at h
theorem nkL_imm : ∀ {ds : List D} {ks : List NestedKey}, nkL ds = some ks → immL ds = true
  | [], _, _ => rfl
  | d :: ds, _, h => by
    obtain ⟨k, r, h1, h2, _⟩ := nkL_cons h
    rw [immL, nk_imm h1, nkL_imm h2]
    rfl
end
theorem KeysN.rp {xs : List NEnt} {ks : List D} (h : KeysN H xs ks) : RpL K mg H (xs.map fun x => V.ref x.2.1) ks ∧ immL ks = true := by
  induction h with
  | nil => exact ⟨.nil, rfl⟩
  | cons h1 h2 _ ih => exact ⟨.cons h1.rp ih.1, by rw [immL, nk_imm h1.nk, ih.2]; rfl⟩
mutual
theorem Rp.lift (hs : ∀ a xs, H a = some (.tup xs) → H' a = some (.tup xs)) : ∀ {v : V} {d : D}, Rp K mg H v d → d.imm = true → Rp K mg H' v d
  | _, _, .non, _ => .non
  | _, _, .bl b, _ => .bl b
  | _, _, .int i, _ => .int i
  | _, _, .str x, _ => .str x
  | _, _, .tup z l, h => .tup (hs _ _ z) (RpL.lift hs l (by simpa [D.imm] using h))
  | _, _, .lst _ _, h => by simp [D.imm] at h
  | _, _, .dk _ _ _, h => by simp [D.imm] at h
  | _, _, .dt _ _ _, h => by simp [D.imm] at h
  | _, _, .obj _ _ _ _, h => by simp [D.imm] at h
  | _, _, .scr _, h => by simp [D.imm] at h
  | _, _, .exn _ _ _ _ _, h => by simp [D.imm] at h
  | _, _, .dn _ _ _ _, h => by simp [D.imm] at h
theorem RpL.lift (hs : ∀ a xs, H a = some (.tup xs) → H' a = some (.tup xs)) : ∀ {vs : List V} {ds : List D}, RpL K mg H vs ds → immL ds = true → RpL K mg H' vs ds
  | _, _, .nil, _ => .nil
  | _, _, .cons o l, h => by
    simp only [immL, Bool.and_eq_true] at h
    exact .cons (Rp.lift hs o h.1) (RpL.lift hs l h.2)
end
def putN (ks vs : List D) (q v : D) : List D × List D := if (ks.any fun z => decide (z = q)) = true then (ks, List.zipWith (fun k u => if k = q then v else u) ks vs) else (ks ++ [q], vs ++ [v])
theorem zip_none {q : D} {v : D} : ∀ {ks vs : List D}, ks.length = vs.length → (ks.any fun z => decide (z = q)) = false → List.zipWith (fun k u => if k = q then v else u) ks vs = vs
  | [], [], _, _ => rfl
  | k :: ks, u :: vs, hl, h => by
    rw [List.any_cons, Bool.or_eq_false_iff] at h
    rw [List.zipWith_cons_cons, zip_none (by simpa using hl) h.2, if_neg (of_decide_eq_false h.1)]
  | [], _ :: _, hl, _ => by simp at hl
  | _ :: _, [], hl, _ => by simp at hl
theorem putN_imm {ks vs : List D} {q v : D} (h : immL vs = true) (hv : v.imm = true) : immL (putN ks vs q v).2 = true := by
  unfold putN
  split
  · rw [immL_all, List.all_eq_true] at h ⊢
    intro d hd
    simp only [List.mem_iff_getElem, List.getElem_zipWith] at hd
    obtain ⟨i, hi, e⟩ := hd
    rw [List.length_zipWith] at hi
    split at e
    · rw [← e]; exact hv
    · rw [← e]; exact h _ (List.getElem_mem (by omega))
  · rw [immL_append, h]
    simp [immL, hv]
theorem putN_len {ks vs : List D} {q v : D} (h : ks.length = vs.length) : (putN ks vs q v).1.length = (putN ks vs q v).2.length := by
  unfold putN
  split <;> simp [h]
/-- a value stored -/
theorem storedN {xs : List NEnt} {ks vs : List D} {ws : List V} {b : Addr} {q d : D} {key : NestedKey} {u : Value} {v : V} (h : KeysN H xs ks) (hv : Vals ws (xs.map fun (x : NEnt) => x.2.2)) (hr : RpL K mg H ws vs) (n : NkAt H (.ref b) q key) (h8 : key.depth ≤ 8) (ru : RelV v u) (rv : Rp K mg H v d) :
    ∃ ws', KeysN H (storedH xs key b u) (putN ks vs q d).1 ∧ Vals ws' ((storedH xs key b u).map fun (x : NEnt) => x.2.2) ∧ RpL K mg H ws' (putN ks vs q d).2 := by
  have an := h.any n.nk
  unfold putN storedH
  rw [an]
  split
  · rename_i hz
    clear hz an
    induction h generalizing ws vs with
    | nil => exact ⟨[], .nil, .nil, by simp; exact .nil⟩
    | @cons x xs kd ks h1 h2 h3 ih =>
      cases hv with
      | cons r rs =>
        cases hr with
        | cons o l =>
          obtain ⟨ws', g1, g2, g3⟩ := ih rs l
          have e1 := h1.nk
          rw [List.map_cons, List.zipWith_cons_cons]
          by_cases e : x.1 = key
          · have e2 : kd = q := nk_inj e1 (by rw [e]; exact n.nk)
            have ep : putAt key u x = (x.1, x.2.1, u) := by unfold putAt; rw [if_pos e]
            rw [ep, if_pos e2]
            exact ⟨_ :: ws', .cons h1 h2 g1, .cons ru g2, .cons rv g3⟩
          · have e2 : ¬ kd = q := fun z => e (by rw [z, n.nk] at e1; exact (Option.some.inj e1).symm)
            have ep : putAt key u x = x := by unfold putAt; rw [if_neg e]
            rw [ep, if_neg e2]
            exact ⟨_ :: ws', .cons h1 h2 g1, .cons r g2, .cons o g3⟩
  · refine ⟨ws ++ [v], h.snoc n h8, ?_, hr.append (.cons rv .nil)⟩
    rw [List.map_append]
    exact hv.append (.cons ru .nil)
/-- d[k] = v, whether there or not; all values never change -/
def opPutM : D → D → D → Option D
  | .dic true .n ks vs, q, v => if nkOk q = true ∧ ks.length < 10000 ∧ ks.length = vs.length ∧ immL vs = true ∧ v.imm = true then some (.dic true .n (putN ks vs q v).1 (putN ks vs q v).2) else none
  | _, _, _ => none
def gStM (i : Nat) (k : PM) : GM := fun v ρ => match k ρ with
  | some q => match ρ.getD i none with
    | some d0 => match opPutM d0 q v with
      | some d1 => some (ρ.set i (some d1))
      | none => none
    | none => none
  | none => none
theorem nc_of {w : World} {c : Addr} {xs ys : List NEnt} (hd : H c = some (dnH w c xs)) : ∀ z zs, H z = some (.tup zs) → upd H c (dnH w c ys) z = some (.tup zs) := fun z zs hz => by
  rw [upd_ne (fun e => by rw [e, hd] at hz; cases hz)]; exact hz
/-- the cell written, its values anew -/
theorem Sim.rewrite {c : Addr} {xs ys : List NEnt} {ws ws' : List V} {vs vs' ks' : List D} {rs : List Rt} (s : Sim K mg H (.c c (dnH mg.w c xs) :: vals ws vs ++ rs)) (hl : ws.length = vs.length) (hk : KeysN H ys ks') (hv : Vals ws' (ys.map fun (x : NEnt) => x.2.2)) (hr : RpL K mg H ws' vs') (hi : immL vs' = true) :
    Sim K mg (upd H c (dnH mg.w c ys)) (.v (.ref c) (.dic true .n ks' vs') :: rs) := by
  have hd : H c = some (dnH mg.w c xs) := Sim.cell (rs := vals ws vs ++ rs) s
  have s1 : Sim K mg H (vals ws vs ++ (.c c (dnH mg.w c xs) :: rs)) := s.perm (by
    show (Rt.c c (dnH mg.w c xs) :: (vals ws vs ++ rs)).Perm _
    exact List.perm_middle.symm)
  have s2 : Sim K mg H (.c c (dnH mg.w c xs) :: rs) := s1.drop
  have s3 := s2.write (o' := dnH mg.w c ys)
  have s4 := s3.imms (hr.lift (nc_of hd) hi) hi
  refine Sim.foDn (rs := rs) (s4.perm ?_) (hk.lift (nc_of hd)) hv hr.length
  show (vals ws' vs' ++ (Rt.c c (dnH mg.w c ys) :: rs)).Perm (Rt.c c (dnH mg.w c ys) :: (vals ws' vs' ++ rs))
  exact List.perm_middle
end
section
variable {F : Fm} {fk : PM} {i j : Nat}
theorem imp_gStM : ∀ v σ H Q, tG F (gStM i fk) v σ H Q → gSub (tVar i) (tP F fk) (rSetN F.mg.w) v σ H Q := fun v σ H Q ⟨ρ, ts, d, ρ', a, e, k⟩ => by
  unfold gStM at e
  split at e
  · rename_i q hq
    split at e
    · rename_i d0 h0
      split at e
      · rename_i d1 hp
        cases e
        obtain ⟨o, ho, s0⟩ := a.slot (getD_some h0)
        refine ⟨o, ho, ρ, _, q, a, hq, fun y H2 g ry _ => ?_⟩
        have s := s0.grow g
        have rv : Rp F.K F.mg H2 v d := ((a.grow g).front).rp
        unfold opPutM at hp
        split at hp
        · rename_i ks vs
          split at hp
          · rename_i hc
            cases hp
            obtain ⟨c1, c2, c3, c4, c5⟩ := hc
            obtain ⟨c, xs, ws, rfl, hl, hv, hk, s1⟩ := s.unDn
            have hd : H2 c = some (dnH F.mg.w c xs) := s1.cell
            have hr : RpL F.K F.mg H2 ws vs := vals_rpL hl (Sim.tail (rs := vals ws vs ++ (slotR σ (ρ.set i none) ++ (.v v d :: ts))) s1)
            obtain ⟨b, key, rfl, e1, e2, n⟩ := nkAt_ref ry c1
            refine ⟨c, b, xs, ks, q, key, rfl, rfl, hd, hk, n, e2, by rw [hk.len]; exact c2, fun u hu => k σ _ ?_⟩
            obtain ⟨ws', g1, g2, g3⟩ := storedN hk hv hr n e2 hu rv
            have s2 : Sim F.K F.mg H2 (.c c (dnH F.mg.w c xs) :: vals ws vs ++ (.v v d :: (slotR σ (ρ.set i none) ++ ts))) := s1.perm (List.Perm.cons _ (List.Perm.append_left _ List.perm_middle))
            have s3 := Sim.rewrite s2 hl g1 g2 g3 (putN_imm c4 c5)
            exact a.back ho (s3.perm (List.Perm.swap _ _ _)).tail
          · cases hp
        · cases hp
      · cases e
    · cases e
  · cases e
end
section
variable {X : Cx} {vs0 : List V} {fa fb : PM} {a b : Expr} {pos p : Pos} {i j : Nat} {x y : Str}
theorem g_stM (i : Nat) (hu : X.A.units + 65 < cLine) (hb : PE X b (tP (fm X vs0) fb)) (hN : X.N[i]? = some x := by rfl) (hv : Vis X.env.scope x := by first | exact Or.inl rfl | exact Or.inr (Or.inl rfl) | exact Or.inr (Or.inr rfl)) (hd : (x == ("__debug__" : Str)) = false := by decide) (hcd : (x == ("__classdict__" : Str)) = false := by decide)
    (ha : ∀ v, assign (.Subscript (.Name x p) b pos) X.env v = (do
      let ov ← holding [v] (eval (.Name x p) X.env)
      let iv ← holding [v, ov] (eval b X.env)
      standAt pos
      holding [v, ov, iv] (setItem ov iv v)
      release [v, ov, iv] []) := by intro _; rfl) : PG X (.Subscript (.Name x p) b pos) (tG (fm X vs0) (gStM i fb)) := (pg_sub (pv i hN hv hd hcd) hb (set_N hu) ha).imp (imp_gStM (F := fm X vs0))
end

/-! ### {k: v} -/
def tDisp1N (w : World) (tk tv : TE) : TE := fun σ H Q => ∀ p, H p = none → tk σ (upd H p (dnH w p [])) fun x H1 => tv σ H1 fun y H2 => H2 p = some (dnH w p []) ∧
  ∃ (b : Addr) (kd : D) (key : NestedKey), x = .ref b ∧ NkAt H2 (.ref b) kd key ∧ key.depth ≤ 8 ∧ ∀ u, RelV y u → Q (.ref p) (upd H2 p (dnH w p [(key, b, u)]))
theorem pe_disp1N {X : Cx} {pos : Pos} {k v : Expr} {tk tv : TE} (hu : X.A.units + 65 < cLine) (hk : PE X k tk) (hv : PE X v tv) : PE X (.Dict [some k] [v] pos) (tDisp1N X.w tk tv) := by
  refine ⟨fun pins s σ H Q I q => ?_⟩
  have hn := I.hok.fresh (Nat.le_refl s.heap.objs.size)
  have I1 := I.laid (a := s.heap.objs.size) (o := dnH X.w s.heap.objs.size []) (h' := s.heap.push { cls := .type "dict", data := .dict #[] }) (t' := s.toks) (fun _ _ q => Heap.get?_push_of_some _ q) (Nat.le_refl _)
    (dnH_ok (es := #[]) (ep := 0) (by have hb := I.big; refine Bool.eq_false_iff.mpr fun z => ?_; have z' := beq_iff_eq.mp z; rw [z'] at hb; exact absurd hb (Nat.lt_irrefl _)) (Nat.zero_le _) List.nodup_nil (Heap.get?_push_size _ rfl) ⟨rfl, rfl, rfl⟩ rfl rfl)
  rw [arm_eval_Dict, zip_pairTrees [some k] [v] X.env pos (by rfl) (by rfl), dictDisplay_pairs (pairTrees [some k] [v] X.env pos) (by intro e; have := pairTrees_length [some k] [v] X.env pos (by rfl) (by rfl); rw [e] at this; simp at this) (by rw [pairTrees_length [some k] [v] X.env pos (by rfl) (by rfl)]; simp)]
  refine wpAny_bind (wpAny_standAt (wpAny_bind (wpAny_subDictH (knd := nestedKind X.prog X.w) (Q := fun d z => wpAny (model X.prog X.w) X.A (pure (Value.ref d)) (EP X pins σ Q) X.xe z) (show X.A.units + 8 < cLine by omega) (by rw [pairTrees_length [some k] [v] X.env pos (by rfl) (by rfl)]; simp) ?_)))
  refine pairTrees_cons_walk (thn (hk.run pins _ σ _ _ I1 (q _ hn)) fun kv s1 ⟨x, H1, J1, rx, q1⟩ => thn (hv.run pins s1 σ H1 _ J1 q1) fun vv s2 ⟨y, H2, J2, ry, e, b, kd, key, ex, nk, h8, q2⟩ => pairTrees_nil_walk ?_)
  subst ex
  obtain rfl : kv = Value.ref b := rx
  obtain ⟨c1, _, c2⟩ := dnH_of J2 e .nil
  refine ⟨[(key, b, vv)], ⟨rfl, rfl, ⟨nk_is J2.hok nk rfl, h8⟩, trivial⟩, c2, fun h' tk hm hs => wpAny_pure ?_⟩
  obtain ⟨o', es, ep, e', z, dq, hl, _, hnd⟩ := hm
  exact ⟨.ref s.heap.objs.size, _, J2.write (t' := tk) (x := s.heap.objs.size) (e := s.heap.objs.size) (by rw [e]; exact True.intro) (.inl rfl) (fun c w hc e => (hs.2 c hc).trans e) ⟨o', e'⟩ (dnH_ok c1 (by show 1 ≤ sizeLine; rw [sizeLine_eq]; omega) hnd e' z dq hl), rfl, q2 vv ry⟩
def eDisp1N (k : PM) (v : EM) : EM := fun ρ => match k ρ with
  | some q => if nkOk q = true then (match v ρ with
    | some (d, ρ1) => if d.imm = true then some (.dic true .n [q] [d], ρ1) else none
    | none => none) else none
  | none => none
section
variable {X : Cx} {F : Fm} {vs0 : List V} {fk : PM} {ev : EM} {k v : Expr} {pos : Pos}
theorem imp_disp1N : ∀ σ H Q, tD F (eDisp1N fk ev) σ H Q → tDisp1N F.mg.w (tP F fk) (tD F ev) σ H Q := fun σ H Q ⟨ρ, ts, d, ρ', a, e, kk⟩ p hp => by
  unfold eDisp1N at e
  split at e
  · rename_i q hq
    split at e
    · rename_i hnk
      split at e
      · rename_i d0 ρ1 he
        split at e
        · rename_i hi
          cases e
          have a1 : At F σ (upd H p (dnH F.mg.w p [])) ρ (.c p (dnH F.mg.w p []) :: ts) := a.of_front (a.front.alloc (o := dnH F.mg.w p []) hp)
          obtain ⟨k0, hk0, _⟩ := nkOk_of hnk
          refine ⟨ρ, _, q, a1, hq, fun x H1 g rx _ => ⟨ρ, _, d0, ρ', ((a1.grow g).imm rx (nk_imm hk0)), he, fun y H2 a2 => ?_⟩⟩
          have s2 : Sim F.K F.mg H2 (.v y d0 :: .v x q :: .c p (dnH F.mg.w p []) :: (ts ++ slotR σ ρ')) := a2.front
          have hp2 : H2 p = some (dnH F.mg.w p []) := s2.tail.tail.cell
          have ry := s2.rp
          obtain ⟨b, key, rfl, e1, e2, n⟩ := nkAt_ref s2.tail.rp hnk
          refine ⟨hp2, b, q, key, rfl, n, e2, fun u hu => kk _ _ ?_⟩
          have s3 := Sim.rewrite (xs := []) (ys := [(key, b, u)]) (ws := []) (vs := []) (ws' := [y]) (vs' := [d0]) (ks' := [q]) (rs := ts ++ slotR σ ρ') s2.tail.tail rfl (.cons n e2 .nil) (.cons hu .nil) (.cons ry .nil) (by rw [immL, hi]; rfl)
          exact a2.of_front s3
        · cases e
      · cases e
    · cases e
  · cases e
end
section
variable {X : Cx} {F : Fm} {vs0 : List V} {fk : PM} {ev : EM} {k v : Expr} {pos : Pos}
theorem e_disp1N (hu : X.A.units + 65 < cLine) (hk : PE X k (tP (fm X vs0) fk)) (hv : PE X v (tD (fm X vs0) ev)) : PE X (.Dict [some k] [v] pos) (tD (fm X vs0) (eDisp1N fk ev)) := (pe_disp1N hu hk hv).imp (imp_disp1N (F := fm X vs0))
end

/-! ### d.update(e) -/
def rUpdN (w : World) : V → List V → Hp → VK → Prop := fun x vs H Q => ∃ (a b : Addr) (xs ys : List NEnt) (ks ls : List D), x = .ref a ∧ vs = [.ref b] ∧ a ≠ b ∧ H a = some (dnH w a xs) ∧ H b = some (dnH w b ys) ∧ KeysN H xs ks ∧ KeysN H ys ls ∧ xs ≠ [] ∧ xs.length + ys.length ≤ sizeLine ∧ Q .non (upd H a (dnH w a (storedAllH xs ys)))
theorem mt_updN {X : Cx} (hu : X.A.units + 65 < cLine) : MtR X "dict.update" (rUpdN X.w) := by
  intro pins s σ H x vs v us Q I rx rv h
  obtain ⟨a, b, xs, ys, ks, ls, rfl, rfl, ne, ha, hb, ka, kb, hne, hz, q⟩ := h
  obtain rfl : v = Value.ref a := rx
  obtain ⟨u, rfl, ry⟩ := vals1 rv
  obtain rfl : u = Value.ref b := ry
  obtain ⟨c1, _, c2⟩ := dnH_of I ha ka
  obtain ⟨d1, _, d2⟩ := dnH_of I hb kb
  refine call_update_dictH (knd := nestedKind X.prog X.w) (show X.A.units + 1 + 8 < cLine by omega) ne d1 c2 d2 (.inl hne) hz fun h' hm _ hs => ?_
  obtain ⟨o', es, ep, e', z, dq, hl, _, hnd⟩ := hm
  have hlen : (storedAllH xs ys).length ≤ sizeLine := Nat.le_trans (by
    suffices hh : ∀ (ys xs : List NEnt), (storedAllH xs ys).length ≤ xs.length + ys.length from hh ys xs
    intro ys
    induction ys with
    | nil => intro xs; simp [storedAllH]
    | cons y ys ih =>
      intro xs
      have h1 := ih (storedH xs y.1 y.2.1 y.2.2)
      have h2 := PySem.storedH_length xs y.1 y.2.1 y.2.2
      show (storedAllH (storedH xs y.1 y.2.1 y.2.2) ys).length ≤ _
      rw [List.length_cons]
      omega) hz
  exact ⟨.non, _, I.write (t' := s.toks) (x := a) (e := a) (by rw [ha]; exact True.intro) (.inl rfl) (fun c w hc e => (hs.2 c hc).trans e) ⟨o', e'⟩ (dnH_ok c1 hlen hnd e' z dq hl), rfl, q⟩
def mergeN (ks vs : List D) : List D → List D → List D × List D
  | q :: ls, v :: us => mergeN (putN ks vs q v).1 (putN ks vs q v).2 ls us
  | _, _ => (ks, vs)
theorem mergeN_imm : ∀ (ls us ks vs : List D), immL vs = true → immL us = true → immL (mergeN ks vs ls us).2 = true
  | q :: ls, v :: us, ks, vs, h, h' => by
    rw [immL, Bool.and_eq_true] at h'
    rw [mergeN]
    exact mergeN_imm ls us _ _ (putN_imm h h'.1) h'.2
  | [], _, _, _, h, _ => by rw [mergeN]; exact h; simp
  | _ :: _, [], _, _, h, _ => by rw [mergeN]; exact h; simp
theorem storedAllN {K : PySem.W.Frag} {mg : MG} {H : Hp} {ys : List NEnt} {ls : List D} (hy : KeysN H ys ls) : ∀ {us : List D} {zs : List V} {xs : List NEnt} {ks vs : List D} {ws : List V}, Vals zs (ys.map fun (x : NEnt) => x.2.2) → RpL K mg H zs us → KeysN H xs ks → Vals ws (xs.map fun (x : NEnt) => x.2.2) → RpL K mg H ws vs →
    ∃ ws', KeysN H (storedAllH xs ys) (mergeN ks vs ls us).1 ∧ Vals ws' ((storedAllH xs ys).map fun (x : NEnt) => x.2.2) ∧ RpL K mg H ws' (mergeN ks vs ls us).2 := by
  induction hy with
  | nil =>
    intro us zs xs ks vs ws hv hr hk hw hq
    cases hv
    cases hr
    exact ⟨ws, hk, hw, hq⟩
  | @cons y ys q ls h1 h2 _ ih =>
    intro us zs xs ks vs ws hv hr hk hw hq
    cases hv with
    | cons r rs =>
      cases hr with
      | cons o l =>
        obtain ⟨ws1, g1, g2, g3⟩ := storedN hk hw hq h1 h2 r o
        obtain ⟨ws2, k1, k2, k3⟩ := ih rs l g1 g2 g3
        exact ⟨ws2, k1, k2, k3⟩
/-- the dict in slot i updated by the one in slot j -/
def eUpdN (i j : Nat) : EM := fun ρ => match ρ.getD i none, ρ.getD j none with
  | some (.dic true .n ks vs), some (.dic true .n ls us) => if i ≠ j ∧ ks.length = vs.length ∧ ls.length = us.length ∧ immL vs = true ∧ immL us = true ∧ ks ≠ [] ∧ ks.length + ls.length ≤ 100000 then some (.non, ρ.set i (some (.dic true .n (mergeN ks vs ls us).1 (mergeN ks vs ls us).2))) else none
  | _, _ => none
section
variable {F : Fm} {i j : Nat}
theorem imp_updN : ∀ σ H Q, tD F (eUpdN i j) σ H Q → tBMG F.mg.w (rUpdN F.mg.w) (tVar i) (tCons (tVar j) tNil) σ H Q := fun σ H Q ⟨ρ, ts, d, ρ', a, e, k⟩ => by
  unfold eUpdN at e
  split at e
  · rename_i ks vs ls us h1 h2
    split at e
    · rename_i hc
      obtain ⟨hij, c1, c2, c3, c4, c5, c6⟩ := hc
      cases e
      obtain ⟨x, hx, s0⟩ := a.slot (getD_some h1)
      have h2' : (ρ.set i none)[j]? = some (some (.dic true .n ls us)) := by rw [List.getElem?_set_ne hij]; exact getD_some h2
      obtain ⟨y, hy⟩ := a.fit j _ (getD_some h2)
      obtain ⟨c, xs, ws, rfl, hlw, hvw, hkw, s5⟩ := s0.unDn
      have ha : H c = some (dnH F.mg.w c xs) := s5.cell
      have s1 : Sim F.K F.mg H (.v y (.dic true .n ls us) :: (.c c (dnH F.mg.w c xs) :: (vals ws vs ++ (slotR σ ((ρ.set i none).set j none) ++ ts)))) := s5.perm (by
        show (Rt.c c (dnH F.mg.w c xs) :: (vals ws vs ++ (slotR σ (ρ.set i none) ++ ts))).Perm _
        refine (List.Perm.cons _ (List.Perm.append_left _ ((slotR_out hy h2').append_right _))).trans ?_
        show (Rt.c c (dnH F.mg.w c xs) :: (vals ws vs ++ (.v y (.dic true .n ls us) :: (slotR σ ((ρ.set i none).set j none) ++ ts)))).Perm _
        exact (List.Perm.cons _ List.perm_middle).trans (List.Perm.swap _ _ _))
      obtain ⟨b, ys, zs, rfl, hlz, hvz, hkz, s2⟩ := s1.unDn
      have hb : H b = some (dnH F.mg.w b ys) := s2.cell
      have ne : c ≠ b := by
        rintro rfl
        obtain ⟨Hs, fp, _, o1, n1⟩ := s2.perm (rs' := .c c (dnH F.mg.w c ys) :: .c c (dnH F.mg.w c xs) :: (vals zs us ++ (vals ws vs ++ (slotR σ ((ρ.set i none).set j none) ++ ts)))) (List.Perm.cons _ List.perm_middle)
        cases o1 with
        | c _ _ _ o2 => cases o2 with
          | c _ _ _ _ => simp at n1
      have rw1 : RpL F.K F.mg H ws vs := vals_rpL hlw (Sim.tail (rs := vals ws vs ++ (slotR σ (ρ.set i none) ++ ts)) s5)
      have rz1 : RpL F.K F.mg H zs us := vals_rpL hlz (Sim.tail (rs := vals zs us ++ (.c c (dnH F.mg.w c xs) :: (vals ws vs ++ (slotR σ ((ρ.set i none).set j none) ++ ts)))) s2)
      refine ⟨.ref c, hx, ⟨c, rfl, .inr ⟨xs, ha⟩⟩, .ref b, hy, c, b, xs, ys, ks, ls, rfl, rfl, ne, ha, hb, hkw, hkz, fun z => c5 (by rw [z] at hkw; have := hkw.len; simp at this; exact List.length_eq_zero_iff.mp this.symm), by rw [hkw.len, hkz.len, sizeLine_eq]; omega, k _ _ ?_⟩
      obtain ⟨ws', g1, g2, g3⟩ := storedAllN hkz hvz rz1 hkw hvw rw1
      have s6 := Sim.rewrite s5 hlw g1 g2 g3 (mergeN_imm ls us ks vs c3 c4)
      exact (a.back hx s6).mk' mk_non
    · cases e
  · cases e
end
section
variable {X : Cx} {vs0 : List V} {i j : Nat} {x y : Str} {p q apos pos : Pos}
theorem e_updN (i j : Nat) (hu : X.A.units + 65 < cLine) (hi : PE X (.Name x p) (tVar i)) (hj : PE X (.Name y q) (tVar j))
    (h4 : starEach [Expr.Name y q] X.env = (false, eval (.Name y q) X.env) :: starEach [] X.env := by rfl)
    (h1 : attributeBase (.Name x p) "update" X.env (eval (.Name x p) X.env) = eval (.Name x p) X.env := by rfl)
    (h2 : ((backTo pos (starEach [Expr.Name y q] X.env)).all (fun y => !y.1) && (backToKw pos (keywordEach [] X.env)).all (fun y => y.1.isSome) && decide (([Expr.Name y q] : List Expr).length + ([] : List Keyword).length + (if ([] : List Keyword).isEmpty then 0 else 1) < 30)) = true := by rfl)
    (h3 : (apos.endLine == pos.line) = true := by rfl) (h5 : (backTo pos (starEach [] X.env)).any (·.1) = false := by rfl) :
    PE X (.Call (.Attribute (.Name x p) "update" apos) [.Name y q] [] pos) (tD (fm X vs0) (eUpdN i j)) :=
  (pe_bmG PySem.F.slot_dict_update PySem.F.type_dict_update (mt_updN hu) hi (pa_cons hj pa_nil h4) h1 h2 h3 h4 h5).imp (imp_updN (F := fm X vs0))
end

/-! ### list(d) -/
def opListN : List D → Option D
  | [.dic _ .n ks _] => if immL ks = true then some (.lst true ks) else none
  | _ => none
def rListN (w : World) : List V → Hp → VK → Prop := fun vs H Q => ∃ (a : Addr) (xs : List NEnt) (ks : List D), vs = [V.ref a] ∧ H a = some (dnH w a xs) ∧ KeysN H xs ks ∧ ∀ p, H p = none → Q (.ref p) (upd H p (.lst (xs.map fun x => V.ref x.2.1)))
theorem vals_refN : ∀ xs : List NEnt, Vals (xs.map fun x => V.ref x.2.1) (xs.map fun x => Value.ref x.2.1)
  | [] => .nil
  | _ :: r => .cons rfl (vals_refN r)
theorem c_listN {X : Cx} (hc : X.calm = true) : CallR X (.type "list") (rListN X.w) := by
  intro pins s σ H vs us Q I r h
  obtain ⟨a, xs, ks, rfl, ha, hk, q⟩ := h
  rw [Vals.ref1 r]
  obtain ⟨⟨h1, h2, h3, o, es, ep, ho, hx, hdt, he⟩, _, _⟩ := I.hok a _ ha
  have l1 : es.size = xs.length := by rw [← Array.length_toList, he, List.length_map]
  refine PySem.W.kdl_call (kdl_raw h1 hx hdt) (I.ok.hd hc) ho (by omega) fun h' tk acc' c' kp e it => ?_
  have ea : acc'.toList = xs.map fun x => Value.ref x.2.1 := by
    have hl : acc'.toList.length = xs.length := by rw [Array.length_toList, it.1]; exact l1
    refine List.ext_getElem (by rw [hl, List.length_map]) fun j hj1 hj2 => ?_
    obtain ⟨en, hen, hv⟩ := it.2 j acc'.toList[j] (by rw [← Array.getElem?_toList]; exact List.getElem?_eq_getElem hj1)
    have hen2 : es.toList[j]? = some en := by rw [Array.getElem?_toList]; exact hen
    rw [he, List.getElem?_map] at hen2
    rw [hv, List.getElem_map]
    have hjx : j < xs.length := by rw [← hl]; exact hj1
    rw [List.getElem?_eq_getElem hjx] at hen2
    have := Option.some.inj hen2
    rw [← this]
    rfl
  refine ⟨.ref s.heap.objs.size, upd H s.heap.objs.size (.lst (xs.map fun x => V.ref x.2.1)), I.laid kp (Nat.le_refl _) (show ObjOk X.prog X.w _ _ _ (.lst (xs.map fun x => V.ref x.2.1)) from ⟨by rw [List.length_map]; exact h2, acc'.toList, c', by rw [ea]; exact vals_refN xs, by rw [Array.toArray_toList]; exact e⟩), rfl, q _ (I.hok.fresh (Nat.le_refl _))⟩
section
variable {K : PySem.W.Frag} {mg : MG}
theorem r_listN : RnD K mg (rListN mg.w) opListN := by
  intro vs H ds d Q rs e k
  unfold opListN at e
  split at e
  · split at e
    · rename_i hi
      cases e
      obtain ⟨v, rfl, r⟩ := rs.one
      obtain ⟨a, xs, ws, rfl, hd, hk, hv, hl⟩ := r.dn_inv
      exact ⟨a, xs, _, rfl, hd, hk, fun p hp => k _ _ (same_upd hp) (mk_lst hk.rp.1 hi hp)⟩
    · cases e
  · cases e
end

/-! ### len(d) -/
def opLenN : List D → Option D
  | [.dic _ .n ks _] => some (.int ks.length)
  | _ => none
def rLenN (w : World) : List V → Hp → VK → Prop := fun vs H Q => ∃ (a : Addr) (xs : List NEnt) (ks : List D), vs = [V.ref a] ∧ H a = some (dnH w a xs) ∧ KeysN H xs ks ∧ Q (.int xs.length) H
theorem c_lenN {X : Cx} : CallR X (.builtin "len") (rLenN X.w) := by
  intro pins s σ H vs us Q I r h
  obtain ⟨a, xs, ks, rfl, ha, hk, q⟩ := h
  rw [Vals.ref1 r]
  obtain ⟨c1, c0, c2⟩ := dnH_of I ha hk
  exact call_len_dictH c1 c2 (by rw [sizeLine_eq] at c0; omega) ⟨.int xs.length, H, I.tok _, ⟨_, rfl⟩, q⟩
section
variable {K : PySem.W.Frag} {mg : MG}
theorem r_lenN : RnD K mg (rLenN mg.w) opLenN := by
  intro vs H ds d Q rs e k
  unfold opLenN at e
  split at e
  · cases e
    obtain ⟨v, rfl, r⟩ := rs.one
    obtain ⟨a, xs, ws, rfl, hd, hk, hv, hl⟩ := r.dn_inv
    refine ⟨a, xs, _, rfl, hd, hk, ?_⟩
    rw [hk.len]
    exact k _ H (Same.refl H) (mk_int _)
  · cases e
end
end Dl

set_option Elab.async false
set_option linter.all false
set_option maxRecDepth 100000
set_option maxHeartbeats 2000000
/-! DL44: max(d.values()), d of numbers; loops over the keys of a dict with nested keys; such a dict of pairs. -/
namespace Dl
open PySem PySem.Spec PyProof.Rows L2
section
variable {X : Cx}
def tMaxVals (td : TE) : TE := fun σ H Q => td σ H fun x H1 => ∃ a kvs is, x = V.ref a ∧ H1 a = some (.dK kvs) ∧ kvs.map (·.2) = is.map V.int ∧ is ≠ [] ∧ ∀ m, m ∈ is → (∀ j ∈ is, j ≤ m) → Q (.int m) H1
variable {o : Expr} {p pos apos mpos : Pos} {td : TE}
theorem pe_maxVals (hc : X.calm = true) (hg : Gl X "max") (zm : X.mg "max" = none) (hd : PE X o td) (zbase : attributeBase o "values" X.env (eval o X.env) = eval o X.env := by rfl) (zline : (apos.endLine == mpos.line) = true := by rfl)
    (zse : starEach [Expr.Call (.Attribute o "values" apos) [] [] mpos] X.env = [(false, eval (Expr.Call (.Attribute o "values" apos) [] [] mpos) X.env)] := by rfl) :
    PE X (.Call (.Name "max" p) [.Call (.Attribute o "values" apos) [] [] mpos] [] pos) (tMaxVals td) := by
  refine ⟨fun pins s σ H Q I h => ?_⟩
  refine wpAny_Call_Name_kw (ld_blt I hg zm (u := .builtin "max") (by first | rfl | decide +kernel) ?_ (by first | decide +kernel | decide) (by first | decide +kernel | decide))
  rw [zse]
  refine PySem.callWith_builtin1 (wpAny_Call_method0_late zbase zline (thn (hd.run pins s σ H _ I h) fun v s1 ⟨x, H1, I1, r1, a, kvs, is, ex, ha, hv, zne, q⟩ => ?_))
  subst ex
  obtain rfl : v = Value.ref a := r1
  obtain ⟨_, zsys, vs, rl0, df0⟩ := dk_of I1.hok ha
  obtain ⟨ep, dq⟩ := df0.dictAt
  have dq0 := dq
  obtain ⟨ob, es, ho, ex, hdat, zko, zpr, znd⟩ := dq0
  refine ⟨"dict", "dict.values", PySem.F.plainAttrs_dict, PySem.F.slot_dict_values, PySem.F.type_dict_values, ⟨ob, ho, ex.1⟩, fun b e => ?_, Calls.callWith_builtin rfl (PySem.evalArgs_none ?_)⟩
  · cases e
    exact ⟨ob, ho, ex.2.1⟩
  refine call_meetsIn PySem.F.slot_dict_values ⟨ob, ho, ex.1⟩ PySem.F.entry_dict_values (PySem.F.args_dict_values_1 _) (meets_dict_values (mixKind X.prog X.w) a zsys) ⟨⟨vs, df0⟩, ?_⟩
  have kq : ∀ b u, s1.heap.get? b = some u → (s1.heap.push { cls := .type "dict_values", data := .fields #[.ref a] }).get? b = some u := fun b u e => Heap.get?_push_of_some _ e
  have dq1 : (s1.heap.push { cls := .type "dict_values", data := .fields #[.ref a] }).DictAt (mixKind X.prog X.w) a vs ep := dq.keep kq
  have zlv : vs.length = is.length := by
    have eq1 := congrArg List.length hv
    rw [List.length_map, List.length_map] at eq1
    rw [← eq1]
    exact (KV.length rl0).symm
  have zlen : 0 < vs.length := by
    rw [zlv]
    exact List.length_pos_iff.mpr zne
  have zval : ∀ (i : Nat) (v : Value), (∃ k, vs[i]? = some (k, v)) → ∃ t, v = Value.int (is.getD i 0) t := fun i v ⟨k, hk⟩ => by
    obtain ⟨x, h1, h2⟩ := KV.at' rl0 hk
    have eq1 : (kvs.map (·.2))[i]? = some x := by rw [List.getElem?_map, h1] <;> rfl
    rw [hv, List.getElem?_map] at eq1
    obtain ⟨j, hj, eq2⟩ := Option.map_eq_some_iff.mp eq1
    subst eq2
    obtain ⟨t, eq3⟩ := h2
    refine ⟨t, ?_⟩
    rw [eq3, List.getD_eq_getElem?_getD, hj] <;> rfl
  refine call_max_walk (wpAny_pyIter_values (v := s1.heap.objs.size) (d := a) ⟨_, Heap.get?_push_size _ rfl, rfl, rfl⟩ dq1 ?_)
  have zlt : a < s1.heap.objs.size := Heap.lt_size ho
  have zsz : (s1.heap.push { cls := .type "dict_values", data := .fields #[.ref a] }).objs.size = s1.heap.objs.size + 1 := Heap.size_push _ _
  refine ⟨_, _, _, _, _, _, _, rfl, Walks.dictValues (knd := mixKind X.prog X.w) (A := X.A.in1) (I.ok.hd hc) (s1.heap.push { cls := .type "dict_values", data := .fields #[.ref a] }).objs.size a (by rw [zsz]; exact Nat.ne_of_lt (Nat.lt_succ_of_lt zlt)) vs ep,
    ⟨⟨_, Heap.get?_push_size _ rfl, rfl, rfl⟩, dq1.keep fun b u e => Heap.get?_push_of_some _ e⟩, fun b hb => ?_, zlen, CmpOf.ints_gt (fun i => is.getD i 0) zval, fun v h' tk hP hk => ?_⟩
  · show b < ((s1.heap.push _).push _).objs.size
    rw [Heap.size_push, Heap.size_push]
    rw [zsz] at hb
    rcases List.mem_cons.mp hb with e | hb
    · rw [e]
      exact Nat.lt_succ_self _
    · have e : b = a := List.mem_singleton.mp hb
      rw [e]
      exact Nat.lt_succ_of_lt (Nat.lt_succ_of_lt zlt)
  · obtain ⟨t, rfl⟩ := zval _ v hP
    obtain ⟨bq, bw⟩ := argBest_gt (fun i => is.getD i 0) (vs.length - 1)
    refine ⟨.int _, H1, I1.kept (t' := tk) fun b u e => hk b u (fun hmem => ?_) (Heap.get?_push_of_some _ (kq b u e)), ⟨t, rfl⟩, q _ ?_ fun j hj => ?_⟩
    · have eq1 : b = (s1.heap.push { cls := .type "dict_values", data := .fields #[.ref a] }).objs.size := List.mem_singleton.mp hmem
      have eq2 := Heap.lt_size e
      rw [zsz] at eq1
      rw [eq1] at eq2
      exact absurd eq2 (Nat.not_lt.mpr (Nat.le_succ _))
    · have hb : argBest (fun i j => decide (is.getD i 0 > is.getD j 0)) (vs.length - 1) < is.length := by omega
      rw [List.getD_eq_getElem?_getD, List.getElem?_eq_getElem hb]
      exact List.getElem_mem hb
    · obtain ⟨i, hi, e⟩ := List.mem_iff_getElem.mp hj
      have eq2 : is.getD i 0 = j := by rw [List.getD_eq_getElem?_getD, List.getElem?_eq_getElem hi, ← e] <;> rfl
      rw [← eq2]
      exact bw i (by omega)
end
/-- max(d.values()), d in slot i -/
def eMaxV (i : Nat) : EM := fun ρ => match ρ.getD i none with
  | some (.dic true .k ks vs) => match intsL vs with
    | some l => match maxL l with
      | some m => some (.int m, ρ)
      | none => none
    | none => none
  | _ => none
theorem max_uniq {l : List Int} {m n : Int} (h : maxL l = some m) (h1 : n ∈ l) (h2 : ∀ j ∈ l, j ≤ n) : n = m := by
  obtain ⟨_, a, b⟩ := maxL_ok h
  exact Int.le_antisymm (b n h1) (h2 m a)
section
variable {F : Fm} {i : Nat}
theorem imp_maxV : ∀ σ H Q, tD F (eMaxV i) σ H Q → tMaxVals (tVar i) σ H Q := fun σ H Q ⟨ρ, ts, d, ρ', a, e, k⟩ => by
  unfold eMaxV at e
  split at e
  · rename_i ks vs e0
    split at e
    · rename_i l hl
      split at e
      · rename_i m hm
        cases e
        obtain ⟨x, hx, s0⟩ := a.slot (getD_some e0)
        obtain ⟨b, kvs, rfl, h1, h2, s1⟩ := s0.unDk
        have hc := Sim.cell (rs := vals (kvs.map (·.2)) vs ++ (slotR σ (ρ.set i none) ++ ts)) s1
        have hr : RpL F.K F.mg H (kvs.map (·.2)) vs := vals_rpL (by rw [List.length_map]; exact h2) (Sim.tail (rs := vals (kvs.map (·.2)) vs ++ (slotR σ (ρ.set i none) ++ ts)) s1)
        refine ⟨.ref b, hx, b, kvs, l, rfl, hc, hr.ints hl, (fun z => by rw [z] at hm; cases hm), fun n n1 n2 => ?_⟩
        rw [max_uniq hm n1 n2]
        exact k _ H (a.mk' (mk_int _))
      · cases e
    · cases e
  · cases e
end
end Dl

set_option Elab.async false
set_option linter.all false
set_option maxRecDepth 100000
set_option maxHeartbeats 2000000
/-! DL45: a part of a row lent to a call; a list lent to a loop. -/
namespace Dl
open PySem PySem.Spec PyProof.Rows L2

/-- the k-th part of the row in slot i, lent -/
def aT (i k : Nat) (r : AM) : AM := fun ρ => match ρ.getD i none with
  | some (.tup ds) => if k < ds.length then (match r ρ with
    | some (as, ρ1) => some (.t i k ds :: as, ρ1)
    | none => none) else none
  | _ => none
section
variable {X : Cx} {F : Fm} {vs0 : List V} {r : AM} {i k : Nat}
theorem imp_aT : ∀ σ H Q, tA F (aT i k r) σ H Q → tCons (tOp (rIxAll F.K) (tVar i) (tC (.int k))) (tA F r) σ H Q := fun σ H Q ⟨ρ, ts, as, ρ', a, q, kk⟩ => by
  unfold aT at q
  split at q
  · rename_i ds h0
    split at q
    · rename_i hk
      split at q
      · rename_i as' ρ1 hr
        cases q
        obtain ⟨v, hv, s⟩ := a.slot (getD_some h0)
        obtain ⟨b, xs, rfl, hl, hc, s2⟩ := s.unT'
        have hx : xs[k]? = some (xs[k]'(by omega)) := List.getElem?_eq_getElem _
        have s3 : Sim F.K F.mg H (.t b xs :: (.v (.ref b) (.tup ds) :: (slotR σ (ρ.set i none) ++ ts))) := by
          obtain ⟨Hs, fp, sb, o, n⟩ := s
          cases o with
          | v o l =>
            cases o with
            | tup e ol =>
              have e' := sb.tup e
              rw [hc] at e'
              cases e'
              exact ⟨Hs, _, sb, .t e (.v (.tup e ol) l), n⟩
        have a2 : At F σ H ρ (.t b xs :: ts) := a.temps (s3.perm (by
          refine List.Perm.trans (List.Perm.cons _ ?_) List.perm_middle.symm
          exact (slotR_out hv (getD_some h0)).symm.append_right _))
        refine ⟨_, hv, ?_⟩
        have h1 : (0 : Int) ≤ (k : Int) := by omega
        have h2 : (k : Int) < xs.length := by omega
        have h3 : atI xs (k : Int) = some (xs[k]'(by omega)) := by
          simp only [L2.atI, L2.ixN, h1, h2, if_true, Option.bind_some, Int.toNat_natCast, hx]
        exact .inl (.inr (.inl ⟨b, xs, (k : Int), _, rfl, rfl, SqT.of hc, h3, ρ, _, as', _, a2, hr, fun vs H2 tm ar a3 => kk _ H2 (.t b xs :: tm) (.t hv hx ar) (a3.perm List.perm_middle)⟩))
      · cases q
    · cases q
  · cases q
theorem a_t {x : Str} {es : List Expr} {p pos p1 : Pos} {j : Nat} (i k : Nat) (hu : X.A.units + 1 < cLine) (hr : PA X es (tA (fm X vs0) r)) (hN : X.N[i]? = some x := by rfl) (hv : Vis X.env.scope x := by first | exact Or.inl rfl | exact Or.inr (Or.inl rfl) | exact Or.inr (Or.inr rfl)) (hd : (x == ("__debug__" : Str)) = false := by decide)
    (hcd : (x == ("__classdict__" : Str)) = false := by decide) (hx : PlainIx (.Constant (.int (k : Int)) j p1) := by exact fun _ _ => rfl)
    (hs : starEach (.Subscript (.Name x p) (.Constant (.int (k : Int)) j p1) pos :: es) X.env = (false, eval (.Subscript (.Name x p) (.Constant (.int (k : Int)) j p1) pos) X.env) :: starEach es X.env := by rfl) :
    PA X (.Subscript (.Name x p) (.Constant (.int (k : Int)) j p1) pos :: es) (tA (fm X vs0) (aT i k r)) := (pa_cons (pe_ix (ix_all hu) (pv i hN hv hd hcd) pe_int hx) hr hs).imp (imp_aT (F := fm X vs0))
end

/-! ### a list lent to a loop: a parameter, never stored to -/
def gChk (i : Nat) (d0 : D) (g : GM) : GM := fun d ρ => if ρ.getD i none = some d0 then g d ρ else none
def sForB (i : Nat) (g : GM) (body : SM) : SM := fun ρ => match ρ.getD i none with
  | some (.lst o ds) => if immL ds = true then (match forL (gChk i (.lst o ds) g) body ds ρ with
    | some (.nx, ρ1) => if ρ1.getD i none = some (.lst o ds) then some (.nx, ρ1) else none
    | r => r) else none
  | _ => none
section
variable {F : Fm} {g : GM} {body : SM} {gt : TG} {i : Nat}
theorem imp_gChk {d0 : D} (hg : ∀ v σ H Q, tG F g v σ H Q → gt v σ H Q) : ∀ v σ H Q, tG F (gChk i d0 g) v σ H Q → gt v σ H Q := fun v σ H Q ⟨ρ, ts, d, ρ', a, e, k⟩ => by
  unfold gChk at e
  split at e
  · exact hg v σ H Q ⟨ρ, ts, d, ρ', a, e, k⟩
  · cases e
theorem forB_some {o : Bool} {ds : List D} {r : Option (Fl × DEnv)} {fl : Fl} {ρ' : DEnv} (h : (match r with
    | some (.nx, ρ1) => if ρ1.getD i none = some (.lst o ds) then some (.nx, ρ1) else none
    | r => r) = some (fl, ρ')) : r = some (fl, ρ') ∧ (fl = .nx → ρ'.getD i none = some (.lst o ds)) := by
  split at h
  · split at h
    · rename_i hc
      cases h
      exact ⟨rfl, fun _ => hc⟩
    · cases h
  · rename_i hn
    subst h
    exact ⟨rfl, fun e => absurd (by rw [e]) (hn ρ')⟩
theorem lst_at {σ : L2.St} {H : Hp} {ρ : DEnv} {ts : List Rt} {o : Bool} {ds : List D} {a0 : Addr} (b : At F σ H ρ ts) (h : ρ.getD i none = some (.lst o ds)) (h0 : F.vs0[i]? = some (.ref a0)) : ∃ xs, H a0 = some (.lst xs) ∧ RpL F.K F.mg H xs ds := by
  obtain ⟨v, hv, s⟩ := b.slot (getD_some h)
  have := b.par i _ h0
  rw [hv] at this
  cases this
  obtain ⟨c, xs, e, hc, l⟩ := (s.rp).lst_inv
  cases e
  exact ⟨xs, hc, l⟩
theorem imp_forB (hi0 : i < F.vs0.length) (hg : ∀ v σ H Q, tG F g v σ H Q → gt v σ H Q) : ∀ D' σ H, tS F (sForB i g body) D' σ H → tFor (iSeq F.K (tVar i)) gt (tS F body) D' σ H := fun D' σ H ⟨ρ, ts, fl, ρ', a, q, k⟩ => by
  unfold sForB at q
  split at q
  · rename_i o ds e0
    split at q
    · rename_i him
      obtain ⟨q, hend⟩ := forB_some q
      obtain ⟨v0, hv0⟩ : ∃ v0, F.vs0[i]? = some v0 := ⟨_, List.getElem?_eq_getElem hi0⟩
      obtain ⟨v, hv, s⟩ := a.slot (getD_some e0)
      obtain ⟨a0, xs0, rfl, hc0, l0⟩ := (s.rp).lst_inv
      have hpar := a.par i _ hv0
      rw [hv] at hpar
      cases hpar
      have chk : ∀ {j : Nat} {ρ2 : DEnv}, (hj : j < ds.length) → forL (gChk i (.lst o ds) g) body (ds.drop j) ρ2 = some (fl, ρ') → ρ2.getD i none = some (.lst o ds) := fun {j ρ2} hj hf => by
        rw [List.drop_eq_getElem_cons hj] at hf
        obtain ⟨ρ1, _, _, h1, _⟩ := forL_one hf
        unfold gChk at h1
        split at h1
        · assumption
        · cases h1
      refine ⟨_, hv, a0, rfl, .inl ⟨⟨xs0, SqL.of hc0⟩, for_any (n := ds.length) (fun j σ H => ∃ ρ, At F σ H ρ ts ∧ forL (gChk i (.lst o ds) g) body (ds.drop j) ρ = some (fl, ρ')) ⟨ρ, a, q⟩ (fun j σ H hj ⟨ρ2, b, hf⟩ => ?_) (fun σ H ⟨ρ2, b, hf⟩ => ?_) ?_ (fun σ H ⟨ρ2, b, hf⟩ => ?_)⟩⟩
      · obtain ⟨xs, hc, l⟩ := lst_at b (chk hj hf) hv0
        exact ⟨xs, xs[j]'(by rw [l.length]; exact hj), SqL.of hc, List.getElem?_eq_getElem _⟩
      · rw [List.drop_length] at hf
        obtain ⟨rfl, rfl⟩ := forL_nil hf
        obtain ⟨xs, hc, l⟩ := lst_at b (hend rfl) hv0
        exact ⟨xs, SqL.of hc, by rw [l.length]; exact Nat.le_refl _⟩
      · rintro j x σ H H' hj ⟨ρ2, b, hf⟩ ⟨rfl, y⟩
        obtain ⟨xs, hc, l⟩ := lst_at b (chk hj hf) hv0
        have hx := y xs (SqL.of hc)
        have rx := l.get hx (List.getElem?_eq_getElem hj)
        have hi2 : (ds[j]).imm = true := by
          rw [immL_all, List.all_eq_true] at him
          exact him _ (List.getElem_mem hj)
        rw [List.drop_eq_getElem_cons hj] at hf
        exact for_turn (imp_gChk hg) hf (b.imm rx hi2) k fun σ' H' ρ3 b3 hf3 => ⟨ρ3, b3, hf3⟩
      · rw [List.drop_length] at hf
        obtain ⟨rfl, rfl⟩ := forL_nil hf
        exact k σ H b
    · cases q
  · cases q
end
section
variable {X : Cx} {vs0 : List V} {W : WX} {pos p : Pos} {g : GM} {body : SM} {tg : Expr} {bs : List Stmt}
theorem s_forB {n : Str} (i : Nat) (hi : i < vs0.length) (hc : X.calm = true) (hp : PassesOwn (model X.prog X.w) X.A X.env X.xe) (hg : PG X tg (tG (fm X vs0) g)) (hb : PSs X bs (tS (fmW X vs0 W) body)) (hN : X.N[i]? = some n := by rfl) (hv : Vis X.env.scope n := by first | exact Or.inl rfl | exact Or.inr (Or.inl rfl) | exact Or.inr (Or.inr rfl)) (hd : (n == ("__debug__" : Str)) = false := by decide) (hcd : (n == ("__classdict__" : Str)) = false := by decide)
    (hf : ∀ x, foldedSetIterable (.Name n p) X.env x = pure x := by intro _; rfl) :
    PS X (.For tg (.Name n p) bs [] pos) (tS (fmW X vs0 W) (sForB i g body)) := (ps_for hp hc (pi_seq (pv i hN hv hd hcd)) hg hb hf).imp (imp_forB (F := fmW X vs0 W) hi fun _ _ _ _ h => h)
end
end Dl

set_option Elab.async false
set_option linter.all false
set_option maxRecDepth 100000
set_option maxHeartbeats 2000000
/-! DL46: a part of a row that a call gives, taken out of it. -/
namespace Dl
open PySem PySem.Spec PyProof.Rows L2
def eIxT (a : EM) (k : Nat) : EM := fun ρ => match a ρ with
  | some (.tup ds, ρ1) => match ds[k]? with
    | some d => some (d, ρ1)
    | none => none
  | _ => none
section
variable {K : PySem.W.Frag} {mg : MG} {H : Hp}
theorem Sim.pick {l rs : List Rt} {r : Rt} {k : Nat} (s : Sim K mg H (l ++ rs)) (h : l[k]? = some r) : Sim K mg H (r :: rs) := by
  obtain ⟨l1, l2, rfl⟩ := List.append_of_mem (List.mem_of_getElem? h)
  have p : (l1 ++ r :: l2 ++ rs).Perm ((l1 ++ l2) ++ (r :: rs)) := by
    refine List.Perm.trans ?_ List.perm_middle.symm
    refine List.Perm.trans (List.Perm.append_right _ List.perm_middle) ?_
    rfl
  exact (s.perm p).drop
theorem vals_at : ∀ {xs : List V} {ds : List D} {k : Nat} {x : V} {d : D}, xs[k]? = some x → ds[k]? = some d → (vals xs ds)[k]? = some (.v x d)
  | x :: xs, d :: ds, 0, _, _, h1, h2 => by
    cases h1
    cases h2
    rfl
  | x :: xs, d :: ds, k + 1, _, _, h1, h2 => vals_at (xs := xs) (ds := ds) (k := k) h1 h2
  | [], _, _, _, _, h1, _ => by simp at h1
  | _ :: _, [], _, _, _, _, h2 => by simp at h2
end
section
variable {F : Fm} {ea : EM} {k : Nat}
theorem imp_ixT : ∀ σ H Q, tD F (eIxT ea k) σ H Q → tOp (rIxAll F.K) (tD F ea) (tC (.int k)) σ H Q := fun σ H Q ⟨ρ, ts, d, ρ', a, e, kk⟩ => by
  unfold eIxT at e
  split at e
  · rename_i ds ρ1 ex
    split at e
    · rename_i d' hd
      cases e
      refine ⟨ρ, ts, .tup ds, _, a, ex, fun v H1 a1 => ?_⟩
      obtain ⟨b, xs, rfl, hl, hc, s2⟩ := (a1.front).unT
      have hk : k < ds.length := (List.getElem?_eq_some_iff.mp hd).1
      have hx : xs[k]? = some (xs[k]'(by omega)) := List.getElem?_eq_getElem _
      have h1 : (0 : Int) ≤ (k : Int) := by omega
      have h2 : (k : Int) < xs.length := by omega
      have h3 : atI xs (k : Int) = some (xs[k]'(by omega)) := by
        simp only [L2.atI, L2.ixN, h1, h2, if_true, Option.bind_some, Int.toNat_natCast, hx]
      exact .inl (.inr (.inl ⟨b, xs, (k : Int), _, rfl, rfl, SqT.of hc, h3, kk _ H1 (a1.of_front (s2.pick (vals_at hx hd)))⟩))
    · cases e
  · cases e
theorem e_ixT {X : Cx} {vs0 : List V} {a : Expr} {p1 pos : Pos} {j : Nat} (k : Nat) (hu : X.A.units + 1 < cLine) (ha : PE X a (tD (fm X vs0) ea)) (hx : PlainIx (.Constant (.int (k : Int)) j p1) := by exact fun _ _ => rfl) :
    PE X (.Subscript a (.Constant (.int (k : Int)) j p1) pos) (tD (fm X vs0) (eIxT ea k)) := (pe_ix (ix_all hu) ha pe_int hx).imp (imp_ixT (F := fm X vs0))
end
end Dl

set_option Elab.async false
set_option linter.all false
set_option maxRecDepth 100000
set_option maxHeartbeats 2000000
/-! DL47: comprehensions over the keys of a dict in a slot, which is read-only from there. -/
namespace Dl
open PySem PySem.Spec PyProof.Rows L2
def eCompK (i : Nat) (g : GM) (t : BM) (e : EM) (vs : List Nat) : EM := fun ρ => match ρ[i]? with
  | some (some (.dic true kd ks ds)) => if kd = .k then compE g t e vs ks (ρ.set i (some (.dic false kd ks (frzL ds)))) else none
  | _ => none
section
variable {F : Fm} {g : GM} {t : BM} {e : EM} {vs : List Nat} {gt : TG} {td : TE}
theorem compK_core {i : Nat} {σ : L2.St} {H : Hp} {ρ ρ' : DEnv} {ts : List Rt} {y : D} {d : Addr} {od : Obj} {kvs : List (Key × V)} {ks ds : List D} {Q : VK} (hgt : GtOk F g gt vs) (hv : ∀ i ∈ vs, F.vs0.length ≤ i) (htd : ∀ σ H Q, (∃ v, σ[i]? = some (some v) ∧ Q v H) → td σ H Q)
    (hs : σ[i]? = some (some (.ref d))) (hk : ks = kvs.map (fun p => kyD p.1)) (a1 : At F σ (upd H d (.frz od (.dK kvs))) (ρ.set i (some (.dic false .k ks (frzL ds)))) (.h d od (.dK kvs) :: ts))
    (q : compE g t e vs ks (ρ.set i (some (.dic false .k ks (frzL ds)))) = some (y, ρ')) (k : ∀ v H', At F σ H' ρ' (.v v y :: .h d od (.dK kvs) :: ts) → Q v H') :
    tLc (iKeys td) gt (tT F t) (tD F e) vs σ (upd H d (.frz od (.dK kvs))) Q := by
  obtain ⟨hz, ys, rfl, hc⟩ := compE_some q
  have hn : kvs.length = ks.length := by rw [hk, List.length_map]
  refine htd _ _ _ ⟨_, hs, d, od, rfl, .inl ⟨kvs, upd_same, fun D0 hD0 => ?_⟩⟩
  refine comp_turns hgt hv a1 hD0 hz hc (fun i σ H ρ zs hi b => ⟨(at_unlock b.snd).1, by omega⟩) (fun σ H ρ zs b => ⟨(at_unlock b.snd).1, by omega⟩) (fun j x σ H H' ρ zs hi b y => ?_) (fun H b => k _ H b)
  obtain ⟨rfl, z, w, hy, rfl⟩ := y
  refine ⟨rfl, ?_⟩
  have hky : ks[j] = kyD z := by
    subst hk
    rw [List.getElem_map]
    rw [(List.getElem?_eq_some_iff.mp hy).2]
  rw [hky]
  exact b.imm (rp_key z) (kyD_imm z)
theorem compK_lock {i : Nat} {σ : L2.St} {H : Hp} {ρ ρ' : DEnv} {ts : List Rt} {y : D} (hgt : GtOk F g gt vs) (hv : ∀ i ∈ vs, F.vs0.length ≤ i) (htd : ∀ σ H Q, (∃ v, σ[i]? = some (some v) ∧ Q v H) → td σ H Q) (a : At F σ H ρ ts) (q : eCompK i g t e vs ρ = some (y, ρ')) :
    ∃ d u, H d = some u ∧ Mut (some u) ∧ ∀ od (Q : VK), (∀ v H', At F σ H' ρ' (.v v y :: .h d od u :: ts) → Q v H') → tLc (iKeys td) gt (tT F t) (tD F e) vs σ (upd H d (.frz od u)) Q := by
  unfold eCompK at q
  split at q
  · rename_i kd ks ds hi
    split at q
    · rename_i hkd
      subst hkd
      obtain ⟨v, hv2, s⟩ := a.slot hi
      obtain ⟨d, kvs, rfl, hk, hd, s2⟩ := s.lockK
      refine ⟨d, _, hd, trivial, fun od Q k => ?_⟩
      have a1 : At F σ (upd H d (.frz od (.dK kvs))) (ρ.set i (some (.dic false .k ks (frzL ds)))) (.h d od (.dK kvs) :: ts) := a.back hv2 ((s2 od).perm ((List.Perm.swap _ _ _).trans (List.Perm.cons _ List.perm_middle.symm)))
      exact compK_core hgt hv htd hv2 hk a1 q k
    · cases q
  · cases q
theorem imp_compK {i : Nat} (hgt : GtOk F g gt vs) (hv : ∀ i ∈ vs, F.vs0.length ≤ i) (htd : ∀ σ H Q, (∃ v, σ[i]? = some (some v) ∧ Q v H) → td σ H Q) : ∀ σ H Q, tD F (eCompK i g t e vs) σ H Q → tLockE (tLc (iKeys td) gt (tT F t) (tD F e) vs) σ H Q := fun σ H Q ⟨ρ, ts, d, ρ', a, q, k⟩ => by
  obtain ⟨d0, u, h1, h2, h3⟩ := compK_lock hgt hv htd a q
  refine ⟨d0, u, h1, h2, fun od => h3 od _ fun v H' b => ?_⟩
  have b2 := b.perm (.swap _ _ _)
  exact ⟨(at_unlock b2).1, k v _ (at_unlock b2).2⟩
end
section
variable {X : Cx} {vs0 : List V} {W : WX} {pos : Pos} {g : GM} {t : BM} {e : EM} {tg elt : Expr} {ifs : List Expr} {scope : Scope} {own : List (Str × Nat)} {gt : TG}
theorem e_compK {n : Str} {p : Pos} (j : Nat) (hc : X.calm = true) (hN : X.N.Nodup) (ok : BlkOk X.N X.env.scope scope own) (hgt : GtOk (fm X vs0) g gt (own.map (·.2))) (hv : ∀ i ∈ own.map (·.2), vs0.length ≤ i)
    (hg : ∀ (s : Shared) (H : Hp) (C : Addr) (cl : List (Str × Addr)) (fp : List Addr), PG (X.blk s H scope (compEnvC scope cl C X.env) fp) tg gt) (ht : ∀ (s : Shared) (H : Hp) (C : Addr) (cl : List (Str × Addr)) (fp : List Addr), PTs (X.blk s H scope (compEnvC scope cl C X.env) fp) ifs (tT (fm X vs0) t))
    (he : ∀ (s : Shared) (H : Hp) (C : Addr) (cl : List (Str × Addr)) (fp : List Addr), PE (X.blk s H scope (compEnvC scope cl C X.env) fp) elt (tD (fm X vs0) e))
    (hn : X.N[j]? = some n := by rfl) (hvs : Vis X.env.scope n := by first | exact Or.inl rfl | exact Or.inr (Or.inl rfl) | exact Or.inr (Or.inr rfl)) (hd : (n == ("__debug__" : Str)) = false := by decide) (hcd : (n == ("__classdict__" : Str)) = false := by decide)
    (hs : ∀ x, foldedSetIterable (.Name n p) X.env x = pure x := by intro _; rfl) :
    PE X (.ListComp elt [⟨tg, .Name n p, ifs, 0⟩] scope pos) (tD (fm X vs0) (eCompK j g t e (own.map (·.2)))) :=
  (pe_lock (pe_lc hc hN (pi_keys (pe_var hn hvs hd hcd)) ok hg ht he hs)).imp (imp_compK (F := fm X vs0) hgt hv fun _ _ _ ⟨v, e, q⟩ => ⟨v, e, q⟩)
theorem s_compK {y n : Str} {py spos p : Pos} (i j : Nat) (hp : vs0.length ≤ i) (hc : X.calm = true) (hN : X.N.Nodup) (ok : BlkOk X.N X.env.scope scope own) (hgt : GtOk (fm X vs0) g gt (own.map (·.2))) (hv : ∀ i ∈ own.map (·.2), vs0.length ≤ i)
    (hg : ∀ (s : Shared) (H : Hp) (C : Addr) (cl : List (Str × Addr)) (fp : List Addr), PG (X.blk s H scope (compEnvC scope cl C X.env) fp) tg gt) (ht : ∀ (s : Shared) (H : Hp) (C : Addr) (cl : List (Str × Addr)) (fp : List Addr), PTs (X.blk s H scope (compEnvC scope cl C X.env) fp) ifs (tT (fm X vs0) t))
    (he : ∀ (s : Shared) (H : Hp) (C : Addr) (cl : List (Str × Addr)) (fp : List Addr), PE (X.blk s H scope (compEnvC scope cl C X.env) fp) elt (tD (fm X vs0) e)) (hsw : swapsWith (.ListComp elt [⟨tg, .Name n p, ifs, 0⟩] scope pos) (some (.Name y py)) spos.line X.env = pure true) (hy : X.N[i]? = some y := by rfl) (hyl : X.env.scope.names.lookup y = some .local := by rfl)
    (hn : X.N[j]? = some n := by rfl) (hvs : Vis X.env.scope n := by first | exact Or.inl rfl | exact Or.inr (Or.inl rfl) | exact Or.inr (Or.inr rfl)) (hd : (n == ("__debug__" : Str)) = false := by decide) (hcd : (n == ("__classdict__" : Str)) = false := by decide)
    (hs : ∀ x, foldedSetIterable (.Name n p) X.env x = pure x := by intro _; rfl) :
    PS X (.Assign [.Name y py] (.ListComp elt [⟨tg, .Name n p, ifs, 0⟩] scope pos) spos) (tS (fmW X vs0 W) (sAsg (eCompK j g t e (own.map (·.2))) (gN i))) :=
  (ps_lock (ps_setLc hc hN hy hyl hsw (pi_keys (pe_var hn hvs hd hcd)) ok hg ht he hs)).imp fun D' σ H w => by
    obtain ⟨ρ, ts, d, ρ', a, q, k⟩ := imp_asg (F := fmW X vs0 W) D' σ H w
    obtain ⟨d0, u, h1, h2, h3⟩ := compK_lock (F := fm X vs0) (td := tVar j) hgt hv (fun _ _ _ ⟨v, e, q⟩ => ⟨v, e, q⟩) a q
    refine ⟨d0, u, h1, h2, fun od => h3 od _ fun v H' b => ?_⟩
    have b2 := b.perm (.swap _ _ _)
    have hu := at_unlock b2
    have hgn := imp_gN (F := fm X vs0) hp (List.getElem?_eq_some_iff.mp hy).1 v σ _ D'.nx (k v _ hu.2)
    exact ⟨hu.1, hgn⟩
end
end Dl

set_option Elab.async false
set_option linter.all false
set_option maxRecDepth 100000
set_option maxHeartbeats 2000000
/-! DL48: dict([(key, value), ..]) with nested keys and values that stay. -/
namespace Dl
open PySem PySem.Spec PyProof.Rows L2
abbrev PEnt := Addr × NestedKey × Addr × V
def entP (e : PEnt) (u : Value) : NEnt := (e.2.1, e.2.2.1, u)
def rDictN (K : PySem.W.Frag) (w : World) : List V → Hp → VK → Prop := fun xs H Q => ∃ (a : Addr) (es : List PEnt), xs = [V.ref a] ∧ SqL K H a (es.map fun e => V.ref e.1) ∧ (∀ e ∈ es, SqT K H e.1 [V.ref e.2.2.1, e.2.2.2] ∧ (∃ kd, NkAt H (.ref e.2.2.1) kd e.2.1) ∧ e.2.1.depth ≤ 8) ∧
  ∀ us, Vals (es.map fun e => e.2.2.2) us → ∀ p, H p = none → Q (.ref p) (upd H p (dnH w p (storedAllH [] (List.zipWith entP es us))))
section
variable {X : Cx}
theorem pents_of {pins : List (Addr × Obj)} {σ : L2.St} {H : Hp} {s : Shared} (I : Inv X pins σ H s) : ∀ {es : List PEnt}, (∀ e ∈ es, SqT X.K H e.1 [V.ref e.2.2.1, e.2.2.2] ∧ (∃ kd, NkAt H (.ref e.2.2.1) kd e.2.1) ∧ e.2.1.depth ≤ 8) →
    ∃ us : List Value, Vals (es.map fun e => e.2.2.2) us ∧ us.length = es.length ∧ ∀ (j : Nat) (e : PEnt) (u : Value), es[j]? = some e → us[j]? = some u → IsTup s.heap e.1 #[.ref e.2.2.1, u]
  | [], _ => ⟨[], .nil, rfl, fun j e u h _ => by simp at h⟩
  | e :: es, h => by
    obtain ⟨us, r, hl, hp⟩ := pents_of I fun x hx => h x (List.mem_cons_of_mem _ hx)
    obtain ⟨its, rv, ht, _⟩ := I.tuple (h e List.mem_cons_self).1
    obtain ⟨u, y, ei, ru, ry⟩ := vals2 rv
    subst ei
    obtain rfl : u = Value.ref e.2.2.1 := ru
    refine ⟨y :: us, .cons ry r, by rw [List.length_cons, List.length_cons, hl], fun j e' u' e1 e2 => ?_⟩
    cases j with
    | zero =>
      cases e1
      cases e2
      exact ht
    | succ j => exact hp j e' u' (by simpa using e1) (by simpa using e2)
theorem c_dictN (hcalm : X.calm = true) (hu : X.A.units + 65 < cLine) : CallR X (.type "dict") (rDictN X.K X.w) := by
  intro pins s σ H xs us Q I r q
  obtain ⟨a, es, ex, hq, hp, q⟩ := q
  subst ex
  obtain ⟨u, eu, rx⟩ := vals1 r
  subst eu
  cases rx
  obtain ⟨its, rv, pl, hz⟩ := I.list hq
  have em : (es.map fun e => V.ref e.1) = (es.map (·.1)).map V.ref := by rw [List.map_map]; rfl
  rw [em] at rv
  have ei := refs_at rv
  subst ei
  obtain ⟨ws, rel, hl, hpr⟩ := pents_of I hp
  obtain ⟨o, n, ho, hc, hd, hdat⟩ := pl
  have hlen : (List.zipWith (fun (e : PEnt) (u : Value) => (Value.ref e.2.2.1, u)) es ws).length = es.length := by simp [hl]
  have hlen2 : (List.zipWith entP es ws).length = es.length := by simp [hl]
  have hes : es.length ≤ sizeLine := by simpa using hz
  refine call_dict_pairsH (knd := nestedKind X.prog X.w) (ps := List.zipWith entP es ws) (PairArg.list a (((es.map (·.1)).map Value.ref).toArray) (fun j => ((es[j]?).map (·.1)).getD 0) (List.zipWith (fun (e : PEnt) (u : Value) => (Value.ref e.2.2.1, u)) es ws)) (I.ok.hd hcalm) (show X.A.units + 1 + 1 + 8 < cLine by omega) ⟨⟨o, n, ho, hc, hd, hdat⟩, ?_, ?_⟩ ⟨by rw [hlen, hlen2], ?_⟩ ?_ (by rw [hlen]; exact hes) ?_
  · simp [hl]
  · intro j k v hj
    rw [List.getElem?_zipWith] at hj
    cases he : es[j]? with
    | none => rw [he] at hj; simp at hj
    | some e =>
      cases hw : ws[j]? with
      | none => rw [he, hw] at hj; simp at hj
      | some u =>
        rw [he, hw] at hj
        simp only [Option.some.injEq, Prod.mk.injEq] at hj
        obtain ⟨rfl, rfl⟩ := hj
        refine ⟨by simp [he], .inl ?_⟩
        have ht := hpr j e u he hw
        simp only [he, Option.map_some, Option.getD_some]
        exact ht
  · intro i key v hrel
    have hj : (List.zipWith (fun (e : PEnt) (u : Value) => (Value.ref e.2.2.1, u)) es ws)[i]? = some (key, v) := hrel
    rw [List.getElem?_zipWith] at hj
    cases he : es[i]? with
    | none => rw [he] at hj; simp at hj
    | some e =>
      cases hw : ws[i]? with
      | none => rw [he, hw] at hj; simp at hj
      | some u =>
        rw [he, hw] at hj
        simp only [Option.some.injEq, Prod.mk.injEq] at hj
        obtain ⟨rfl, rfl⟩ := hj
        refine ⟨e.2.1, e.2.2.1, ?_, rfl⟩
        rw [List.getElem?_zipWith, he, hw]
        rfl
  · intro h' hk x hx
    obtain ⟨j, hj⟩ := List.getElem?_of_mem hx
    rw [List.getElem?_zipWith] at hj
    cases he : es[j]? with
    | none => rw [he] at hj; simp at hj
    | some e =>
      cases hw : ws[j]? with
      | none => rw [he, hw] at hj; simp at hj
      | some u =>
        rw [he, hw] at hj
        simp only [Option.some.injEq] at hj
        subst hj
        obtain ⟨_, ⟨kd, hn⟩, h8⟩ := hp e (List.mem_of_getElem? he)
        have hi : NestedIs s.heap e.2.1 (.ref e.2.2.1) := nk_is I.hok hn rfl
        exact ⟨NestedIs.at (fun b ob vs n hb _ => hk b ob (Nat.ne_of_lt (Heap.lt_size hb)) (by simp) hb) _ _ hi, h8⟩
  · intro h' tk hm k
    obtain ⟨o', es', ep, e', z, dq, hl', _, hnd⟩ := hm
    have hsy : (s.heap.objs.size == sysModules) = false := beq_eq_false_iff_ne.mpr (Nat.ne_of_gt I.big)
    have hle : (storedAllH [] (List.zipWith entP es ws)).length ≤ sizeLine := by
      have := storedAllH_length (List.zipWith entP es ws) []
      rw [List.length_nil, hlen2] at this
      omega
    exact ⟨.ref s.heap.objs.size, upd H s.heap.objs.size (dnH X.w s.heap.objs.size (storedAllH [] (List.zipWith entP es ws))), I.laid (t' := tk) (fun b ob e => k b ob (by simp) e) (Nat.le_refl _) (dnH_ok hsy hle hnd e' z dq hl'), rfl, q ws rel _ (I.hok.fresh (Nat.le_refl _))⟩
end
def pairsN : List D → Option (List D × List D)
  | [] => some ([], [])
  | .tup [k, v] :: ds => if nkOk k = true then (match pairsN ds with
    | some (ks, vs) => some (k :: ks, v :: vs)
    | none => none) else none
  | _ :: _ => none
def opDictN : List D → Option D
  | [.lst _ ds] => match pairsN ds with
    | some (ks, vs) => if immL vs = true then some (.dic true .n (mergeN [] [] ks vs).1 (mergeN [] [] ks vs).2) else none
    | none => none
  | _ => none
section
variable {K : PySem.W.Frag} {mg : MG}
theorem pairsN_rp {H : Hp} : ∀ {ds : List D} {xs : List V} {ks vs : List D}, RpL K mg H xs ds → pairsN ds = some (ks, vs) →
    ∃ es : List PEnt, xs = es.map (fun e => V.ref e.1) ∧ (∀ e ∈ es, SqT K H e.1 [V.ref e.2.2.1, e.2.2.2] ∧ (∃ kd, NkAt H (.ref e.2.2.1) kd e.2.1) ∧ e.2.1.depth ≤ 8) ∧ RpL K mg H (es.map fun e => e.2.2.2) vs ∧
      ∀ us : List Value, us.length = es.length → KeysN H (List.zipWith entP es us) ks
  | [], _, ks, vs, .nil, e => by cases e; exact ⟨[], rfl, by simp, .nil, fun us _ => by rw [List.zipWith_nil_left]; exact .nil⟩
  | d :: ds, _, ks, vs, .cons h t, e => by
    unfold pairsN at e
    split at e
    · rename_i e0; cases e0
    · rename_i k v ds' e0
      cases e0
      split at e
      · rename_i hk
        split at e
        · rename_i ks' vs' hp
          cases e
          obtain ⟨es, rfl, h1, h2, h3⟩ := pairsN_rp t hp
          obtain ⟨a, ys, rfl, hs, l⟩ := h.tup_inv
          cases l with
          | cons o1 l =>
            cases l with
            | cons o2 l =>
              cases l with
              | nil =>
                obtain ⟨b, key, rfl, e1, e2, n⟩ := nkAt_ref o1 hk
                refine ⟨(a, key, b, _) :: es, rfl, fun x hx => ?_, .cons o2 h2, fun us hl => ?_⟩
                · rcases List.mem_cons.mp hx with rfl | hx
                  · exact ⟨SqT.of hs, ⟨_, n⟩, e2⟩
                  · exact h1 x hx
                · cases us with
                  | nil => simp at hl
                  | cons u us =>
                    rw [List.zipWith_cons_cons]
                    exact .cons n e2 (h3 us (by simpa using hl))
        · cases e
      · cases e
    · cases e
theorem zip_vals : ∀ {es : List PEnt} {us : List Value}, Vals (es.map fun e => e.2.2.2) us → Vals (es.map fun e => e.2.2.2) ((List.zipWith entP es us).map fun (x : NEnt) => x.2.2)
  | [], _, h => by
    cases h
    exact .nil
  | e :: es, _, h => by
    cases h with
    | cons r rs => exact .cons r (zip_vals rs)
theorem vals_leng : ∀ {vs : List V} {us : List Value}, Vals vs us → us.length = vs.length
  | _, _, .nil => rfl
  | _, _, .cons _ t => by rw [List.length_cons, List.length_cons, vals_leng t]
theorem r_dictN : RnD K mg (rDictN K mg.w) opDictN := by
  intro vs H ds d Q rs e k
  unfold opDictN at e
  split at e
  · split at e
    · rename_i ks ws hp
      split at e
      · rename_i hi
        cases e
        obtain ⟨v, rfl, r⟩ := rs.one
        obtain ⟨a, xs, rfl, ha, rl⟩ := r.lst_inv
        obtain ⟨es, rfl, h1, h2, h3⟩ := pairsN_rp rl hp
        refine ⟨a, es, rfl, SqL.of ha, h1, fun us hv p hpn => k _ _ (same_upd hpn) fun rs0 s0 => ?_⟩
        have hul : us.length = es.length := by rw [vals_leng hv, List.length_map]
        obtain ⟨ws', g1, g2, g3⟩ := storedAllN (K := K) (mg := mg) (h3 us hul) (zip_vals hv) h2 (.nil : KeysN H [] []) (ws := []) (vs := []) .nil .nil
        have him := mergeN_imm ks ws [] [] rfl hi
        have s1 := (s0.imms g3 him).alloc (o := dnH mg.w p (storedAllH [] (List.zipWith entP es us))) hpn
        have hlen : ws'.length = (mergeN [] [] ks ws).2.length := g3.length
        exact Sim.foDn s1 (g1.lift fun z zs hz => by rw [upd_ne (ne_of_none hz hpn)]; exact hz) g2 hlen
      · cases e
    · cases e
  · cases e
end
end Dl

set_option Elab.async false
set_option linter.all false
set_option maxRecDepth 100000
set_option maxHeartbeats 2000000
/-! DL49: comprehensions in the block of a comprehension. -/
namespace Dl
open PySem PySem.Spec PyProof.Rows L2
theorem relab_look (f : Str → NameKind → NameKind) (hf : ∀ n k, f n k = k ∨ (k = .free ∧ f n k = .cell)) : ∀ (l : List (Str × NameKind)) (x : Str), l.lookup x = some .cell ∨ l.lookup x = some .free → (l.map fun p => (p.1, f p.1 p.2)).lookup x = some .cell ∨ (l.map fun p => (p.1, f p.1 p.2)).lookup x = some .free
  | [], x, h => by simp at h
  | (n, k) :: l, x, h => by
    rw [List.map_cons, List.lookup_cons]
    rw [List.lookup_cons] at h
    cases e : x == n with
    | true =>
      rw [e] at h
      simp only [Option.some.injEq] at h ⊢
      rcases hf n k with q | ⟨q1, q2⟩
      · rw [q]; exact h
      · exact .inl q2
    | false =>
      rw [e] at h
      exact relab_look f hf l x h
theorem blk_re {N : List Str} {sc scope : Scope} {own : List (Str × Nat)} {env : Env} (h : BlkOk N sc scope own) : BlkOk N (relabel sc env) scope own := by
  refine ⟨h.kind, h.uniq, h.ix, fun y hy hf => ?_, h.own⟩
  have h1 := h.free y hy hf
  have := relab_look (fun n k => if (k == NameKind.free && env.scope.kind == .function && env.kindOf n == some .cell) then NameKind.cell else k) (fun n k => by
    by_cases q : (k == NameKind.free && env.scope.kind == .function && env.kindOf n == some .cell) = true
    · right
      simp only [q, if_true, and_true]
      simp only [Bool.and_eq_true] at q
      exact beq_iff_eq.mp q.1.1
    · left
      simp only [q, if_false]
      rfl) sc.names y.1 h1
  have e : (relabel sc env).names = sc.names.map fun p => (p.1, if (p.2 == NameKind.free && env.scope.kind == .function && env.kindOf p.1 == some .cell) = true then NameKind.cell else p.2) := List.map_congr_left fun p _ => by
    obtain ⟨n, k⟩ := p
    simp only
    split <;> rfl
  rw [e]
  exact this
end Dl

set_option Elab.async false
set_option linter.all false
set_option maxRecDepth 100000
set_option maxHeartbeats 2000000
/-! DL50: xs.index(y), y among the list's values. -/
namespace Dl
open PySem PySem.Spec PyProof.Rows L2
def firstEq (q : PyData) : List PyData → Option Nat
  | [] => none
  | d :: ds => if PyData.eqv d q = true then some 0 else (firstEq q ds).map (· + 1)
theorem firstEq_some {q : PyData} : ∀ {ds : List PyData} {j : Nat}, firstEq q ds = some j → ∃ z, ds[j]? = some z ∧ PyData.eqv z q = true ∧ ∀ (m : Nat) z', m < j → ds[m]? = some z' → PyData.eqv z' q = false
  | [], j, h => by simp [firstEq] at h
  | d :: ds, j, h => by
    unfold firstEq at h
    split at h
    · rename_i e
      cases h
      exact ⟨d, rfl, e, fun m z' hm => absurd hm (Nat.not_lt_zero _)⟩
    · rename_i e
      cases hf : firstEq q ds with
      | none => rw [hf] at h; cases h
      | some i =>
        rw [hf] at h
        cases h
        obtain ⟨z, h1, h2, h3⟩ := firstEq_some hf
        refine ⟨z, h1, h2, fun m z' hm hz => ?_⟩
        cases m with
        | zero => cases hz; exact Bool.eq_false_iff.mpr e
        | succ m => exact h3 m z' (Nat.lt_of_succ_lt_succ hm) hz
/-- the place of a list's first value that is equal -/
def opIdx (d q : D) : Option D := match d with
  | .lst o ds => if (D.lst o ds).cmp = true ∧ q.cmp = true then (match firstEq q.py (pyL ds) with
    | some j => some (.int (j : Int))
    | none => none) else none
  | _ => none
def pIdx (a b : PM) : PM := fun ρ => match a ρ, b ρ with
  | some d, some q => opIdx d q
  | _, _ => none
section
variable {F : Fm} {X : Cx} {vs0 : List V} {fa fb : PM}
theorem imp_idx : ∀ σ H Q, tP F (pIdx fa fb) σ H Q → tBM F.K "list" (rIndexD F.K) (tP F fa) (tAP F [fb]) σ H Q := fun σ H Q ⟨ρ, ts, d, a, e, k⟩ => by
  unfold pIdx at e
  split at e
  · rename_i d0 q e1 e2
    refine ⟨ρ, ts, d0, a, e1, fun x H1 g1 rx cj => ?_⟩
    unfold opIdx at e
    split at e
    · rename_i o ds
      split at e
      · rename_i hc
        split at e
        · rename_i j hj
          cases e
          refine ⟨tyV_lst rx, ρ, ts, [q], a.grow g1, ?_, fun ws H2 g2 rs => ?_⟩
          · simp only [pAll, e2]
          · obtain ⟨y, rfl, ry⟩ := rs.one
            obtain ⟨z, h1, h2, h3⟩ := firstEq_some hj
            have rx2 := rx.grow g2
            have p1 := cmp_dp rx2 hc.1
            have p2 := cmp_dp ry hc.2
            obtain ⟨b, rfl⟩ : ∃ b, x = V.ref b := by
              cases rx with
              | lst _ _ => exact ⟨_, rfl⟩
            rw [D.py] at p1
            refine ⟨b, y, q.py, pyL ds, j, z, rfl, rfl, p1.1, p2.1, p1.2, p2.2, h1, h2, h3, ?_⟩
            exact k _ H2 (g1.trans g2) (.int _) (Cj.of (((a.grow g1).grow g2).imm (.int _) rfl))
        · cases e
      · cases e
    · cases e
  · cases e
end
end Dl

set_option Elab.async false
set_option linter.all false
set_option maxRecDepth 100000
set_option maxHeartbeats 2000000
/-! DL51: ==, != of dicts whose keys are numbers or texts: alike, or not of one length. -/
namespace Dl
open PySem PySem.Spec PyProof.Rows L2
section
variable {X : Cx}
/-- two dicts, read as they stand -/
def rDE (ne : Bool) : R2 := fun x y H Q => ∃ a b ks ls, x = .ref a ∧ y = .ref b ∧ Rd H a (.dK ks) ∧ Rd H b (.dK ls) ∧ (ks.length = ls.length → ∀ p ∈ ks, valV ls p.1 = some p.2 ∧ flatB p.2 = true) ∧ Q (.bl (if ne = true then !decide (ks.length = ls.length) else decide (ks.length = ls.length))) H
theorem op_eqDE (hu : X.A.units < cLine) : OpR X (compareOp .Eq) (rDE false) := by
  intro pins s σ H x y v u Q I rx ry h
  obtain ⟨a, b, ks, ls, rfl, rfl, ea, eb, hp, q⟩ := h
  obtain rfl : v = Value.ref a := rx
  obtain rfl : u = Value.ref b := ry
  obtain ⟨_, ya, va, ra, da⟩ := (show ObjOk X.prog X.w H s.heap a (.dK ks) from ea.ok I.hok)
  obtain ⟨_, yb, vb, rb, db⟩ := (show ObjOk X.prog X.w H s.heap b (.dK ls) from eb.ok I.hok)
  have hl : (ks.length = ls.length) = (va.length = vb.length) := by rw [← ra.length, ← rb.length]
  refine PySem.W.keq_eq (knd := mixKind X.prog X.w) (r := true) ya yb da db hu (fun e => hits_all rb ra (hp (hl.mpr e))) (fin_bl I q ?_)
  simp only [hl, Bool.and_true, Bool.false_eq_true, if_false]
  rfl
theorem op_neDE (hu : X.A.units < cLine) : OpR X (compareOp .NotEq) (rDE true) := by
  intro pins s σ H x y v u Q I rx ry h
  obtain ⟨a, b, ks, ls, rfl, rfl, ea, eb, hp, q⟩ := h
  obtain rfl : v = Value.ref a := rx
  obtain rfl : u = Value.ref b := ry
  obtain ⟨_, ya, va, ra, da⟩ := (show ObjOk X.prog X.w H s.heap a (.dK ks) from ea.ok I.hok)
  obtain ⟨_, yb, vb, rb, db⟩ := (show ObjOk X.prog X.w H s.heap b (.dK ls) from eb.ok I.hok)
  have hl : (ks.length = ls.length) = (va.length = vb.length) := by rw [← ra.length, ← rb.length]
  refine PySem.W.keq_ne (knd := mixKind X.prog X.w) (r := true) ya yb da db hu (fun e => hits_all rb ra (hp (hl.mpr e))) (fin_bl I q ?_)
  simp only [hl, Bool.and_true, if_true]
  rfl
end
def allHit (ls ws : List D) : List D → List D → Bool
  | k :: ks, v :: vs => (k.key.isSome && v.sv.isSome && decide (lookD ls ws k = some v)) && allHit ls ws ks vs
  | [], [] => true
  | _, _ => false
def dEqB (x y : D) : Option Bool := match x, y with
  | .dic _ .k ks vs, .dic _ .k ls ws => if ks.length = ls.length then (if allHit ls ws ks vs = true then some true else none) else some false
  | _, _ => none
/-- what may stand on either side: dicts, too -/
def opEqX (x y : D) : Option D := match dEqB x y with
  | some b => some (.bl b)
  | none => opEq x y
def opNeX (x y : D) : Option D := match dEqB x y with
  | some b => some (.bl (!b))
  | none => opNe x y
section
variable {K : PySem.W.Frag} {mg : MG}
theorem sv_flatB {d : D} {w : V} (h : d.sv = some w) : flatB w = true := by
  cases d <;> simp [D.sv] at h <;> subst h <;> rfl
theorem allHit_v {H : Hp} {ls : List (Key × V)} {ws : List D} (rl : RpL K mg H (ls.map (·.2)) ws) : ∀ {ks : List (Key × V)} {vs : List D}, RpL K mg H (ks.map (·.2)) vs → allHit (ls.map fun p => kyD p.1) ws (ks.map fun p => kyD p.1) vs = true → ∀ p ∈ ks, valV ls p.1 = some p.2 ∧ flatB p.2 = true
  | [], _, _, _ => by intro p hp; cases hp
  | q :: ks, vs, rk, h => by
    cases rk with
    | cons r rs =>
      rename_i d ds
      simp only [List.map_cons, allHit, Bool.and_eq_true] at h
      obtain ⟨⟨⟨_, h2⟩, h3⟩, h4⟩ := h
      obtain ⟨w, hw⟩ := Option.isSome_iff_exists.mp h2
      have h3 := of_decide_eq_true h3
      intro p hp
      rcases List.mem_cons.mp hp with rfl | hp
      · have lk := look_k (kvs := ls) (ds := ws) (k := p.1) (by simpa using rl.length)
        rw [h3] at lk
        obtain ⟨i, z, e1, e2, e3⟩ := lk
        have e4 : p.2 = w := r.sv hw
        have e5 := (rl.get e2 e3).sv hw
        rw [e1, e4, e5]
        exact ⟨rfl, sv_flatB hw⟩
      · exact allHit_v rl rs h4 p hp
theorem dEq_core {x y : V} {H : Hp} {dx dy : D} {b : Bool} (rx : Rp K mg H x dx) (ry : Rp K mg H y dy) (e : dEqB dx dy = some b) : ∃ a c ks ls, x = .ref a ∧ y = .ref c ∧ Rd H a (.dK ks) ∧ Rd H c (.dK ls) ∧ (ks.length = ls.length → ∀ p ∈ ks, valV ls p.1 = some p.2 ∧ flatB p.2 = true) ∧ b = decide (ks.length = ls.length) := by
  unfold dEqB at e
  split at e
  · rename_i ks vs ls ws
    obtain ⟨a, kk, rfl, ra, rfl, la⟩ := rx.dk_inv
    obtain ⟨c, ll, rfl, rc, rfl, lc⟩ := ry.dk_inv
    rw [List.length_map, List.length_map] at e
    split at e
    · rename_i hl
      split at e
      · rename_i hh
        cases e
        exact ⟨a, c, kk, ll, rfl, rfl, ra, rc, fun _ => allHit_v lc la hh, (decide_eq_true hl).symm⟩
      · cases e
    · rename_i hl
      cases e
      exact ⟨a, c, kk, ll, rfl, rfl, ra, rc, fun q => absurd q hl, (decide_eq_false hl).symm⟩
  · cases e
theorem r_eqX : R2D K mg (fun x y H Q => (rEq x y H Q ∨ rEqD K x y H Q) ∨ rDE false x y H Q) opEqX := by
  intro x y H dx dy d Q rx ry e k
  unfold opEqX at e
  split at e
  · rename_i b hb
    cases e
    obtain ⟨a, c, ks, ls, rfl, rfl, h1, h2, h3, rfl⟩ := dEq_core rx ry hb
    exact .inr ⟨a, c, ks, ls, rfl, rfl, h1, h2, h3, k _ H (Same.refl H) (mk_bl _)⟩
  · exact .inl (r_eq x y H dx dy d Q rx ry e k)
theorem r_neX : R2D K mg (fun x y H Q => (rNe x y H Q ∨ rNeD K x y H Q) ∨ rDE true x y H Q) opNeX := by
  intro x y H dx dy d Q rx ry e k
  unfold opNeX at e
  split at e
  · rename_i b hb
    cases e
    obtain ⟨a, c, ks, ls, rfl, rfl, h1, h2, h3, rfl⟩ := dEq_core rx ry hb
    exact .inr ⟨a, c, ks, ls, rfl, rfl, h1, h2, h3, k _ H (Same.refl H) (mk_bl _)⟩
  · exact .inl (r_ne x y H dx dy d Q rx ry e k)
theorem op_eqX {X : Cx} (hu : X.A.units + 64 < cLine) : OpR X (compareOp .Eq) (fun x y H Q => (rEq x y H Q ∨ rEqD X.K x y H Q) ∨ rDE false x y H Q) := OpR.or (op_eqA hu) (op_eqDE (by omega))
theorem op_neX {X : Cx} (hu : X.A.units + 64 < cLine) : OpR X (compareOp .NotEq) (fun x y H Q => (rNe x y H Q ∨ rNeD X.K x y H Q) ∨ rDE true x y H Q) := OpR.or (op_neA hu) (op_neDE (by omega))
end
end Dl

set_option Elab.async false
set_option linter.all false
set_option maxRecDepth 100000
set_option maxHeartbeats 1000000
/-! DLE: the end of a law row whose def is promised at callerA alone (there it is known that no repr stands above). -/
namespace Dl
open PySem PySem.Spec PyProof.Rows L2

/-- a def run at one Around -/
theorem run_at {P : Program} {w : World} {K : PySem.W.Frag} {mg : Str → Option Value} {base : Heap} {k : Nat} {f : Addr} {name qual : Str} {params : Arguments} {body : List Stmt} {scope : Scope} {dV kV doc pm cdv ct oc : Value} {an od : Option Addr}
    {osl : Array (Option Value)} {N ps : List Str} {A : Around} {outer : List Env} {s : Shared} {H : Hp} {args : Args} {us : List Value} {vs : List V} {Q : VK} {E : XK} {t : TS}
    (lk : K.lookup f = some ⟨oc, od, .func (PySem.W.fnOf name qual params body scope dV kV doc pm an cdv ct), osl⟩) (hcd : PySem.W.codeIn K cdv qual = true) (S : FnScope N ps scope) (hl : vs.length = ps.length) (hr : Room (k + 1) A) (e0 : Env0 P w K mg base A outer s H)
    (hb : BindsTo s (PySem.W.fnOf name qual params body scope dV kV doc pm an cdv ct) args (ps.zip us)) (r : Vals vs us)
    (ht : PSs (cxOf CX0 P w K mg base N qual scope f cdv A outer s H E) body t) (hq : t { nx := fun _ H' => Q .non H', rt := Q } (start N vs) H) :
    codeAny (model P w) A (.call (.ref f) args) (CR CX0 outer P w H s Q E) s := by
  have KX : K.In s.heap := e0.mod.kin.keeps fun b o e => (e0.bs b o e).1
  have lim : s.heap.NoLimit := e0.mod.nolimit.keeps fun b o e => (e0.bs b o e).1
  have kinds : ∀ y ∈ ps.zip us, scope.names.lookup y.1 = some .local ∨ (scope.names.lookup y.1 = some .cell ∧ ((cellsFrom (s.heap.objs.size + 1) scope.names []).lookup y.1).isSome = true) := by
    rintro ⟨n, v⟩ hy
    rcases S.par n (List.of_mem_zip hy).1 with q | q
    · exact .inl q
    · exact .inr ⟨q, PySem.W.cellsFrom_some _ _ _ (.inl q)⟩
  refine codeAny_call_function hr.depth (KX _ _ lk) rfl S.co S.gen rfl (PySem.W.codeRec_of KX hcd) (hb _ _ _ _ ?_)
  refine wpAny_newFunctionEnv_cells S.kind kinds fun env he s1 x => ?_
  subst he
  refine ⟨lim.keeps x.toInCall.keep, codeAny_func ?_⟩
  have I : L2.Inv (cxOf CX0 P w K mg base N qual scope f cdv A outer s H E) [] (start N vs) H s1 := inv_start S hr.hd e0 hl r x
  refine wpAny_mono (ht.run [] s1 (start N vs) H _ I hq) (fun fl s' hs => ?_) fun e s' hs => hs
  cases fl with
  | ret u =>
    obtain ⟨v, σ', H', J, rv, q⟩ := hs
    exact ⟨v, H', J.os, J.bare, J.base, J.hok, rv, q⟩
  | next =>
    obtain ⟨σ', H', J, q⟩ := hs
    exact ⟨.non, H', J.os, J.bare, J.base, J.hok, rfl, q⟩
  | brk =>
    obtain ⟨_, _, _, q⟩ := hs
    exact q.elim
  | cont =>
    obtain ⟨_, _, _, q⟩ := hs
    exact q.elim

/-- the law's def at the heap behind the top: run, its promise at callerA over the heap that hides the script -/
theorem end_call {P : Program} {w : World} {K : PySem.W.Frag} {mg mb : Str → Option Value} {k : Nat} {fa a : Addr} {fd : FuncData} {x : Str} {m : FnM} {s1 : Shared} {vs : List Value} {ns : List Int}
    (KX : K.In s1.heap) (hns : s1.heap.Ns mainGlobals mg) (hb : s1.heap.Ns builtinsNs mb) (hbb : ∀ x : Str, x ≠ "__name__" → mb x = bootBuiltins x) (hlim : s1.heap.NoLimit) (hg : s1.gens = #[])
    (ha : s1.heap.get? a = some { cls := .type "list", data := .seq vs.toArray }) (hi : IntsAre vs ns) (hl : ns.length ≤ sizeLine) (hr : Room k callerA)
    (F : ∀ base : Heap, K.In base → base.Ns mainGlobals mg → ∀ (s : Shared) (H : Hp) (u : Value) (v : V) (Q : VK) (E : XK), Env0 P w K mg base callerA [] s H → RelV v u → spD K ⟨mg, w⟩ m [v] H Q E → codeAny (model P w) callerA (.call (.ref fa) ⟨[u], []⟩) (CR CX0 [] P w H s Q E) s)
    (hm : ∃ ds, m [.scr ns] = some (.bl true, ds)) :
    codeAny (model P w) callerA (.call (.ref fa) ⟨[.ref a], []⟩) (fun r s' => r = .ok (.ret (.bool true)) ∧ OldK s1.heap s'.heap ∧ s'.os = s1.os ∧ AllBare s'.gens) s1 := by
  have rv := vals_ints hi
  have lenV := hi.length
  have main : ∀ H : Hp, Only H → SqL K H a (ns.map V.int) → HOk P w H s1.heap → (∀ b, H b ≠ none → b = a) → (H a ≠ none → K.lookup a = none) →
      codeAny (model P w) callerA (.call (.ref fa) ⟨[.ref a], []⟩) (fun r s' => r = .ok (.ret (.bool true)) ∧ OldK s1.heap s'.heap ∧ s'.os = s1.os ∧ AllBare s'.gens) s1 := by
    intro H hO hS hok hA hK
    have away : ∀ b, b ≠ a → H b = none := fun b hb => by
      cases q : H b with
      | none => rfl
      | some u => exact absurd (hA b (by rw [q]; simp)) hb
    have noD : ∀ {b : Addr} {o : Obj} {es : Array DictEntry} {ep : Nat}, s1.heap.get? b = some o → o.data = .dict es ep → H b = none := by
      intro b o es ep e d
      by_cases hb : b = a
      · subst hb
        rw [ha] at e
        cases e
        cases (show Data.seq vs.toArray _ = Data.dict es ep from d)
      · exact away b hb
    have nsK : ∀ {b : Addr} {mm : Str → Option Value}, s1.heap.Ns b mm → (hidT s1.heap H).Ns b mm := fun {b mm} ⟨o, es, ep, e, d, r⟩ => ⟨o, es, ep, hidT_get e (noD e d), d, r⟩
    have hKb : K.In (hidT s1.heap H) := fun b o e => hidT_get (KX b o e) (by
      by_cases hb : b = a
      · subst hb
        cases q : H b with
        | none => rfl
        | some u => rw [hK (by rw [q]; simp)] at e; cases e
      · exact away b hb)
    have hM : Mod K mg (hidT s1.heap H) := ⟨hKb, nsK hns, ⟨mb, nsK hb, hbb⟩, let ⟨mc, h1, h2⟩ := hlim; ⟨mc, nsK h1, h2⟩⟩
    have e0 : Env0 P w K mg (hidT s1.heap H) callerA [] s1 H := ⟨rfl, hM, fun b o e => of_hidT e, Nat.le_of_eq (hidT_size _ _), trivial, (fun b hb => by cases (show b ∈ ([] : List Addr) from hb)), hok, .of_eq hg⟩
    obtain ⟨ds, hd⟩ := hm
    have hsp : spD K ⟨mg, w⟩ m [.ref a] H (fun v _ => v = .bl true) E0 := by
      refine ⟨[.scr ns], [], .bl true, ds, rfl, ⟨H, [], fun b o e => .inl e, ?_, List.nodup_nil⟩, hd, fun v H' s' => (s'.rp).bl_inv⟩
      exact OwnR.v (f1 := []) (f2 := []) (.scr hS) .nil
    refine codeAny_mono (F _ hKb (nsK hns) s1 H (.ref a) (.ref a) _ _ e0 rfl hsp) fun r s' h => ?_
    cases r with
    | error e => exact h.elim
    | ok fl =>
      cases fl with
      | next => exact False.elim h
      | brk => exact False.elim h
      | cont => exact False.elim h
      | ret u =>
        obtain ⟨v, H', os, bare, un, hok', r', q⟩ := h
        obtain rfl : v = .bl true := q
        obtain rfl : u = Value.bool true := r'
        refine ⟨rfl, OldK.of_keep fun b o e => ?_, os, bare⟩
        cases q : H b with
        | none => exact un.keep b o e q (by intro z; cases (show b ∈ ([] : List Addr) from z)) (by simp)
        | some u =>
          rcases hO b with z | ⟨ob, xs, z⟩
          · rw [q] at z; cases z
          · obtain ⟨e1, _⟩ := hok b _ z
            obtain ⟨e2, _⟩ := hok' b _ (un.frzs b ob _ z)
            rw [e] at e1
            cases e1
            exact e2
  cases hk : K.lookup a with
  | some o =>
    have e := KX a o hk
    rw [ha] at e
    cases e
    exact main (fun _ => none) (fun _ => .inl rfl) (.inr ⟨_, vs.toArray, _, hk, rfl, rfl, rfl, by rw [List.size_toArray, lenV]; exact hl, by simpa using rv⟩) (fun b u z => by cases (show (none : Option HO) = some u from z)) (fun b z => absurd rfl z) fun z => absurd rfl z
  | none =>
    refine main (fun b => if b = a then some (.frz { cls := .type "list", data := .seq vs.toArray } (.lst (ns.map V.int))) else none) (fun b => ?_) (.inl (.inr ⟨{ cls := .type "list", data := .seq vs.toArray }, if_pos rfl⟩)) (fun b u z => ?_) (fun b z => ?_) fun _ => hk
    · by_cases hb : b = a
      · exact .inr ⟨_, _, if_pos hb⟩
      · exact .inl (if_neg hb)
    · by_cases hb : b = a
      · cases (if_pos hb).symm.trans z
        subst hb
        exact ⟨ha, by rw [List.length_map]; exact hl, vs, _, rv, ha⟩
      · cases (if_neg hb).symm.trans z
    · by_cases hb : b = a
      · exact hb
      · exact absurd (if_neg hb) z
/-- the law's promise, for the head's last goal -/
def LawAt (P : Program) (w : World) (K : PySem.W.Frag) (mg : Str → Option Value) (fa : Addr) (m : FnM) : Prop := ∀ base : Heap, K.In base → base.Ns mainGlobals mg → ∀ (s : Shared) (H : Hp) (u : Value) (v : V) (Q : VK) (E : XK),
  Env0 P w K mg base callerA [] s H → RelV v u → spD K ⟨mg, w⟩ m [v] H Q E → codeAny (model P w) callerA (.call (.ref fa) ⟨[u], []⟩) (CR CX0 [] P w H s Q E) s
theorem walk_at {l : PySem.W.OpenLaw} {n k : Nat} {q : Program} {loose : List Str} {XP : (Str → Option Value) → Heap → Prop} {YP : World → Heap → Prop} {d : DefRec} {K : Params → PySem.W.Frag} {m : FnM}
    (hn : l.most = some n) (hn2 : n ≤ sizeLine) (hdf : d.params.defaults = []) (hr : Room k callerA) (hY : ∀ (w : World) (h : Heap), YP w h → (K w.params).In h)
    (F : ∀ (w : World) (mg : Str → Option Value) (fa : Addr) (h : Heap), (K w.params).In h → h.Ns mainGlobals mg → mg d.name = some (.ref fa) → LawAt l.prog w (K w.params) mg fa m)
    (hm : ∀ ns : List Int, ns.length ≤ n → ∃ ds, m [.scr ns] = some (.bl true, ds)) : PySem.W.WalkO q loose XP YP l.row.toRowW d [] (fun f vs => PySem.call f vs) := by
  refine Att.attach_call hn hdf fun w s₀ s₁ mg mb fa o pm cd doc a vs ns G Y ho hd hcd hmg hobj hints hlen hg => ?_
  have KX := hY w _ Y
  exact end_call (fd := default) (x := "script") KX G.T.g G.T.b G.T.builtins G.T.nolimit hg hobj hints (Nat.le_trans hlen hn2) hr (F w mg fa _ KX G.T.g hmg) (hm ns hlen)
/-- the law's def, by its mirror, at callerA -/
theorem law_of {P : Program} {w : World} {K : PySem.W.Frag} {mg : Str → Option Value} {st : Stmt} {f : Addr} {fd : FuncData} {N : List Str} {k : Nat} {body : SM} (F : Fun K "law" "law" st f fd) (hb : ∀ (s : Shared) (u : Value), BindsTo s fd ⟨[u], []⟩ [("script", u)]) (S : FnScope N ["script"] (defScope st)) (hn : 1 ≤ N.length)
    (hr : Room (k + 1) callerA)
    (hbody : ∀ (base : Heap), K.In base → base.Ns mainGlobals mg → ∀ (cdv : Value) (A : Around) (s : Shared) (H : Hp) (E : XK) (vs0 : List V), A.guards = some [] → Room k (A.deeper (envOfC "law" (defScope st) s.heap.objs.size f cdv)) → (∀ i, 1 ≤ i → vs0.length ≤ i) →
      PSs (cxOf CX0 P w K mg base N "law" (defScope st) f cdv A [] s H E).nox (defBody st) (tS (fmk K ⟨mg, w⟩ vs0 N.length) body)) : LawAt P w K mg f (fnM 1 1 N.length body) := by
  intro base hK hg s H u v Q E e0 rv hsp
  obtain ⟨oc, od, kV, doc, pm, an, cdv, ct, osl, rfl, lk, hcd⟩ := F.ex
  have hd := hr.deeper (envOfC "law" (defScope st) s.heap.objs.size f cdv)
  refine run_at (us := [u]) (vs := [v]) lk hcd S rfl hr e0 (hb s u) (.cons rv .nil) (PSs.nox (hbody base hK hg cdv callerA s H E ([v].take 1) rfl hd (fun i hi => by rw [List.length_take]; omega))) ?_
  exact fn_in hn (Nat.le_refl 1) hsp
end Dl

set_option Elab.async false
set_option linter.all false
set_option maxRecDepth 100000
set_option maxHeartbeats 4000000
namespace Lk
open PySem PySem.Spec PyProof.Rows L2 Dl
def top (i : Nat) : Stmt := PySem.Challenge.pw_holdshelf_k10_joined.main.body.getD i (.Pass ⟨0, 0, 0, 0⟩)
/-- what the walk asks of the names of the top -/
structure Txt (K : PySem.W.Frag) (w : World) (mg : Str → Option Value) : Prop where
  z_all : mg "all" = none
  z_bool : mg "bool" = none
  z_dict : mg "dict" = none
  z_isinstance : mg "isinstance" = none
  z_len : mg "len" = none
  z_list : mg "list" = none
  z_max : mg "max" = none
  z_min : mg "min" = none
  z_range : mg "range" = none
  z_repr : mg "repr" = none
  z_sorted : mg "sorted" = none
  z_tuple : mg "tuple" = none
  z : True
/-! needs_of -/
def b_needs_of : SM := (sSeq (sIf (bP (pOp2 opEq (pOp2 opIx (pOp2 opIx (pVar 0) (pC (.int 1))) (pC (.int 0))) (pC (.str "leaf")))) (sRet (eTup aNil)) sNil)
    (sRet (eP (pOp2 opIx (pOp2 opIx (pVar 0) (pC (.int 1))) (pC (.int 1))))))
def m_needs_of : FnM := fnM 1 1 1 b_needs_of
/-! parts_by_name -/
def x1_parts_by_name : EM := (eTup (aE (eP (pOp2 opIx (pVar 1) (pC (.int 0)))) (aE (eP (pVar 1)) aNil)))
def b_parts_by_name : SM := (sRet (eBi opDict (aE (eComp (eP (pVar 0)) (gN 1) bYes x1_parts_by_name [1]) aNil)))
def m_parts_by_name : FnM := fnM 1 1 2 b_parts_by_name
/-! need_names -/
def x1_need_names : EM := (eP (pOp2 opIn (pVar 3) (pVar 2)))
def b_need_names : SM := (sSeq (sAsg (eCall m_parts_by_name (aS 0 aNil)) (gN 2))
    (sIf (bNot (bV (eBi opAll (aE (eComp (eFr 1) (gN 3) bYes x1_need_names [3]) aNil)))) sNo sNil))
def m_need_names : FnM := fnM 2 2 4 b_need_names
/-! kind_of -/
def x1_kind_of : EM := (eP (pOp2 opIx (pVar 1) (pVar 4)))
def b_kind_of : SM := (sSeq (sAsg (eP (pOp2 opIx (pVar 0) (pC (.int 1)))) (gTu [2, 3]))
    (sSeq (sIf (bP (pOp2 opNe (pVar 2) (pC (.str "leaf")))) (sSeq (sAsg (eBi opTuple (aE (eComp (eCall m_needs_of (aS 0 aNil)) (gN 4) bYes x1_kind_of [4]) aNil)) (gN 3))
    (sIf (bP (pOp2 opNe (pVar 2) (pC (.str "less")))) (sAsg (eBi opTuple (aE (eBiP opSortedT [(pVar 3)]) aNil)) (gN 3)) sNil)) sNil)
    (sRet (eTup (aE (eP (pVar 2)) (aE (eP (pVar 3)) (aE (eP (pOp2 opIx (pVar 0) (pC (.int 2)))) (aE (eP (pOp2 opIx (pVar 0) (pC (.int 3)))) aNil))))))))
def m_kind_of : FnM := fnM 2 2 5 b_kind_of
/-! joined -/
def x1_joined : EM := (eP (pOp2 opIx (pVar 2) (pVar 7)))
def w1_joined : SM := (sSeq (sAsg (eCall m_kind_of (aS 4 (aS 2 aNil))) (gN 5))
    (sSeq (sIf (bP (pOp2 (opInN true) (pVar 5) (pVar 1))) (sSeq (sAsg (eP (pOp2 opIx (pVar 4) (pC (.int 0)))) (gStN 1 (pVar 5)))
    (sSeq (sAsg (eP (pOp2 opIx (pVar 4) (pC (.int 1)))) (gN 6))
    (sSeq (sIf (bP (pOp2 opNe (pOp2 opIx (pVar 6) (pC (.int 0))) (pC (.str "leaf")))) (sAsg (eTup (aE (eP (pOp2 opIx (pVar 6) (pC (.int 0)))) (aE (eBi opTuple (aE (eComp (eCall m_needs_of (aS 4 aNil)) (gN 7) bYes x1_joined [7]) aNil)) aNil))) (gN 6)) sNil)
    (sExp (eMt mAppend 3 (aE (eTup (aE (eP (pOp2 opIx (pVar 4) (pC (.int 0)))) (aE (eP (pVar 6)) (aE (eP (pOp2 opIx (pVar 4) (pC (.int 2)))) (aE (eP (pOp2 opIx (pVar 4) (pC (.int 3)))) aNil))))) aNil)))))) sNil)
    (sAsg (eP (pOp2 opIxN (pVar 1) (pVar 5))) (gSt (lVar 2) (pOp2 opIx (pVar 4) (pC (.int 0)))))))
def b_joined : SM := (sSeq (sAsg (eDicN .n) (gN 1))
    (sSeq (sAsg (eDicN .k) (gN 2))
    (sSeq (sAsg (eLst aNil) (gN 3))
    (sSeq (sFor (eP (pVar 0)) (gN 4) w1_joined)
    (sRet (eTup (aE (eP (pBi opTuple [(pVar 3)])) (aE (eMv 2) aNil))))))))
def m_joined : FnM := fnM 1 1 8 b_joined
/-! are_alike -/
def b_are_alike : SM := (sSeq (sExp (eCall m_need_names (aS 0 (aE (eLst (aE (eP (pVar 1)) (aE (eP (pVar 2)) aNil))) aNil))))
    (sSeq (sAsg (eIxT (eCall m_joined (aS 0 aNil)) 1) (gN 3))
    (sRet (eP (pOp2 opEq (pOp2 opIx (pVar 3) (pVar 1)) (pOp2 opIx (pVar 3) (pVar 2)))))))
def m_are_alike : FnM := fnM 3 3 4 b_are_alike
/-! _law_cell_at -/
def b__law_cell_at : SM := (sSeq (sIf (bP (pOp2 opLt (pVar 1) (pBi opLen [(pVar 0)]))) (sRet (eP (pOp2 opIx (pVar 0) (pVar 1)))) sNil)
    (sRet (eP (pC (.int 0)))))
def m__law_cell_at : FnM := fnM 2 2 2 b__law_cell_at
/-! _law_tape -/
def w1__law_tape : SM := (sSeq (sAsg (eP (pOp2 opMod (pOp2 opAdd (pOp2 opAdd (pOp2 opAdd (pOp2 opMulA (pVar 4) (pVar 4)) (pOp2 opMulA (pC (.int 69621)) (pVar 6))) (pVar 2)) (pC (.int 7))) (pVar 3))) (gN 4))
    (sAsg (eP (pOp2 opAdd (pOp2 opMulA (pVar 5) (pVar 3)) (pVar 4))) (gN 5)))
def b__law_tape : SM := (sSeq (sAsg (eCall m__law_cell_at (aS 0 (aS 1 aNil))) (gN 2))
    (sSeq (sIf (bP (pOp2 opEq (pVar 2) (pC (.int 0)))) (sRet (eLst (aE (eP (pC (.int 0))) aNil))) sNil)
    (sSeq (sIf (bP (pOp2 opGe (pVar 2) (pOp2 opPow (pC (.int 10)) (pC (.int 18))))) (sRet (eLst (aE (eP (pOp2 opSub (pVar 2) (pOp2 opPow (pC (.int 10)) (pC (.int 18))))) aNil))) sNil)
    (sSeq (sAsg (eP (pC (.int 2305843009213693951))) (gN 3))
    (sSeq (sAsg (eP (pOp2 opMod (pOp2 opAdd (pOp2 opAdd (pOp2 opMulA (pVar 2) (pC (.int 40692))) (pOp2 opMulA (pC (.int 52774)) (pVar 1))) (pC (.int 31))) (pVar 3))) (gN 4))
    (sSeq (sAsg (eP (pVar 4)) (gN 5))
    (sSeq (sForR1 (eP (pC (.int 20))) (gN 6) w1__law_tape)
    (sRet (eLst (aE (eP (pVar 5)) aNil))))))))))
def m__law_tape : FnM := fnM 2 2 7 b__law_tape
/-! _law_digit -/
def b__law_digit : SM := (sSeq (sAsg (eP (pOp2 opMod (pOp2 opIx (pVar 0) (pC (.int 0))) (pVar 1))) (gN 2))
    (sSeq (sAsg (eP (pOp2 opFdiv (pOp2 opIx (pVar 0) (pC (.int 0))) (pVar 1))) (gSt (lVar 0) (pC (.int 0))))
    (sRet (eP (pVar 2)))))
def m__law_digit : FnM := fnM 2 2 3 b__law_digit
/-! _law_words -/
def x1__law_words : EM := (eP (pOp2 opAdd (pOp2 opIx (pVar 2) (pOp2 opMod (pOp2 opAdd (pVar 4) (pVar 9)) (pC (.int 26)))) (pVar 6)))
def x2__law_words : EM := (eP (pOp2 opMulA (pOp2 opIx (pVar 2) (pOp2 opMod (pOp2 opAdd (pVar 4) (pOp2 opFdiv (pVar 9) (pC (.int 8)))) (pC (.int 26)))) (pOp2 opAdd (pC (.int 1)) (pOp2 opMod (pVar 9) (pC (.int 8))))))
def w1__law_words : SM := (sSeq (sAsg (eP (pOp2 opIx (pVar 2) (pOp2 opMod (pOp2 opAdd (pVar 4) (pOp2 opMulA (pVar 7) (pOp2 opSub (pVar 1) (pVar 9)))) (pC (.int 26))))) (gN 10))
    (sExp (eMt mAppend 8 (aE (eP (pOp2 opAdd (pVar 10) (pOp2 opMulA (pOp2 opIx (pVar 2) (pVar 4)) (pOp2 opMod (pVar 9) (pC (.int 3)))))) aNil))))
def x3__law_words : EM := (eP (pOp2 opIx (pVar 5) (pOp2 opMod (pOp2 opAdd (pVar 4) (pVar 9)) (pC (.int 24)))))
def b__law_words : SM := (sSeq (sAsg (eP (pC (.str "abcdefghijklmnopqrstuvwxyz"))) (gN 2))
    (sSeq (sAsg (eCall m__law_digit (aS 0 (aE (eP (pC (.int 4))) aNil))) (gN 3))
    (sSeq (sAsg (eCall m__law_digit (aS 0 (aE (eP (pC (.int 26))) aNil))) (gN 4))
    (sSeq (sIf (bP (pOp2 opEq (pVar 3) (pC (.int 0)))) (sSeq (sAsg (eIx opIx (eLst (aE (eP (pC (.str ""))) (aE (eP (pC (.str "a"))) (aE (eP (pC (.str "omelons"))) aNil)))) (eCall m__law_digit (aS 0 (aE (eP (pC (.int 3))) aNil)))) (gN 6))
    (sRet (eCompR1 (eP (pVar 1)) (gN 9) bYes x1__law_words [9]))) sNil)
    (sSeq (sIf (bP (pOp2 opEq (pVar 3) (pC (.int 1)))) (sRet (eCompR1 (eP (pVar 1)) (gN 9) bYes x2__law_words [9])) sNil)
    (sSeq (sIf (bP (pOp2 opEq (pVar 3) (pC (.int 2)))) (sSeq (sAsg (eIx opIx (eLst (aE (eP (pC (.int 1))) (aE (eP (pC (.int 3))) (aE (eP (pC (.int 5))) (aE (eP (pC (.int 7))) aNil))))) (eCall m__law_digit (aS 0 (aE (eP (pC (.int 4))) aNil)))) (gN 7))
    (sSeq (sAsg (eLst aNil) (gN 8))
    (sSeq (sForR1 (eP (pVar 1)) (gN 9) w1__law_words)
    (sRet (eMv 8))))) sNil)
    (sSeq (sAsg (eLst (aE (eP (pC (.str "leaf"))) (aE (eP (pC (.str "plus"))) (aE (eP (pC (.str "times"))) (aE (eP (pC (.str "most"))) (aE (eP (pC (.str "less"))) (aE (eP (pC (.str "make"))) (aE (eP (pC (.str "drop"))) (aE (eP (pC (.str "book"))) (aE (eP (pC (.str "worth"))) (aE (eP (pC (.str "ask"))) (aE (eP (pC (.str "change"))) (aE (eP (pC (.str "forget"))) aNil))))))))))))) (gN 5))
    (sSeq (sAsg (eOpN opAdd 5 (eLst (aE (eP (pC (.str "joined"))) (aE (eP (pC (.str "room"))) (aE (eP (pC (.str "once"))) (aE (eP (pC (.str "least"))) (aE (eP (pC (.str "tree"))) (aE (eP (pC (.str "no"))) (aE (eP (pC (.str "ok"))) (aE (eP (pC (.str "shut"))) (aE (eP (pC (.str "a"))) (aE (eP (pC (.str "b"))) (aE (eP (pC (.str "c"))) (aE (eP (pC (.str "zz"))) aNil)))))))))))))) (gN 5))
    (sRet (eCompR1 (eP (pVar 1)) (gN 9) bYes x3__law_words [9]))))))))))
def m__law_words : FnM := fnM 2 2 11 b__law_words
/-! _law_recipe -/
def w1__law_recipe : SM := (sExp (eMt mAppend 5 (aE (eOpV opIx 1 (eOp2 opSub (eP (pOp2 opSub (pBi opLen [(pVar 1)]) (pC (.int 1)))) (eCall m__law_digit (aS 0 (aE (eBi opMin (aE (eP (pBi opLen [(pVar 1)])) (aE (eIx opIx (eLst (aE (eP (pC (.int 2))) (aE (eP (pC (.int 4))) (aE (eP (pC (.int 24))) aNil)))) (eCall m__law_digit (aS 0 (aE (eP (pC (.int 3))) aNil)))) aNil))) aNil))))) aNil)))
def b__law_recipe : SM := (sSeq (sAsg (eCall m__law_digit (aS 0 (aE (eP (pC (.int 8))) aNil))) (gN 2))
    (sSeq (sIf (bOr (bV (eOpN opEq 1 (eLst aNil))) (bP (pOp2 opLt (pVar 2) (pC (.int 2))))) (sRet (eTup (aE (eP (pC (.str "leaf"))) (aE (eIx opIx (eLst (aE (eP (pC (.int 0))) (aE (eP (pC (.int 1))) (aE (eP (pC (.int 2))) (aE (eP (pC (.int 7))) (aE (eP (pC (.int 99))) (aE (eP (pC (.int 50))) (aE (eCall m__law_digit (aS 0 (aE (eP (pC (.int 100))) aNil))) aNil)))))))) (eCall m__law_digit (aS 0 (aE (eP (pC (.int 7))) aNil)))) aNil)))) sNil)
    (sSeq (sAsg (eIxP opIx (eLst (aE (eP (pC (.str "plus"))) (aE (eP (pC (.str "times"))) (aE (eP (pC (.str "most"))) (aE (eP (pC (.str "less"))) (aE (eP (pC (.str "plus"))) (aE (eP (pC (.str "plus"))) aNil))))))) (pOp2 opSub (pVar 2) (pC (.int 2)))) (gN 3))
    (sSeq (sAsg (eIx opIx (eLst (aE (eP (pC (.int 1))) (aE (eP (pC (.int 2))) (aE (eP (pC (.int 2))) (aE (eP (pC (.int 3))) (aE (eP (pC (.int 4))) (aE (eP (pC (.int 2))) aNil))))))) (eCall m__law_digit (aS 0 (aE (eP (pC (.int 6))) aNil)))) (gN 4))
    (sSeq (sIf (bP (pOp2 opEq (pVar 3) (pC (.str "less")))) (sAsg (eP (pC (.int 2))) (gN 4)) sNil)
    (sSeq (sAsg (eLst aNil) (gN 5))
    (sSeq (sForR1 (eP (pVar 4)) (gN 6) w1__law_recipe)
    (sRet (eTup (aE (eP (pVar 3)) (aE (eP (pBi opTuple [(pVar 5)])) aNil)))))))))))
def m__law_recipe : FnM := fnM 2 2 7 b__law_recipe
/-! _law_number -/
def b__law_number : SM := (sRet (eIx opIx (eLst (aE (eP (pC (.int 1))) (aE (eP (pC (.int 1))) (aE (eP (pC (.int 2))) (aE (eP (pC (.int 3))) (aE (eOp2 opAdd (eP (pC (.int 1))) (eCall m__law_digit (aS 0 (aE (eP (pC (.int 9))) aNil)))) aNil)))))) (eCall m__law_digit (aS 0 (aE (eP (pC (.int 5))) aNil)))))
def m__law_number : FnM := fnM 1 1 1 b__law_number
/-! _law_again -/
def b__law_again : SM := (sSeq (sIf (bP (pOp2 opEq (pOp2 opIx (pVar 1) (pC (.int 0))) (pC (.str "leaf")))) (sRet (eP (pVar 1))) sNil)
    (sSeq (sIf (bP (pOp2 opEq (pOp2 opIx (pVar 1) (pC (.int 0))) (pC (.str "less")))) (sRet (eTup (aE (eP (pC (.str "less"))) (aE (eOp2 opStp (eP (pOp2 opIx (pVar 1) (pC (.int 1)))) (eIx opIx (eLst (aE (eP (pC (.int 1))) (aE (eP (pC (.int 1))) (aE (eP (pOp1 opNeg (pC (.int 1)))) aNil)))) (eCall m__law_digit (aS 0 (aE (eP (pC (.int 3))) aNil))))) aNil)))) sNil)
    (sSeq (sAsg (eBiP opList [(pOp2 opIx (pVar 1) (pC (.int 1)))]) (gN 2))
    (sSeq (sAsg (eCall m__law_digit (aS 0 (aE (eP (pBi opLen [(pVar 2)])) aNil))) (gN 3))
    (sSeq (sIf (bV (eOpP opEq (eCall m__law_digit (aS 0 (aE (eP (pC (.int 4))) aNil))) (pC (.int 0)))) (sAsg (eOpV opIx 2 (eCall m__law_digit (aS 0 (aE (eP (pBi opLen [(pVar 2)])) aNil)))) (gSt (lVar 2) (pVar 3))) sNil)
    (sRet (eTup (aE (eP (pOp2 opIx (pVar 1) (pC (.int 0)))) (aE (eBi opTuple (aE (eOp2 opAdd (ePO (pSl (pVar 2) (some (pVar 3)) none)) (ePO (pSl (pVar 2) none (some (pVar 3))))) aNil)) aNil)))))))))
def m__law_again : FnM := fnM 2 2 4 b__law_again
/-! _law_book -/
def w1__law_book : SM := (sSeq (sAsg (eTup (aE (eP (pOp2 opIx (pVar 5) (pVar 7))) (aE (eCall m__law_recipe (aS 3 (aE (ePO (pSl (pVar 5) none (some (pVar 7)))) aNil))) (aE (eCall m__law_number (aS 3 aNil)) (aE (eCall m__law_number (aS 3 aNil)) aNil))))) (gN 8))
    (sSeq (sIf (bAnd (bP (pOp2 opGt (pVar 7) (pC (.int 0)))) (bV (eOpP opEq (eCall m__law_digit (aS 3 (aE (eP (pC (.int 4))) aNil))) (pC (.int 0))))) (sSeq (sAsg (eOpV opIx 6 (eCall m__law_digit (aS 3 (aS 7 aNil)))) (gN 9))
    (sAsg (eTup (aE (eP (pOp2 opIx (pVar 5) (pVar 7))) (aE (eCall m__law_again (aS 3 (aE (eP (pOp2 opIx (pVar 9) (pC (.int 1)))) aNil))) (aE (eP (pOp2 opIx (pVar 9) (pC (.int 2)))) (aE (eP (pOp2 opIx (pVar 9) (pC (.int 3)))) aNil))))) (gN 8))) sNil)
    (sExp (eMt mAppend 6 (aE (eP (pVar 8)) aNil)))))
def b__law_book : SM := (sSeq (sAsg (eCall m__law_tape (aS 0 (aS 1 aNil))) (gN 3))
    (sSeq (sAsg (eOp2 opAdd (eP (pC (.int 1))) (eCall m__law_digit (aS 3 (aS 2 aNil)))) (gN 4))
    (sSeq (sAsg (eCall m__law_words (aS 3 (aS 4 aNil))) (gN 5))
    (sSeq (sAsg (eLst aNil) (gN 6))
    (sSeq (sForR1 (eP (pVar 4)) (gN 7) w1__law_book)
    (sRet (eP (pBi opTuple [(pVar 6)]))))))))
def m__law_book : FnM := fnM 3 3 10 b__law_book
/-! _law_joined -/
def x1__law_joined : EM := (eP (pOp2 opIx (pVar 1) (pVar 10)))
def w1__law_joined : SM := (sWp [4, 5, 6, 7, 8, 9] (sSeq (sAsg (eP (pVar 5)) (gN 8))
    (sSeq (sIf (bP (pOp2 opNe (pOp2 opIx (pVar 5) (pC (.int 0))) (pC (.str "leaf")))) (sAsg (eTup (aE (eP (pOp2 opIx (pVar 5) (pC (.int 0)))) (aE (eBi opTuple (aE (eComp (eP (pOp2 opIx (pVar 5) (pC (.int 1)))) (gN 10) bYes x1__law_joined [10]) aNil)) aNil))) (gN 8)) sNil)
    (sSeq (sAsg (eLst (aE (eP (pOp2 opIx (pVar 8) (pC (.int 0)))) (aE (eP (pOp2 opIx (pVar 8) (pC (.int 1)))) (aE (eP (pVar 6)) (aE (eP (pVar 7)) aNil))))) (gN 9))
    (sSeq (sIf (bP (pOp2 opIn (pOp2 opIx (pVar 5) (pC (.int 0))) (pTup [(pC (.str "plus")), (pC (.str "times")), (pC (.str "most"))]))) (sAsg (eBiP opSortedT [(pOp2 opIx (pVar 8) (pC (.int 1)))]) (gSt (lVar 9) (pC (.int 1)))) sNil)
    (sSeq (sIf (bP (pOp2 opNi (pVar 9) (pVar 2))) (sSeq (sExp (eMt mAppend 3 (aE (eTup (aE (eP (pVar 4)) (aE (eP (pVar 8)) (aE (eP (pVar 6)) (aE (eP (pVar 7)) aNil))))) aNil)))
    (sExp (eMt mAppend 2 (aE (eFr 9) aNil)))) sNil)
    (sAsg (eP (pOp2 opIx (pOp2 opIx (pVar 3) (pIdx (pVar 2) (pVar 9))) (pC (.int 0)))) (gSt (lVar 1) (pVar 4)))))))))
def b__law_joined : SM := (sSeq (sAsg (eDicN .k) (gN 1))
    (sSeq (sAsg (eLst aNil) (gN 2))
    (sSeq (sAsg (eLst aNil) (gN 3))
    (sSeq (sWp [4, 5, 6, 7, 8, 9] (sFor (eP (pVar 0)) (gTu [4, 5, 6, 7]) w1__law_joined))
    (sRet (eTup (aE (eP (pBi opTuple [(pVar 3)])) (aE (eMv 1) aNil))))))))
def m__law_joined : FnM := fnM 1 1 11 b__law_joined
/-! law -/
def w1_law : SM := (sWp [3, 8] (sSeq (sAsg (eCall m_joined (aS 2 aNil)) (gN 8))
    (sSeq (sIf (bOr (bNot (bP (pIsi "tuple" (pVar 8)))) (bOr (bP (pOp2 opNe (pBi opLen [(pVar 8)]) (pC (.int 2)))) (bNot (bP (pIsi "dict" (pOp2 opIx (pVar 8) (pC (.int 1)))))))) (sRet (eP (pC (.bl false)))) sNil)
    (sSeq (sIf (bOr (bP (pOp2 opNe (pBi opRepr [(pOp2 opIx (pVar 8) (pC (.int 0)))]) (pBi opRepr [(pVar 6)]))) (bP (pOp2 opNeX (pOp2 opIx (pVar 8) (pC (.int 1))) (pVar 7)))) (sRet (eP (pC (.bl false)))) sNil)
    (sExp (eMtL mDClear (lIx (lVar 8) (pC (.int 1))) []))))))
def x1_law : EM := (eP (pOp2 opIx (pVar 12) (pC (.int 0))))
def w2_law : SM := (sWp [3, 9, 10, 11] (sSeq (sAsg (eOpV opIx 5 (eCall m__law_digit (aS 4 (aE (eP (pBi opLen [(pVar 5)])) aNil)))) (gN 9))
    (sSeq (sAsg (eOpV opIx 5 (eCall m__law_digit (aS 4 (aE (eP (pBi opLen [(pVar 5)])) aNil)))) (gN 10))
    (sSeq (sAsg (eCall m_are_alike (aS 2 (aS 9 (aS 10 aNil)))) (gN 11))
    (sIf (bOr (bNot (bP (pIsi "bool" (pVar 11)))) (bP (pOp2 opNe (pVar 11) (pOp2 opEq (pOp2 opIx (pVar 7) (pVar 9)) (pOp2 opIx (pVar 7) (pVar 10)))))) (sRet (eP (pC (.bl false)))) sNil)))))
def w3_law : SM := (sWp [1, 2, 3, 4, 5, 6, 7, 8, 9, 10, 11] (sSeq (sAsg (eCall m__law_book (aS 0 (aS 1 (aE (eP (pC (.int 24))) aNil)))) (gN 2))
    (sSeq (sAsg (eCall m__law_joined (aS 2 aNil)) (gTu [6, 7]))
    (sSeq (sWp [3, 8] (sForR1 (eP (pC (.int 2))) (gN 3) w1_law))
    (sSeq (sAsg (eCall m__law_tape (aS 0 (aE (eP (pOp2 opAdd (pVar 1) (pC (.int 6)))) aNil))) (gN 4))
    (sSeq (sAsg (eComp (eP (pVar 2)) (gN 12) bYes x1_law [12]) (gN 5))
    (sWp [3, 9, 10, 11] (sForR1 (eP (pC (.int 8))) (gN 3) w2_law))))))))
def b_law : SM := (sSeq (sWp [1, 2, 3, 4, 5, 6, 7, 8, 9, 10, 11] (sForR2 (eP (pC (.int 0))) (eP (pBi opMax [(pC (.int 1)), (pBi opMin [(pC (.int 4)), (pBi opLen [(pVar 0)])])])) (gN 1) w3_law))
    (sRet (eP (pC (.bl true)))))
def m_law : FnM := fnM 1 1 13 b_law
section
variable {P : Program} {w : World} {K : PySem.W.Frag} {mg : Str → Option Value} {base : Heap}
theorem sc_needs_of : FnScope ["part"] ["part"] (defScope (top 4)) := ⟨rfl, rfl, rfl, by decide +kernel, rfl, by decide +kernel, by decide +kernel⟩
theorem ok_needs_of (T : Txt K w mg) {f : Addr} {fd : FuncData} (F : Fun K "needs_of" "needs_of" (top 4) f fd) (hm : mg "needs_of" = some (.ref f)) (b : Binds K fd ["part"] []) : Cl P w K mg base 1 "needs_of" m_needs_of :=
  cl_of F hm F.kp b sc_needs_of rfl (by decide) (by decide) fun cdv A outer s H E vs0 hr hp hq =>
    (s_cons (s_if ((pt_cmpR (op_eqA (h64_of hr)) (p_ix (h1_of hr) (p_ix (h1_of hr) (p_var 0) p_int) p_int) p_str (nomark _)).imp (imp_bPt (imp_p2 r_eq))) (s_one (s_ret (e_tup a_nil))) s_nil)
    (s_one (s_ret (p_ix (h1_of hr) (p_ix (h1_of hr) (p_var 0) p_int) p_int).p)))
theorem sc_parts_by_name : FnScope ["book", "part"] ["book"] (defScope (top 5)) := ⟨rfl, rfl, rfl, by decide +kernel, rfl, by decide +kernel, by decide +kernel⟩
theorem ok_parts_by_name (T : Txt K w mg) {f : Addr} {fd : FuncData} (F : Fun K "parts_by_name" "parts_by_name" (top 5) f fd) (hm : mg "parts_by_name" = some (.ref f)) (b : Binds K fd ["book"] []) : Cl P w K mg base 1 "parts_by_name" m_parts_by_name :=
  cl_of F hm F.kp b sc_parts_by_name rfl (by decide) (by decide) fun cdv A outer s H E vs0 hr hp hq =>
    (s_one (s_ret ((pe_callTy (c_dict rfl) (by rfl) T.z_dict (by rfl) (a_e (e_comp rfl sc_parts_by_name.nd (p_var 0).p (own := [("part", 1)]) (blk_ok (N := ["book", "part"]) (sc := defScope (top 5)) (by decide +kernel)) (gt_n 1 (hp 1 (by decide)) (by show 1 < 2; decide) (by simp)) (by intro i hi; simp only [List.map_cons, List.map_nil, List.mem_cons, List.not_mem_nil, or_false] at hi; exact hp i (by omega)) (fun _ _ _ _ _ => (pg_name sc_parts_by_name.nd rfl (Or.inl rfl) (Or.inr rfl))) (fun _ _ _ _ _ => ts_nil) (fun _ _ _ _ _ => (e_tup (a_e (p_ix (h1_of hr) (p_var 1) p_int).p (a_e (p_var 1).p a_nil))))) a_nil)).imp (imp_biE r_dict))))
theorem sc_need_names : FnScope ["book", "names", "parts", "name"] ["book", "names"] (defScope (top 7)) := ⟨rfl, rfl, rfl, by decide +kernel, rfl, by decide +kernel, by decide +kernel⟩
theorem ok_need_names (T : Txt K w mg) {f : Addr} {fd : FuncData} (F : Fun K "need_names" "need_names" (top 7) f fd) (hm : mg "need_names" = some (.ref f)) (b : Binds K fd ["book", "names"] []) (c_parts_by_name : Cl P w K mg base 1 "parts_by_name" m_parts_by_name) : Cl P w K mg base 2 "need_names" m_need_names :=
  cl_of F hm F.kp b sc_need_names rfl (by decide) (by decide) fun cdv A outer s H E vs0 hr hp hq =>
    (s_cons (s_set 2 (hp 2 (by decide)) sc_need_names.nd (e_callC c_parts_by_name hr (by decide) (a_s 0 a_nil)))
    (s_one (s_if (b_not (b_val ((pe_callB (cr_all rfl) (by rfl) T.z_all (by rfl) (a_e (e_comp rfl sc_need_names.nd (e_fr 1) (own := [("name", 3)]) (blk_ok (N := ["book", "names", "parts", "name"]) (sc := defScope (top 7)) (by decide +kernel)) (gt_n 3 (hp 3 (by decide)) (by show 3 < 4; decide) (by simp)) (by intro i hi; simp only [List.map_cons, List.map_nil, List.mem_cons, List.not_mem_nil, or_false] at hi; exact hp i (by omega)) (fun _ _ _ _ _ => (pg_name sc_need_names.nd rfl (Or.inl rfl) (Or.inr rfl))) (fun _ _ _ _ _ => ts_nil) (fun _ _ _ _ _ => ((pe_cmpR (op_inAll (h65_of hr)) (p_var 3) (p_var 2) (by rfl)).imp (imp_p2 r_in)).p)) a_nil)).imp (imp_biE r_all)))) (s_one s_no) s_nil)))
theorem sc_kind_of : FnScope ["part", "standing", "word", "told", "name"] ["part", "standing"] (defScope (top 9)) := ⟨rfl, rfl, rfl, by decide +kernel, rfl, by decide +kernel, by decide +kernel⟩
theorem ok_kind_of (T : Txt K w mg) {f : Addr} {fd : FuncData} (F : Fun K "kind_of" "kind_of" (top 9) f fd) (hm : mg "kind_of" = some (.ref f)) (b : Binds K fd ["part", "standing"] []) (c_needs_of : Cl P w K mg base 1 "needs_of" m_needs_of) : Cl P w K mg base 2 "kind_of" m_kind_of :=
  cl_of F hm F.kp b sc_kind_of rfl (by decide) (by decide) fun cdv A outer s H E vs0 hr hp hq =>
    (s_cons (s_asg (p_ix (h1_of hr) (p_var 0) p_int).p (g_tup [2, 3] (by intro i hi; simp only [List.mem_cons, List.not_mem_nil, or_false] at hi; exact ⟨hp i (by omega), by show i < 5; omega⟩) rfl (gs_cons 2 sc_kind_of.nd (gs_cons 3 sc_kind_of.nd gs_nil))))
    (s_cons (s_if ((pt_cmpR (op_neA (h64_of hr)) (p_var 2) p_str (nomark _)).imp (imp_bPt (imp_p2 r_ne))) (s_cons (s_set 3 (hp 3 (by decide)) sc_kind_of.nd ((pe_callTy c_tuple (by rfl) T.z_tuple (by rfl) (a_e (e_comp rfl sc_kind_of.nd (e_callC c_needs_of hr (by decide) (a_s 0 a_nil)) (own := [("name", 4)]) (blk_ok (N := ["part", "standing", "word", "told", "name"]) (sc := defScope (top 9)) (by decide +kernel)) (gt_n 4 (hp 4 (by decide)) (by show 4 < 5; decide) (by simp)) (by intro i hi; simp only [List.map_cons, List.map_nil, List.mem_cons, List.not_mem_nil, or_false] at hi; exact hp i (by omega)) (fun _ _ _ _ _ => (pg_name sc_kind_of.nd rfl (Or.inl rfl) (Or.inr rfl))) (fun _ _ _ _ _ => ts_nil) (fun _ _ _ _ _ => (p_ix (h1_of hr) (p_var 1) (p_var 4)).p)) a_nil)).imp (imp_biE r_tuple)))
    (s_one (s_if ((pt_cmpR (op_neA (h64_of hr)) (p_var 2) p_str (nomark _)).imp (imp_bPt (imp_p2 r_ne))) (s_one (s_set 3 (hp 3 (by decide)) sc_kind_of.nd ((pe_callTy c_tuple (by rfl) T.z_tuple (by rfl) (a_e ((pe_callB cr_sortedTS (by rfl) T.z_sorted (by rfl) (ap_cons (p_var 3) ap_nil)).imp (imp_biP r_sortedT)) a_nil)).imp (imp_biE r_tuple)))) s_nil))) s_nil)
    (s_one (s_ret (e_tup (a_e (p_var 2).p (a_e (p_var 3).p (a_e (p_ix (h1_of hr) (p_var 0) p_int).p (a_e (p_ix (h1_of hr) (p_var 0) p_int).p a_nil)))))))))
theorem sc_joined : FnScope ["book", "kinds", "standing", "found", "part", "kind", "recipe", "name"] ["book"] (defScope (top 10)) := ⟨rfl, rfl, rfl, by decide +kernel, rfl, by decide +kernel, by decide +kernel⟩
theorem ok_joined (T : Txt K w mg) {f : Addr} {fd : FuncData} (F : Fun K "joined" "joined" (top 10) f fd) (hm : mg "joined" = some (.ref f)) (b : Binds K fd ["book"] []) (c_kind_of : Cl P w K mg base 2 "kind_of" m_kind_of) (c_needs_of : Cl P w K mg base 1 "needs_of" m_needs_of) : Cl P w K mg base 3 "joined" m_joined :=
  cl_of F hm F.kp b sc_joined rfl (by decide) (by decide) fun cdv A outer s H E vs0 hr hp hq =>
    (s_cons (s_set 1 (hp 1 (by decide)) sc_joined.nd e_dicNN)
    (s_cons (s_set 2 (hp 2 (by decide)) sc_joined.nd e_dicK)
    (s_cons (s_set 3 (hp 3 (by decide)) sc_joined.nd (e_lst a_nil))
    (s_cons (s_for rfl PassesOwn.never (p_var 0).p (g_name 4 (hp 4 (by decide)) sc_joined.nd) (s_cons (s_set 5 (hp 5 (by decide)) sc_joined.nd (e_callC c_kind_of hr (by decide) (a_s 4 (a_s 2 a_nil))))
    (s_cons (s_if (t_niN (h65_of hr) (p_var 5) (p_var 1)) (s_cons (s_asg (p_ix (h1_of hr) (p_var 4) p_int).p (g_stN 1 (h65_of hr) (p_var 5)))
    (s_cons (s_set 6 (hp 6 (by decide)) sc_joined.nd (p_ix (h1_of hr) (p_var 4) p_int).p)
    (s_cons (s_if ((pt_cmpR (op_neA (h64_of hr)) (p_ix (h1_of hr) (p_var 6) p_int) p_str (nomark _)).imp (imp_bPt (imp_p2 r_ne))) (s_one (s_set 6 (hp 6 (by decide)) sc_joined.nd (e_tup (a_e (p_ix (h1_of hr) (p_var 6) p_int).p (a_e ((pe_callTy c_tuple (by rfl) T.z_tuple (by rfl) (a_e (e_comp rfl sc_joined.nd (e_callC c_needs_of hr (by decide) (a_s 4 a_nil)) (own := [("name", 7)]) (blk_ok (N := ["book", "kinds", "standing", "found", "part", "kind", "recipe", "name"]) (sc := defScope (top 10)) (by decide +kernel)) (gt_n 7 (hp 7 (by decide)) (by show 7 < 8; decide) (by simp)) (by intro i hi; simp only [List.map_cons, List.map_nil, List.mem_cons, List.not_mem_nil, or_false] at hi; exact hp i (by omega)) (fun _ _ _ _ _ => (pg_name sc_joined.nd rfl (Or.inl rfl) (Or.inr rfl))) (fun _ _ _ _ _ => ts_nil) (fun _ _ _ _ _ => (p_ix (h1_of hr) (p_var 2) (p_var 7)).p)) a_nil)).imp (imp_biE r_tuple)) a_nil))))) s_nil)
    (s_one (s_exp ((pe_bm PySem.F.plainAttrs_list PySem.F.slot_list_append PySem.F.type_list_append mt_append (pv 3) (a_e (e_tup (a_e (p_ix (h1_of hr) (p_var 4) p_int).p (a_e (p_var 6).p (a_e (p_ix (h1_of hr) (p_var 4) p_int).p (a_e (p_ix (h1_of hr) (p_var 4) p_int).p a_nil))))) a_nil)).imp (imp_mt rm_append ty_append))))))) s_nil)
    (s_one (s_asg (p_ixN (h65_of hr) (p_var 1) (p_var 5)).p (g_st (h1_of hr) (l_var 2) (p_ix (h1_of hr) (p_var 4) p_int)))))))
    (s_one (s_ret (e_tup (a_e ((pe_callTy c_tuple (by rfl) T.z_tuple (by rfl) (ap_cons (p_var 3) ap_nil)).imp (imp_bi r_tuple)).p (a_e (e_mv 2) a_nil)))))))))
theorem sc_are_alike : FnScope ["book", "one", "other", "standing"] ["book", "one", "other"] (defScope (top 11)) := ⟨rfl, rfl, rfl, by decide +kernel, rfl, by decide +kernel, by decide +kernel⟩
theorem ok_are_alike (T : Txt K w mg) {f : Addr} {fd : FuncData} (F : Fun K "are_alike" "are_alike" (top 11) f fd) (hm : mg "are_alike" = some (.ref f)) (b : Binds K fd ["book", "one", "other"] []) (c_need_names : Cl P w K mg base 2 "need_names" m_need_names) (c_joined : Cl P w K mg base 3 "joined" m_joined) : Cl P w K mg base 4 "are_alike" m_are_alike :=
  cl_of F hm F.kp b sc_are_alike rfl (by decide) (by decide) fun cdv A outer s H E vs0 hr hp hq =>
    (s_cons (s_exp (e_callC c_need_names hr (by decide) (a_s 0 (a_e (e_lst (a_e (p_var 1).p (a_e (p_var 2).p a_nil))) a_nil))))
    (s_cons (s_set 3 (hp 3 (by decide)) sc_are_alike.nd (e_ixT 1 (h1_of hr) (e_callC c_joined hr (by decide) (a_s 0 a_nil))))
    (s_one (s_ret ((pe_cmpR (op_eqA (h64_of hr)) (p_ix (h1_of hr) (p_var 3) (p_var 1)) (p_ix (h1_of hr) (p_var 3) (p_var 2)) (nomark _)).imp (imp_p2 r_eq)).p))))
theorem sc__law_cell_at : FnScope ["script", "k"] ["script", "k"] (defScope (top 13)) := ⟨rfl, rfl, rfl, by decide +kernel, rfl, by decide +kernel, by decide +kernel⟩
theorem ok__law_cell_at (T : Txt K w mg) {f : Addr} {fd : FuncData} (F : Fun K "_law_cell_at" "_law_cell_at" (top 13) f fd) (hm : mg "_law_cell_at" = some (.ref f)) (b : Binds K fd ["script", "k"] []) : Cl P w K mg base 1 "_law_cell_at" m__law_cell_at :=
  cl_of F hm F.kp b sc__law_cell_at rfl (by decide) (by decide) fun cdv A outer s H E vs0 hr hp hq =>
    (s_cons (s_if ((pt_cmpR op_lt (p_var 1) ((pe_callB c_len (by rfl) T.z_len (by rfl) (ap_cons (p_var 0) ap_nil)).imp (imp_bi r_len)) (nomark _)).imp (imp_bPt (imp_p2 r_lt))) (s_one (s_ret (p_ix (h1_of hr) (p_var 0) (p_var 1)).p)) s_nil)
    (s_one (s_ret p_int.p)))
theorem sc__law_tape : FnScope ["script", "k", "cell", "p", "one", "found", "turn"] ["script", "k"] (defScope (top 14)) := ⟨rfl, rfl, rfl, by decide +kernel, rfl, by decide +kernel, by decide +kernel⟩
theorem ok__law_tape (T : Txt K w mg) {f : Addr} {fd : FuncData} (F : Fun K "_law_tape" "_law_tape" (top 14) f fd) (hm : mg "_law_tape" = some (.ref f)) (b : Binds K fd ["script", "k"] []) (c__law_cell_at : Cl P w K mg base 1 "_law_cell_at" m__law_cell_at) : Cl P w K mg base 2 "_law_tape" m__law_tape :=
  cl_of F hm F.kp b sc__law_tape rfl (by decide) (by decide) fun cdv A outer s H E vs0 hr hp hq =>
    (s_cons (s_set 2 (hp 2 (by decide)) sc__law_tape.nd (e_callC c__law_cell_at hr (by decide) (a_s 0 (a_s 1 a_nil))))
    (s_cons (s_if ((pt_cmpR (op_eqA (h64_of hr)) (p_var 2) p_int (nomark _)).imp (imp_bPt (imp_p2 r_eq))) (s_one (s_ret (e_lst (a_e p_int.p a_nil)))) s_nil)
    (s_cons (s_if ((pt_cmpR op_ge (p_var 2) ((pe_op op_pow p_int p_int).imp (imp_p2 r_pow)) (nomark _)).imp (imp_bPt (imp_p2 r_ge))) (s_one (s_ret (e_lst (a_e ((pe_op op_sub (p_var 2) ((pe_op op_pow p_int p_int).imp (imp_p2 r_pow))).imp (imp_p2 r_sub)).p a_nil)))) s_nil)
    (s_cons (s_set 3 (hp 3 (by decide)) sc__law_tape.nd p_int.p)
    (s_cons (s_set 4 (hp 4 (by decide)) sc__law_tape.nd ((pe_op op_mod ((pe_op op_addD ((pe_op op_addD ((pe_op op_mulA (p_var 2) p_int).imp (imp_p2 r_mulA)) ((pe_op op_mulA p_int (p_var 1)).imp (imp_p2 r_mulA))).imp (imp_p2 r_add)) p_int).imp (imp_p2 r_add)) (p_var 3)).imp (imp_p2 r_mod)).p)
    (s_cons (s_set 5 (hp 5 (by decide)) sc__law_tape.nd (p_var 4).p)
    (s_cons (s_for1 rfl PassesOwn.never T.z_range p_int.p (g_name 6 (hp 6 (by decide)) sc__law_tape.nd) (s_cons (s_set 4 (hp 4 (by decide)) sc__law_tape.nd ((pe_op op_mod ((pe_op op_addD ((pe_op op_addD ((pe_op op_addD ((pe_op op_mulA (p_var 4) (p_var 4)).imp (imp_p2 r_mulA)) ((pe_op op_mulA p_int (p_var 6)).imp (imp_p2 r_mulA))).imp (imp_p2 r_add)) (p_var 2)).imp (imp_p2 r_add)) p_int).imp (imp_p2 r_add)) (p_var 3)).imp (imp_p2 r_mod)).p)
    (s_one (s_set 5 (hp 5 (by decide)) sc__law_tape.nd ((pe_op op_addD ((pe_op op_mulA (p_var 5) (p_var 3)).imp (imp_p2 r_mulA)) (p_var 4)).imp (imp_p2 r_add)).p))))
    (s_one (s_ret (e_lst (a_e (p_var 5).p a_nil)))))))))))
theorem sc__law_digit : FnScope ["tape", "many", "found"] ["tape", "many"] (defScope (top 15)) := ⟨rfl, rfl, rfl, by decide +kernel, rfl, by decide +kernel, by decide +kernel⟩
theorem ok__law_digit (T : Txt K w mg) {f : Addr} {fd : FuncData} (F : Fun K "_law_digit" "_law_digit" (top 15) f fd) (hm : mg "_law_digit" = some (.ref f)) (b : Binds K fd ["tape", "many"] []) : Cl P w K mg base 1 "_law_digit" m__law_digit :=
  cl_of F hm F.kp b sc__law_digit rfl (by decide) (by decide) fun cdv A outer s H E vs0 hr hp hq =>
    (s_cons (s_set 2 (hp 2 (by decide)) sc__law_digit.nd ((pe_op op_mod (p_ix (h1_of hr) (p_var 0) p_int) (p_var 1)).imp (imp_p2 r_mod)).p)
    (s_cons (s_asg ((pe_op op_fdiv (p_ix (h1_of hr) (p_var 0) p_int) (p_var 1)).imp (imp_p2 r_fdiv)).p (g_st (h1_of hr) (l_var 0) p_int))
    (s_one (s_ret (p_var 2).p))))
theorem sc__law_words : FnScope ["tape", "many", "letters", "way", "turn", "some", "ends", "step", "found", "k", "first"] ["tape", "many"] (defScope (top 16)) := ⟨rfl, rfl, rfl, by decide +kernel, rfl, by decide +kernel, by decide +kernel⟩
theorem ok__law_words (T : Txt K w mg) {f : Addr} {fd : FuncData} (F : Fun K "_law_words" "_law_words" (top 16) f fd) (hm : mg "_law_words" = some (.ref f)) (b : Binds K fd ["tape", "many"] []) (c__law_digit : Cl P w K mg base 1 "_law_digit" m__law_digit) : Cl P w K mg base 2 "_law_words" m__law_words :=
  cl_of F hm F.kp b sc__law_words rfl (by decide) (by decide) fun cdv A outer s H E vs0 hr hp hq =>
    (s_cons (s_set 2 (hp 2 (by decide)) sc__law_words.nd p_str.p)
    (s_cons (s_set 3 (hp 3 (by decide)) sc__law_words.nd (e_callC c__law_digit hr (by decide) (a_s 0 (a_e p_int.p a_nil))))
    (s_cons (s_set 4 (hp 4 (by decide)) sc__law_words.nd (e_callC c__law_digit hr (by decide) (a_s 0 (a_e p_int.p a_nil))))
    (s_cons (s_if ((pt_cmpR (op_eqA (h64_of hr)) (p_var 3) p_int (nomark _)).imp (imp_bPt (imp_p2 r_eq))) (s_cons (s_set 6 (hp 6 (by decide)) sc__law_words.nd (e_ix (h1_of hr) (e_lst (a_e p_str.p (a_e p_str.p (a_e p_str.p a_nil)))) (e_callC c__law_digit hr (by decide) (a_s 0 (a_e p_int.p a_nil)))))
    (s_one (s_ret (e_comp1 rfl sc__law_words.nd T.z_range (p_var 1).p (own := [("k", 9)]) (blk_ok (N := ["tape", "many", "letters", "way", "turn", "some", "ends", "step", "found", "k", "first"]) (sc := defScope (top 16)) (by decide +kernel)) (gt_n 9 (hp 9 (by decide)) (by show 9 < 11; decide) (by simp)) (by intro i hi; simp only [List.map_cons, List.map_nil, List.mem_cons, List.not_mem_nil, or_false] at hi; exact hp i (by omega)) (fun _ _ _ _ _ => (pg_name sc__law_words.nd rfl (Or.inl rfl) (Or.inr rfl))) (fun _ _ _ _ _ => ts_nil) (fun _ _ _ _ _ => ((pe_op op_addD (p_ix (h1_of hr) (p_var 2) ((pe_op op_mod ((pe_op op_addD (p_var 4) (p_var 9)).imp (imp_p2 r_add)) p_int).imp (imp_p2 r_mod))) (p_var 6)).imp (imp_p2 r_add)).p))))) s_nil)
    (s_cons (s_if ((pt_cmpR (op_eqA (h64_of hr)) (p_var 3) p_int (nomark _)).imp (imp_bPt (imp_p2 r_eq))) (s_one (s_ret (e_comp1 rfl sc__law_words.nd T.z_range (p_var 1).p (own := [("k", 9)]) (blk_ok (N := ["tape", "many", "letters", "way", "turn", "some", "ends", "step", "found", "k", "first"]) (sc := defScope (top 16)) (by decide +kernel)) (gt_n 9 (hp 9 (by decide)) (by show 9 < 11; decide) (by simp)) (by intro i hi; simp only [List.map_cons, List.map_nil, List.mem_cons, List.not_mem_nil, or_false] at hi; exact hp i (by omega)) (fun _ _ _ _ _ => (pg_name sc__law_words.nd rfl (Or.inl rfl) (Or.inr rfl))) (fun _ _ _ _ _ => ts_nil) (fun _ _ _ _ _ => ((pe_op op_mulA (p_ix (h1_of hr) (p_var 2) ((pe_op op_mod ((pe_op op_addD (p_var 4) ((pe_op op_fdiv (p_var 9) p_int).imp (imp_p2 r_fdiv))).imp (imp_p2 r_add)) p_int).imp (imp_p2 r_mod))) ((pe_op op_addD p_int ((pe_op op_mod (p_var 9) p_int).imp (imp_p2 r_mod))).imp (imp_p2 r_add))).imp (imp_p2 r_mulA)).p)))) s_nil)
    (s_cons (s_if ((pt_cmpR (op_eqA (h64_of hr)) (p_var 3) p_int (nomark _)).imp (imp_bPt (imp_p2 r_eq))) (s_cons (s_set 7 (hp 7 (by decide)) sc__law_words.nd (e_ix (h1_of hr) (e_lst (a_e p_int.p (a_e p_int.p (a_e p_int.p (a_e p_int.p a_nil))))) (e_callC c__law_digit hr (by decide) (a_s 0 (a_e p_int.p a_nil)))))
    (s_cons (s_set 8 (hp 8 (by decide)) sc__law_words.nd (e_lst a_nil))
    (s_cons (s_for1 rfl PassesOwn.never T.z_range (p_var 1).p (g_name 9 (hp 9 (by decide)) sc__law_words.nd) (s_cons (s_set 10 (hp 10 (by decide)) sc__law_words.nd (p_ix (h1_of hr) (p_var 2) ((pe_op op_mod ((pe_op op_addD (p_var 4) ((pe_op op_mulA (p_var 7) ((pe_op op_sub (p_var 1) (p_var 9)).imp (imp_p2 r_sub))).imp (imp_p2 r_mulA))).imp (imp_p2 r_add)) p_int).imp (imp_p2 r_mod))).p)
    (s_one (s_exp ((pe_bm PySem.F.plainAttrs_list PySem.F.slot_list_append PySem.F.type_list_append mt_append (pv 8) (a_e ((pe_op op_addD (p_var 10) ((pe_op op_mulA (p_ix (h1_of hr) (p_var 2) (p_var 4)) ((pe_op op_mod (p_var 9) p_int).imp (imp_p2 r_mod))).imp (imp_p2 r_mulA))).imp (imp_p2 r_add)).p a_nil)).imp (imp_mt rm_append ty_append))))))
    (s_one (s_ret (e_mv 8)))))) s_nil)
    (s_cons (s_set 5 (hp 5 (by decide)) sc__law_words.nd (e_lst (a_e p_str.p (a_e p_str.p (a_e p_str.p (a_e p_str.p (a_e p_str.p (a_e p_str.p (a_e p_str.p (a_e p_str.p (a_e p_str.p (a_e p_str.p (a_e p_str.p (a_e p_str.p a_nil))))))))))))))
    (s_cons (s_set 5 (hp 5 (by decide)) sc__law_words.nd ((pe_op op_addD (pv 5) (e_lst (a_e p_str.p (a_e p_str.p (a_e p_str.p (a_e p_str.p (a_e p_str.p (a_e p_str.p (a_e p_str.p (a_e p_str.p (a_e p_str.p (a_e p_str.p (a_e p_str.p (a_e p_str.p a_nil)))))))))))))).imp (imp_opN r_add)))
    (s_one (s_ret (e_comp1 rfl sc__law_words.nd T.z_range (p_var 1).p (own := [("k", 9)]) (blk_ok (N := ["tape", "many", "letters", "way", "turn", "some", "ends", "step", "found", "k", "first"]) (sc := defScope (top 16)) (by decide +kernel)) (gt_n 9 (hp 9 (by decide)) (by show 9 < 11; decide) (by simp)) (by intro i hi; simp only [List.map_cons, List.map_nil, List.mem_cons, List.not_mem_nil, or_false] at hi; exact hp i (by omega)) (fun _ _ _ _ _ => (pg_name sc__law_words.nd rfl (Or.inl rfl) (Or.inr rfl))) (fun _ _ _ _ _ => ts_nil) (fun _ _ _ _ _ => (p_ix (h1_of hr) (p_var 5) ((pe_op op_mod ((pe_op op_addD (p_var 4) (p_var 9)).imp (imp_p2 r_add)) p_int).imp (imp_p2 r_mod))).p))))))))))))
theorem sc__law_recipe : FnScope ["tape", "ahead", "way", "word", "many", "found", "k"] ["tape", "ahead"] (defScope (top 17)) := ⟨rfl, rfl, rfl, by decide +kernel, rfl, by decide +kernel, by decide +kernel⟩
theorem ok__law_recipe (T : Txt K w mg) {f : Addr} {fd : FuncData} (F : Fun K "_law_recipe" "_law_recipe" (top 17) f fd) (hm : mg "_law_recipe" = some (.ref f)) (b : Binds K fd ["tape", "ahead"] []) (c__law_digit : Cl P w K mg base 1 "_law_digit" m__law_digit) : Cl P w K mg base 2 "_law_recipe" m__law_recipe :=
  cl_of F hm F.kp b sc__law_recipe rfl (by decide) (by decide) fun cdv A outer s H E vs0 hr hp hq =>
    (s_cons (s_set 2 (hp 2 (by decide)) sc__law_recipe.nd (e_callC c__law_digit hr (by decide) (a_s 0 (a_e p_int.p a_nil))))
    (s_cons (s_if (PW.pt (b_or ((pt_cmpR (op_eqA (h64_of hr)) (pv 1) (e_lst a_nil) (nomark _)).imp (imp_bVt (imp_opN r_eq))) (pw_or1 ((pt_cmpR op_lt (p_var 2) p_int (nomark _)).imp (imp_bPt (imp_p2 r_lt)))))) (s_one (s_ret (e_tup (a_e p_str.p (a_e (e_ix (h1_of hr) (e_lst (a_e p_int.p (a_e p_int.p (a_e p_int.p (a_e p_int.p (a_e p_int.p (a_e p_int.p (a_e (e_callC c__law_digit hr (by decide) (a_s 0 (a_e p_int.p a_nil))) a_nil)))))))) (e_callC c__law_digit hr (by decide) (a_s 0 (a_e p_int.p a_nil)))) a_nil))))) s_nil)
    (s_cons (s_set 3 (hp 3 (by decide)) sc__law_recipe.nd (e_ixP (h1_of hr) (e_lst (a_e p_str.p (a_e p_str.p (a_e p_str.p (a_e p_str.p (a_e p_str.p (a_e p_str.p a_nil))))))) ((pe_op op_sub (p_var 2) p_int).imp (imp_p2 r_sub))))
    (s_cons (s_set 4 (hp 4 (by decide)) sc__law_recipe.nd (e_ix (h1_of hr) (e_lst (a_e p_int.p (a_e p_int.p (a_e p_int.p (a_e p_int.p (a_e p_int.p (a_e p_int.p a_nil))))))) (e_callC c__law_digit hr (by decide) (a_s 0 (a_e p_int.p a_nil)))))
    (s_cons (s_if ((pt_cmpR (op_eqA (h64_of hr)) (p_var 3) p_str (nomark _)).imp (imp_bPt (imp_p2 r_eq))) (s_one (s_set 4 (hp 4 (by decide)) sc__law_recipe.nd p_int.p)) s_nil)
    (s_cons (s_set 5 (hp 5 (by decide)) sc__law_recipe.nd (e_lst a_nil))
    (s_cons (s_for1 rfl PassesOwn.never T.z_range (p_var 4).p (g_name 6 (hp 6 (by decide)) sc__law_recipe.nd) (s_one (s_exp ((pe_bm PySem.F.plainAttrs_list PySem.F.slot_list_append PySem.F.type_list_append mt_append (pv 5) (a_e (e_ixV 1 (h1_of hr) ((pe_op op_sub ((pe_op op_sub ((pe_callB c_len (by rfl) T.z_len (by rfl) (ap_cons (p_var 1) ap_nil)).imp (imp_bi r_len)) p_int).imp (imp_p2 r_sub)).p (e_callC c__law_digit hr (by decide) (a_s 0 (a_e ((pe_callB (c_min rfl) (by rfl) T.z_min (by rfl) (a_e ((pe_callB c_len (by rfl) T.z_len (by rfl) (ap_cons (p_var 1) ap_nil)).imp (imp_bi r_len)).p (a_e (e_ix (h1_of hr) (e_lst (a_e p_int.p (a_e p_int.p (a_e p_int.p a_nil)))) (e_callC c__law_digit hr (by decide) (a_s 0 (a_e p_int.p a_nil)))) a_nil))).imp (imp_biE r_min)) a_nil)))).imp (imp_e2 r_sub))) a_nil)).imp (imp_mt rm_append ty_append)))))
    (s_one (s_ret (e_tup (a_e (p_var 3).p (a_e ((pe_callTy c_tuple (by rfl) T.z_tuple (by rfl) (ap_cons (p_var 5) ap_nil)).imp (imp_bi r_tuple)).p a_nil))))))))))))
theorem sc__law_number : FnScope ["tape"] ["tape"] (defScope (top 18)) := ⟨rfl, rfl, rfl, by decide +kernel, rfl, by decide +kernel, by decide +kernel⟩
theorem ok__law_number (T : Txt K w mg) {f : Addr} {fd : FuncData} (F : Fun K "_law_number" "_law_number" (top 18) f fd) (hm : mg "_law_number" = some (.ref f)) (b : Binds K fd ["tape"] []) (c__law_digit : Cl P w K mg base 1 "_law_digit" m__law_digit) : Cl P w K mg base 2 "_law_number" m__law_number :=
  cl_of F hm F.kp b sc__law_number rfl (by decide) (by decide) fun cdv A outer s H E vs0 hr hp hq =>
    (s_one (s_ret (e_ix (h1_of hr) (e_lst (a_e p_int.p (a_e p_int.p (a_e p_int.p (a_e p_int.p (a_e ((pe_op op_addD p_int.p (e_callC c__law_digit hr (by decide) (a_s 0 (a_e p_int.p a_nil)))).imp (imp_e2 r_add)) a_nil)))))) (e_callC c__law_digit hr (by decide) (a_s 0 (a_e p_int.p a_nil))))))
theorem sc__law_again : FnScope ["tape", "recipe", "names", "at"] ["tape", "recipe"] (defScope (top 19)) := ⟨rfl, rfl, rfl, by decide +kernel, rfl, by decide +kernel, by decide +kernel⟩
theorem ok__law_again (T : Txt K w mg) {f : Addr} {fd : FuncData} (F : Fun K "_law_again" "_law_again" (top 19) f fd) (hm : mg "_law_again" = some (.ref f)) (b : Binds K fd ["tape", "recipe"] []) (c__law_digit : Cl P w K mg base 1 "_law_digit" m__law_digit) : Cl P w K mg base 2 "_law_again" m__law_again :=
  cl_of F hm F.kp b sc__law_again rfl (by decide) (by decide) fun cdv A outer s H E vs0 hr hp hq =>
    (s_cons (s_if ((pt_cmpR (op_eqA (h64_of hr)) (p_ix (h1_of hr) (p_var 1) p_int) p_str (nomark _)).imp (imp_bPt (imp_p2 r_eq))) (s_one (s_ret (p_var 1).p)) s_nil)
    (s_cons (s_if ((pt_cmpR (op_eqA (h64_of hr)) (p_ix (h1_of hr) (p_var 1) p_int) p_str (nomark _)).imp (imp_bPt (imp_p2 r_eq))) (s_one (s_ret (e_tup (a_e p_str.p (a_e (e_stp (p_ix (h1_of hr) (p_var 1) p_int).p (e_ix (h1_of hr) (e_lst (a_e p_int.p (a_e p_int.p (a_e ((pe_un un_neg p_int).imp (imp_p1 r_neg)).p a_nil)))) (e_callC c__law_digit hr (by decide) (a_s 0 (a_e p_int.p a_nil))))) a_nil))))) s_nil)
    (s_cons (s_set 2 (hp 2 (by decide)) sc__law_again.nd ((pe_callTy (c_list rfl) (by rfl) T.z_list (by rfl) (ap_cons (p_ix (h1_of hr) (p_var 1) p_int) ap_nil)).imp (imp_biP r_list)))
    (s_cons (s_set 3 (hp 3 (by decide)) sc__law_again.nd (e_callC c__law_digit hr (by decide) (a_s 0 (a_e ((pe_callB c_len (by rfl) T.z_len (by rfl) (ap_cons (p_var 2) ap_nil)).imp (imp_bi r_len)).p a_nil))))
    (s_cons (s_if ((pt_cmpR (op_eqA (h64_of hr)) (e_callC c__law_digit hr (by decide) (a_s 0 (a_e p_int.p a_nil))) p_int (nomark _)).imp (imp_bVt (imp_eP2 r_eq))) (s_one (s_asg (e_ixV 2 (h1_of hr) (e_callC c__law_digit hr (by decide) (a_s 0 (a_e ((pe_callB c_len (by rfl) T.z_len (by rfl) (ap_cons (p_var 2) ap_nil)).imp (imp_bi r_len)).p a_nil)))) (g_st (h1_of hr) (l_var 2) (p_var 3)))) s_nil)
    (s_one (s_ret (e_tup (a_e (p_ix (h1_of hr) (p_var 1) p_int).p (a_e ((pe_callTy c_tuple (by rfl) T.z_tuple (by rfl) (a_e ((pe_op op_addD (e_sl (p_var 2) (o_some (p_var 3)) o_none) (e_sl (p_var 2) o_none (o_some (p_var 3)))).imp (imp_e2 r_add)) a_nil)).imp (imp_biE r_tuple)) a_nil))))))))))
theorem sc__law_book : FnScope ["script", "start", "most", "tape", "many", "words", "found", "k", "part", "elder"] ["script", "start", "most"] (defScope (top 20)) := ⟨rfl, rfl, rfl, by decide +kernel, rfl, by decide +kernel, by decide +kernel⟩
theorem ok__law_book (T : Txt K w mg) {f : Addr} {fd : FuncData} (F : Fun K "_law_book" "_law_book" (top 20) f fd) (hm : mg "_law_book" = some (.ref f)) (b : Binds K fd ["script", "start", "most"] []) (c__law_tape : Cl P w K mg base 2 "_law_tape" m__law_tape) (c__law_digit : Cl P w K mg base 1 "_law_digit" m__law_digit) (c__law_words : Cl P w K mg base 2 "_law_words" m__law_words) (c__law_number : Cl P w K mg base 2 "_law_number" m__law_number) (c__law_recipe : Cl P w K mg base 2 "_law_recipe" m__law_recipe) (c__law_again : Cl P w K mg base 2 "_law_again" m__law_again) : Cl P w K mg base 3 "_law_book" m__law_book :=
  cl_of F hm F.kp b sc__law_book rfl (by decide) (by decide) fun cdv A outer s H E vs0 hr hp hq =>
    (s_cons (s_set 3 (hp 3 (by decide)) sc__law_book.nd (e_callC c__law_tape hr (by decide) (a_s 0 (a_s 1 a_nil))))
    (s_cons (s_set 4 (hp 4 (by decide)) sc__law_book.nd ((pe_op op_addD p_int.p (e_callC c__law_digit hr (by decide) (a_s 3 (a_s 2 a_nil)))).imp (imp_e2 r_add)))
    (s_cons (s_set 5 (hp 5 (by decide)) sc__law_book.nd (e_callC c__law_words hr (by decide) (a_s 3 (a_s 4 a_nil))))
    (s_cons (s_set 6 (hp 6 (by decide)) sc__law_book.nd (e_lst a_nil))
    (s_cons (s_for1 rfl PassesOwn.never T.z_range (p_var 4).p (g_name 7 (hp 7 (by decide)) sc__law_book.nd) (s_cons (s_set 8 (hp 8 (by decide)) sc__law_book.nd (e_tup (a_e (p_ix (h1_of hr) (p_var 5) (p_var 7)).p (a_e (e_callC c__law_recipe hr (by decide) (a_s 3 (a_e (e_sl (p_var 5) o_none (o_some (p_var 7))) a_nil))) (a_e (e_callC c__law_number hr (by decide) (a_s 3 a_nil)) (a_e (e_callC c__law_number hr (by decide) (a_s 3 a_nil)) a_nil))))))
    (s_cons (s_if (PW.pt (b_and ((pt_cmpR op_gt (p_var 7) p_int (nomark _)).imp (imp_bPt (imp_p2 r_gt))) (pw_and1 ((pt_cmpR (op_eqA (h64_of hr)) (e_callC c__law_digit hr (by decide) (a_s 3 (a_e p_int.p a_nil))) p_int (nomark _)).imp (imp_bVt (imp_eP2 r_eq)))))) (s_cons (s_set 9 (hp 9 (by decide)) sc__law_book.nd (e_ixV 6 (h1_of hr) (e_callC c__law_digit hr (by decide) (a_s 3 (a_s 7 a_nil)))))
    (s_one (s_set 8 (hp 8 (by decide)) sc__law_book.nd (e_tup (a_e (p_ix (h1_of hr) (p_var 5) (p_var 7)).p (a_e (e_callC c__law_again hr (by decide) (a_s 3 (a_e (p_ix (h1_of hr) (p_var 9) p_int).p a_nil))) (a_e (p_ix (h1_of hr) (p_var 9) p_int).p (a_e (p_ix (h1_of hr) (p_var 9) p_int).p a_nil)))))))) s_nil)
    (s_one (s_exp ((pe_bm PySem.F.plainAttrs_list PySem.F.slot_list_append PySem.F.type_list_append mt_append (pv 6) (a_e (p_var 8).p a_nil)).imp (imp_mt rm_append ty_append)))))))
    (s_one (s_ret ((pe_callTy c_tuple (by rfl) T.z_tuple (by rfl) (ap_cons (p_var 6) ap_nil)).imp (imp_bi r_tuple)).p)))))))
theorem sc__law_joined : FnScope ["book", "standing", "kinds", "found", "name", "recipe", "size", "cost", "told", "kind", "one"] ["book"] (defScope (top 21)) := ⟨rfl, rfl, rfl, by decide +kernel, rfl, by decide +kernel, by decide +kernel⟩
theorem ok__law_joined (T : Txt K w mg) {f : Addr} {fd : FuncData} (F : Fun K "_law_joined" "_law_joined" (top 21) f fd) (hm : mg "_law_joined" = some (.ref f)) (b : Binds K fd ["book"] []) : Cl P w K mg base 1 "_law_joined" m__law_joined :=
  cl_of F hm F.kp b sc__law_joined rfl (by decide) (by decide) fun cdv A outer s H E vs0 hr hp hq =>
    (s_cons (s_set 1 (hp 1 (by decide)) sc__law_joined.nd e_dicK)
    (s_cons (s_set 2 (hp 2 (by decide)) sc__law_joined.nd (e_lst a_nil))
    (s_cons (s_set 3 (hp 3 (by decide)) sc__law_joined.nd (e_lst a_nil))
    (s_cons (s_wp (s_for rfl PassesOwn.never (p_var 0).p (g_tup [4, 5, 6, 7] (by intro i hi; simp only [List.mem_cons, List.not_mem_nil, or_false] at hi; exact ⟨hp i (by omega), by show i < 11; omega⟩) rfl (gs_cons 4 sc__law_joined.nd (gs_cons 5 sc__law_joined.nd (gs_cons 6 sc__law_joined.nd (gs_cons 7 sc__law_joined.nd gs_nil))))) (s_wpB (s_cons (s_set 8 (hp 8 (by decide)) sc__law_joined.nd (p_var 5).p)
    (s_cons (s_if ((pt_cmpR (op_neA (h64_of hr)) (p_ix (h1_of hr) (p_var 5) p_int) p_str (nomark _)).imp (imp_bPt (imp_p2 r_ne))) (s_one (s_set 8 (hp 8 (by decide)) sc__law_joined.nd (e_tup (a_e (p_ix (h1_of hr) (p_var 5) p_int).p (a_e ((pe_callTy c_tuple (by rfl) T.z_tuple (by rfl) (a_e (e_comp rfl sc__law_joined.nd (p_ix (h1_of hr) (p_var 5) p_int).p (own := [("one", 10)]) (blk_ok (N := ["book", "standing", "kinds", "found", "name", "recipe", "size", "cost", "told", "kind", "one"]) (sc := defScope (top 21)) (by decide +kernel)) (gt_n 10 (hp 10 (by decide)) (by show 10 < 11; decide) (by simp)) (by intro i hi; simp only [List.map_cons, List.map_nil, List.mem_cons, List.not_mem_nil, or_false] at hi; exact hp i (by omega)) (fun _ _ _ _ _ => (pg_name sc__law_joined.nd rfl (Or.inl rfl) (Or.inr rfl))) (fun _ _ _ _ _ => ts_nil) (fun _ _ _ _ _ => (p_ix (h1_of hr) (p_var 1) (p_var 10)).p)) a_nil)).imp (imp_biE r_tuple)) a_nil))))) s_nil)
    (s_cons (s_set 9 (hp 9 (by decide)) sc__law_joined.nd (e_lst (a_e (p_ix (h1_of hr) (p_var 8) p_int).p (a_e (p_ix (h1_of hr) (p_var 8) p_int).p (a_e (p_var 6).p (a_e (p_var 7).p a_nil))))))
    (s_cons (s_if ((pt_cmpR (op_inAll (h65_of hr)) (p_ix (h1_of hr) (p_var 5) p_int) (p_tup (ap_cons p_str (ap_cons p_str (ap_cons p_str ap_nil)))) (by rfl)).imp (imp_bPt (imp_p2 r_in))) (s_one (s_asg ((pe_callB cr_sortedTS (by rfl) T.z_sorted (by rfl) (ap_cons (p_ix (h1_of hr) (p_var 8) p_int) ap_nil)).imp (imp_biP r_sortedT)) (g_st (h1_of hr) (l_var 9) p_int))) s_nil)
    (s_cons (s_if ((pt_cmpR (op_niAll (h65_of hr)) (p_var 9) (p_var 2) (by rfl)).imp (imp_bPt (imp_p2 r_ni))) (s_cons (s_exp ((pe_bm PySem.F.plainAttrs_list PySem.F.slot_list_append PySem.F.type_list_append mt_append (pv 3) (a_e (e_tup (a_e (p_var 4).p (a_e (p_var 8).p (a_e (p_var 6).p (a_e (p_var 7).p a_nil))))) a_nil)).imp (imp_mt rm_append ty_append)))
    (s_one (s_exp ((pe_bm PySem.F.plainAttrs_list PySem.F.slot_list_append PySem.F.type_list_append mt_append (pv 2) (a_e (e_fr 9) a_nil)).imp (imp_mt rm_append ty_append))))) s_nil)
    (s_one (s_asg (p_ix (h1_of hr) (p_ix (h1_of hr) (p_var 3) ((pe_bm PySem.F.plainAttrs_list PySem.F.slot_list_index PySem.F.type_list_index (mt_indexD (h65_of hr)) (p_var 2) (ap_cons (p_var 9) ap_nil)).imp imp_idx)) p_int).p (g_st (h1_of hr) (l_var 1) (p_var 4))))))))))))
    (s_one (s_ret (e_tup (a_e ((pe_callTy c_tuple (by rfl) T.z_tuple (by rfl) (ap_cons (p_var 3) ap_nil)).imp (imp_bi r_tuple)).p (a_e (e_mv 1) a_nil)))))))))
theorem sc_law : FnScope ["script", "start", "book", "turn", "tape", "names", "due", "standing", "found", "one", "other", "told", "part"] ["script"] (defScope (top 22)) := ⟨rfl, rfl, rfl, by decide +kernel, rfl, by decide +kernel, by decide +kernel⟩
theorem ok_law (T : Txt K w mg) {f : Addr} {fd : FuncData} (F : Fun K "law" "law" (top 22) f fd) (b : ∀ (s : Shared) (u : Value), BindsTo s fd ⟨[u], []⟩ [("script", u)]) (cs : ∀ base : Heap, K.In base → base.Ns mainGlobals mg → Cl P w K mg base 3 "_law_book" m__law_book ∧ Cl P w K mg base 1 "_law_joined" m__law_joined ∧ Cl P w K mg base 3 "joined" m_joined ∧ Cl P w K mg base 2 "_law_tape" m__law_tape ∧ Cl P w K mg base 1 "_law_digit" m__law_digit ∧ Cl P w K mg base 4 "are_alike" m_are_alike) (hr : Room 5 callerA) : LawAt P w K mg f m_law :=
  law_of F b sc_law (by decide) hr fun base hK hg cdv A s H E vs0 hgd hr hp => by
    obtain ⟨c__law_book, c__law_joined, c_joined, c__law_tape, c__law_digit, c_are_alike⟩ := cs base hK hg
    exact (s_cons (s_wp (s_for2 rfl PassesOwn.never T.z_range p_int.p ((pe_callB (c_max rfl) (by rfl) T.z_max (by rfl) (ap_cons p_int (ap_cons ((pe_callB (c_min rfl) (by rfl) T.z_min (by rfl) (ap_cons p_int (ap_cons ((pe_callB c_len (by rfl) T.z_len (by rfl) (ap_cons (p_var 0) ap_nil)).imp (imp_bi r_len)) ap_nil))).imp (imp_bi r_min)) ap_nil))).imp (imp_bi r_max)).p (g_name 1 (hp 1 (by decide)) sc_law.nd) (s_wpB (s_cons (s_set 2 (hp 2 (by decide)) sc_law.nd (e_callC c__law_book hr (by decide) (a_s 0 (a_s 1 (a_e p_int.p a_nil)))))
    (s_cons (s_asg (e_callC c__law_joined hr (by decide) (a_s 2 a_nil)) (g_tup [6, 7] (by intro i hi; simp only [List.mem_cons, List.not_mem_nil, or_false] at hi; exact ⟨hp i (by omega), by show i < 13; omega⟩) rfl (gs_cons 6 sc_law.nd (gs_cons 7 sc_law.nd gs_nil))))
    (s_cons (s_wp (s_for1 rfl PassesOwn.never T.z_range p_int.p (g_name 3 (hp 3 (by decide)) sc_law.nd) (s_wpB (s_cons (s_set 8 (hp 8 (by decide)) sc_law.nd (e_callC c_joined hr (by decide) (a_s 2 a_nil)))
    (s_cons (s_if (PW.pt (b_or (b_not (b_valP (p_isi T.z_isinstance (p_var 8) (pe_bltn (by rfl) T.z_tuple (by rfl) (by rfl))))) (b_or ((pt_cmpR (op_neA (h64_of hr)) ((pe_callB c_len (by rfl) T.z_len (by rfl) (ap_cons (p_var 8) ap_nil)).imp (imp_bi r_len)) p_int (nomark _)).imp (imp_bPt (imp_p2 r_ne))) (pw_or1 (b_not (b_valP (p_isi T.z_isinstance (p_ix (h1_of hr) (p_var 8) p_int) (pe_bltn (by rfl) T.z_dict (by rfl) (by rfl))))))))) (s_one (s_ret p_bl.p)) s_nil)
    (s_cons (s_if (PW.pt (b_or ((pt_cmpR (op_neA (h64_of hr)) ((pe_callB (c_repr hgd (h65_of hr)) (by rfl) T.z_repr (by rfl) (ap_cons (p_ix (h1_of hr) (p_var 8) p_int) ap_nil)).imp (imp_bi r_repr)) ((pe_callB (c_repr hgd (h65_of hr)) (by rfl) T.z_repr (by rfl) (ap_cons (p_var 6) ap_nil)).imp (imp_bi r_repr)) (nomark _)).imp (imp_bPt (imp_p2 r_ne))) (pw_or1 ((pt_cmpR (op_neX (h64_of hr)) (p_ix (h1_of hr) (p_var 8) p_int) (p_var 7) (nomark _)).imp (imp_bPt (imp_p2 r_neX)))))) (s_one (s_ret p_bl.p)) s_nil)
    (s_one (s_exp ((pe_bm0 PySem.F.plainAttrs_dict PySem.F.slot_dict_clear PySem.F.type_dict_clear mtd_clear (l_ix (h1_of hr) (l_var 8) p_int)).imp (imp_mtL0 rm_dclear ty_dclear))))))))))
    (s_cons (s_set 4 (hp 4 (by decide)) sc_law.nd (e_callC c__law_tape hr (by decide) (a_s 0 (a_e ((pe_op op_addD (p_var 1) p_int).imp (imp_p2 r_add)).p a_nil))))
    (s_cons (s_comp 5 (hp 5 (by decide)) rfl sc_law.nd (p_var 2).p (own := [("part", 12)]) (blk_ok (N := ["script", "start", "book", "turn", "tape", "names", "due", "standing", "found", "one", "other", "told", "part"]) (sc := defScope (top 22)) (by decide +kernel)) (gt_n 12 (hp 12 (by decide)) (by show 12 < 13; decide) (by simp)) (by intro i hi; simp only [List.map_cons, List.map_nil, List.mem_cons, List.not_mem_nil, or_false] at hi; exact hp i (by omega)) (fun _ _ _ _ _ => (pg_name sc_law.nd rfl (Or.inl rfl) (Or.inr rfl))) (fun _ _ _ _ _ => ts_nil) (fun _ _ _ _ _ => (p_ix (h1_of hr) (p_var 12) p_int).p) (by rfl))
    (s_one (s_wp (s_for1 rfl PassesOwn.never T.z_range p_int.p (g_name 3 (hp 3 (by decide)) sc_law.nd) (s_wpB (s_cons (s_set 9 (hp 9 (by decide)) sc_law.nd (e_ixV 5 (h1_of hr) (e_callC c__law_digit hr (by decide) (a_s 4 (a_e ((pe_callB c_len (by rfl) T.z_len (by rfl) (ap_cons (p_var 5) ap_nil)).imp (imp_bi r_len)).p a_nil)))))
    (s_cons (s_set 10 (hp 10 (by decide)) sc_law.nd (e_ixV 5 (h1_of hr) (e_callC c__law_digit hr (by decide) (a_s 4 (a_e ((pe_callB c_len (by rfl) T.z_len (by rfl) (ap_cons (p_var 5) ap_nil)).imp (imp_bi r_len)).p a_nil)))))
    (s_cons (s_set 11 (hp 11 (by decide)) sc_law.nd (e_callC c_are_alike hr (by decide) (a_s 2 (a_s 9 (a_s 10 a_nil)))))
    (s_one (s_if (PW.pt (b_or (b_not (b_valP (p_isi T.z_isinstance (p_var 11) (pe_bltn (by rfl) T.z_bool (by rfl) (by rfl))))) (pw_or1 ((pt_cmpR (op_neA (h64_of hr)) (p_var 11) ((pe_cmpR (op_eqA (h64_of hr)) (p_ix (h1_of hr) (p_var 7) (p_var 9)) (p_ix (h1_of hr) (p_var 7) (p_var 10)) (nomark _)).imp (imp_p2 r_eq)) (nomark _)).imp (imp_bPt (imp_p2 r_ne)))))) (s_one (s_ret p_bl.p)) s_nil)))))))))))))))))
    (s_one (s_ret p_bl.p)))
end
end Lk

set_option Elab.async false
set_option linter.all false
set_option maxRecDepth 100000
set_option maxHeartbeats 1000000
/-! DS: how mirrors run: loops, blocks. Plain Lean. -/
namespace Dl
open PySem

theorem forL_inv {g : GM} {body : SM} (I : Nat → DEnv → Prop) : ∀ {ds : List D} {ρ : DEnv} {k : Nat}, I k ρ → (∀ i (h : i < ds.length) ρ, I (k + i) ρ → ∃ ρ1 ρ2, g ds[i] ρ = some ρ1 ∧ (body ρ1 = some (.nx, ρ2) ∨ body ρ1 = some (.ct, ρ2)) ∧ I (k + i + 1) ρ2) →
    ∃ ρ', forL g body ds ρ = some (.nx, ρ') ∧ I (k + ds.length) ρ'
  | [], ρ, k, h0, _ => ⟨ρ, rfl, h0⟩
  | d :: ds, ρ, k, h0, hs => by
    obtain ⟨ρ1, ρ2, h1, h2, h3⟩ := hs 0 (by simp) ρ h0
    obtain ⟨ρ', h4, h5⟩ := forL_inv (g := g) (body := body) I (ds := ds) (ρ := ρ2) (k := k + 1) h3 (fun i h ρ q => by
      have e : k + 1 + i = k + (i + 1) := by omega
      rw [e] at q
      obtain ⟨ρ1, ρ2, q1, q2, q3⟩ := hs (i + 1) (by simpa using h) ρ q
      refine ⟨ρ1, ρ2, by simpa using q1, q2, ?_⟩
      rw [e]
      exact q3)
    refine ⟨ρ', ?_, ?_⟩
    · simp only [List.getElem_cons_zero] at h1
      simp only [forL, h1]
      rcases h2 with h2 | h2 <;> simp only [h2, h4]
    · rw [List.length_cons, show k + (ds.length + 1) = k + 1 + ds.length by omega]
      exact h5
/-- a block's turns with an invariant of what was made -/
theorem compL_inv {g : GM} {t : BM} {e : EM} {vs : List Nat} (I : Nat → List D → DEnv → Prop) : ∀ {ds : List D} {ρ : DEnv} {k : Nat} {pre : List D}, I k pre ρ → (∀ i (h : i < ds.length) ρ ys, I (k + i) ys ρ → ∃ ρ1, g ds[i] ρ = some ρ1 ∧
      ((∃ ρ2 y ρ3, t ρ1 = some (true, ρ2) ∧ e ρ2 = some (y, ρ3) ∧ I (k + i + 1) (ys ++ [y]) (wipeD ρ3 vs)) ∨ ∃ ρ2, t ρ1 = some (false, ρ2) ∧ I (k + i + 1) ys (wipeD ρ2 vs))) →
    ∃ zs ρ', compL g t e vs ds ρ = some (zs, ρ') ∧ I (k + ds.length) (pre ++ zs) ρ'
  | [], ρ, k, pre, h0, _ => ⟨[], ρ, rfl, by simpa using h0⟩
  | d :: ds, ρ, k, pre, h0, hs => by
    obtain ⟨ρ1, h1, h2⟩ := hs 0 (by simp) ρ pre h0
    simp only [List.getElem_cons_zero] at h1
    have hs' : ∀ i (h : i < ds.length) ρ ys, I (k + 1 + i) ys ρ → ∃ ρ1, g ds[i] ρ = some ρ1 ∧
      ((∃ ρ2 y ρ3, t ρ1 = some (true, ρ2) ∧ e ρ2 = some (y, ρ3) ∧ I (k + 1 + i + 1) (ys ++ [y]) (wipeD ρ3 vs)) ∨ ∃ ρ2, t ρ1 = some (false, ρ2) ∧ I (k + 1 + i + 1) ys (wipeD ρ2 vs)) := fun i h ρ ys q => by
      have e1 : k + 1 + i = k + (i + 1) := by omega
      rw [e1] at q ⊢
      exact hs (i + 1) (by simpa using h) ρ ys q
    rcases h2 with ⟨ρ2, y, ρ3, q1, q2, q3⟩ | ⟨ρ2, q1, q3⟩
    · obtain ⟨zs, ρ', h4, h5⟩ := compL_inv (g := g) (t := t) (e := e) (vs := vs) I (ds := ds) (k := k + 1) (pre := pre ++ [y]) q3 hs'
      refine ⟨y :: zs, ρ', ?_, ?_⟩
      · simp only [compL, h1, q1, q2, h4]
      · rw [List.length_cons, show k + (ds.length + 1) = k + 1 + ds.length by omega]
        simpa using h5
    · obtain ⟨zs, ρ', h4, h5⟩ := compL_inv (g := g) (t := t) (e := e) (vs := vs) I (ds := ds) (k := k + 1) (pre := pre) q3 hs'
      refine ⟨zs, ρ', ?_, ?_⟩
      · simp only [compL, h1, q1, h4]
      · rw [List.length_cons, show k + (ds.length + 1) = k + 1 + ds.length by omega]
        exact h5
/-- a block that reads alone -/
theorem compL_pure {g : GM} {t : BM} {e : EM} {vs : List Nat} {ρ : DEnv} {p : D → Bool} {f : D → D} : ∀ {ds : List D}, (∀ d ∈ ds, ∃ ρ1, g d ρ = some ρ1 ∧ ∃ ρ2, t ρ1 = some (p d, ρ2) ∧ if p d = true then ∃ ρ3, e ρ2 = some (f d, ρ3) ∧ wipeD ρ3 vs = ρ else wipeD ρ2 vs = ρ) →
    compL g t e vs ds ρ = some ((ds.filter p).map f, ρ)
  | [], _ => rfl
  | d :: ds, h => by
    obtain ⟨ρ1, h1, ρ2, h2, h3⟩ := h d (by simp)
    have ih := compL_pure (g := g) (t := t) (e := e) (vs := vs) (ρ := ρ) (p := p) (f := f) (ds := ds) fun x hx => h x (by simp [hx])
    cases hp : p d with
    | true =>
      rw [hp] at h2 h3
      rw [if_pos rfl] at h3
      obtain ⟨ρ3, h4, h5⟩ := h3
      simp only [compL, h1, h2, h4, h5, ih, List.filter_cons, hp, if_true, List.map_cons]
    | false =>
      rw [hp] at h2 h3
      rw [if_neg (by simp)] at h3
      simp only [compL, h1, h2, h3, ih, List.filter_cons, hp, Bool.false_eq_true, if_false]
theorem compL_map {g : GM} {e : EM} {vs : List Nat} {ρ : DEnv} {f : D → D} {ds : List D} (h : ∀ d ∈ ds, ∃ ρ1, g d ρ = some ρ1 ∧ ∃ ρ3, e ρ1 = some (f d, ρ3) ∧ wipeD ρ3 vs = ρ) : compL g bYes e vs ds ρ = some (ds.map f, ρ) := by
  have := compL_pure (g := g) (t := bYes) (e := e) (vs := vs) (ρ := ρ) (p := fun _ => true) (f := f) (ds := ds) fun d hd => by
    obtain ⟨ρ1, h1, ρ3, h2, h3⟩ := h d hd
    exact ⟨ρ1, h1, ρ1, rfl, by rw [if_pos rfl]; exact ⟨ρ3, h2, h3⟩⟩
  rw [this, List.filter_eq_self.mpr (by simp)]
theorem range_len (lo : Int) (n : Nat) : (rangeD lo n).length = n := by simp [rangeD]
theorem range_at (lo : Int) (n i : Nat) (h : i < (rangeD lo n).length) : (rangeD lo n)[i] = .int (lo + (i : Int)) := by simp [rangeD]
theorem compE_of {g : GM} {t : BM} {e : EM} {vs : List Nat} {ds ys : List D} {ρ ρ' : DEnv} (hz : ds.length ≤ 10000) (h : compL g t e vs ds (wipeD ρ vs) = some (ys, ρ')) : compE g t e vs ds ρ = some (.lst true ys, ρ') := by
  unfold compE
  rw [if_pos (by rw [sizeLine_eq]; omega), h]
/-- [e for k in range(j)] -/
theorem compR1_map {it : EM} {g : GM} {e : EM} {vs : List Nat} {ρ ρ1 : DEnv} {j : Int} {f : D → D} (hi : it ρ = some (.int j, ρ1)) (h1 : 0 ≤ j) (h2 : j ≤ 10000)
    (h : ∀ k : Nat, (k : Int) < j → ∃ ρ2, g (.int k) (wipeD ρ1 vs) = some ρ2 ∧ ∃ ρ3, e ρ2 = some (f (.int k), ρ3) ∧ wipeD ρ3 vs = wipeD ρ1 vs) :
    eCompR1 it g bYes e vs ρ = some (.lst true ((List.range j.toNat).map fun (k : Nat) => f (.int (k : Int))), wipeD ρ1 vs) := by
  unfold eCompR1
  rw [hi]
  show (if okR j = true then _ else none) = _
  rw [if_pos (show okR j = true from lg_of (by omega) (by decide))]
  have := compL_map (g := g) (e := e) (vs := vs) (ρ := wipeD ρ1 vs) (f := f) (ds := rangeD 0 j.toNat) fun d hd => by
    simp only [rangeD, List.mem_map, List.mem_range] at hd
    obtain ⟨k, hk, rfl⟩ := hd
    rw [Int.zero_add]
    exact h k (by omega)
  rw [compE_of (by rw [range_len]; omega) this]
  simp [rangeD, Function.comp_def]
/-- [e for x in xs], xs a list or a tuple -/
theorem comp_map {it : EM} {g : GM} {e : EM} {vs : List Nat} {ρ ρ1 : DEnv} {d : D} {ds : List D} {f : D → D} (hi : it ρ = some (d, ρ1)) (hd : itemsD d.frz = some ds) (hz : ds.length ≤ 10000)
    (h : ∀ x ∈ ds, ∃ ρ2, g x (wipeD ρ1 vs) = some ρ2 ∧ ∃ ρ3, e ρ2 = some (f x, ρ3) ∧ wipeD ρ3 vs = wipeD ρ1 vs) : eComp it g bYes e vs ρ = some (.lst true (ds.map f), wipeD ρ1 vs) := by
  unfold eComp
  rw [hi]
  show (match itemsD d.frz with | some ds => compE g bYes e vs ds ρ1 | none => none) = _
  rw [hd]
  exact compE_of hz (compL_map h)
theorem comp_filter {it : EM} {g : GM} {t : BM} {e : EM} {vs : List Nat} {ρ ρ1 : DEnv} {d : D} {ds : List D} {p : D → Bool} {f : D → D} (hi : it ρ = some (d, ρ1)) (hd : itemsD d.frz = some ds) (hz : ds.length ≤ 10000)
    (h : ∀ x ∈ ds, ∃ ρ2, g x (wipeD ρ1 vs) = some ρ2 ∧ ∃ ρ3, t ρ2 = some (p x, ρ3) ∧ if p x = true then ∃ ρ4, e ρ3 = some (f x, ρ4) ∧ wipeD ρ4 vs = wipeD ρ1 vs else wipeD ρ3 vs = wipeD ρ1 vs) :
    eComp it g t e vs ρ = some (.lst true ((ds.filter p).map f), wipeD ρ1 vs) := by
  unfold eComp
  rw [hi]
  show (match itemsD d.frz with | some ds => compE g t e vs ds ρ1 | none => none) = _
  rw [hd]
  exact compE_of hz (compL_pure h)
theorem forR1_of {it : EM} {g : GM} {body : SM} {ρ ρ1 : DEnv} {j : Int} {r : Option (Fl × DEnv)} (hi : it ρ = some (.int j, ρ1)) (h1 : 0 ≤ j) (h2 : j ≤ 10000) (h : forL g body (rangeD 0 j.toNat) ρ1 = r) : sForR1 it g body ρ = r := by
  unfold sForR1
  rw [hi]
  show (if okR j = true then _ else none) = _
  rw [if_pos (show okR j = true from lg_of (by omega) (by decide)), h]
theorem sSeq_nx {f g : SM} {ρ ρ1 : DEnv} (h : f ρ = some (.nx, ρ1)) : sSeq f g ρ = g ρ1 := by unfold sSeq; rw [h]
theorem sSeq_rt {f g : SM} {ρ ρ1 : DEnv} {d : D} (h : f ρ = some (.rt d, ρ1)) : sSeq f g ρ = some (.rt d, ρ1) := by unfold sSeq; rw [h]
theorem sAsg_of {e : EM} {g : GM} {ρ ρ1 ρ2 : DEnv} {d : D} (h : e ρ = some (d, ρ1)) (hg : g d ρ1 = some ρ2) : sAsg e g ρ = some (.nx, ρ2) := by unfold sAsg; rw [h]; show (match g d ρ1 with | some ρ2 => _ | none => _) = _; rw [hg]
theorem sExp_of {e : EM} {ρ ρ1 : DEnv} {d : D} (h : e ρ = some (d, ρ1)) : sExp e ρ = some (.nx, ρ1) := by unfold sExp; rw [h]
theorem sRet_of {e : EM} {ρ ρ1 : DEnv} {d : D} (h : e ρ = some (d, ρ1)) : sRet e ρ = some (.rt d, ρ1) := by unfold sRet; rw [h]
theorem sIf_t {c : BM} {f g : SM} {ρ ρ1 : DEnv} (h : c ρ = some (true, ρ1)) : sIf c f g ρ = f ρ1 := by unfold sIf; rw [h]
theorem sIf_f {c : BM} {f g : SM} {ρ ρ1 : DEnv} (h : c ρ = some (false, ρ1)) : sIf c f g ρ = g ρ1 := by unfold sIf; rw [h]
theorem bP_of {a : PM} {ρ : DEnv} {b : Bool} (h : a ρ = some (.bl b)) : bP a ρ = some (b, ρ) := by unfold bP; rw [h]
theorem bV_of {a : EM} {ρ ρ1 : DEnv} {b : Bool} (h : a ρ = some (.bl b, ρ1)) : bV a ρ = some (b, ρ1) := by unfold bV; rw [h]
theorem eP_of {a : PM} {ρ : DEnv} {d : D} (h : a ρ = some d) (hs : d.stable = true) : eP a ρ = some (d, ρ) := by unfold eP; rw [h]; show (if d.stable = true then _ else _) = _; rw [if_pos hs]
theorem pOp2_of {op : D → D → Option D} {a b : PM} {ρ : DEnv} {x y : D} (ha : a ρ = some x) (hb : b ρ = some y) : pOp2 op a b ρ = op x y := by unfold pOp2; rw [ha, hb]
theorem eOp2_of {op : D → D → Option D} {a b : EM} {ρ ρ1 ρ2 : DEnv} {x y d : D} (ha : a ρ = some (x, ρ1)) (hb : b ρ1 = some (y, ρ2)) (ho : op x y = some d) : eOp2 op a b ρ = some (d, ρ2) := by simp only [eOp2, ha, hb, ho]
theorem eIx_of {op : D → D → Option D} {a b : EM} {ρ ρ1 ρ2 : DEnv} {x y d : D} (ha : a ρ = some (x, ρ1)) (hb : b ρ1 = some (y, ρ2)) (ho : op x y = some d) (hs : d.stable = true) : eIx op a b ρ = some (d, ρ2) := by simp only [eIx, ha, hb, ho, hs, if_true]
theorem aE_of {e : EM} {r : AM} {ρ ρ1 ρ2 : DEnv} {d : D} {as : List Arg} (h : e ρ = some (d, ρ1)) (hr : r ρ1 = some (as, ρ2)) : aE e r ρ = some (.e d :: as, ρ2) := by simp only [aE, h, hr]
theorem aS_of {i : Nat} {r : AM} {ρ ρ2 : DEnv} {d : D} {as : List Arg} (h : ρ.getD i none = some d) (hr : r ρ = some (as, ρ2)) : aS i r ρ = some (.s i :: as, ρ2) := by simp only [aS, h, hr]
theorem append_of {i : Nat} {e : EM} {ρ ρ1 : DEnv} {y : D} {ds0 ds : List D} (h0 : ρ.getD i none = some (.lst true ds0)) (ha : e ρ = some (y, ρ1)) (h1 : ρ1.getD i none = some (.lst true ds)) (hl : ds.length < 10000) (hl0 : ds0.length < 10000) :
    eMt mAppend i (aE e aNil) ρ = some (.non, ρ1.set i (some (.lst true (ds ++ [y])))) := by
  simp only [eMt, h0, aE, ha, aNil, valsA, h1, mAppend, hl, hl0, if_true, Option.isSome_some]
theorem mulL {i j : Int} (h1 : -1000000000 ≤ i) (h2 : i ≤ 1000000000) : opMulA (.int i) (.int j) = some (.int (i * j)) := by
  show opMul (.int i) (.int j) = _
  unfold opMul
  exact if_pos (.inl (lg_of (by omega) (by decide)))
theorem mulR {i j : Int} (h1 : -1000000000 ≤ j) (h2 : j ≤ 1000000000) : opMulA (.int i) (.int j) = some (.int (i * j)) := by
  show opMul (.int i) (.int j) = _
  unfold opMul
  exact if_pos (.inr (lg_of (by omega) (by decide)))
theorem mulS {s : Str} {n : Int} (h0 : 0 ≤ n) (h1 : n ≤ 500) (h2 : s.length ≤ 1000) : opMulA (.str s) (.int n) = some (.str (Txt.mul s n)) := by
  show (if lg 9 n = true ∧ s.length ≤ 1000 then _ else _) = _
  exact if_pos ⟨lg_of (by omega) (by decide), h2⟩
theorem divI {i j : Int} (h0 : 0 < j) (h1 : j < 1073741824) : opFdiv (.int i) (.int j) = some (.int (i / j)) := by
  show (if 0 < j ∧ lg 30 j = true then _ else _) = _
  exact if_pos ⟨h0, lg_of (by omega) (by decide)⟩
theorem modI {i j : Int} (h0 : 0 < j) : opMod (.int i) (.int j) = some (.int (i % j)) := by
  show (if 0 < j then _ else _) = _
  exact if_pos h0
theorem addS {a b : Str} (h : a.length + b.length ≤ 100000) : opAdd (.str a) (.str b) = some (.str (a ++ b)) := by
  show (if a.length + b.length ≤ sizeLine then _ else _) = _
  exact if_pos (by rw [sizeLine_eq]; omega)
theorem addI (i j : Int) : opAdd (.int i) (.int j) = some (.int (i + j)) := rfl
theorem eqI (i j : Int) : opEq (.int i) (.int j) = some (.bl (decide (i = j))) := by simp [opEq, eqB, D.sv, L2.scal]
theorem eqS (i j : Str) : opEq (.str i) (.str j) = some (.bl (decide (i = j))) := by simp [opEq, eqB, D.sv, L2.scal]
theorem neI (i j : Int) : opNe (.int i) (.int j) = some (.bl (!decide (i = j))) := by simp [opNe, eqB, D.sv, L2.scal]
theorem neS (i j : Str) : opNe (.str i) (.str j) = some (.bl (!decide (i = j))) := by simp [opNe, eqB, D.sv, L2.scal]
theorem nodup_range_map {α : Type} {f : Nat → α} {n : Nat} (h : ∀ i j, i < j → j < n → f i ≠ f j) : ((List.range n).map f).Nodup := by
  unfold List.Nodup
  rw [List.pairwise_map]
  exact (List.pairwise_lt_range (n := n)).imp_of_mem fun {a b} _ hb hab => h a b hab (List.mem_range.mp hb)
end Dl

set_option Elab.async false
set_option linter.all false
set_option maxRecDepth 100000
set_option maxHeartbeats 1000000
/-! DS2: equality of data without truths, by structure. -/
namespace Dl
open PySem

/-- numbers, texts, None, lists and tuples of these, n deep at most -/
def nic : Nat → D → Bool
  | _, .non => true
  | _, .int _ => true
  | _, .str s => PyData.strOk s
  | n + 1, .tup xs => xs.all (nic n)
  | n + 1, .lst _ xs => xs.all (nic n)
  | _, _ => false
theorem canLayAll_all : ∀ l : List PyData, PyData.canLayAll0 l = l.all PyData.canLay0
  | [] => by simp [PyData.canLayAll0]
  | d :: l => by rw [PyData.canLayAll0, canLayAll_all l, List.all_cons]
theorem datL_all : ∀ l : List D, datL l = l.all D.dat
  | [] => by simp [datL]
  | d :: l => by rw [datL, datL_all l, List.all_cons]
theorem pyL_map : ∀ l : List D, pyL l = l.map D.py
  | [] => by simp [pyL]
  | d :: l => by rw [pyL, pyL_map l, List.map_cons]
theorem depthAll_le {k : Nat} : ∀ {l : List PyData}, (∀ d ∈ l, d.depth ≤ k) → PyData.depthAll l ≤ k
  | [], _ => by simp [PyData.depthAll]
  | d :: l, h => by
    rw [PyData.depthAll]
    have h1 := h d (by simp)
    have h2 := depthAll_le (k := k) (l := l) fun x hx => h x (by simp [hx])
    omega
theorem nic_ok : ∀ (n : Nat) (d : D), nic n d = true → d.dat = true ∧ d.py.canLay0 = true ∧ d.py.depth ≤ n
  | 0, .non, _ => by simp [D.dat, D.py, PyData.canLay0, PyData.depth]
  | n + 1, .non, _ => by simp [D.dat, D.py, PyData.canLay0, PyData.depth]
  | 0, .int _, _ => by simp [D.dat, D.py, PyData.canLay0, PyData.depth]
  | n + 1, .int _, _ => by simp [D.dat, D.py, PyData.canLay0, PyData.depth]
  | 0, .str s, h => by simpa [D.dat, D.py, PyData.canLay0, PyData.depth, nic] using h
  | n + 1, .str s, h => by simpa [D.dat, D.py, PyData.canLay0, PyData.depth, nic] using h
  | n + 1, .tup xs, h => by
    have h' := List.all_eq_true.mp (show xs.all (nic n) = true by simpa [nic] using h)
    have hh := fun x hx => nic_ok n x (h' x hx)
    refine ⟨?_, ?_, ?_⟩
    · rw [D.dat, datL_all]; exact List.all_eq_true.mpr fun x hx => (hh x hx).1
    · rw [D.py, PyData.canLay0, canLayAll_all, pyL_map, List.all_map]; exact List.all_eq_true.mpr fun x hx => (hh x hx).2.1
    · rw [D.py, PyData.depth, pyL_map]
      have := depthAll_le (k := n) (l := xs.map D.py) fun y hy => by obtain ⟨x, hx, rfl⟩ := List.mem_map.mp hy; exact (hh x hx).2.2
      omega
  | n + 1, .lst _ xs, h => by
    have h' := List.all_eq_true.mp (show xs.all (nic n) = true by simpa [nic] using h)
    have hh := fun x hx => nic_ok n x (h' x hx)
    refine ⟨?_, ?_, ?_⟩
    · rw [D.dat, datL_all]; exact List.all_eq_true.mpr fun x hx => (hh x hx).1
    · rw [D.py, PyData.canLay0, canLayAll_all, pyL_map, List.all_map]; exact List.all_eq_true.mpr fun x hx => (hh x hx).2.1
    · rw [D.py, PyData.depth, pyL_map]
      have := depthAll_le (k := n) (l := xs.map D.py) fun y hy => by obtain ⟨x, hx, rfl⟩ := List.mem_map.mp hy; exact (hh x hx).2.2
      omega
  | 0, .bl _, h => by simp [nic] at h
  | n + 1, .bl _, h => by simp [nic] at h
  | 0, .tup _, h => by simp [nic] at h
  | 0, .lst _ _, h => by simp [nic] at h
  | 0, .dic _ _ _ _, h => by simp [nic] at h
  | n + 1, .dic _ _ _ _, h => by simp [nic] at h
  | 0, .obj _ _ _ _, h => by simp [nic] at h
  | n + 1, .obj _ _ _ _, h => by simp [nic] at h
  | 0, .scr _, h => by simp [nic] at h
  | n + 1, .scr _, h => by simp [nic] at h
theorem nic_cmp {n : Nat} {d : D} (h : nic n d = true) (hn : n ≤ 60) : d.cmp = true := by
  obtain ⟨h1, h2, h3⟩ := nic_ok n d h
  unfold D.cmp SeqAt.shaped
  rw [h1, h2]
  simp
  omega
theorem beq_self_str (s : Str) : (s == s) = true := by simp
theorem eqv_same : ∀ (n : Nat) (d : D), nic n d = true → PyData.eqv d.py d.py = true
  | 0, .non, _ => by simp [D.py, PyData.eqv]
  | n + 1, .non, _ => by simp [D.py, PyData.eqv]
  | 0, .int _, _ => by simp [D.py, PyData.eqv]
  | n + 1, .int _, _ => by simp [D.py, PyData.eqv]
  | 0, .str s, h => by simp [D.py, PyData.eqv]
  | n + 1, .str s, h => by simp [D.py, PyData.eqv]
  | n + 1, .tup xs, h => by
    have h' := List.all_eq_true.mp (show xs.all (nic n) = true by simpa [nic] using h)
    rw [D.py, PyData.eqv, pyL_map]
    exact eqvAll_same (fun x hx => eqv_same n x (h' x hx))
  | n + 1, .lst _ xs, h => by
    have h' := List.all_eq_true.mp (show xs.all (nic n) = true by simpa [nic] using h)
    rw [D.py, PyData.eqv, pyL_map]
    exact eqvAll_same (fun x hx => eqv_same n x (h' x hx))
  | 0, .bl _, h => by simp [nic] at h
  | n + 1, .bl _, h => by simp [nic] at h
  | 0, .tup _, h => by simp [nic] at h
  | 0, .lst _ _, h => by simp [nic] at h
  | 0, .dic _ _ _ _, h => by simp [nic] at h
  | n + 1, .dic _ _ _ _, h => by simp [nic] at h
  | 0, .obj _ _ _ _, h => by simp [nic] at h
  | n + 1, .obj _ _ _ _, h => by simp [nic] at h
  | 0, .scr _, h => by simp [nic] at h
  | n + 1, .scr _, h => by simp [nic] at h
where eqvAll_same : ∀ {l : List D}, (∀ x ∈ l, PyData.eqv x.py x.py = true) → PyData.eqvAll (l.map D.py) (l.map D.py) = true
  | [], _ => by simp [PyData.eqvAll]
  | d :: l, h => by
    rw [List.map_cons, PyData.eqvAll, h d (by simp), eqvAll_same fun x hx => h x (by simp [hx])]
    rfl
/-- the same data (but for who owns what) are equal -/
theorem eq_same {n : Nat} {x y : D} (h : nic n x = true) (hn : n ≤ 60) (e : x.py = y.py) (hy : nic n y = true) (hs : x.sv = none) : opEq x y = some (.bl true) := by
  unfold opEq eqB
  rw [hs]
  simp only [nic_cmp h hn, nic_cmp hy hn, and_self, if_true]
  rw [← e, eqv_same n x h]
theorem eqv_strs : ∀ (xs ys : List Str), PyData.eqvAll ((xs.map D.str).map D.py) ((ys.map D.str).map D.py) = decide (xs = ys)
  | [], [] => by simp [PyData.eqvAll]
  | x :: xs, [] => by simp [PyData.eqvAll]
  | [], y :: ys => by simp [PyData.eqvAll]
  | x :: xs, y :: ys => by
    rw [List.map_cons, List.map_cons, List.map_cons, List.map_cons, PyData.eqvAll, eqv_strs xs ys]
    simp only [D.py, PyData.eqv]
    by_cases h : x = y
    · subst h; simp
    · have : (x == y) = false := by simpa using h
      simp [this, h]
theorem nic_strs {o : Bool} {xs : List Str} (h : ∀ x ∈ xs, PyData.strOk x = true) : nic 1 (.lst o (xs.map D.str)) = true := by
  simp only [nic, List.all_map, List.all_eq_true, Function.comp]
  exact fun x hx => h x hx
theorem eq_lstS {o o' : Bool} {xs ys : List Str} (h : ∀ x ∈ xs, PyData.strOk x = true) (h' : ∀ x ∈ ys, PyData.strOk x = true) : opEq (.lst o (xs.map D.str)) (.lst o' (ys.map D.str)) = some (.bl (decide (xs = ys))) := by
  unfold opEq eqB
  simp only [D.sv, nic_cmp (nic_strs (o := o) h) (by decide), nic_cmp (nic_strs (o := o') h') (by decide), and_self, if_true, D.py, pyL_map, PyData.eqv, eqv_strs]
theorem ne_lstS {o o' : Bool} {xs ys : List Str} (h : ∀ x ∈ xs, PyData.strOk x = true) (h' : ∀ x ∈ ys, PyData.strOk x = true) : opNe (.lst o (xs.map D.str)) (.lst o' (ys.map D.str)) = some (.bl (!decide (xs = ys))) := by
  unfold opNe eqB
  simp only [D.sv, nic_cmp (nic_strs (o := o) h) (by decide), nic_cmp (nic_strs (o := o') h') (by decide), and_self, if_true, D.py, pyL_map, PyData.eqv, eqv_strs]
theorem cut_from {α : Type} {xs : List α} {k : Nat} (h : k ≤ xs.length) : cutA xs (some (k : Int)) none = xs.drop k := by
  unfold cutA
  rw [HT.sIx_nat, HT.sIx_none, Nat.min_eq_left h, List.take_of_length_le (by simp)]
theorem cut_to {α : Type} {xs : List α} {k : Nat} (h : k ≤ xs.length) : cutA xs none (some (k : Int)) = xs.take k := by
  unfold cutA
  rw [HT.sIx_nat, HT.sIx_none, Nat.min_eq_left h, List.drop_zero, Nat.sub_zero]
theorem sl_from {o : Bool} {ds : List D} {k : Nat} (h : k ≤ ds.length) (hi : immL ds = true) : opSl (.lst o ds) (some (k : Int)) none = some (.lst true (ds.drop k)) := by
  simp only [opSl, cut_from h, hi, immL_drop k ds hi, if_true]
theorem sl_to {o : Bool} {ds : List D} {k : Nat} (h : k ≤ ds.length) (hi : immL ds = true) : opSl (.lst o ds) none (some (k : Int)) = some (.lst true (ds.take k)) := by
  simp only [opSl, cut_to h, hi, immL_take k ds hi, if_true]
end Dl

set_option Elab.async false
set_option linter.all false
set_option maxRecDepth 100000
set_option maxHeartbeats 1000000
/-! DS3: dicts with text keys, blocks over typed lists. -/
namespace Dl
open PySem

def kS (l : List (Str × D)) : List D := l.map fun p => D.str p.1
def vS (l : List (Str × D)) : List D := l.map (·.2)
def dicS (l : List (Str × D)) : D := .dic true .k (kS l) (vS l)
def setS (l : List (Str × D)) (x : Str) (v : D) : List (Str × D) := if x ∈ l.map (·.1) then l.map (fun p => if p.1 = x then (p.1, v) else p) else l ++ [(x, v)]
def mrg (l m : List (Str × D)) : List (Str × D) := m.foldl (fun l p => setS l p.1 p.2) l
theorem str_inj {a b : Str} : D.str a = D.str b ↔ a = b := ⟨fun e => by cases e; rfl, fun e => by rw [e]⟩
theorem mem_kS {l : List (Str × D)} {x : Str} : D.str x ∈ kS l ↔ x ∈ l.map (·.1) := by
  unfold kS
  simp only [List.mem_map, str_inj]
theorem look_kS : ∀ (l : List (Str × D)) (x : Str), lookD (kS l) (vS l) (.str x) = l.lookup x
  | [], x => rfl
  | (k, v) :: l, x => by
    show (if D.str k = D.str x then some v else lookD (kS l) (vS l) (.str x)) = _
    rw [look_kS l x, List.lookup_cons]
    by_cases h : k = x
    · subst h; simp
    · have h' : (x == k) = false := by simpa using fun e => h e.symm
      rw [if_neg (fun e => h (str_inj.mp e)), h']
theorem ix_kS {o : Bool} (l : List (Str × D)) (x : Str) : opIx (.dic o .k (kS l) (vS l)) (.str x) = l.lookup x := by
  show lookD (kS l) (vS l) (.str x) = _
  rw [look_kS]
theorem ix_dS (l : List (Str × D)) (x : Str) : opIx (dicS l) (.str x) = l.lookup x := ix_kS l x
theorem lookup_isSome : ∀ (l : List (Str × D)) (x : Str), (l.lookup x).isSome = decide (x ∈ l.map (·.1))
  | [], x => rfl
  | (k, v) :: l, x => by
    rw [List.lookup_cons]
    by_cases h : x = k
    · subst h; simp
    · have h' : (x == k) = false := by simpa using h
      rw [h']
      show (l.lookup x).isSome = _
      rw [lookup_isSome l x]
      simp [h]
theorem in_kS {o : Bool} (l : List (Str × D)) (x : Str) : opIn (.str x) (.dic o .k (kS l) (vS l)) = some (.bl (decide (x ∈ l.map (·.1)))) := by
  show some (D.bl (lookD (kS l) (vS l) (.str x)).isSome) = _
  rw [look_kS, lookup_isSome]
theorem in_dS (l : List (Str × D)) (x : Str) : opIn (.str x) (dicS l) = some (.bl (decide (x ∈ l.map (·.1)))) := in_kS l x
theorem zip_set (v : D) (x : Str) : ∀ (l : List (Str × D)), List.zipWith (fun q u => if q = D.str x then v else u) (kS l) (vS l) = vS (l.map fun p => if p.1 = x then (p.1, v) else p)
  | [] => rfl
  | (k, u) :: l => by
    show (if D.str k = D.str x then v else u) :: List.zipWith _ (kS l) (vS l) = _
    rw [zip_set v x l]
    by_cases h : k = x
    · subst h; simp [vS]
    · rw [if_neg (fun e => h (str_inj.mp e))]
      simp [vS, h]
theorem kS_set (v : D) (x : Str) (l : List (Str × D)) : kS (l.map fun p => if p.1 = x then (p.1, v) else p) = kS l := by
  unfold kS
  rw [List.map_map]
  apply List.map_congr_left
  intro p _
  simp only [Function.comp]
  split <;> rfl
theorem putKV_S (l : List (Str × D)) (x : Str) (v : D) : putKV (kS l) (vS l) (.str x) v = (kS (setS l x v), vS (setS l x v)) := by
  unfold putKV setS
  by_cases h : x ∈ l.map (·.1)
  · rw [if_pos (mem_kS.mpr h), if_pos h, zip_set, kS_set]
  · rw [if_neg (fun q => h (mem_kS.mp q)), if_neg h]
    simp [kS, vS]
theorem merge_S : ∀ (m l : List (Str × D)), mergeD (kS l) (vS l) (kS m) (vS m) = (kS (mrg l m), vS (mrg l m))
  | [], l => rfl
  | (x, v) :: m, l => by
    show mergeD (putKV (kS l) (vS l) (.str x) v).1 (putKV (kS l) (vS l) (.str x) v).2 (kS m) (vS m) = _
    rw [putKV_S, merge_S m (setS l x v)]
    rfl
theorem put_dS (l : List (Str × D)) (x : Str) (v : D) (hv : v.stable = true) (hl : l.length < 10000) : opPut (dicS l) (.str x) v = some (dicS (setS l x v)) := by
  unfold dicS setS
  show (if keyOk .k (.str x) = true ∧ (kS l).length < 10000 ∧ (kS l).length = (vS l).length then _ else none) = _
  rw [if_pos ⟨rfl, by unfold kS; rw [List.length_map]; exact hl, by simp [kS, vS]⟩]
  by_cases h : x ∈ l.map (·.1)
  · rw [if_pos (mem_kS.mpr h), if_pos hv, if_pos h, zip_set, kS_set]
  · rw [if_neg (fun q => h (mem_kS.mp q)), if_neg h]
    simp [kS, vS]
theorem pairs_S : ∀ (m : List (Str × D)), pairsD (m.map fun p => D.tup [.str p.1, p.2]) = some (kS m, vS m)
  | [] => rfl
  | (x, v) :: m => by
    rw [List.map_cons]
    show (match pairsD (m.map fun p => D.tup [.str p.1, p.2]) with | some (ks, vs) => if (D.str x).key.isSome = true then some (D.str x :: ks, v :: vs) else none | none => none) = _
    rw [pairs_S m]
    rfl
theorem dict_S {o : Bool} (m : List (Str × D)) (h : immL (vS m) = true) : opDict [.lst o (m.map fun p => D.tup [.str p.1, p.2])] = some (dicS (mrg [] m)) := by
  show (match pairsD (m.map fun p => D.tup [.str p.1, p.2]) with | some (ks, vs) => if immL vs = true then some (D.dic true .k (mergeD [] [] ks vs).1 (mergeD [] [] ks vs).2) else none | none => none) = _
  rw [pairs_S]
  show (if immL (vS m) = true then _ else none) = _
  rw [if_pos h]
  have := merge_S m []
  rw [show kS [] = [] from rfl, show vS [] = [] from rfl] at this
  rw [this]
  rfl
theorem keys_setS (l : List (Str × D)) (x y : Str) (v : D) : y ∈ (setS l x v).map (·.1) ↔ y ∈ l.map (·.1) ∨ y = x := by
  unfold setS
  split
  · rename_i h
    rw [List.map_map]
    have e : (fun p : Str × D => (if p.1 = x then (p.1, v) else p).1) = fun p => p.1 := by funext p; split <;> rfl
    show y ∈ l.map (fun p : Str × D => (if p.1 = x then (p.1, v) else p).1) ↔ _
    rw [e]
    exact ⟨.inl, fun q => q.elim id fun q => q ▸ h⟩
  · simp [List.map_append]
theorem keys_mrg : ∀ (m l : List (Str × D)) (y : Str), y ∈ (mrg l m).map (·.1) ↔ y ∈ l.map (·.1) ∨ y ∈ m.map (·.1)
  | [], l, y => by simp [mrg]
  | (x, v) :: m, l, y => by
    show y ∈ (mrg (setS l x v) m).map (·.1) ↔ _
    rw [keys_mrg m (setS l x v) y, keys_setS, List.map_cons, List.mem_cons, or_assoc]
theorem setS_len (l : List (Str × D)) (x : Str) (v : D) : (setS l x v).length ≤ l.length + 1 := by
  unfold setS
  split <;> simp
theorem mrg_len : ∀ (m l : List (Str × D)), (mrg l m).length ≤ l.length + m.length
  | [], l => by simp [mrg]
  | (x, v) :: m, l => by
    show (mrg (setS l x v) m).length ≤ _
    have h1 := mrg_len m (setS l x v)
    have h2 := setS_len l x v
    rw [List.length_cons]
    omega
theorem setS_new {l : List (Str × D)} {x : Str} {v : D} (h : x ∉ l.map (·.1)) : setS l x v = l ++ [(x, v)] := by unfold setS; rw [if_neg h]
theorem setS_last {l : List (Str × D)} {x : Str} {u v : D} (h : x ∉ l.map (·.1)) : setS (l ++ [(x, u)]) x v = l ++ [(x, v)] := by
  unfold setS
  rw [if_pos (by simp), List.map_append]
  congr 1
  · conv => rhs; rw [← List.map_id l]
    apply List.map_congr_left
    intro p hp
    rw [if_neg (fun e => h (List.mem_map.mpr ⟨p, hp, e⟩))]
    rfl
  · simp
theorem update_S {o : Bool} (l m : List (Str × D)) (hv : stableL (vS m) = true) (hl : l.length + m.length < 10000) : mUpdate (dicS l) [.dic o .k (kS m) (vS m)] = some (dicS (mrg l m), .non) := by
  show (if stableL (vS m) = true ∧ (kS l).length + (kS m).length < 10000 ∧ (kS l).length = (vS l).length ∧ (kS m).length = (vS m).length then _ else none) = _
  rw [if_pos ⟨hv, by simpa [kS] using hl, by simp [kS, vS], by simp [kS, vS]⟩, merge_S]
  rfl
theorem mrg_imm : ∀ (m l : List (Str × D)), immL (vS l) = true → immL (vS m) = true → immL (vS (mrg l m)) = true
  | [], l, h, _ => h
  | (x, v) :: m, l, h, h' => by
    have h2 : v.imm = true ∧ immL (vS m) = true := by simpa [vS, immL] using h'
    refine mrg_imm m (setS l x v) ?_ h2.2
    rw [immL_all] at h ⊢
    rw [List.all_eq_true] at h ⊢
    intro d hd
    unfold setS vS at hd
    split at hd
    · rw [List.map_map, List.mem_map] at hd
      obtain ⟨p, hp, rfl⟩ := hd
      simp only [Function.comp]
      split
      · exact h2.1
      · exact h _ (List.mem_map.mpr ⟨p, hp, rfl⟩)
    · rw [List.map_append, List.mem_append] at hd
      rcases hd with hd | hd
      · exact h _ hd
      · simp at hd; rw [hd]; exact h2.1

/-! blocks over typed lists -/
theorem compL_T {α : Type} {c : α → D} {p : α → Bool} {f : α → D} {g : GM} {t : BM} {e : EM} {vs : List Nat} {ρ : DEnv} : ∀ {xs : List α}, (∀ x ∈ xs, ∃ ρ1, g (c x) ρ = some ρ1 ∧ ∃ ρ2, t ρ1 = some (p x, ρ2) ∧ if p x = true then ∃ ρ3, e ρ2 = some (f x, ρ3) ∧ wipeD ρ3 vs = ρ else wipeD ρ2 vs = ρ) →
    compL g t e vs (xs.map c) ρ = some ((xs.filter p).map f, ρ)
  | [], _ => rfl
  | x :: xs, h => by
    obtain ⟨ρ1, h1, ρ2, h2, h3⟩ := h x (by simp)
    have ih := compL_T (c := c) (p := p) (f := f) (g := g) (t := t) (e := e) (vs := vs) (ρ := ρ) (xs := xs) fun y hy => h y (by simp [hy])
    rw [List.map_cons]
    cases hp : p x with
    | true =>
      rw [hp] at h2 h3
      rw [if_pos rfl] at h3
      obtain ⟨ρ3, h4, h5⟩ := h3
      simp only [compL, h1, h2, h4, h5, ih, List.filter_cons, hp, if_true, List.map_cons]
    | false =>
      rw [hp] at h2 h3
      rw [if_neg (by simp)] at h3
      simp only [compL, h1, h2, h3, ih, List.filter_cons, hp, Bool.false_eq_true, if_false]
theorem comp_T {α : Type} {c : α → D} {p : α → Bool} {f : α → D} {it : EM} {g : GM} {t : BM} {e : EM} {vs : List Nat} {ρ ρ1 : DEnv} {d : D} {xs : List α} (hi : it ρ = some (d, ρ1)) (hd : itemsD d.frz = some (xs.map c)) (hz : xs.length ≤ 10000)
    (h : ∀ x ∈ xs, ∃ ρ2, g (c x) (wipeD ρ1 vs) = some ρ2 ∧ ∃ ρ3, t ρ2 = some (p x, ρ3) ∧ if p x = true then ∃ ρ4, e ρ3 = some (f x, ρ4) ∧ wipeD ρ4 vs = wipeD ρ1 vs else wipeD ρ3 vs = wipeD ρ1 vs) :
    eComp it g t e vs ρ = some (.lst true ((xs.filter p).map f), wipeD ρ1 vs) := by
  unfold eComp
  rw [hi]
  show (match itemsD d.frz with | some ds => compE g t e vs ds ρ1 | none => none) = _
  rw [hd]
  exact compE_of (by rw [List.length_map]; exact hz) (compL_T h)
theorem comp_M {α : Type} {c : α → D} {f : α → D} {it : EM} {g : GM} {e : EM} {vs : List Nat} {ρ ρ1 : DEnv} {d : D} {xs : List α} (hi : it ρ = some (d, ρ1)) (hd : itemsD d.frz = some (xs.map c)) (hz : xs.length ≤ 10000)
    (h : ∀ x ∈ xs, ∃ ρ2, g (c x) (wipeD ρ1 vs) = some ρ2 ∧ ∃ ρ4, e ρ2 = some (f x, ρ4) ∧ wipeD ρ4 vs = wipeD ρ1 vs) :
    eComp it g bYes e vs ρ = some (.lst true (xs.map f), wipeD ρ1 vs) := by
  have := comp_T (p := fun _ => true) (f := f) hi hd hz (t := bYes) fun x hx => by
    obtain ⟨ρ2, h1, ρ4, h2, h3⟩ := h x hx
    exact ⟨ρ2, h1, ρ2, rfl, by rw [if_pos rfl]; exact ⟨ρ4, h2, h3⟩⟩
  rw [this, List.filter_eq_self.mpr (by simp)]
/-- a loop over a typed list, the parts done so far in the invariant -/
theorem forL_T {α : Type} {c : α → D} {g : GM} {body : SM} (xs : List α) (I : List α → DEnv → Prop) {ρ : DEnv} (h0 : I [] ρ) (hs : ∀ pre x post, xs = pre ++ x :: post → ∀ ρ, I pre ρ → ∃ ρ1 ρ2, g (c x) ρ = some ρ1 ∧ (body ρ1 = some (.nx, ρ2) ∨ body ρ1 = some (.ct, ρ2)) ∧ I (pre ++ [x]) ρ2) :
    ∃ ρ', forL g body (xs.map c) ρ = some (.nx, ρ') ∧ I xs ρ' := by
  have main : ∀ (post pre : List α) (ρ : DEnv), xs = pre ++ post → I pre ρ → ∃ ρ', forL g body (post.map c) ρ = some (.nx, ρ') ∧ I xs ρ' := by
    intro post
    induction post with
    | nil =>
      intro pre ρ e h
      rw [List.append_nil] at e
      subst e
      exact ⟨ρ, rfl, h⟩
    | cons x post ih =>
      intro pre ρ e h
      obtain ⟨ρ1, ρ2, h1, h2, h3⟩ := hs pre x post e ρ h
      obtain ⟨ρ', h4, h5⟩ := ih (pre ++ [x]) ρ2 (by rw [e, List.append_assoc]; rfl) h3
      refine ⟨ρ', ?_, h5⟩
      rw [List.map_cons]
      simp only [forL, h1]
      rcases h2 with h2 | h2 <;> simp only [h2, h4]
  exact main xs [] ρ rfl h0
theorem sFor_of {it : EM} {g : GM} {body : SM} {ρ ρ1 : DEnv} {d : D} {ds : List D} {r : Option (Fl × DEnv)} (hi : it ρ = some (d, ρ1)) (hd : itemsD d.frz = some ds) (h : forL g body ds ρ1 = r) : sFor it g body ρ = r := by
  unfold sFor
  rw [hi]
  show (match itemsD d.frz with | some ds => forL g body ds ρ1 | none => none) = _
  rw [hd, ← h]
theorem sForV_of {it : EM} {g : GM} {body : SM} {ρ ρ1 : DEnv} {d : D} {ds : List D} {r : Option (Fl × DEnv)} (hi : it ρ = some (d, ρ1)) (hd : itemsD d.frz = some ds) (h : forL g body ds.reverse ρ1 = r) : sForV it g body ρ = r := by
  unfold sForV
  rw [hi]
  show (match itemsD d.frz with | some ds => forL g body ds.reverse ρ1 | none => none) = _
  rw [hd, ← h]
theorem strs_imm : ∀ (l : List Str), immL (l.map D.str) = true
  | [] => rfl
  | x :: l => by rw [List.map_cons, immL, strs_imm l]; rfl
theorem ints_imm : ∀ (l : List Int), immL (l.map D.int) = true
  | [] => rfl
  | x :: l => by rw [List.map_cons, immL, ints_imm l]; rfl
theorem frz_strs (o : Bool) (l : List Str) : (D.lst o (l.map D.str)).frz = .lst false (l.map D.str) := by
  rw [D.frz, frzL_of_stable _ (stableL_of_imm _ (strs_imm l))]
theorem frz_tup {l : List D} (h : immL l = true) : (D.tup l).frz = .tup l := D.frz_of_stable _ (by rw [D.stable]; exact stableL_of_imm _ h)
end Dl

set_option Elab.async false
set_option linter.all false
set_option maxRecDepth 100000
set_option maxHeartbeats 1000000
/-! DS4: repr of lists and tuples of small things; sorted(d.items()) as data. -/
namespace Dl
open PySem

/-- as nic, the numbers less than 10 ^ 12 -/
def sml : Nat → D → Bool
  | _, .non => true
  | _, .int i => decide (i.natAbs < 1000000000000)
  | _, .str s => PyData.strOk s
  | n + 1, .tup xs => xs.all (sml n)
  | n + 1, .lst _ xs => xs.all (sml n)
  | _, _ => false
theorem showableAll_all : ∀ l : List PyData, PyData.showableAll l = l.all PyData.showable
  | [] => rfl
  | d :: l => by rw [PyData.showableAll, showableAll_all l, List.all_cons]
theorem intsShortAll_all : ∀ l : List PyData, PyData.intsShortAll 13 l = l.all (PyData.intsShort 13)
  | [] => rfl
  | d :: l => by rw [PyData.intsShortAll, intsShortAll_all l, List.all_cons]
theorem log_lt {i : Int} (h : i.natAbs < 1000000000000) : i.natAbs.log2 < 40 := by
  rcases Nat.eq_zero_or_pos i.natAbs with h0 | h0
  · rw [h0]; decide
  · have : (2 : Nat) ^ 40 = 1099511627776 := by decide
    exact (Nat.log2_lt (by omega)).mpr (by omega)
theorem int_weight {i : Int} (h : i.natAbs < 1000000000000) : (PyData.int i).weight ≤ 40 := by
  have := log_lt h
  rw [PyData.weight]
  split <;> omega
theorem sml_int {i : Int} (h : i.natAbs < 1000000000000) : (PyData.int i).showable = true ∧ (PyData.int i).intsShort 13 = true := by
  have e : (10 : Nat) ^ 12 = 1000000000000 := by decide
  constructor
  · simp only [PyData.showable, decide_eq_true_eq]
    have := log_lt h
    omega
  · simp only [PyData.intsShort, decide_eq_true_eq]
    exact PyData.shown_int_le (by omega)
theorem sml_ok : ∀ (n : Nat) (d : D), sml n d = true → nic n d = true ∧ d.py.showable = true ∧ d.py.intsShort 13 = true
  | 0, .non, _ => by simp [nic, D.py, PyData.showable, PyData.intsShort]
  | n + 1, .non, _ => by simp [nic, D.py, PyData.showable, PyData.intsShort]
  | 0, .int i, h => ⟨by simp [nic], sml_int (by simpa [sml] using h)⟩
  | n + 1, .int i, h => ⟨by simp [nic], sml_int (by simpa [sml] using h)⟩
  | 0, .str s, h => by simpa [nic, D.py, PyData.showable, PyData.intsShort, sml] using h
  | n + 1, .str s, h => by simpa [nic, D.py, PyData.showable, PyData.intsShort, sml] using h
  | n + 1, .tup xs, h => by
    have h' := List.all_eq_true.mp (show xs.all (sml n) = true by simpa [sml] using h)
    have hh := fun x hx => sml_ok n x (h' x hx)
    refine ⟨?_, ?_, ?_⟩
    · rw [nic]; exact List.all_eq_true.mpr fun x hx => (hh x hx).1
    · rw [D.py, PyData.showable, showableAll_all, pyL_map, List.all_map]; exact List.all_eq_true.mpr fun x hx => (hh x hx).2.1
    · rw [D.py, PyData.intsShort, intsShortAll_all, pyL_map, List.all_map]; exact List.all_eq_true.mpr fun x hx => (hh x hx).2.2
  | n + 1, .lst _ xs, h => by
    have h' := List.all_eq_true.mp (show xs.all (sml n) = true by simpa [sml] using h)
    have hh := fun x hx => sml_ok n x (h' x hx)
    refine ⟨?_, ?_, ?_⟩
    · rw [nic]; exact List.all_eq_true.mpr fun x hx => (hh x hx).1
    · rw [D.py, PyData.showable, showableAll_all, pyL_map, List.all_map]; exact List.all_eq_true.mpr fun x hx => (hh x hx).2.1
    · rw [D.py, PyData.intsShort, intsShortAll_all, pyL_map, List.all_map]; exact List.all_eq_true.mpr fun x hx => (hh x hx).2.2
  | 0, .bl _, h => by simp [sml] at h
  | n + 1, .bl _, h => by simp [sml] at h
  | 0, .tup _, h => by simp [sml] at h
  | 0, .lst _ _, h => by simp [sml] at h
  | 0, .dic _ _ _ _, h => by simp [sml] at h
  | n + 1, .dic _ _ _ _, h => by simp [sml] at h
  | 0, .obj _ _ _ _, h => by simp [sml] at h
  | n + 1, .obj _ _ _ _, h => by simp [sml] at h
  | 0, .scr _, h => by simp [sml] at h
  | n + 1, .scr _, h => by simp [sml] at h
theorem repr_lst {n : Nat} {o : Bool} {xs : List D} (h : sml n (.lst o xs) = true) (hn : n ≤ 60) (hw : (D.lst o xs).py.weight ≤ 2 ^ 20) : opRepr [.lst o xs] = some (.str (D.lst o xs).py.shown) := by
  obtain ⟨h1, h2, h3⟩ := sml_ok n _ h
  obtain ⟨h4, h5, h6⟩ := nic_ok n _ h1
  have hl := PyData.leavesShort_of_canLay0 13 _ h5 h3
  have hz := PyData.shown_fits (B := 13) (by decide) (by decide) hl hw
  rw [sizeLine_eq] at hz
  unfold opRepr
  exact if_pos ⟨h4, h2, PyData.hasDict_of_canLay _ h5, by omega, hz⟩
theorem weightAll_sum : ∀ l : List PyData, PyData.weightAll l = (l.map fun d => d.weight + 1).sum
  | [] => rfl
  | d :: l => by rw [PyData.weightAll, weightAll_sum l, List.map_cons, List.sum_cons]
theorem sum_le {k : Nat} : ∀ {l : List Nat}, (∀ x ∈ l, x ≤ k) → l.sum ≤ k * l.length
  | [], _ => by simp
  | x :: l, h => by
    have h1 := h x (by simp)
    have h2 := sum_le (k := k) (l := l) fun y hy => h y (by simp [hy])
    rw [List.sum_cons, List.length_cons, Nat.mul_add]
    omega
/-! sorted(d.items()), d of texts and numbers -/
def intS (t : List (Str × Int)) : List (Str × D) := t.map fun p => (p.1, D.int p.2)
theorem items_intS : ∀ t : List (Str × Int), itemsSI (kS (intS t)) (vS (intS t)) = some t
  | [] => rfl
  | (x, i) :: t => by
    show (match itemsSI (kS (intS t)) (vS (intS t)) with | some l => some ((x, i) :: l) | none => none) = _
    rw [items_intS t]
theorem srtIt_ok {t : List (Str × Int)} {i : Nat} {ρ : DEnv} (h : ρ.getD i none = some (dicS (intS t))) (hn : (t.map (·.1)).Nodup) (hl : t.length < 64) : eSrtIt i ρ = some (.lst true ((sortP t).map pairD), ρ) := by
  unfold eSrtIt
  rw [h]
  show (match itemsSI (kS (intS t)) (vS (intS t)) with | some l => _ | none => none) = _
  rw [items_intS]
  exact if_pos ⟨hn, hl⟩
theorem reprP_ok {o : Bool} {t : List (Str × Int)} (hs : ∀ e ∈ t, PyData.strOk e.1 = true ∧ e.1.length ≤ 1000 ∧ e.2.natAbs < 1000000000000) (hl : t.length ≤ 500) : opRepr [.lst o ((sortP t).map pairD)] = some (.str (D.lst o ((sortP t).map pairD)).py.shown) := by
  have hm : ∀ e ∈ sortP t, e ∈ t := fun e he => (List.mergeSort_perm t leP).mem_iff.mp he
  have hlen : (sortP t).length = t.length := (List.mergeSort_perm t leP).length_eq
  refine repr_lst (n := 2) ?_ (by decide) ?_
  · simp only [sml, List.all_map, List.all_eq_true]
    intro e he
    have := hs e (hm e he)
    simp [Function.comp, pairD, sml, this.1, this.2.2]
  · rw [D.py, PyData.weight, weightAll_sum, pyL_map, List.map_map, List.map_map]
    refine Nat.le_trans (sum_le (k := 1050) fun x hx => ?_) ?_
    · obtain ⟨e, he, rfl⟩ := List.mem_map.mp hx
      have := hs e (hm e he)
      have hz : e.1.cps.size ≤ 1000 := this.2.1
      have hw := int_weight this.2.2
      simp only [PyData.weight] at hw
      simp only [Function.comp, pairD, D.py, pyL, PyData.weight, PyData.weightAll]
      omega
    · rw [List.length_map, hlen]
      omega
end Dl

set_option Elab.async false
set_option linter.all false
set_option maxRecDepth 100000
set_option maxHeartbeats 1000000
/-! DS5: loops and blocks over ranges, dict loops. -/
namespace Dl
open PySem

theorem okR_mk {i : Int} (h1 : -1000000000 ≤ i) (h2 : i ≤ 1000000000) : okR i = true := lg_of (by omega) (by decide)
theorem forR2_of {a b : EM} {g : GM} {body : SM} {ρ ρ1 ρ2 : DEnv} {i j : Int} {r : Option (Fl × DEnv)} (ha : a ρ = some (.int i, ρ1)) (hb : b ρ1 = some (.int j, ρ2)) (h1 : -1000000000 ≤ i ∧ i ≤ 1000000000) (h2 : -1000000000 ≤ j ∧ j ≤ 1000000000) (h : forL g body (rangeD i (j - i).toNat) ρ2 = r) : sForR2 a b g body ρ = r := by
  unfold sForR2
  rw [ha]
  show (match b ρ1 with | some (.int j, ρ2) => if okR i = true ∧ okR j = true then forL g body (rangeD i (j - i).toNat) ρ2 else none | _ => none) = _
  rw [hb]
  show (if okR i = true ∧ okR j = true then _ else none) = _
  rw [if_pos ⟨okR_mk h1.1 h1.2, okR_mk h2.1 h2.2⟩, h]
theorem compR1_of {it : EM} {g : GM} {t : BM} {e : EM} {vs : List Nat} {ρ ρ1 ρ' : DEnv} {j : Int} {zs : List D} (hi : it ρ = some (.int j, ρ1)) (h1 : 0 ≤ j) (h2 : j ≤ 10000) (h : compL g t e vs (rangeD 0 j.toNat) (wipeD ρ1 vs) = some (zs, ρ')) : eCompR1 it g t e vs ρ = some (.lst true zs, ρ') := by
  unfold eCompR1
  rw [hi]
  show (if okR j = true then _ else none) = _
  rw [if_pos (okR_mk (by omega) (by omega))]
  exact compE_of (by rw [range_len]; omega) h
theorem forK_of {i : Nat} {g : GM} {body : SM} {ρ : DEnv} {kd : Kd} {ks vs : List D} {r : Option (Fl × DEnv)} (h : ρ[i]? = some (some (.dic true kd ks vs))) {r' : Fl × DEnv} (hf : forL g body ks (ρ.set i (some (.dic false kd ks (frzL vs)))) = some r') (hr : r = some r') (hx : ∀ x, r'.1 ≠ .xc x := by intro x e; cases e) (hk : kd ≠ .n := by decide) : sForK i g body ρ = r := by
  unfold sForK
  rw [h, hr]
  show (if kd = .n then none else noX (forL g body ks (ρ.set i (some (.dic false kd ks (frzL vs)))))) = _
  rw [if_neg hk]
  rw [hf]
  obtain ⟨f, q⟩ := r'
  cases f with
  | xc x => exact absurd rfl (hx x)
  | _ => rfl
/-- a range's turns, all of one invariant -/
theorem forL_rng {g : GM} {body : SM} (I : DEnv → Prop) {lo : Int} {n : Nat} {ρ : DEnv} (h0 : I ρ) (hs : ∀ (i : Nat), i < n → ∀ ρ, I ρ → ∃ ρ1 ρ2, g (.int (lo + i)) ρ = some ρ1 ∧ (body ρ1 = some (.nx, ρ2) ∨ body ρ1 = some (.ct, ρ2)) ∧ I ρ2) : ∃ ρ', forL g body (rangeD lo n) ρ = some (.nx, ρ') ∧ I ρ' := by
  obtain ⟨ρ', h1, h2⟩ := forL_inv (g := g) (body := body) (fun _ ρ => I ρ) (ds := rangeD lo n) (ρ := ρ) (k := 0) h0 fun i hi ρ q => by
    rw [range_at]
    exact hs i (by rw [range_len] at hi; exact hi) ρ q
  exact ⟨ρ', h1, h2⟩
end Dl

set_option Elab.async false
set_option linter.all false
set_option maxRecDepth 100000
set_option maxHeartbeats 1000000
/-! DS6: blocks that read alone, dicts by new keys, repr of tuples, enumerate. -/
namespace Dl
open PySem
theorem compQ_M {α : Type} {c : α → D} {f : α → D} {it : PM} {g : GM} {e : PM} {vs : List Nat} {ρ : DEnv} {d : D} {xs : List α} (hi : it ρ = some d) (hd : itemsD d = some (xs.map c)) (him : immL (xs.map c) = true) (hz : xs.length ≤ 10000)
    (h : ∀ x ∈ xs, ∃ ρ2, g (c x) (wipeD ρ vs) = some ρ2 ∧ e ρ2 = some (f x) ∧ (f x).stable = true ∧ wipeD ρ2 vs = wipeD ρ vs) :
    eCompQ it g e vs ρ = some (.lst true (xs.map f), wipeD ρ vs) := by
  unfold eCompQ
  rw [hi]
  show (match itemsD d with | some ds => if immL ds = true then compE g bYes (eP e) vs ds ρ else none | none => none) = _
  rw [hd]
  show (if immL (xs.map c) = true then _ else none) = _
  rw [if_pos him]
  refine compE_of (by rw [List.length_map]; exact hz) ?_
  have := compL_T (c := c) (p := fun _ => true) (f := f) (g := g) (t := bYes) (e := eP e) (vs := vs) (ρ := wipeD ρ vs) (xs := xs) fun x hx => by
    obtain ⟨ρ2, h1, h2, h3, h4⟩ := h x hx
    exact ⟨ρ2, h1, ρ2, rfl, by rw [if_pos rfl]; exact ⟨ρ2, eP_of h2 h3, h4⟩⟩
  rw [this, List.filter_eq_self.mpr (by simp)]
theorem getP_nil (d : D) : getP [] d = some d := rfl
theorem putP_nil (d d1 : D) : putP [] d d1 = some d1 := rfl
theorem mrg_new : ∀ (m l : List (Str × D)), (l.map (·.1) ++ m.map (·.1)).Nodup → mrg l m = l ++ m
  | [], l, _ => by simp [mrg]
  | (x, v) :: m, l, h => by
    have hx : x ∉ l.map (·.1) := fun hm => by
      rw [List.map_cons] at h
      exact (List.nodup_append.mp h).2.2 x hm x (by simp) rfl
    show mrg (setS l x v) m = _
    rw [setS_new hx, mrg_new m (l ++ [(x, v)]) (by rw [List.map_append]; simpa using h)]
    simp
theorem look_map {α : Type} (f : α → Str) (g : α → D) : ∀ (l : List α) (a : α), a ∈ l → (l.map f).Nodup → (l.map fun x => (f x, g x)).lookup (f a) = some (g a)
  | b :: l, a, h, hn => by
    rw [List.map_cons, List.lookup_cons]
    rw [List.map_cons, List.nodup_cons] at hn
    by_cases e : f a = f b
    · rw [e]
      rcases List.mem_cons.mp h with rfl | h
      · simp
      · exact absurd (List.mem_map.mpr ⟨a, h, e⟩) hn.1
    · have e' : (f a == f b) = false := by simpa using e
      rw [e']
      rcases List.mem_cons.mp h with rfl | h
      · exact absurd rfl e
      · exact look_map f g l a h hn.2
theorem repr_tup {n : Nat} {xs : List D} (h : sml n (.tup xs) = true) (hn : n ≤ 60) (hw : (D.tup xs).py.weight ≤ 2 ^ 20) : opRepr [.tup xs] = some (.str (D.tup xs).py.shown) := by
  obtain ⟨h1, h2, h3⟩ := sml_ok n _ h
  obtain ⟨h4, h5, h6⟩ := nic_ok n _ h1
  have hl := PyData.leavesShort_of_canLay0 13 _ h5 h3
  have hz := PyData.shown_fits (B := 13) (by decide) (by decide) hl hw
  rw [sizeLine_eq] at hz
  unfold opRepr
  exact if_pos ⟨h4, h2, PyData.hasDict_of_canLay _ h5, by omega, hz⟩
theorem mapIdx_map {α : Type} (f : α → D) : ∀ l : List α, (l.mapIdx fun _ x => f x) = l.map f
  | [] => rfl
  | x :: l => by rw [List.mapIdx_cons, mapIdx_map f l, List.map_cons]
theorem enum_idx {α : Type} (f : α → D) : ∀ (l : List α) (k : Nat), enumD k (l.map f) = l.mapIdx fun i x => .tup [.int ((k + i : Nat) : Int), f x]
  | [], k => rfl
  | x :: l, k => by
    rw [List.map_cons, enumD, enum_idx f l (k + 1), List.mapIdx_cons]
    congr 2
    funext i x
    congr 3
    omega
theorem forE_of {it : EM} {g : GM} {body : SM} {ρ ρ1 : DEnv} {d : D} {o : Bool} {ds : List D} {r : Option (Fl × DEnv)} (hi : it ρ = some (d, ρ1)) (hd : d.frz = .lst o ds) (h : forL g body (enumD 0 ds) ρ1 = r) : sForE it g body ρ = r := by
  unfold sForE
  rw [hi]
  show (match d.frz with | .lst _ ds => forL g body (enumD 0 ds) ρ1 | _ => none) = _
  rw [hd, ← h]
end Dl

set_option Elab.async false
set_option linter.all false
set_option maxRecDepth 100000
set_option maxHeartbeats 1000000
/-! DS7: slices; loops that may leave. -/
namespace Dl
open PySem
theorem cut_map {α β : Type} (f : α → β) (l : List α) (lo hi : Option Int) : cutA (l.map f) lo hi = (cutA l lo hi).map f := by
  unfold cutA
  rw [List.length_map, List.map_take, List.map_drop]
theorem cut_mem {α : Type} {l : List α} {lo hi : Option Int} {x : α} (h : x ∈ cutA l lo hi) : x ∈ l := by
  unfold cutA at h
  exact List.mem_of_mem_drop (List.mem_of_mem_take h)
theorem cut_len {α : Type} (l : List α) (lo hi : Option Int) : (cutA l lo hi).length ≤ l.length := by
  unfold cutA
  rw [List.length_take, List.length_drop]
  omega
theorem sl_lst {o : Bool} {ds : List D} (hi : immL ds = true) (a b : Option Int) : opSl (.lst o ds) a b = some (.lst true (cutA ds a b)) := by
  simp only [opSl, hi, if_true]
theorem add_lst {o o' : Bool} {ds es : List D} (h1 : immL ds = true) (h2 : immL es = true) (hl : ds.length + es.length ≤ 16777216) : opAdd (.lst o ds) (.lst o' es) = some (.lst true (ds ++ es)) := by
  simp only [opAdd, h1, h2, sizeLine_eq, and_self, hl, if_true]
theorem gtI {i j : Int} : opGt (.int i) (.int j) = some (.bl (decide (j < i))) := rfl
theorem leI {i j : Int} : opLe (.int i) (.int j) = some (.bl (decide (i ≤ j))) := rfl
theorem ltI {i j : Int} : opLt (.int i) (.int j) = some (.bl (decide (i < j))) := rfl
theorem subI {i j : Int} : opSub (.int i) (.int j) = some (.int (i - j)) := rfl
/-- a loop that goes on while all is well -/
def untilL {α σ : Type} (ok : σ → α → Bool) (step : σ → α → σ) (E : σ → DEnv) (out : σ → α → Fl × DEnv) : σ → List α → Fl × DEnv
  | s, [] => (.nx, E s)
  | s, x :: l => if ok s x = true then untilL ok step E out (step s x) l else out s x
theorem forL_until {α σ : Type} {c : α → D} {g : GM} {body : SM} (E : σ → DEnv) (P : σ → Prop) (ok : σ → α → Bool) (step : σ → α → σ) (out : σ → α → Fl × DEnv) : ∀ (xs : List α) (s : σ), P s →
    (∀ s x, P s → x ∈ xs → ∃ ρ1, g (c x) (E s) = some ρ1 ∧ if ok s x = true then (body ρ1 = some (.nx, E (step s x)) ∧ P (step s x)) else (body ρ1 = some (out s x) ∧ ((∃ d, (out s x).1 = .rt d) ∨ ∃ d, (out s x).1 = .xc d))) →
    forL g body (xs.map c) (E s) = some (untilL ok step E out s xs)
  | [], s, _, _ => rfl
  | x :: xs, s, h0, hs => by
    obtain ⟨ρ1, h1, h2⟩ := hs s x h0 (by simp)
    rw [List.map_cons]
    unfold untilL
    cases hk : ok s x with
    | true =>
      rw [if_pos hk] at h2
      have ih := forL_until (c := c) (g := g) (body := body) E P ok step out xs (step s x) h2.2 fun s' y hp hy => hs s' y hp (by simp [hy])
      simp only [forL, h1, h2.1, ih, if_true]
    | false =>
      rw [if_neg (by simp [hk])] at h2
      obtain ⟨e, h3⟩ := h2
      generalize out s x = r at e h3
      obtain ⟨fl, ρ2⟩ := r
      rcases h3 with ⟨d, rfl⟩ | ⟨d, rfl⟩
      · simp only [forL, h1, e, Bool.false_eq_true, if_false]
      · simp only [forL, h1, e, Bool.false_eq_true, if_false]
/-- a loop that goes to its end -/
theorem forL_fold {α σ : Type} {c : α → D} {g : GM} {body : SM} (E : σ → DEnv) (P : σ → Prop) (step : σ → α → σ) : ∀ (xs : List α) (s : σ), P s →
    (∀ s x, P s → x ∈ xs → ∃ ρ1, g (c x) (E s) = some ρ1 ∧ (body ρ1 = some (.nx, E (step s x)) ∨ body ρ1 = some (.ct, E (step s x))) ∧ P (step s x)) →
    forL g body (xs.map c) (E s) = some (.nx, E (xs.foldl step s)) ∧ P (xs.foldl step s)
  | [], s, h0, _ => ⟨rfl, h0⟩
  | x :: xs, s, h0, hs => by
    obtain ⟨ρ1, h1, h2, h3⟩ := hs s x h0 (by simp)
    have ih := forL_fold (c := c) (g := g) (body := body) E P step xs (step s x) h3 fun s' y hp hy => hs s' y hp (by simp [hy])
    rw [List.map_cons, List.foldl_cons]
    refine ⟨?_, ih.2⟩
    rcases h2 with h2 | h2 <;> simp only [forL, h1, h2, ih.1]
theorem enum_zip {α : Type} (f : α → D) (l : List α) : enumD 0 (l.map f) = l.zipIdx.map fun p => .tup [.int ((p.2 : Nat) : Int), f p.1] := by
  rw [enum_idx, List.mapIdx_eq_zipIdx_map]
  simp
theorem range_zip {α : Type} (l : List α) : rangeD 0 l.length = l.zipIdx.map fun p => .int ((p.2 : Nat) : Int) := by
  refine List.ext_getElem (by rw [range_len]; simp) fun i h1 h2 => ?_
  rw [range_at]
  simp
theorem zip_at {α : Type} {l : List α} {p : α × Nat} (h : p ∈ l.zipIdx) : l[p.2]? = some p.1 := by
  obtain ⟨x, i⟩ := p
  simpa [List.mem_zipIdx_iff_getElem?] using h
theorem ix_at {α : Type} {o : Bool} {c : α → D} {l : List α} {i : Nat} {x : α} (h : l[i]? = some x) : opIx (.lst o (l.map c)) (.int ((i : Nat) : Int)) = some (c x) := by
  have hl : i < l.length := (List.getElem?_eq_some_iff.mp h).1
  have h1 : (0 : Int) ≤ (i : Int) := by omega
  have h2 : (i : Int) < (l.map c).length := by rw [List.length_map]; omega
  simp only [opIx, atD, L2.atI, L2.ixN, h1, h2, if_true, Option.bind_some, Int.toNat_natCast, List.getElem?_map, h, Option.map_some]
end Dl

set_option Elab.async false
set_option linter.all false
set_option maxRecDepth 100000
set_option maxHeartbeats 2000000
/-! DS8: what holds behind a mirror: statement by statement. Plain Lean. -/
namespace Dl
open PySem
def Wp (s : SM) (ρ : DEnv) (Q : Fl → DEnv → Prop) : Prop := match s ρ with
  | some (f, ρ') => Q f ρ'
  | none => False
def We (e : EM) (ρ : DEnv) (Q : D → DEnv → Prop) : Prop := match e ρ with
  | some (d, ρ') => Q d ρ'
  | none => False
def Wb (c : BM) (ρ : DEnv) (Q : Bool → DEnv → Prop) : Prop := match c ρ with
  | some (b, ρ') => Q b ρ'
  | none => False
theorem Wp.iff {s : SM} {ρ : DEnv} {Q : Fl → DEnv → Prop} : Wp s ρ Q ↔ ∃ f ρ', s ρ = some (f, ρ') ∧ Q f ρ' := by
  unfold Wp
  split
  · rename_i f ρ' e
    exact ⟨fun q => ⟨f, ρ', e, q⟩, fun ⟨f1, ρ1, e1, q⟩ => by rw [e] at e1; cases e1; exact q⟩
  · rename_i e
    exact ⟨False.elim, fun ⟨f1, ρ1, e1, q⟩ => by rw [e] at e1; cases e1⟩
theorem Wp.ex {s : SM} {ρ : DEnv} {Q : Fl → DEnv → Prop} (h : Wp s ρ Q) : ∃ f ρ', s ρ = some (f, ρ') ∧ Q f ρ' := Wp.iff.mp h
theorem Wp.mk {s : SM} {ρ ρ' : DEnv} {f : Fl} {Q : Fl → DEnv → Prop} (e : s ρ = some (f, ρ')) (q : Q f ρ') : Wp s ρ Q := Wp.iff.mpr ⟨f, ρ', e, q⟩
theorem We.iff {s : EM} {ρ : DEnv} {Q : D → DEnv → Prop} : We s ρ Q ↔ ∃ f ρ', s ρ = some (f, ρ') ∧ Q f ρ' := by
  unfold We
  split
  · rename_i f ρ' e
    exact ⟨fun q => ⟨f, ρ', e, q⟩, fun ⟨f1, ρ1, e1, q⟩ => by rw [e] at e1; cases e1; exact q⟩
  · rename_i e
    exact ⟨False.elim, fun ⟨f1, ρ1, e1, q⟩ => by rw [e] at e1; cases e1⟩
theorem We.mk {s : EM} {ρ ρ' : DEnv} {f : D} {Q : D → DEnv → Prop} (e : s ρ = some (f, ρ')) (q : Q f ρ') : We s ρ Q := We.iff.mpr ⟨f, ρ', e, q⟩
theorem Wp.imp {s : SM} {ρ : DEnv} {Q R : Fl → DEnv → Prop} (h : Wp s ρ Q) (k : ∀ f ρ', Q f ρ' → R f ρ') : Wp s ρ R := by
  obtain ⟨f, ρ', e, q⟩ := h.ex
  exact .mk e (k _ _ q)
/-! what is to be shown behind a part -/
def kSeq (g : SM) (Q : Fl → DEnv → Prop) : Fl → DEnv → Prop := fun f ρ => match f with
  | .nx => Wp g ρ Q
  | f => Q f ρ
def kAsg (gm : GM) (Q : Fl → DEnv → Prop) : D → DEnv → Prop := fun d ρ => match gm d ρ with
  | some ρ' => Q .nx ρ'
  | none => False
def kIf (f g : SM) (Q : Fl → DEnv → Prop) : Bool → DEnv → Prop := fun b ρ => match b with
  | true => Wp f ρ Q
  | false => Wp g ρ Q
def kRet (Q : Fl → DEnv → Prop) : D → DEnv → Prop := fun d ρ => Q (.rt d) ρ
def kExp (Q : Fl → DEnv → Prop) : D → DEnv → Prop := fun _ ρ => Q .nx ρ
def kWp (vs : List Nat) (Q : Fl → DEnv → Prop) : Fl → DEnv → Prop := fun f ρ => Q f (wipeD ρ vs)
theorem kSeq_nx (g : SM) (Q : Fl → DEnv → Prop) (ρ : DEnv) : kSeq g Q .nx ρ = Wp g ρ Q := rfl
theorem kSeq_rt (g : SM) (Q : Fl → DEnv → Prop) (ρ : DEnv) (d : D) : kSeq g Q (.rt d) ρ = Q (.rt d) ρ := rfl
theorem kSeq_bk (g : SM) (Q : Fl → DEnv → Prop) (ρ : DEnv) : kSeq g Q .bk ρ = Q .bk ρ := rfl
theorem kSeq_ct (g : SM) (Q : Fl → DEnv → Prop) (ρ : DEnv) : kSeq g Q .ct ρ = Q .ct ρ := rfl
theorem kSeq_xc (g : SM) (Q : Fl → DEnv → Prop) (ρ : DEnv) (x : D) : kSeq g Q (.xc x) ρ = Q (.xc x) ρ := rfl
theorem kIf_t (f g : SM) (Q : Fl → DEnv → Prop) (ρ : DEnv) : kIf f g Q true ρ = Wp f ρ Q := rfl
theorem kIf_f (f g : SM) (Q : Fl → DEnv → Prop) (ρ : DEnv) : kIf f g Q false ρ = Wp g ρ Q := rfl
theorem kIf_dec {p : Prop} [Decidable p] {f g : SM} {Q : Fl → DEnv → Prop} {ρ : DEnv} (h1 : p → Wp f ρ Q) (h2 : ¬ p → Wp g ρ Q) : kIf f g Q (decide p) ρ := by
  by_cases h : p
  · rw [decide_eq_true h]; exact h1 h
  · rw [decide_eq_false h]; exact h2 h
theorem kIf_nd {p : Prop} [Decidable p] {f g : SM} {Q : Fl → DEnv → Prop} {ρ : DEnv} (h1 : ¬ p → Wp f ρ Q) (h2 : p → Wp g ρ Q) : kIf f g Q (!decide p) ρ := by
  by_cases h : p
  · rw [decide_eq_true h]; exact h2 h
  · rw [decide_eq_false h]; exact h1 h
theorem kIf_b {b : Bool} {f g : SM} {Q : Fl → DEnv → Prop} {ρ : DEnv} (h1 : b = true → Wp f ρ Q) (h2 : b = false → Wp g ρ Q) : kIf f g Q b ρ := by
  cases b
  · exact h2 rfl
  · exact h1 rfl
theorem kRet_eq (Q : Fl → DEnv → Prop) (d : D) (ρ : DEnv) : kRet Q d ρ = Q (.rt d) ρ := rfl
theorem kExp_eq (Q : Fl → DEnv → Prop) (d : D) (ρ : DEnv) : kExp Q d ρ = Q .nx ρ := rfl
theorem kWp_eq (vs : List Nat) (Q : Fl → DEnv → Prop) (f : Fl) (ρ : DEnv) : kWp vs Q f ρ = Q f (wipeD ρ vs) := rfl
theorem kAsg_N (i : Nat) (Q : Fl → DEnv → Prop) (d : D) (ρ : DEnv) : kAsg (gN i) Q d ρ = Q .nx (ρ.set i (some d)) := rfl
theorem wp_seq (f g : SM) (ρ : DEnv) (Q : Fl → DEnv → Prop) : Wp (sSeq f g) ρ Q = Wp f ρ (kSeq g Q) := by
  unfold Wp sSeq
  cases h : f ρ with
  | none => simp only
  | some p =>
    obtain ⟨fl, ρ1⟩ := p
    cases fl <;> rfl
theorem wp_asg (e : EM) (gm : GM) (ρ : DEnv) (Q : Fl → DEnv → Prop) : Wp (sAsg e gm) ρ Q = We e ρ (kAsg gm Q) := by
  unfold Wp We sAsg kAsg
  cases h : e ρ with
  | none => simp only
  | some p =>
    obtain ⟨d, ρ1⟩ := p
    simp only
    cases gm d ρ1 <;> rfl
theorem wp_if (c : BM) (f g : SM) (ρ : DEnv) (Q : Fl → DEnv → Prop) : Wp (sIf c f g) ρ Q = Wb c ρ (kIf f g Q) := by
  unfold Wp Wb sIf kIf
  cases h : c ρ with
  | none => simp only
  | some p =>
    obtain ⟨b, ρ1⟩ := p
    cases b <;> simp only [Wp]
theorem wp_ret (e : EM) (ρ : DEnv) (Q : Fl → DEnv → Prop) : Wp (sRet e) ρ Q = We e ρ (kRet Q) := by
  unfold Wp We sRet kRet
  cases h : e ρ <;> simp only
theorem wp_exp (e : EM) (ρ : DEnv) (Q : Fl → DEnv → Prop) : Wp (sExp e) ρ Q = We e ρ (kExp Q) := by
  unfold Wp We sExp kExp
  cases h : e ρ <;> simp only
theorem wp_wp (vs : List Nat) (s : SM) (ρ : DEnv) (Q : Fl → DEnv → Prop) : Wp (sWp vs s) ρ Q = Wp s ρ (kWp vs Q) := by
  unfold Wp sWp kWp
  cases h : s ρ <;> simp only
theorem wp_nil (ρ : DEnv) (Q : Fl → DEnv → Prop) : Wp sNil ρ Q = Q .nx ρ := rfl
theorem wp_retN (ρ : DEnv) (Q : Fl → DEnv → Prop) : Wp sRetN ρ Q = Q (.rt .non) ρ := rfl
theorem wp_ct (ρ : DEnv) (Q : Fl → DEnv → Prop) : Wp sCt ρ Q = Q .ct ρ := rfl
theorem wp_bk (ρ : DEnv) (Q : Fl → DEnv → Prop) : Wp sBk ρ Q = Q .bk ρ := rfl
theorem wb_bl (c : BM) (ρ ρ' : DEnv) (b : Bool) (Q : Bool → DEnv → Prop) (h : c ρ = some (b, ρ')) : Wb c ρ Q = Q b ρ' := by unfold Wb; rw [h]
theorem we_of {e : EM} {ρ ρ' : DEnv} {d : D} (h : e ρ = some (d, ρ')) (Q : D → DEnv → Prop) : We e ρ Q = Q d ρ' := by unfold We; rw [h]
theorem wp_of {s : SM} {ρ ρ' : DEnv} {f : Fl} (h : s ρ = some (f, ρ')) (Q : Fl → DEnv → Prop) : Wp s ρ Q = Q f ρ' := by unfold Wp; rw [h]
/-! loops -/
/-- what a turn has to leave -/
def kTurn (I : DEnv → Prop) (Q : Fl → DEnv → Prop) : Fl → DEnv → Prop := fun f ρ => match f with
  | .nx => I ρ
  | .ct => I ρ
  | .bk => Q .nx ρ
  | f => Q f ρ
theorem kTurn_nx (I : DEnv → Prop) (Q : Fl → DEnv → Prop) (ρ : DEnv) : kTurn I Q .nx ρ = I ρ := rfl
theorem kTurn_ct (I : DEnv → Prop) (Q : Fl → DEnv → Prop) (ρ : DEnv) : kTurn I Q .ct ρ = I ρ := rfl
theorem kTurn_bk (I : DEnv → Prop) (Q : Fl → DEnv → Prop) (ρ : DEnv) : kTurn I Q .bk ρ = Q .nx ρ := rfl
theorem kTurn_rt (I : DEnv → Prop) (Q : Fl → DEnv → Prop) (ρ : DEnv) (d : D) : kTurn I Q (.rt d) ρ = Q (.rt d) ρ := rfl
theorem kTurn_xc (I : DEnv → Prop) (Q : Fl → DEnv → Prop) (ρ : DEnv) (d : D) : kTurn I Q (.xc d) ρ = Q (.xc d) ρ := rfl
/-- a list's turns -/
theorem forL_wp {α : Type} {c : α → D} {g : GM} {body : SM} {Q : Fl → DEnv → Prop} : ∀ (xs : List α) (I : List α → DEnv → Prop) {ρ : DEnv}, I [] ρ →
    (∀ pre x post, xs = pre ++ x :: post → ∀ ρ, I pre ρ → ∃ ρ1, g (c x) ρ = some ρ1 ∧ Wp body ρ1 (kTurn (I (pre ++ [x])) Q)) → (∀ ρ, I xs ρ → Q .nx ρ) →
    ∃ f ρ', forL g body (xs.map c) ρ = some (f, ρ') ∧ Q f ρ'
  | [], I, ρ, h0, _, hq => ⟨_, _, rfl, hq _ h0⟩
  | x :: xs, I, ρ, h0, hs, hq => by
    obtain ⟨ρ1, h1, h2⟩ := hs [] x xs rfl ρ h0
    obtain ⟨f, ρ2, h3, h4⟩ := h2.ex
    have go : I [x] ρ2 → (∃ f ρ', forL g body (xs.map c) ρ2 = some (f, ρ') ∧ Q f ρ') := fun hi =>
      forL_wp xs (fun pre => I (x :: pre)) hi (fun pre y post e ρ q => hs (x :: pre) y post (by rw [e]; rfl) ρ q) hq
    cases f with
    | nx =>
      obtain ⟨f', ρ', e, q⟩ := go h4
      exact ⟨f', ρ', by simp only [List.map_cons, forL, h1, h3, e], q⟩
    | ct =>
      obtain ⟨f', ρ', e, q⟩ := go h4
      exact ⟨f', ρ', by simp only [List.map_cons, forL, h1, h3, e], q⟩
    | bk => exact ⟨.nx, ρ2, by simp only [List.map_cons, forL, h1, h3], h4⟩
    | rt d => exact ⟨.rt d, ρ2, by simp only [List.map_cons, forL, h1, h3], h4⟩
    | xc d => exact ⟨.xc d, ρ2, by simp only [List.map_cons, forL, h1, h3], h4⟩
/-- for x in a list or a tuple -/
theorem wp_for {α : Type} {it : EM} {g : GM} {body : SM} {ρ ρ1 : DEnv} {d : D} {Q : Fl → DEnv → Prop} (c : α → D) (xs : List α) (I : List α → DEnv → Prop) (hi : it ρ = some (d, ρ1)) (hd : itemsD d.frz = some (xs.map c)) (h0 : I [] ρ1)
    (hs : ∀ pre x post, xs = pre ++ x :: post → ∀ ρ, I pre ρ → ∃ ρ1, g (c x) ρ = some ρ1 ∧ Wp body ρ1 (kTurn (I (pre ++ [x])) Q)) (hq : ∀ ρ, I xs ρ → Q .nx ρ) : Wp (sFor it g body) ρ Q := by
  obtain ⟨f, ρ', e, q⟩ := forL_wp xs I h0 hs hq
  exact .mk (sFor_of hi hd e) q
/-- for k in range(j) -/
theorem wp_for1 {it : EM} {g : GM} {body : SM} {ρ ρ1 : DEnv} {Q : Fl → DEnv → Prop} (j : Nat) (I : Nat → DEnv → Prop) (hi : it ρ = some (.int (j : Int), ρ1)) (hj : j ≤ 10000) (h0 : I 0 ρ1)
    (hs : ∀ k, k < j → ∀ ρ, I k ρ → ∃ ρ1, g (.int (k : Int)) ρ = some ρ1 ∧ Wp body ρ1 (kTurn (I (k + 1)) Q)) (hq : ∀ ρ, I j ρ → Q .nx ρ) : Wp (sForR1 it g body) ρ Q := by
  obtain ⟨f, ρ', e, q⟩ := forL_wp (c := fun k : Nat => D.int (k : Int)) (g := g) (body := body) (Q := Q) (List.range j) (fun pre => I pre.length) h0 (fun pre x post e ρ q => by
    have h1 : x = pre.length := by
      have h2 : (List.range j)[pre.length]? = some x := by rw [e, List.getElem?_append_right (Nat.le_refl _), Nat.sub_self]; rfl
      have h3 := List.getElem?_eq_some_iff.mp h2
      obtain ⟨h4, h5⟩ := h3
      rw [List.getElem_range] at h5
      exact h5.symm
    have h2 : pre.length < j := by
      have := congrArg List.length e
      rw [List.length_range, List.length_append, List.length_cons] at this
      omega
    subst h1
    rw [List.length_append]
    exact hs _ h2 ρ q) (fun ρ q => by rw [List.length_range] at q; exact hq ρ q)
  refine .mk (forR1_of hi (by omega) (by omega) (r := some (f, ρ')) ?_) q
  have : rangeD 0 ((j : Int).toNat) = (List.range j).map fun k : Nat => D.int (k : Int) := by
    rw [Int.toNat_natCast]
    unfold rangeD
    refine List.map_congr_left fun k _ => ?_
    rw [Int.zero_add]
  rw [this]
  exact e
/-- for k in range(a, b), from an int on -/
theorem wp_for2 {a b : EM} {g : GM} {body : SM} {ρ ρ1 ρ2 : DEnv} {Q : Fl → DEnv → Prop} (i : Int) (n : Nat) (I : Nat → DEnv → Prop) (ha : a ρ = some (.int i, ρ1)) (j : Int) (hb : b ρ1 = some (.int j, ρ2)) (hn : (j - i).toNat = n) (h1 : -1000000000 ≤ i ∧ i ≤ 1000000000) (h2 : -1000000000 ≤ j ∧ j ≤ 1000000000) (h0 : I 0 ρ2)
    (hs : ∀ k, k < n → ∀ ρ, I k ρ → ∃ ρ1, g (.int (i + (k : Int))) ρ = some ρ1 ∧ Wp body ρ1 (kTurn (I (k + 1)) Q)) (hq : ∀ ρ, I n ρ → Q .nx ρ) : Wp (sForR2 a b g body) ρ Q := by
  obtain ⟨f, ρ', e, q⟩ := forL_wp (c := fun k : Nat => D.int (i + (k : Int))) (g := g) (body := body) (Q := Q) (List.range n) (fun pre => I pre.length) h0 (fun pre x post e ρ q => by
    have h1 : x = pre.length := by
      have h2 : (List.range n)[pre.length]? = some x := by rw [e, List.getElem?_append_right (Nat.le_refl _), Nat.sub_self]; rfl
      obtain ⟨h4, h5⟩ := List.getElem?_eq_some_iff.mp h2
      rw [List.getElem_range] at h5
      exact h5.symm
    have h2 : pre.length < n := by
      have := congrArg List.length e
      rw [List.length_range, List.length_append, List.length_cons] at this
      omega
    subst h1
    rw [List.length_append]
    exact hs _ h2 ρ q) (fun ρ q => by rw [List.length_range] at q; exact hq ρ q)
  subst hn
  exact .mk (forR2_of ha hb h1 h2 (r := some (f, ρ')) e) q
/-- for k in a dict's keys: the slot is read-only -/
theorem wp_forK {i : Nat} {g : GM} {body : SM} {ρ : DEnv} {α : Type} {c : α → D} {xs : List α} {vs : List D} {Q : Fl → DEnv → Prop} (I : List α → DEnv → Prop) (h : ρ[i]? = some (some (.dic true .k (xs.map c) vs))) (h0 : I [] (ρ.set i (some (.dic false .k (xs.map c) (frzL vs)))))
    (hs : ∀ pre x post, xs = pre ++ x :: post → ∀ ρ, I pre ρ → ∃ ρ1, g (c x) ρ = some ρ1 ∧ Wp body ρ1 (kTurn (I (pre ++ [x])) (fun f ρ => (∀ x, f ≠ .xc x) ∧ Q f ρ))) (hq : ∀ ρ, I xs ρ → Q .nx ρ) : Wp (sForK i g body) ρ Q := by
  obtain ⟨f, ρ', e, q1, q2⟩ := forL_wp (c := c) xs I (Q := fun f ρ => (∀ x, f ≠ .xc x) ∧ Q f ρ) h0 hs fun ρ q => ⟨fun x e => (by cases e), hq ρ q⟩
  exact .mk (forK_of h (r' := (f, ρ')) e rfl q1) q2
/-- while: a measure falls -/
theorem wp_while {c : BM} {body : SM} {Q : Fl → DEnv → Prop} (I : Nat → DEnv → Prop) : ∀ (n : Nat) {ρ : DEnv}, I n ρ → (∀ k ρ, I k ρ → Wb c ρ fun b ρ1 => if b = true then Wp body ρ1 (kTurn (fun ρ2 => ∃ j, j < k ∧ I j ρ2) Q) else Q .nx ρ1) → Wp (sWhile c body) ρ Q := by
  have key : ∀ (n : Nat) {ρ : DEnv}, I n ρ → (∀ k ρ, I k ρ → Wb c ρ fun b ρ1 => if b = true then Wp body ρ1 (kTurn (fun ρ2 => ∃ j, j < k ∧ I j ρ2) Q) else Q .nx ρ1) → ∃ m f ρ', whileN c body m ρ = some (f, ρ') ∧ Q f ρ' := by
    intro n
    induction n using Nat.strongRecOn with
    | _ n ih =>
      intro ρ h0 hs
      have h1 := hs n ρ h0
      unfold Wb at h1
      cases hc : c ρ with
      | none => rw [hc] at h1; exact h1.elim
      | some p =>
        obtain ⟨b, ρ1⟩ := p
        rw [hc] at h1
        cases b with
        | false => exact ⟨1, .nx, ρ1, by simp only [whileN, hc], h1⟩
        | true =>
          obtain ⟨f, ρ2, e, q⟩ := Wp.ex h1
          have go : (∃ j, j < n ∧ I j ρ2) → (∃ m f ρ', whileN c body m ρ2 = some (f, ρ') ∧ Q f ρ') := fun ⟨j, hj, hi⟩ => ih j hj hi hs
          cases f with
          | nx =>
            obtain ⟨m, f', ρ', e', q'⟩ := go q
            exact ⟨m + 1, f', ρ', by simp only [whileN, hc, e, e'], q'⟩
          | ct =>
            obtain ⟨m, f', ρ', e', q'⟩ := go q
            exact ⟨m + 1, f', ρ', by simp only [whileN, hc, e, e'], q'⟩
          | bk => exact ⟨1, .nx, ρ2, by simp only [whileN, hc, e], q⟩
          | rt d => exact ⟨1, .rt d, ρ2, by simp only [whileN, hc, e], q⟩
          | xc d => exact ⟨1, .xc d, ρ2, by simp only [whileN, hc, e], q⟩
  intro n ρ h0 hs
  obtain ⟨m, f, ρ', e, q⟩ := key n h0 hs
  exact .mk (sWhile_of e) q
/-! a def -/
/-- what a def tells -/
def kFn (np : Nat) (rest : List D) (P : D → List D → Prop) : Fl → DEnv → Prop := fun f ρ => match f with
  | .rt d => match outs np ρ with
    | some os => P d (os ++ rest)
    | none => False
  | .nx => match outs np ρ with
    | some os => P .non (os ++ rest)
    | none => False
  | _ => False
theorem kFn_rt (np : Nat) (rest : List D) (P : D → List D → Prop) (d : D) (ρ : DEnv) : kFn np rest P (.rt d) ρ = match outs np ρ with
    | some os => P d (os ++ rest)
    | none => False := rfl
theorem kFn_nx (np : Nat) (rest : List D) (P : D → List D → Prop) (ρ : DEnv) : kFn np rest P .nx ρ = match outs np ρ with
    | some os => P .non (os ++ rest)
    | none => False := rfl
theorem wp_fn {na np n : Nat} {body : SM} {ds : List D} {P : D → List D → Prop} (hn : ds.length = na) (hs : (ds.drop np).all D.stable = true) (h : Wp body (ds.map some ++ List.replicate (n - na) none) (kFn np (ds.drop np) P)) : ∃ d os, fnM na np n body ds = some (d, os) ∧ P d os := by
  obtain ⟨f, ρ', e, q⟩ := h.ex
  unfold fnM
  rw [if_pos ⟨hn, hs⟩, e]
  cases f with
  | rt d =>
    unfold kFn at q
    cases ho : outs np ρ' with
    | none => rw [ho] at q; exact q.elim
    | some os => rw [ho] at q; exact ⟨d, os ++ ds.drop np, by simp only [ho], q⟩
  | nx =>
    unfold kFn at q
    cases ho : outs np ρ' with
    | none => rw [ho] at q; exact q.elim
    | some os => rw [ho] at q; exact ⟨.non, os ++ ds.drop np, by simp only [ho], q⟩
  | bk => exact q.elim
  | ct => exact q.elim
  | xc d => exact q.elim
/-- the value and the arguments behind it are told -/
theorem wp_fnE {na np n : Nat} {body : SM} {ds os : List D} {d : D} (hn : ds.length = na) (hs : (ds.drop np).all D.stable = true) (h : Wp body (ds.map some ++ List.replicate (n - na) none) (kFn np (ds.drop np) fun d' os' => d' = d ∧ os' = os)) : fnM na np n body ds = some (d, os) := by
  obtain ⟨d', os', e, h1, h2⟩ := wp_fn hn hs h
  rw [e, h1, h2]
end Dl

set_option Elab.async false
set_option linter.all false
set_option maxRecDepth 100000
set_option maxHeartbeats 2000000
/-! DS9: tables whose keys are written as data; dicts by texts compared. -/
namespace Dl
open PySem
section
variable {σ β : Type} [DecidableEq σ] (kf : σ → D) (vf : β → D)
def tkD (g : List (σ × β)) : List D := g.map fun p => kf p.1
def tvD (g : List (σ × β)) : List D := g.map fun p => vf p.2
/-- the keys of a table and one more are told apart -/
def Apt (g : List (σ × β)) (k : σ) : Prop := ∀ p ∈ g, kf p.1 = kf k → p.1 = k
theorem look_tD : ∀ (g : List (σ × β)) (k : σ), Apt kf g k → lookD (tkD kf g) (tvD vf g) (kf k) = (g.lookup k).map vf
  | [], k, _ => rfl
  | (a, b) :: g, k, h => by
    have h0 := h (a, b) (by simp)
    have ih := look_tD g k fun p hp => h p (by simp [hp])
    show lookD (kf a :: tkD kf g) (vf b :: tvD vf g) (kf k) = _
    rw [lookD, List.lookup_cons]
    by_cases e : kf a = kf k
    · have := h0 e
      simp only at this
      subst this
      simp
    · have : (k == a) = false := by
        rw [beq_eq_false_iff_ne]
        exact fun q => e (by rw [q])
      rw [if_neg e, this]
      exact ih
theorem key_tD {g : List (σ × β)} {k : σ} (h : Apt kf g k) : kf k ∈ tkD kf g ↔ k ∈ g.map (·.1) := by
  constructor
  · intro q
    obtain ⟨p, hp, e⟩ := List.mem_map.mp q
    exact List.mem_map.mpr ⟨p, hp, h p hp e⟩
  · intro q
    obtain ⟨p, hp, rfl⟩ := List.mem_map.mp q
    exact List.mem_map.mpr ⟨p, hp, rfl⟩
theorem any_tD {g : List (σ × β)} {k : σ} (h : Apt kf g k) : ((tkD kf g).any fun z => decide (z = kf k)) = decide (k ∈ g.map (·.1)) := by
  rw [Bool.eq_iff_iff, decide_eq_true_iff, ← key_tD kf h, List.any_eq_true]
  constructor
  · rintro ⟨z, hz, e⟩
    rwa [of_decide_eq_true e] at hz
  · exact fun q => ⟨_, q, by simp⟩
theorem in_tD {g : List (σ × β)} {k : σ} (neg o : Bool) (h : Apt kf g k) (hk : nkOk (kf k) = true) : opInN neg (kf k) (.dic o .n (tkD kf g) (tvD vf g)) = some (.bl (if neg then !decide (k ∈ g.map (·.1)) else decide (k ∈ g.map (·.1)))) := by
  show (if nkOk (kf k) = true then some (D.bl (if neg = true then !((tkD kf g).any fun z => decide (z = kf k)) else (tkD kf g).any fun z => decide (z = kf k))) else none) = _
  rw [if_pos hk, any_tD kf h]
theorem ix_tD {g : List (σ × β)} {k : σ} {o : Bool} {b : β} (h : Apt kf g k) (hk : nkOk (kf k) = true) (hb : g.lookup k = some b) (hi : (vf b).imm = true) : opIxN (.dic o .n (tkD kf g) (tvD vf g)) (kf k) = some (vf b) := by
  show (if nkOk (kf k) = true then (match lookD (tkD kf g) (tvD vf g) (kf k) with | some d => if d.imm = true then some d else none | none => none) else none) = _
  rw [if_pos hk, look_tD kf vf g k h, hb]
  show (if (vf b).imm = true then some (vf b) else none) = _
  rw [if_pos hi]
theorem new_tD {g : List (σ × β)} {k : σ} (v : β) (h : Apt kf g k) (hk : nkOk (kf k) = true) (hn : k ∉ g.map (·.1)) (hl : g.length < 10000) : opPutN (.dic true .n (tkD kf g) (tvD vf g)) (kf k) (vf v) = some (.dic true .n (tkD kf (g ++ [(k, v)])) (tvD vf (g ++ [(k, v)]))) := by
  show (if nkOk (kf k) = true ∧ (tkD kf g).length < 10000 ∧ (tkD kf g).length = (tvD vf g).length ∧ ((tkD kf g).any fun z => decide (z = kf k)) = false then _ else _) = _
  rw [if_pos ⟨hk, by unfold tkD; rw [List.length_map]; exact hl, by unfold tkD tvD; rw [List.length_map, List.length_map], by rw [any_tD kf h, decide_eq_false hn]⟩]
  unfold tkD tvD
  rw [List.map_append, List.map_append]
  rfl
end
theorem look_isSome {α β : Type} [DecidableEq α] : ∀ (l : List (α × β)) (x : α), (l.lookup x).isSome = decide (x ∈ l.map (·.1))
  | [], x => by simp
  | (a, b) :: l, x => by
    rw [List.lookup_cons, List.map_cons]
    by_cases h : x = a
    · subst h; simp
    · have hb : (x == a) = false := by rw [beq_eq_false_iff_ne]; exact h
      rw [hb]
      simp [h, look_isSome l x]
theorem look_none {α β : Type} [DecidableEq α] {l : List (α × β)} {x : α} : l.lookup x = none ↔ x ∉ l.map (·.1) := by
  have := look_isSome l x
  cases h : l.lookup x with
  | none => rw [h] at this; simp only [Option.isSome_none] at this; exact ⟨fun _ => of_decide_eq_false this.symm, fun _ => rfl⟩
  | some b => rw [h] at this; simp only [Option.isSome_some] at this; exact ⟨fun q => (by cases q), fun q => absurd (of_decide_eq_true this.symm) q⟩
/-- texts to texts -/
def sS (l : List (Str × Str)) : List (Str × D) := l.map fun p => (p.1, .str p.2)
theorem sS_keys (l : List (Str × Str)) : (sS l).map (·.1) = l.map (·.1) := by unfold sS; rw [List.map_map]; rfl
theorem sS_lookup : ∀ (l : List (Str × Str)) (x : Str), (sS l).lookup x = (l.lookup x).map D.str
  | [], x => rfl
  | (a, b) :: l, x => by
    show ((a, D.str b) :: sS l).lookup x = _
    rw [List.lookup_cons, List.lookup_cons]
    cases h : x == a with
    | true => rfl
    | false => exact sS_lookup l x
/-- a dict by texts is its like -/
theorem eqX_same {o o' : Bool} {l : List (Str × Str)} (hn : (l.map (·.1)).Nodup) : dEqB (.dic o .k (kS (sS l)) (vS (sS l))) (.dic o' .k (kS (sS l)) (vS (sS l))) = some true := by
  show (if (kS (sS l)).length = (kS (sS l)).length then (if allHit (kS (sS l)) (vS (sS l)) (kS (sS l)) (vS (sS l)) = true then some true else none) else some false) = _
  rw [if_pos rfl, if_pos]
  have key : ∀ (m : List (Str × Str)), (∀ p ∈ m, p ∈ l) → allHit (kS (sS l)) (vS (sS l)) (kS (sS m)) (vS (sS m)) = true := by
    intro m
    induction m with
    | nil => intro _; rfl
    | cons p m ih =>
      intro h
      show ((true && true && decide (lookD (kS (sS l)) (vS (sS l)) (.str p.1) = some (.str p.2))) && allHit (kS (sS l)) (vS (sS l)) (kS (sS m)) (vS (sS m))) = true
      rw [ih fun q hq => h q (by simp [hq]), look_kS, sS_lookup]
      have : l.lookup p.1 = some p.2 := by
        have hp := h p (by simp)
        clear h ih
        revert hp
        induction l with
        | nil => intro hp; cases hp
        | cons q l ih =>
          intro hp
          rw [List.map_cons, List.nodup_cons] at hn
          rcases List.mem_cons.mp hp with rfl | hp2
          · obtain ⟨a, b⟩ := p
            rw [List.lookup_cons]
            simp
          · obtain ⟨a, b⟩ := q
            rw [List.lookup_cons]
            have : (p.1 == a) = false := by
              rw [beq_eq_false_iff_ne]
              intro e
              exact hn.1 (List.mem_map.mpr ⟨p, hp2, e⟩)
            rw [this]
            exact ih hn.2 hp2
      rw [this]
      simp
  exact key l fun p hp => hp
end Dl

set_option Elab.async false
set_option linter.all false
set_option maxRecDepth 100000
set_option maxHeartbeats 2000000
namespace Lk
open PySem Dl
theorem digit_ok (t m : Int) (h : 0 < m) (h2 : m < 1073741824) : m__law_digit [.lst true [.int t], .int m] = some (.int (t % m), [.lst true [.int (t / m)], .int m]) := by
  have e := divI (i := t) h h2
  have e' := modI (i := t) h
  simp [m__law_digit, b__law_digit, fnM, outs, sSeq, sIf, sAsg, sRet, sRetN, sNil, sExp, sNo, bP, bV, bAnd, bOr, bNot, bYes, eP, eMv, eFr, pVar, pC, pOp2, pOp1, eOp2, eOpP, eOpPP, eOpN, eOpV, eIx, eIxP, pBi, pAll, eBi, eBiP, takeA, valsA, aE, aS, aNil, eTup, eLst, eCall, callA, putA, gN, gT, gTu, gSt, lVar, lIx, getP, putP, getS, putS, eMt, eMt0, mAppend, opPut, opIx, atD, L2.atI, L2.ixN, opLen, opLt, opLe, opGt, opGe, opSub, eqI, eqS, neI, neS, opIsN, opNotN, D.stable, stableL, D.imm, immL, D.frz, frzL, pSl, pPart, ePO, opSl, List.set_cons_zero, List.set_cons_succ, List.getD_cons_zero, List.getD_cons_succ, e, e']
theorem digit_call {ρ ρ' : DEnv} {i : Nat} {t m : Int} {e : EM} {d : D} (h0 : ρ.getD i none = some d) (he : e ρ = some (.int m, ρ')) (ht : ρ'.getD i none = some (.lst true [.int t])) (h : 0 < m) (h2 : m < 1073741824) :
    eCall m__law_digit (aS i (aE e aNil)) ρ = some (.int (t % m), ρ'.set i (some (.lst true [.int (t / m)]))) := by
  simp only [eCall, aS, aE, aNil, h0, he, callA, takeA, ht, digit_ok t m h h2, putA, List.set_set]
theorem cell_ok (ns : List Int) (k : Nat) (hn : ns.length ≤ 63) : m__law_cell_at [.scr ns, .int k] = some (.int (ns.getD k 0), [.scr ns, .int k]) := by
  by_cases hk : k < ns.length
  · have hk' : (k : Int) < (ns.length : Int) := by omega
    simp [m__law_cell_at, b__law_cell_at, fnM, outs, sSeq, sIf, sAsg, sRet, sRetN, sNil, sExp, sNo, bP, bV, bAnd, bOr, bNot, bYes, eP, eMv, eFr, pVar, pC, pOp2, pOp1, eOp2, eOpP, eOpPP, eOpN, eOpV, eIx, eIxP, pBi, pAll, eBi, eBiP, takeA, valsA, aE, aS, aNil, eTup, eLst, eCall, callA, putA, gN, gT, gTu, gSt, lVar, lIx, getP, putP, getS, putS, eMt, eMt0, mAppend, opPut, opIx, atD, L2.atI, L2.ixN, opLen, opLt, opLe, opGt, opGe, opSub, modI, eqI, eqS, neI, neS, opIsN, opNotN, D.stable, stableL, D.imm, immL, D.frz, frzL, pSl, pPart, ePO, opSl, List.set_cons_zero, List.set_cons_succ, List.getD_cons_zero, List.getD_cons_succ, hk, hk']
  · have hk' : ¬ (k : Int) < (ns.length : Int) := by omega
    simp [m__law_cell_at, b__law_cell_at, fnM, outs, sSeq, sIf, sAsg, sRet, sRetN, sNil, sExp, sNo, bP, bV, bAnd, bOr, bNot, bYes, eP, eMv, eFr, pVar, pC, pOp2, pOp1, eOp2, eOpP, eOpPP, eOpN, eOpV, eIx, eIxP, pBi, pAll, eBi, eBiP, takeA, valsA, aE, aS, aNil, eTup, eLst, eCall, callA, putA, gN, gT, gTu, gSt, lVar, lIx, getP, putP, getS, putS, eMt, eMt0, mAppend, opPut, opIx, atD, L2.atI, L2.ixN, opLen, opLt, opLe, opGt, opGe, opSub, modI, eqI, eqS, neI, neS, opIsN, opNotN, D.stable, stableL, D.imm, immL, D.frz, frzL, pSl, pPart, ePO, opSl, List.set_cons_zero, List.set_cons_succ, List.getD_cons_zero, List.getD_cons_succ, hk, hk']
theorem tape_loop (ns : List Int) (k : Nat) (c o f : Int) (h1 : 0 ≤ o) (h2 : o < 2305843009213693951) : ∃ o' f' x, forL (gN 6) w1__law_tape (rangeD 0 20) [some (.scr ns), some (.int k), some (.int c), some (.int 2305843009213693951), some (.int o), some (.int f), none] =
    some (.nx, [some (.scr ns), some (.int k), some (.int c), some (.int 2305843009213693951), some (.int o'), some (.int f'), x]) := by
  obtain ⟨ρ', e1, o', f', x, _, _, e2⟩ := forL_inv (g := gN 6) (body := w1__law_tape) (fun _ ρ => ∃ (o f : Int) (x : Option D), 0 ≤ o ∧ o < 2305843009213693951 ∧ ρ = [some (.scr ns), some (.int k), some (.int c), some (.int 2305843009213693951), some (.int o), some (.int f), x])
    (ds := rangeD 0 20) (k := 0) (ρ := [some (.scr ns), some (.int k), some (.int c), some (.int 2305843009213693951), some (.int o), some (.int f), none]) ⟨o, f, none, h1, h2, rfl⟩ (fun i hi ρ q => by
      obtain ⟨o, f, x, h1, h2, rfl⟩ := q
      rw [range_at]
      refine ⟨_, _, rfl, .inl ?_, (o * o + 69621 * (0 + (i : Int)) + c + 7) % 2305843009213693951, f * 2305843009213693951 + (o * o + 69621 * (0 + (i : Int)) + c + 7) % 2305843009213693951, some (.int (0 + (i : Int))), Int.emod_nonneg _ (by decide), Int.emod_lt_of_pos _ (by decide), rfl⟩
      have b1 : opMulA (.int o) (.int o) = some (.int (o * o)) := by
        show opMul (.int o) (.int o) = _
        unfold opMul
        exact if_pos (.inl (lg_of (by omega) (by decide)))
      have b2 : opMulA (.int f) (.int 2305843009213693951) = some (.int (f * 2305843009213693951)) := by
        show opMul (.int f) (.int 2305843009213693951) = _
        unfold opMul
        exact if_pos (.inr (lg_of (by decide) (by decide)))
      have b3 := mulL (i := 69621) (j := (i : Int)) (by decide) (by decide)
      have b4 := mulL (i := 69621) (j := 0 + (i : Int)) (by decide) (by decide)
      simp [w1__law_tape, fnM, outs, sSeq, sIf, sAsg, sRet, sRetN, sNil, sExp, sNo, bP, bV, bAnd, bOr, bNot, bYes, eP, eMv, eFr, pVar, pC, pOp2, pOp1, eOp2, eOpP, eOpPP, eOpN, eOpV, eIx, eIxP, pBi, pAll, eBi, eBiP, takeA, valsA, aE, aS, aNil, eTup, eLst, eCall, callA, putA, gN, gT, gTu, gSt, lVar, lIx, getP, putP, getS, putS, eMt, eMt0, mAppend, opPut, opIx, atD, L2.atI, L2.ixN, opLen, opLt, opLe, opGt, opGe, opSub, modI, eqI, eqS, neI, neS, opIsN, opNotN, D.stable, stableL, D.imm, immL, D.frz, frzL, pSl, pPart, ePO, opSl, List.set_cons_zero, List.set_cons_succ, List.getD_cons_zero, List.getD_cons_succ, addI, b1, b2, b3, b4])
  exact ⟨o', f', x, by rw [e1, e2]⟩
theorem tape_ok (ns : List Int) (k : Nat) (hn : ns.length ≤ 63) : ∃ x, m__law_tape [.scr ns, .int k] = some (.lst true [.int x], [.scr ns, .int k]) := by
  have hc := cell_ok ns k hn
  generalize ns.getD k 0 = c at hc
  by_cases h0 : c = 0
  · refine ⟨0, ?_⟩
    subst h0
    simp [m__law_tape, b__law_tape, fnM, outs, sSeq, sIf, sAsg, sRet, sRetN, sNil, sExp, sNo, bP, bV, bAnd, bOr, bNot, bYes, eP, eMv, eFr, pVar, pC, pOp2, pOp1, eOp2, eOpP, eOpPP, eOpN, eOpV, eIx, eIxP, pBi, pAll, eBi, eBiP, takeA, valsA, aE, aS, aNil, eTup, eLst, eCall, callA, putA, gN, gT, gTu, gSt, lVar, lIx, getP, putP, getS, putS, eMt, eMt0, mAppend, opPut, opIx, atD, L2.atI, L2.ixN, opLen, opLt, opLe, opGt, opGe, opSub, modI, eqI, eqS, neI, neS, opIsN, opNotN, D.stable, stableL, D.imm, immL, D.frz, frzL, pSl, pPart, ePO, opSl, List.set_cons_zero, List.set_cons_succ, List.getD_cons_zero, List.getD_cons_succ, hc]
  · by_cases h1 : (1000000000000000000 : Int) ≤ c
    · refine ⟨c - 1000000000000000000, ?_⟩
      have b3 : opPow (.int 10) (.int 18) = some (.int 1000000000000000000) := by decide +kernel
      simp [m__law_tape, b__law_tape, fnM, outs, sSeq, sIf, sAsg, sRet, sRetN, sNil, sExp, sNo, bP, bV, bAnd, bOr, bNot, bYes, eP, eMv, eFr, pVar, pC, pOp2, pOp1, eOp2, eOpP, eOpPP, eOpN, eOpV, eIx, eIxP, pBi, pAll, eBi, eBiP, takeA, valsA, aE, aS, aNil, eTup, eLst, eCall, callA, putA, gN, gT, gTu, gSt, lVar, lIx, getP, putP, getS, putS, eMt, eMt0, mAppend, opPut, opIx, atD, L2.atI, L2.ixN, opLen, opLt, opLe, opGt, opGe, opSub, modI, eqI, eqS, neI, neS, opIsN, opNotN, D.stable, stableL, D.imm, immL, D.frz, frzL, pSl, pPart, ePO, opSl, List.set_cons_zero, List.set_cons_succ, List.getD_cons_zero, List.getD_cons_succ, hc, h0, h1, b3]
    · obtain ⟨o', f', x, e⟩ := tape_loop ns k c ((c * 40692 + 52774 * (k : Int) + 31) % 2305843009213693951) ((c * 40692 + 52774 * (k : Int) + 31) % 2305843009213693951) (Int.emod_nonneg _ (by decide)) (Int.emod_lt_of_pos _ (by decide))
      refine ⟨f', ?_⟩
      have b1 := mulR (i := c) (j := 40692) (by decide) (by decide)
      have b2 := mulL (i := 52774) (j := (k : Int)) (by decide) (by decide)
      have b3 : opPow (.int 10) (.int 18) = some (.int 1000000000000000000) := by decide +kernel
      have fr := forR1_of (it := eP (pC (.int 20))) (g := gN 6) (body := w1__law_tape) (j := 20) (ρ1 := [some (.scr ns), some (.int k), some (.int c), some (.int 2305843009213693951), some (.int ((c * 40692 + 52774 * (k : Int) + 31) % 2305843009213693951)), some (.int ((c * 40692 + 52774 * (k : Int) + 31) % 2305843009213693951)), none]) (eP_of rfl rfl) (by decide) (by decide) e
      simp [m__law_tape, b__law_tape, fnM, outs, sSeq, sIf, sAsg, sRet, sRetN, sNil, sExp, sNo, bP, bV, bAnd, bOr, bNot, bYes, eP, eMv, eFr, pVar, pC, pOp2, pOp1, eOp2, eOpP, eOpPP, eOpN, eOpV, eIx, eIxP, pBi, pAll, eBi, eBiP, takeA, valsA, aE, aS, aNil, eTup, eLst, eCall, callA, putA, gN, gT, gTu, gSt, lVar, lIx, getP, putP, getS, putS, eMt, eMt0, mAppend, opPut, opIx, atD, L2.atI, L2.ixN, opLen, opLt, opLe, opGt, opGe, opSub, modI, eqI, eqS, neI, neS, opIsN, opNotN, D.stable, stableL, D.imm, immL, D.frz, frzL, pSl, pPart, ePO, opSl, List.set_cons_zero, List.set_cons_succ, List.getD_cons_zero, List.getD_cons_succ, hc, h0, h1, addI, b1, b2, b3, fr]
end Lk

set_option Elab.async false
set_option linter.all false
set_option maxRecDepth 100000
set_option maxHeartbeats 2000000
namespace Lk
open PySem Dl
/-! ### words -/
def letr (n : Nat) : Str := ⟨#[97 + n]⟩
theorem letr_ix (i : Int) (h0 : 0 ≤ i) (h1 : i < 26) : opIx (.str "abcdefghijklmnopqrstuvwxyz") (.int i) = some (.str (letr i.toNat)) := by
  have key : ∀ n : Nat, n < 26 → opIx (.str "abcdefghijklmnopqrstuvwxyz") (.int n) = some (.str (letr n)) := by decide +kernel
  have := key i.toNat (by omega)
  rwa [Int.toNat_of_nonneg h0] at this
/-- a word: one to eight small letters -/
def wordB (w : Str) : Bool := decide (1 ≤ w.length ∧ w.length ≤ 8) && w.cps.toList.all fun c => decide (97 ≤ c ∧ c ≤ 122)
def some24 : List Str := ["leaf", "plus", "times", "most", "less", "make", "drop", "book", "worth", "ask", "change", "forget", "joined", "room", "once", "least", "tree", "no", "ok", "shut", "a", "b", "c", "zz"]
def wf0 (t : Nat) (e : Str) (k : Nat) : Str := letr ((t + k) % 26) ++ e
def wf1 (t k : Nat) : Str := Txt.mul (letr ((t + k / 8) % 26)) ((1 + k % 8 : Nat) : Int)
def wf2 (t s m k : Nat) : Str := letr ((t + s * (m - k)) % 26) ++ Txt.mul (letr t) ((k % 3 : Nat) : Int)
def wf3 (t k : Nat) : Str := some24.getD ((t + k) % 24) "a"
/-- no name of a book -/
def oddW : List Str := ["nobodyxx", "nobodyyy", "zyzzyva", "others"]
def wordX (w : Str) : Bool := wordB w && !oddW.contains w
structure WordsOk (ws : List Str) (n : Nat) : Prop where
  len : ws.length = n
  nd : ws.Nodup
  ok : ∀ w ∈ ws, wordB w = true
  odd : ∀ w ∈ ws, w ∉ oddW
theorem wordX_of {w : Str} (h : wordX w = true) : wordB w = true ∧ w ∉ oddW := by
  unfold wordX at h
  rw [Bool.and_eq_true, Bool.not_eq_true'] at h
  exact ⟨h.1, fun hm => by rw [List.contains_iff_mem.mpr hm] at h; cases h.2⟩
theorem wordsOk_of {f : Nat → Str} {n : Nat} (hn : ∀ i j, i < j → j < n → f i ≠ f j) (hw : ∀ i, i < n → wordX (f i) = true) : WordsOk ((List.range n).map f) n :=
  ⟨by simp, nodup_range_map hn, fun w hw' => by
    obtain ⟨k, hk, rfl⟩ := List.mem_map.mp hw'
    exact (wordX_of (hw k (List.mem_range.mp hk))).1, fun w hw' => by
    obtain ⟨k, hk, rfl⟩ := List.mem_map.mp hw'
    exact (wordX_of (hw k (List.mem_range.mp hk))).2⟩
def hd1 (w : Str) : Nat := w.cps.toList.headD 0
theorem hd_letr (n : Nat) (e : Str) : hd1 (letr n ++ e) = 97 + n := by
  show (letr n ++ e).cps.toList.headD 0 = _
  have : (letr n ++ e).cps.toList = (97 + n) :: e.cps.toList := by
    show ((#[97 + n] : Array Nat) ++ e.cps).toList = _
    simp
  rw [this]
  rfl
theorem ok0 : ∀ t : Nat, t < 26 → ∀ e ∈ (["", "a", "omelons"] : List Str), ∀ k, k < 24 → wordX (wf0 t e k) = true := by decide +kernel
theorem ok1 : ∀ t : Nat, t < 26 → ∀ k, k < 24 → wordX (wf1 t k) = true ∧ hd1 (wf1 t k) = 97 + (t + k / 8) % 26 ∧ (wf1 t k).length = 1 + k % 8 := by decide +kernel
theorem ok2a : ∀ n : Nat, n < 26 → ∀ t : Nat, t < 26 → ∀ k, k < 3 → wordX (letr n ++ Txt.mul (letr t) ((k : Nat) : Int)) = true := by decide +kernel
theorem ok3 : some24.Nodup ∧ some24.all wordX = true ∧ some24.length = 24 := by decide +kernel
theorem words0 {t n : Nat} {e : Str} (ht : t < 26) (he : e ∈ (["", "a", "omelons"] : List Str)) (hn : n ≤ 24) : WordsOk ((List.range n).map (wf0 t e)) n :=
  wordsOk_of (fun i j hij hj q => by
    have h := congrArg hd1 q
    unfold wf0 at h
    rw [hd_letr, hd_letr] at h
    omega) fun i hi => ok0 t ht e he i (by omega)
theorem words1 {t n : Nat} (ht : t < 26) (hn : n ≤ 24) : WordsOk ((List.range n).map (wf1 t)) n :=
  wordsOk_of (fun i j hij hj q => by
    have h := congrArg hd1 q
    have h' := congrArg Str.length q
    rw [(ok1 t ht i (by omega)).2.1, (ok1 t ht j (by omega)).2.1] at h
    rw [(ok1 t ht i (by omega)).2.2, (ok1 t ht j (by omega)).2.2] at h'
    omega) fun i hi => (ok1 t ht i (by omega)).1
theorem words2 {t s n : Nat} (ht : t < 26) (hs : s = 1 ∨ s = 3 ∨ s = 5 ∨ s = 7) (hn : n ≤ 24) : WordsOk ((List.range n).map (wf2 t s n)) n :=
  wordsOk_of (fun i j hij hj q => by
    have h := congrArg hd1 q
    unfold wf2 at h
    rw [hd_letr, hd_letr] at h
    rcases hs with rfl | rfl | rfl | rfl <;> omega) fun i hi => ok2a _ (Nat.mod_lt _ (by decide)) t ht _ (Nat.mod_lt _ (by decide))
theorem getD_lt {α : Type} {l : List α} {i : Nat} {d : α} (h : i < l.length) : l.getD i d = l[i] := by simp [List.getD, List.getElem?_eq_getElem h]
theorem words3 {t n : Nat} (hn : n ≤ 24) : WordsOk ((List.range n).map (wf3 t)) n := by
  obtain ⟨h1, h2, h3⟩ := ok3
  refine wordsOk_of (fun i j hij hj q => ?_) fun i hi => ?_
  · unfold wf3 at q
    have a1 : (t + i) % 24 < some24.length := by rw [h3]; exact Nat.mod_lt _ (by decide)
    have a2 : (t + j) % 24 < some24.length := by rw [h3]; exact Nat.mod_lt _ (by decide)
    rw [getD_lt a1, getD_lt a2] at q
    have hp := List.pairwise_iff_getElem.mp h1
    rcases Nat.lt_trichotomy ((t + i) % 24) ((t + j) % 24) with z | z | z
    · exact hp _ _ a1 a2 z q
    · omega
    · exact hp _ _ a2 a1 z q.symm
  · have a1 : (t + i) % 24 < some24.length := by rw [h3]; exact Nat.mod_lt _ (by decide)
    unfold wf3
    rw [getD_lt a1]
    exact List.all_eq_true.mp h2 _ (List.getElem_mem a1)

theorem len_letr (n : Nat) : (letr n).length = 1 := rfl
theorem letr_at (m : Int) (k : Nat) (h : (m % 26).toNat = k % 26) : opIx (.str "abcdefghijklmnopqrstuvwxyz") (.int (m % 26)) = some (.str (letr (k % 26))) := by
  have e1 := letr_ix (m % 26) (Int.emod_nonneg _ (by decide)) (Int.emod_lt_of_pos _ (by decide))
  rwa [h] at e1
theorem way0 (x : D) (n t : Nat) (e : Str) (a b c d f : Option D) (hn : n ≤ 24) (he : e.length ≤ 100) : eCompR1 (eP (pVar 1)) (gN 9) bYes x1__law_words [9] [some x, some (.int n), some (.str "abcdefghijklmnopqrstuvwxyz"), a, some (.int t), b, some (.str e), c, d, none, f] =
    some (.lst true ((List.range n).map fun k => .str (wf0 t e k)), [some x, some (.int n), some (.str "abcdefghijklmnopqrstuvwxyz"), a, some (.int t), b, some (.str e), c, d, none, f]) := by
  refine (compR1_map (f := fun q => match q with | .int k => .str (wf0 t e k.toNat) | _ => .non) (ρ1 := [some x, some (.int n), some (.str "abcdefghijklmnopqrstuvwxyz"), a, some (.int t), b, some (.str e), c, d, none, f]) (j := (n : Int)) rfl (by omega) (by omega) fun k hk => ?_).trans ?_
  · refine ⟨[some x, some (.int n), some (.str "abcdefghijklmnopqrstuvwxyz"), a, some (.int t), b, some (.str e), c, d, some (.int k), f], rfl, [some x, some (.int n), some (.str "abcdefghijklmnopqrstuvwxyz"), a, some (.int t), b, some (.str e), c, d, some (.int k), f], ?_, rfl⟩
    have hz : (letr ((t + k) % 26)).length + e.length ≤ sizeLine := by rw [len_letr, sizeLine_eq]; omega
    have e1 := letr_at ((t : Int) + k) (t + k) (by omega)
    simp [x1__law_words, fnM, outs, eP, pOp2, pVar, pC, opAdd, opMod, D.stable, wipeD, e1, hz, wf0]
  · simp [wipeD]
theorem way1 (x : D) (n t : Nat) (a b c d f g : Option D) (hn : n ≤ 24) : eCompR1 (eP (pVar 1)) (gN 9) bYes x2__law_words [9] [some x, some (.int n), some (.str "abcdefghijklmnopqrstuvwxyz"), a, some (.int t), b, c, d, f, none, g] =
    some (.lst true ((List.range n).map fun k => .str (wf1 t k)), [some x, some (.int n), some (.str "abcdefghijklmnopqrstuvwxyz"), a, some (.int t), b, c, d, f, none, g]) := by
  refine (compR1_map (f := fun q => match q with | .int k => .str (wf1 t k.toNat) | _ => .non) (ρ1 := [some x, some (.int n), some (.str "abcdefghijklmnopqrstuvwxyz"), a, some (.int t), b, c, d, f, none, g]) (j := (n : Int)) rfl (by omega) (by omega) fun k hk => ?_).trans ?_
  · refine ⟨[some x, some (.int n), some (.str "abcdefghijklmnopqrstuvwxyz"), a, some (.int t), b, c, d, f, some (.int k), g], rfl, [some x, some (.int n), some (.str "abcdefghijklmnopqrstuvwxyz"), a, some (.int t), b, c, d, f, some (.int k), g], ?_, rfl⟩
    have e1 := letr_at ((t : Int) + (k : Int) / 8) (t + k / 8) (by omega)
    have e3 := mulS (s := letr ((t + k / 8) % 26)) (n := 1 + (k : Int) % 8) (by omega) (by omega) (by rw [len_letr]; decide)
    have e4 := divI (i := (k : Int)) (j := 8) (by decide) (by decide)
    simp [x2__law_words, eP, pOp2, pVar, pC, addI, modI, D.stable, wipeD, e1, e3, e4, wf1]
  · simp [wipeD]
theorem way3 (x : D) (n t : Nat) (a b c d f g h : Option D) (hn : n ≤ 24) : eCompR1 (eP (pVar 1)) (gN 9) bYes x3__law_words [9] [some x, some (.int n), a, b, some (.int t), some (.lst true (some24.map D.str)), c, d, f, none, g] =
    some (.lst true ((List.range n).map fun k => .str (wf3 t k)), [some x, some (.int n), a, b, some (.int t), some (.lst true (some24.map D.str)), c, d, f, none, g]) := by
  refine (compR1_map (f := fun q => match q with | .int k => .str (wf3 t k.toNat) | _ => .non) (ρ1 := [some x, some (.int n), a, b, some (.int t), some (.lst true (some24.map D.str)), c, d, f, none, g]) (j := (n : Int)) rfl (by omega) (by omega) fun k hk => ?_).trans ?_
  · refine ⟨[some x, some (.int n), a, b, some (.int t), some (.lst true (some24.map D.str)), c, d, f, some (.int k), g], rfl, [some x, some (.int n), a, b, some (.int t), some (.lst true (some24.map D.str)), c, d, f, some (.int k), g], ?_, rfl⟩
    have a1 : (t + k) % 24 < some24.length := by rw [ok3.2.2]; exact Nat.mod_lt _ (by decide)
    have e1 : opIx (.lst true (some24.map D.str)) (.int (((t : Int) + k) % 24)) = some (.str (wf3 t k)) := by
      have e2 : (((t : Int) + k) % 24).toNat = (t + k) % 24 := by omega
      have e3 : (0 : Int) ≤ ((t : Int) + k) % 24 := by omega
      have e4 : ((t : Int) + k) % 24 < 24 := by omega
      have e5 : ((some24.map D.str).length : Int) = 24 := by rw [List.length_map, ok3.2.2]; rfl
      unfold wf3
      rw [getD_lt a1]
      simp only [opIx, atD, L2.atI, L2.ixN, e3, e5, e4, if_true, e2, Option.bind_some, List.getElem?_map, List.getElem?_eq_getElem a1, Option.map_some]
    simp [x3__law_words, eP, pOp2, pVar, pC, opAdd, opMod, D.stable, wipeD, e1]
  · simp [wipeD]
end Lk

set_option Elab.async false
set_option linter.all false
set_option maxRecDepth 100000
set_option maxHeartbeats 4000000
namespace Lk
open PySem Dl
theorem mul3 (t : Nat) (i : Nat) (ht : t < 26) : (Txt.mul (letr t) ((i : Int) % 3)).length ≤ 3 := by
  have : ∀ t : Nat, t < 26 → ∀ k : Nat, k < 3 → (Txt.mul (letr t) (k : Int)).length ≤ 3 := by decide +kernel
  have := this t ht (i % 3) (Nat.mod_lt _ (by decide))
  rwa [show ((i % 3 : Nat) : Int) = (i : Int) % 3 by omega] at this
theorem step2 (x : D) (n t s i : Nat) (a b c u v : Option D) (hi : i < n) (hn : n ≤ 24) (ht : t < 26) (hs : s ≤ 7) (l : List D) (hl : l.length < 10000) :
    w1__law_words [some x, some (.int n), some (.str "abcdefghijklmnopqrstuvwxyz"), a, some (.int t), b, c, some (.int s), some (.lst true l), some (.int i), v] =
    some (.nx, [some x, some (.int n), some (.str "abcdefghijklmnopqrstuvwxyz"), a, some (.int t), b, c, some (.int s), some (.lst true (l ++ [.str (wf2 t s n i)])), some (.int i), some (.str (letr ((t + s * (n - i)) % 26)))]) := by
  have e1 := letr_at ((t : Int) + (s : Int) * ((n : Int) - (i : Int))) (t + s * (n - i)) (by
    have : ((n - i : Nat) : Int) = (n : Int) - i := by omega
    rw [← this]
    omega)
  have e2 := letr_ix (t : Int) (by omega) (by omega)
  rw [Int.toNat_natCast] at e2
  have em := mulL (i := (s : Int)) (j := (n : Int) - (i : Int)) (by omega) (by omega)
  have m1 := mul3 t i ht
  have es := mulS (s := letr t) (n := (i : Int) % 3) (by omega) (by omega) (by rw [len_letr]; decide)
  have ea := addS (a := letr ((t + s * (n - i)) % 26)) (b := Txt.mul (letr t) ((i : Int) % 3)) (by rw [len_letr]; omega)
  unfold w1__law_words
  rw [sSeq_nx (sAsg_of (ρ1 := [some x, some (.int n), some (.str "abcdefghijklmnopqrstuvwxyz"), a, some (.int t), b, c, some (.int s), some (.lst true l), some (.int i), v]) (d := .str (letr ((t + s * (n - i)) % 26))) (eP_of (by
    simp [pOp2, pVar, pC, opSub, em, addI, opMod, e1]) rfl) rfl)]
  refine sExp_of (append_of (y := .str (wf2 t s n i)) rfl (eP_of ?_ rfl) rfl hl hl)
  simp [pOp2, pVar, pC, opMod, e2, es, ea, wf2]
theorem way2 (x : D) (n t s : Nat) (a b c f : Option D) (hn : n ≤ 24) (ht : t < 26) (hs : s ≤ 7) : ∃ u v, forL (gN 9) w1__law_words (rangeD 0 n) [some x, some (.int n), some (.str "abcdefghijklmnopqrstuvwxyz"), a, some (.int t), b, c, some (.int s), some (.lst true []), none, f] =
    some (.nx, [some x, some (.int n), some (.str "abcdefghijklmnopqrstuvwxyz"), a, some (.int t), b, c, some (.int s), some (.lst true ((List.range n).map fun k => .str (wf2 t s n k))), u, v]) := by
  obtain ⟨ρ', e1, _, u, v, e2⟩ := forL_inv (g := gN 9) (body := w1__law_words) (fun i ρ => i ≤ n ∧ ∃ u v, ρ = [some x, some (.int n), some (.str "abcdefghijklmnopqrstuvwxyz"), a, some (.int t), b, c, some (.int s), some (.lst true ((List.range i).map fun k => .str (wf2 t s n k))), u, v])
    (ds := rangeD 0 n) (k := 0) (ρ := [some x, some (.int n), some (.str "abcdefghijklmnopqrstuvwxyz"), a, some (.int t), b, c, some (.int s), some (.lst true []), none, f]) ⟨Nat.zero_le _, none, f, rfl⟩ (fun i hi ρ q => by
      obtain ⟨_, u, v, rfl⟩ := q
      rw [range_len] at hi
      rw [range_at, Nat.zero_add, Int.zero_add]
      refine ⟨_, _, rfl, .inl (step2 x n t s i a b c u v hi hn ht hs _ (by rw [List.length_map, List.length_range]; omega)), by omega, some (.int (i : Int)), some (.str (letr ((t + s * (n - i)) % 26))), ?_⟩
      rw [List.range_succ, List.map_append]
      rfl)
  exact ⟨u, v, by rw [e1, e2, Nat.zero_add, range_len]⟩
end Lk

set_option Elab.async false
set_option linter.all false
set_option maxRecDepth 100000
set_option maxHeartbeats 4000000
namespace Lk
open PySem Dl
theorem dig (m : Int) (h : 0 < m) (h2 : m < 1073741824) : ∀ t, m__law_digit [.lst true [.int t], .int m] = some (.int (t % m), [.lst true [.int (t / m)], .int m]) := fun t => digit_ok t m h h2
theorem some24_eq : some24.map D.str = [.str "leaf", .str "plus", .str "times", .str "most", .str "less", .str "make", .str "drop", .str "book", .str "worth", .str "ask", .str "change", .str "forget", .str "joined", .str "room", .str "once", .str "least", .str "tree", .str "no", .str "ok", .str "shut", .str "a", .str "b", .str "c", .str "zz"] := rfl
theorem map_some (l : List Nat) (f : Nat → Str) : l.map (fun k => D.str (f k)) = (l.map f).map D.str := by rw [List.map_map]; rfl
theorem words_ok (t : Int) (n : Nat) (h1 : 1 ≤ n) (hn : n ≤ 24) : ∃ ws t', WordsOk ws n ∧ m__law_words [.lst true [.int t], .int n] = some (.lst true (ws.map D.str), [.lst true [.int t'], .int n]) := by
  have d4 := dig 4 (by decide) (by decide)
  have d26 := dig 26 (by decide) (by decide)
  have d3 := dig 3 (by decide) (by decide)
  obtain ⟨u, hu, hu2⟩ : ∃ u : Nat, t / 4 % 26 = (u : Int) ∧ u < 26 := ⟨(t / 4 % 26).toNat, by omega, by omega⟩
  have h4 : t % 4 = 0 ∨ t % 4 = 1 ∨ t % 4 = 2 ∨ t % 4 = 3 := by omega
  rcases h4 with h4 | h4 | h4 | h4
  · have h3 : t / 4 / 26 % 3 = 0 ∨ t / 4 / 26 % 3 = 1 ∨ t / 4 / 26 % 3 = 2 := by omega
    rcases h3 with h3 | h3 | h3
    · refine ⟨_, t / 4 / 26 / 3, words0 (e := "") hu2 (by simp) hn, ?_⟩
      have w := way0 (.lst true [.int (t / 4 / 26 / 3)]) n u "" (some (.int 0)) none none none none hn (by decide)
      rw [map_some] at w
      simp [m__law_words, b__law_words, fnM, outs, sSeq, sIf, sAsg, sRet, sRetN, sNil, sExp, sNo, bP, bV, bAnd, bOr, bNot, bYes, eP, eMv, eFr, pVar, pC, pOp2, pOp1, eOp2, eOpP, eOpPP, eOpN, eOpV, eIx, eIxP, pBi, pAll, eBi, eBiP, takeA, valsA, aE, aS, aNil, eTup, eLst, eCall, callA, putA, gN, gT, gTu, gSt, lVar, lIx, getP, putP, getS, putS, eMt, eMt0, mAppend, opPut, opIx, atD, L2.atI, L2.ixN, opLen, opLt, opLe, opGt, opGe, opSub, modI, eqI, eqS, neI, neS, opIsN, opNotN, D.stable, stableL, D.imm, immL, D.frz, frzL, pSl, pPart, ePO, opSl, List.set_cons_zero, List.set_cons_succ, List.getD_cons_zero, List.getD_cons_succ, d4, d26, d3, h4, hu, h3, w]
    · refine ⟨_, t / 4 / 26 / 3, words0 (e := "a") hu2 (by simp) hn, ?_⟩
      have w := way0 (.lst true [.int (t / 4 / 26 / 3)]) n u "a" (some (.int 0)) none none none none hn (by decide)
      rw [map_some] at w
      simp [m__law_words, b__law_words, fnM, outs, sSeq, sIf, sAsg, sRet, sRetN, sNil, sExp, sNo, bP, bV, bAnd, bOr, bNot, bYes, eP, eMv, eFr, pVar, pC, pOp2, pOp1, eOp2, eOpP, eOpPP, eOpN, eOpV, eIx, eIxP, pBi, pAll, eBi, eBiP, takeA, valsA, aE, aS, aNil, eTup, eLst, eCall, callA, putA, gN, gT, gTu, gSt, lVar, lIx, getP, putP, getS, putS, eMt, eMt0, mAppend, opPut, opIx, atD, L2.atI, L2.ixN, opLen, opLt, opLe, opGt, opGe, opSub, modI, eqI, eqS, neI, neS, opIsN, opNotN, D.stable, stableL, D.imm, immL, D.frz, frzL, pSl, pPart, ePO, opSl, List.set_cons_zero, List.set_cons_succ, List.getD_cons_zero, List.getD_cons_succ, d4, d26, d3, h4, hu, h3, w]
    · refine ⟨_, t / 4 / 26 / 3, words0 (e := "omelons") hu2 (by simp) hn, ?_⟩
      have w := way0 (.lst true [.int (t / 4 / 26 / 3)]) n u "omelons" (some (.int 0)) none none none none hn (by decide)
      rw [map_some] at w
      simp [m__law_words, b__law_words, fnM, outs, sSeq, sIf, sAsg, sRet, sRetN, sNil, sExp, sNo, bP, bV, bAnd, bOr, bNot, bYes, eP, eMv, eFr, pVar, pC, pOp2, pOp1, eOp2, eOpP, eOpPP, eOpN, eOpV, eIx, eIxP, pBi, pAll, eBi, eBiP, takeA, valsA, aE, aS, aNil, eTup, eLst, eCall, callA, putA, gN, gT, gTu, gSt, lVar, lIx, getP, putP, getS, putS, eMt, eMt0, mAppend, opPut, opIx, atD, L2.atI, L2.ixN, opLen, opLt, opLe, opGt, opGe, opSub, modI, eqI, eqS, neI, neS, opIsN, opNotN, D.stable, stableL, D.imm, immL, D.frz, frzL, pSl, pPart, ePO, opSl, List.set_cons_zero, List.set_cons_succ, List.getD_cons_zero, List.getD_cons_succ, d4, d26, d3, h4, hu, h3, w]
  · refine ⟨_, t / 4 / 26, words1 hu2 hn, ?_⟩
    have w := way1 (.lst true [.int (t / 4 / 26)]) n u (some (.int 1)) none none none none none hn
    rw [map_some] at w
    simp [m__law_words, b__law_words, fnM, outs, sSeq, sIf, sAsg, sRet, sRetN, sNil, sExp, sNo, bP, bV, bAnd, bOr, bNot, bYes, eP, eMv, eFr, pVar, pC, pOp2, pOp1, eOp2, eOpP, eOpPP, eOpN, eOpV, eIx, eIxP, pBi, pAll, eBi, eBiP, takeA, valsA, aE, aS, aNil, eTup, eLst, eCall, callA, putA, gN, gT, gTu, gSt, lVar, lIx, getP, putP, getS, putS, eMt, eMt0, mAppend, opPut, opIx, atD, L2.atI, L2.ixN, opLen, opLt, opLe, opGt, opGe, opSub, modI, eqI, eqS, neI, neS, opIsN, opNotN, D.stable, stableL, D.imm, immL, D.frz, frzL, pSl, pPart, ePO, opSl, List.set_cons_zero, List.set_cons_succ, List.getD_cons_zero, List.getD_cons_succ, d4, d26, h4, hu, w]
  · obtain ⟨s, hs, e3⟩ : ∃ s : Nat, (s = 1 ∨ s = 3 ∨ s = 5 ∨ s = 7) ∧ opIx (.lst true [.int 1, .int 3, .int 5, .int 7]) (.int (t / 4 / 26 % 4)) = some (.int s) := by
      have h5 : t / 4 / 26 % 4 = 0 ∨ t / 4 / 26 % 4 = 1 ∨ t / 4 / 26 % 4 = 2 ∨ t / 4 / 26 % 4 = 3 := by omega
      rcases h5 with h5 | h5 | h5 | h5 <;> rw [h5]
      · exact ⟨1, by simp, rfl⟩
      · exact ⟨3, by simp, rfl⟩
      · exact ⟨5, by simp, rfl⟩
      · exact ⟨7, by simp, rfl⟩
    refine ⟨_, t / 4 / 26 / 4, words2 hu2 hs hn, ?_⟩
    obtain ⟨p, q, w⟩ := way2 (.lst true [.int (t / 4 / 26 / 4)]) n u s (some (.int 2)) none none none hn hu2 (by omega)
    rw [map_some] at w
    have fr := forR1_of (it := eP (pVar 1)) (g := gN 9) (body := w1__law_words) (j := (n : Int)) (ρ1 := [some (.lst true [.int (t / 4 / 26 / 4)]), some (.int n), some (.str "abcdefghijklmnopqrstuvwxyz"), some (.int 2), some (.int u), none, none, some (.int s), some (.lst true []), none, none]) (eP_of rfl rfl) (by omega) (by omega) w
    simp [m__law_words, b__law_words, fnM, outs, sSeq, sIf, sAsg, sRet, sRetN, sNil, sExp, sNo, bP, bV, bAnd, bOr, bNot, bYes, eP, eMv, eFr, pVar, pC, pOp2, pOp1, eOp2, eOpP, eOpPP, eOpN, eOpV, eIx, eIxP, pBi, pAll, eBi, eBiP, takeA, valsA, aE, aS, aNil, eTup, eLst, eCall, callA, putA, gN, gT, gTu, gSt, lVar, lIx, getP, putP, getS, putS, eMt, eMt0, mAppend, opPut, opLen, opLt, opLe, opGt, opGe, opSub, modI, eqI, eqS, neI, neS, opIsN, opNotN, D.stable, stableL, D.imm, immL, D.frz, frzL, pSl, pPart, ePO, opSl, List.set_cons_zero, List.set_cons_succ, List.getD_cons_zero, List.getD_cons_succ, d4, d26, h4, hu, e3, fr]
  · refine ⟨_, t / 4 / 26, words3 (t := u) hn, ?_⟩
    have w := way3 (.lst true [.int (t / 4 / 26)]) n u (some (.str "abcdefghijklmnopqrstuvwxyz")) (some (.int 3)) none none none none none hn
    rw [map_some, some24_eq] at w
    have z24 : 24 ≤ sizeLine := by rw [sizeLine_eq]; decide
    simp [m__law_words, b__law_words, fnM, outs, sSeq, sIf, sAsg, sRet, sRetN, sNil, sExp, sNo, bP, bV, bAnd, bOr, bNot, bYes, eP, eMv, eFr, pVar, pC, pOp2, pOp1, eOp2, eOpP, eOpPP, eOpN, eOpV, eIx, eIxP, pBi, pAll, eBi, eBiP, takeA, valsA, aE, aS, aNil, eTup, eLst, eCall, callA, putA, gN, gT, gTu, gSt, lVar, lIx, getP, putP, getS, putS, eMt, eMt0, mAppend, opPut, opIx, atD, L2.atI, L2.ixN, opLen, opLt, opLe, opGt, opGe, opSub, modI, eqI, eqS, neI, neS, opIsN, opNotN, D.stable, stableL, D.imm, immL, D.frz, frzL, pSl, pPart, ePO, opSl, List.set_cons_zero, List.set_cons_succ, List.getD_cons_zero, List.getD_cons_succ, d4, d26, h4, hu, opAdd, z24, w]
end Lk

set_option Elab.async false
set_option linter.all false
set_option maxRecDepth 100000
set_option maxHeartbeats 4000000
namespace Lk
open PySem Dl
/-! ### recipes, parts, books -/
inductive Rec where
  | leaf (n : Int)
  | op (w : Str) (ns : List Str)
  deriving DecidableEq
def recD : Rec → D
  | .leaf n => .tup [.str "leaf", .int n]
  | .op w ns => .tup [.str w, .tup (ns.map D.str)]
structure Part where
  name : Str
  recp : Rec
  size : Int
  cost : Int
  deriving DecidableEq
def partD (p : Part) : D := .tup [.str p.name, recD p.recp, .int p.size, .int p.cost]
def bookD (ps : List Part) : D := .tup (ps.map partD)
def RecOk (ahead : List Str) : Rec → Prop
  | .leaf n => 0 ≤ n ∧ n ≤ 99
  | .op w ns => (w = "plus" ∨ w = "times" ∨ w = "most" ∨ w = "less") ∧ 1 ≤ ns.length ∧ ns.length ≤ 4 ∧ (w = "less" → ns.length = 2) ∧ ∀ x ∈ ns, x ∈ ahead
theorem ix_lst {o : Bool} {ds : List D} {i : Int} (h0 : 0 ≤ i) (h1 : i < ds.length) : ∃ d, ds[i.toNat]? = some d ∧ d ∈ ds ∧ opIx (.lst o ds) (.int i) = some d := by
  have h2 : i.toNat < ds.length := by omega
  refine ⟨ds[i.toNat], List.getElem?_eq_getElem h2, List.getElem_mem h2, ?_⟩
  simp only [opIx, atD, L2.atI, L2.ixN, h0, h1, if_true, Option.bind_some, List.getElem?_eq_getElem h2]
theorem ix_tup {ds : List D} {i : Int} (h0 : 0 ≤ i) (h1 : i < ds.length) : ∃ d, ds[i.toNat]? = some d ∧ d ∈ ds ∧ opIx (.tup ds) (.int i) = some d := by
  have h2 : i.toNat < ds.length := by omega
  refine ⟨ds[i.toNat], List.getElem?_eq_getElem h2, List.getElem_mem h2, ?_⟩
  simp only [opIx, atD, L2.atI, L2.ixN, h0, h1, if_true, Option.bind_some, List.getElem?_eq_getElem h2]
theorem ix_strs {o : Bool} {l : List Str} {i : Int} (h0 : 0 ≤ i) (h1 : i < l.length) : ∃ x, x ∈ l ∧ opIx (.lst o (l.map D.str)) (.int i) = some (.str x) := by
  obtain ⟨d, _, h2, h3⟩ := ix_lst (o := o) (ds := l.map D.str) h0 (by simpa using h1)
  obtain ⟨x, hx, rfl⟩ := List.mem_map.mp h2
  exact ⟨x, hx, h3⟩
theorem recipe_step (t : Int) (ahead : List Str) (l : List D) (a b c k : Option D) (h1 : 1 ≤ ahead.length) (h2 : ahead.length ≤ 24) (hl : l.length < 100) : ∃ t' x, x ∈ ahead ∧
    w1__law_recipe [some (.lst true [.int t]), some (.lst true (ahead.map D.str)), a, b, c, some (.lst true l), k] = some (.nx, [some (.lst true [.int t']), some (.lst true (ahead.map D.str)), a, b, c, some (.lst true (l ++ [.str x])), k]) := by
  have d3 := dig 3 (by decide) (by decide)
  obtain ⟨z, hz, ez⟩ : ∃ z : Int, 2 ≤ z ∧ opIx (.lst true [.int 2, .int 4, .int 24]) (.int (t % 3)) = some (.int z) := by
    have h5 : t % 3 = 0 ∨ t % 3 = 1 ∨ t % 3 = 2 := by omega
    rcases h5 with h5 | h5 | h5 <;> rw [h5]
    · exact ⟨2, by decide, rfl⟩
    · exact ⟨4, by decide, rfl⟩
    · exact ⟨24, by decide, rfl⟩
  obtain ⟨m, hm1, hm2, em⟩ : ∃ m : Int, 1 ≤ m ∧ m ≤ ahead.length ∧ opMin [.int (ahead.length : Int), .int z] = some (.int m) := by
    refine ⟨if z < (ahead.length : Int) then z else (ahead.length : Int), ?_, ?_, rfl⟩ <;> split <;> omega
  have dm := dig m (by omega) (by omega) (t / 3)
  have b1 := Int.emod_nonneg (t / 3) (show m ≠ 0 by omega)
  have b2 := Int.emod_lt_of_pos (t / 3) (show 0 < m by omega)
  obtain ⟨x, hx, ei⟩ := ix_strs (o := true) (l := ahead) (i := (ahead.length : Int) - 1 - t / 3 % m) (by omega) (by omega)
  refine ⟨t / 3 / m, x, hx, ?_⟩
  have hl' : l.length < 10000 := by omega
  simp [w1__law_recipe, fnM, outs, sSeq, sIf, sAsg, sRet, sRetN, sNil, sExp, sNo, bP, bV, bAnd, bOr, bNot, bYes, eP, eMv, eFr, pVar, pC, pOp2, pOp1, eOp2, eOpP, eOpPP, eOpN, eOpV, eIx, eIxP, pBi, pAll, eBi, eBiP, takeA, valsA, aE, aS, aNil, eTup, eLst, eCall, callA, putA, gN, gT, gTu, gSt, lVar, lIx, getP, putP, getS, putS, eMt, eMt0, mAppend, opPut, opLen, opLt, opLe, opGt, opGe, opSub, modI, eqI, eqS, neI, neS, opIsN, opNotN, D.stable, stableL, D.imm, immL, D.frz, frzL, pSl, pPart, ePO, opSl, List.set_cons_zero, List.set_cons_succ, List.getD_cons_zero, List.getD_cons_succ, d3, ez, em, dm, ei, hl']
theorem recipe_loop (ahead : List Str) (a b c : Option D) (h1 : 1 ≤ ahead.length) (h2 : ahead.length ≤ 24) (n : Nat) (hn : n ≤ 4) (t : Int) : ∃ (t' : Int) (ns : List Str) (k : Option D), ns.length = n ∧ (∀ x ∈ ns, x ∈ ahead) ∧
    forL (gN 6) w1__law_recipe (rangeD 0 n) [some (.lst true [.int t]), some (.lst true (ahead.map D.str)), a, b, c, some (.lst true []), none] = some (.nx, [some (.lst true [.int t']), some (.lst true (ahead.map D.str)), a, b, c, some (.lst true (ns.map D.str)), k]) := by
  obtain ⟨ρ', e1, t', ns, k, e2, e3, e4⟩ := forL_inv (g := gN 6) (body := w1__law_recipe) (fun i ρ => ∃ (t : Int) (ns : List Str) (k : Option D), ns.length = i ∧ (∀ x ∈ ns, x ∈ ahead) ∧ ρ = [some (.lst true [.int t]), some (.lst true (ahead.map D.str)), a, b, c, some (.lst true (ns.map D.str)), k])
    (ds := rangeD 0 n) (k := 0) (ρ := [some (.lst true [.int t]), some (.lst true (ahead.map D.str)), a, b, c, some (.lst true []), none]) ⟨t, [], none, rfl, by simp, rfl⟩ (fun i hi ρ q => by
      obtain ⟨t, ns, k, q1, q2, rfl⟩ := q
      rw [range_len] at hi
      rw [range_at]
      obtain ⟨t', x, hx, e⟩ := recipe_step t ahead (ns.map D.str) a b c (some (.int (0 + (i : Int)))) h1 h2 (by rw [List.length_map]; omega)
      refine ⟨_, _, rfl, .inl e, t', ns ++ [x], _, by simp [q1], ?_, by rw [List.map_append]; rfl⟩
      intro y hy
      rcases List.mem_append.mp hy with hy | hy
      · exact q2 y hy
      · rw [List.mem_singleton.mp hy]; exact hx)
  exact ⟨t', ns, k, by rw [e2, range_len]; omega, e3, by rw [e1, e4]⟩
theorem eq_nil : opEq (.lst true []) (.lst true []) = some (.bl true) := by decide +kernel
theorem word_ok {w : Str} (h : wordB w = true) : PyData.strOk w = true := by
  unfold wordB at h
  rw [Bool.and_eq_true] at h
  have h2 := List.all_eq_true.mp h.2
  unfold PyData.strOk
  rw [← Array.all_toList]
  refine List.all_eq_true.mpr fun c hc => ?_
  have := of_decide_eq_true (h2 c hc)
  exact decide_eq_true (by omega)
theorem eq_strs_nil {l : List Str} (h : l ≠ []) (hw : ∀ x ∈ l, PyData.strOk x = true) : opEq (.lst true (l.map D.str)) (.lst true []) = some (.bl false) := by
  have := eq_lstS (o := true) (o' := true) (xs := l) (ys := []) hw (by simp)
  rw [decide_eq_false h] at this
  exact this
theorem recipe_ok (t : Int) (ahead : List Str) (h2 : ahead.length ≤ 24) (hw : ∀ x ∈ ahead, PyData.strOk x = true) : ∃ r t', RecOk ahead r ∧ m__law_recipe [.lst true [.int t], .lst true (ahead.map D.str)] = some (recD r, [.lst true [.int t'], .lst true (ahead.map D.str)]) := by
  have d8 := dig 8 (by decide) (by decide)
  have d100 := dig 100 (by decide) (by decide)
  have d7 := dig 7 (by decide) (by decide)
  have d6 := dig 6 (by decide) (by decide)
  have leafc : ∀ t : Int, ∃ n t', (0 ≤ n ∧ n ≤ 99) ∧ opIx (.lst true [.int 0, .int 1, .int 2, .int 7, .int 99, .int 50, .int (t % 100)]) (.int (t / 100 % 7)) = some (.int n) ∧ t' = t / 100 / 7 := fun t => by
    have h5 : t / 100 % 7 = 0 ∨ t / 100 % 7 = 1 ∨ t / 100 % 7 = 2 ∨ t / 100 % 7 = 3 ∨ t / 100 % 7 = 4 ∨ t / 100 % 7 = 5 ∨ t / 100 % 7 = 6 := by omega
    rcases h5 with h5 | h5 | h5 | h5 | h5 | h5 | h5 <;> rw [h5]
    · exact ⟨0, _, by decide, rfl, rfl⟩
    · exact ⟨1, _, by decide, rfl, rfl⟩
    · exact ⟨2, _, by decide, rfl, rfl⟩
    · exact ⟨7, _, by decide, rfl, rfl⟩
    · exact ⟨99, _, by decide, rfl, rfl⟩
    · exact ⟨50, _, by decide, rfl, rfl⟩
    · exact ⟨t % 100, _, by omega, rfl, rfl⟩
  obtain ⟨n, _, hn, en, _⟩ := leafc (t / 8)
  by_cases h0 : ahead = []
  · subst h0
    refine ⟨.leaf n, t / 8 / 100 / 7, hn, ?_⟩
    simp [m__law_recipe, b__law_recipe, fnM, outs, sSeq, sIf, sAsg, sRet, sRetN, sNil, sExp, sNo, bP, bV, bAnd, bOr, bNot, bYes, eP, eMv, eFr, pVar, pC, pOp2, pOp1, eOp2, eOpP, eOpPP, eOpN, eOpV, eIx, eIxP, pBi, pAll, eBi, eBiP, takeA, valsA, aE, aS, aNil, eTup, eLst, eCall, callA, putA, gN, gT, gTu, gSt, lVar, lIx, getP, putP, getS, putS, eMt, eMt0, mAppend, opPut, opLen, opLt, opLe, opGt, opGe, opSub, modI, eqI, eqS, neI, neS, opIsN, opNotN, D.stable, stableL, D.imm, immL, D.frz, frzL, pSl, pPart, ePO, opSl, List.set_cons_zero, List.set_cons_succ, List.getD_cons_zero, List.getD_cons_succ, d8, d100, d7, en, recD, eq_nil]
  · have hne : opEq (.lst true (ahead.map D.str)) (.lst true []) = some (.bl false) := eq_strs_nil h0 hw
    by_cases h82 : t % 8 < 2
    · refine ⟨.leaf n, t / 8 / 100 / 7, hn, ?_⟩
      simp [m__law_recipe, b__law_recipe, fnM, outs, sSeq, sIf, sAsg, sRet, sRetN, sNil, sExp, sNo, bP, bV, bAnd, bOr, bNot, bYes, eP, eMv, eFr, pVar, pC, pOp2, pOp1, eOp2, eOpP, eOpPP, eOpN, eOpV, eIx, eIxP, pBi, pAll, eBi, eBiP, takeA, valsA, aE, aS, aNil, eTup, eLst, eCall, callA, putA, gN, gT, gTu, gSt, lVar, lIx, getP, putP, getS, putS, eMt, eMt0, mAppend, opPut, opLen, opLt, opLe, opGt, opGe, opSub, modI, eqI, eqS, neI, neS, opIsN, opNotN, D.stable, stableL, D.imm, immL, D.frz, frzL, pSl, pPart, ePO, opSl, List.set_cons_zero, List.set_cons_succ, List.getD_cons_zero, List.getD_cons_succ, d8, d100, d7, en, recD, hne, h82]
    · have hlen : 1 ≤ ahead.length := by cases ahead with
        | nil => exact absurd rfl h0
        | cons _ _ => simp
      obtain ⟨w, hwd, ew⟩ : ∃ w : Str, (w = "plus" ∨ w = "times" ∨ w = "most" ∨ w = "less") ∧ opIx (.lst true [.str "plus", .str "times", .str "most", .str "less", .str "plus", .str "plus"]) (.int (t % 8 - 2)) = some (.str w) := by
        have h5 : t % 8 - 2 = 0 ∨ t % 8 - 2 = 1 ∨ t % 8 - 2 = 2 ∨ t % 8 - 2 = 3 ∨ t % 8 - 2 = 4 ∨ t % 8 - 2 = 5 := by omega
        rcases h5 with h5 | h5 | h5 | h5 | h5 | h5 <;> rw [h5]
        · exact ⟨_, .inl rfl, rfl⟩
        · exact ⟨_, .inr (.inl rfl), rfl⟩
        · exact ⟨_, .inr (.inr (.inl rfl)), rfl⟩
        · exact ⟨_, .inr (.inr (.inr rfl)), rfl⟩
        · exact ⟨_, .inl rfl, rfl⟩
        · exact ⟨_, .inl rfl, rfl⟩
      obtain ⟨m, hm, em⟩ : ∃ m : Nat, (1 ≤ m ∧ m ≤ 4) ∧ opIx (.lst true [.int 1, .int 2, .int 2, .int 3, .int 4, .int 2]) (.int (t / 8 % 6)) = some (.int m) := by
        have h5 : t / 8 % 6 = 0 ∨ t / 8 % 6 = 1 ∨ t / 8 % 6 = 2 ∨ t / 8 % 6 = 3 ∨ t / 8 % 6 = 4 ∨ t / 8 % 6 = 5 := by omega
        rcases h5 with h5 | h5 | h5 | h5 | h5 | h5 <;> rw [h5]
        · exact ⟨1, by decide, rfl⟩
        · exact ⟨2, by decide, rfl⟩
        · exact ⟨2, by decide, rfl⟩
        · exact ⟨3, by decide, rfl⟩
        · exact ⟨4, by decide, rfl⟩
        · exact ⟨2, by decide, rfl⟩
      obtain ⟨n, hn, hn2, hless⟩ : ∃ n : Nat, (1 ≤ n ∧ n ≤ 4) ∧ (w = "less" → n = 2) ∧ n = if w = "less" then 2 else m := by
        by_cases hl : w = "less"
        · exact ⟨2, by decide, fun _ => rfl, by rw [if_pos hl]⟩
        · exact ⟨m, hm, fun q => absurd q hl, by rw [if_neg hl]⟩
      obtain ⟨t', ns, k, q1, q2, q3⟩ := recipe_loop ahead (some (.int (t % 8))) (some (.str w)) (some (.int n)) hlen h2 n hn.2 (t / 8 / 6)
      have fr := forR1_of (it := eP (pVar 4)) (g := gN 6) (body := w1__law_recipe) (j := (n : Int)) (ρ1 := [some (.lst true [.int (t / 8 / 6)]), some (.lst true (ahead.map D.str)), some (.int (t % 8)), some (.str w), some (.int n), some (.lst true []), none]) (eP_of rfl rfl) (by omega) (by omega) q3
      refine ⟨.op w ns, t', ⟨hwd, by omega, by omega, fun q => by rw [q1, hn2 q], q2⟩, ?_⟩
      have ht : opTuple [.lst true (ns.map D.str)] = some (.tup (ns.map D.str)) := by
        show (if immL (ns.map D.str) = true then _ else _) = _
        rw [if_pos (imm_strs ns)]
      have hst : stableL (ns.map D.str) = true := stableL_of_imm _ (imm_strs ns)
      by_cases hl : w = "less"
      · rw [if_pos hl] at hless
        subst hless
        subst hl
        rw [show ((2 : Nat) : Int) = 2 from rfl] at fr
        simp [m__law_recipe, b__law_recipe, fnM, outs, sSeq, sIf, sAsg, sRet, sRetN, sNil, sExp, sNo, bP, bV, bAnd, bOr, bNot, bYes, eP, eMv, eFr, pVar, pC, pOp2, pOp1, eOp2, eOpP, eOpPP, eOpN, eOpV, eIx, eIxP, pBi, pAll, eBi, eBiP, takeA, valsA, aE, aS, aNil, eTup, eLst, eCall, callA, putA, gN, gT, gTu, gSt, lVar, lIx, getP, putP, getS, putS, eMt, eMt0, mAppend, opPut, opLen, opLt, opLe, opGt, opGe, opSub, modI, eqI, eqS, neI, neS, opIsN, opNotN, D.stable, stableL, D.imm, immL, D.frz, frzL, pSl, pPart, ePO, opSl, List.set_cons_zero, List.set_cons_succ, List.getD_cons_zero, List.getD_cons_succ, d8, d6, hne, h82, ew, em, fr, ht, hst, recD]
      · rw [if_neg hl] at hless
        subst hless
        simp [m__law_recipe, b__law_recipe, fnM, outs, sSeq, sIf, sAsg, sRet, sRetN, sNil, sExp, sNo, bP, bV, bAnd, bOr, bNot, bYes, eP, eMv, eFr, pVar, pC, pOp2, pOp1, eOp2, eOpP, eOpPP, eOpN, eOpV, eIx, eIxP, pBi, pAll, eBi, eBiP, takeA, valsA, aE, aS, aNil, eTup, eLst, eCall, callA, putA, gN, gT, gTu, gSt, lVar, lIx, getP, putP, getS, putS, eMt, eMt0, mAppend, opPut, opLen, opLt, opLe, opGt, opGe, opSub, modI, eqI, eqS, neI, neS, opIsN, opNotN, D.stable, stableL, D.imm, immL, D.frz, frzL, pSl, pPart, ePO, opSl, List.set_cons_zero, List.set_cons_succ, List.getD_cons_zero, List.getD_cons_succ, d8, d6, hne, h82, ew, em, hl, fr, ht, hst, recD]
end Lk

set_option Elab.async false
set_option linter.all false
set_option maxRecDepth 100000
set_option maxHeartbeats 4000000
namespace Lk
open PySem Dl
theorem number_ok (t : Int) : ∃ n t' : Int, (1 ≤ n ∧ n ≤ 9) ∧ m__law_number [.lst true [.int t]] = some (.int n, [.lst true [.int t']]) := by
  have d9 := dig 9 (by decide) (by decide)
  have d5 := dig 5 (by decide) (by decide)
  obtain ⟨n, hn, en⟩ : ∃ n : Int, (1 ≤ n ∧ n ≤ 9) ∧ opIx (.lst true [.int 1, .int 1, .int 2, .int 3, .int (1 + t % 9)]) (.int (t / 9 % 5)) = some (.int n) := by
    have h5 : t / 9 % 5 = 0 ∨ t / 9 % 5 = 1 ∨ t / 9 % 5 = 2 ∨ t / 9 % 5 = 3 ∨ t / 9 % 5 = 4 := by omega
    rcases h5 with h5 | h5 | h5 | h5 | h5 <;> rw [h5]
    · exact ⟨1, by decide, rfl⟩
    · exact ⟨1, by decide, rfl⟩
    · exact ⟨2, by decide, rfl⟩
    · exact ⟨3, by decide, rfl⟩
    · exact ⟨1 + t % 9, by omega, rfl⟩
  refine ⟨n, t / 9 / 5, hn, ?_⟩
  simp [m__law_number, b__law_number, fnM, outs, sSeq, sIf, sAsg, sRet, sRetN, sNil, sExp, sNo, bP, bV, bAnd, bOr, bNot, bYes, eP, eMv, eFr, pVar, pC, pOp2, pOp1, eOp2, eOpP, eOpPP, eOpN, eOpV, eIx, eIxP, pBi, pAll, eBi, eBiP, takeA, valsA, aE, aS, aNil, eTup, eLst, eCall, callA, putA, gN, gT, gTu, gSt, lVar, lIx, getP, putP, getS, putS, eMt, eMt0, mAppend, opPut, opLen, opLt, opLe, opGt, opGe, opSub, modI, eqI, eqS, neI, neS, opIsN, opNotN, D.stable, stableL, D.imm, immL, D.frz, frzL, pSl, pPart, ePO, opSl, List.set_cons_zero, List.set_cons_succ, List.getD_cons_zero, List.getD_cons_succ, d9, d5, addI, en]
/-- a recipe turned about: its names are of the same -/
theorem again_ok (t : Int) (ahead : List Str) (r : Rec) (hr : RecOk ahead r) (hw : ∀ x ∈ ahead, PyData.strOk x = true) : ∃ r' t', RecOk ahead r' ∧ m__law_again [.lst true [.int t], recD r] = some (recD r', [.lst true [.int t'], recD r]) := by
  have d3 := dig 3 (by decide) (by decide)
  have d4 := dig 4 (by decide) (by decide)
  cases r with
  | leaf n =>
    refine ⟨.leaf n, t, hr, ?_⟩
    have e1 : opIx (.tup [.str "leaf", .int n]) (.int 0) = some (.str "leaf") := rfl
    simp [m__law_again, b__law_again, fnM, outs, sSeq, sIf, sAsg, sRet, sRetN, sNil, sExp, sNo, bP, bV, bAnd, bOr, bNot, bYes, eP, eMv, eFr, pVar, pC, pOp2, pOp1, eOp2, eOpP, eOpPP, eOpN, eOpV, eIx, eIxP, pBi, pAll, eBi, eBiP, takeA, valsA, aE, aS, aNil, eTup, eLst, eCall, callA, putA, gN, gT, gTu, gSt, lVar, lIx, getP, putP, getS, putS, eMt, eMt0, mAppend, opPut, opLen, opLt, opLe, opGt, opGe, opSub, modI, eqI, eqS, neI, neS, opIsN, opNotN, D.stable, stableL, D.imm, immL, D.frz, frzL, pSl, pPart, ePO, opSl, List.set_cons_zero, List.set_cons_succ, List.getD_cons_zero, List.getD_cons_succ, recD, e1]
  | op w ns =>
    obtain ⟨h1, h2, h3, h4, h5⟩ := hr
    have hne : ¬ w = "leaf" := by rcases h1 with rfl | rfl | rfl | rfl <;> decide
    have e1 : opIx (.tup [.str w, .tup (ns.map D.str)]) (.int 0) = some (.str w) := rfl
    have e2 : opIx (.tup [.str w, .tup (ns.map D.str)]) (.int 1) = some (.tup (ns.map D.str)) := rfl
    have him := imm_strs ns
    have hst : stableL (ns.map D.str) = true := stableL_of_imm _ him
    by_cases hl : w = "less"
    · subst hl
      have h6 : t % 3 = 0 ∨ t % 3 = 1 ∨ t % 3 = 2 := by omega
      have es1 : opStp (.tup (ns.map D.str)) (.int 1) = some (.tup (ns.map D.str)) := by
        show (if immL (ns.map D.str) = true then _ else _) = _
        rw [if_pos him]
        rfl
      have es2 : opStp (.tup (ns.map D.str)) (.int (-1)) = some (.tup (ns.reverse.map D.str)) := by
        show (if immL (ns.map D.str) = true then _ else _) = _
        rw [if_pos him, List.map_reverse]
        rfl
      rcases h6 with h6 | h6 | h6
      · refine ⟨.op "less" ns, t / 3, ⟨h1, h2, h3, h4, h5⟩, ?_⟩
        have e3 : opIx (.lst true [.int 1, .int 1, .int (-1)]) (.int 0) = some (.int 1) := rfl
        simp [m__law_again, b__law_again, fnM, outs, sSeq, sIf, sAsg, sRet, sRetN, sNil, sExp, sNo, bP, bV, bAnd, bOr, bNot, bYes, eP, eMv, eFr, pVar, pC, pOp2, pOp1, eOp2, eOpP, eOpPP, eOpN, eOpV, eIx, eIxP, pBi, pAll, eBi, eBiP, takeA, valsA, aE, aS, aNil, eTup, eLst, eCall, callA, putA, gN, gT, gTu, gSt, lVar, lIx, getP, putP, getS, putS, eMt, eMt0, mAppend, opPut, opLen, opLt, opLe, opGt, opGe, opSub, modI, eqI, eqS, neI, neS, opIsN, opNotN, D.stable, stableL, D.imm, immL, D.frz, frzL, pSl, pPart, ePO, opSl, List.set_cons_zero, List.set_cons_succ, List.getD_cons_zero, List.getD_cons_succ, opNeg, recD, e1, e2, hne, d3, h6, e3, es1, hst]
      · refine ⟨.op "less" ns, t / 3, ⟨h1, h2, h3, h4, h5⟩, ?_⟩
        have e3 : opIx (.lst true [.int 1, .int 1, .int (-1)]) (.int 1) = some (.int 1) := rfl
        simp [m__law_again, b__law_again, fnM, outs, sSeq, sIf, sAsg, sRet, sRetN, sNil, sExp, sNo, bP, bV, bAnd, bOr, bNot, bYes, eP, eMv, eFr, pVar, pC, pOp2, pOp1, eOp2, eOpP, eOpPP, eOpN, eOpV, eIx, eIxP, pBi, pAll, eBi, eBiP, takeA, valsA, aE, aS, aNil, eTup, eLst, eCall, callA, putA, gN, gT, gTu, gSt, lVar, lIx, getP, putP, getS, putS, eMt, eMt0, mAppend, opPut, opLen, opLt, opLe, opGt, opGe, opSub, modI, eqI, eqS, neI, neS, opIsN, opNotN, D.stable, stableL, D.imm, immL, D.frz, frzL, pSl, pPart, ePO, opSl, List.set_cons_zero, List.set_cons_succ, List.getD_cons_zero, List.getD_cons_succ, opNeg, recD, e1, e2, hne, d3, h6, e3, es1, hst]
      · refine ⟨.op "less" ns.reverse, t / 3, ⟨h1, by simpa using h2, by simpa using h3, fun q => by simpa using h4 q, fun x hx => h5 x (by simpa using hx)⟩, ?_⟩
        have e3 : opIx (.lst true [.int 1, .int 1, .int (-1)]) (.int 2) = some (.int (-1)) := rfl
        simp [m__law_again, b__law_again, fnM, outs, sSeq, sIf, sAsg, sRet, sRetN, sNil, sExp, sNo, bP, bV, bAnd, bOr, bNot, bYes, eP, eMv, eFr, pVar, pC, pOp2, pOp1, eOp2, eOpP, eOpPP, eOpN, eOpV, eIx, eIxP, pBi, pAll, eBi, eBiP, takeA, valsA, aE, aS, aNil, eTup, eLst, eCall, callA, putA, gN, gT, gTu, gSt, lVar, lIx, getP, putP, getS, putS, eMt, eMt0, mAppend, opPut, opLen, opLt, opLe, opGt, opGe, opSub, modI, eqI, eqS, neI, neS, opIsN, opNotN, D.stable, stableL, D.imm, immL, D.frz, frzL, pSl, pPart, ePO, opSl, List.set_cons_zero, List.set_cons_succ, List.getD_cons_zero, List.getD_cons_succ, opNeg, recD, e1, e2, hne, d3, h6, e3, es2, hst]
    · have el : opList [.tup (ns.map D.str)] = some (.lst true (ns.map D.str)) := by
        show (if immL (ns.map D.str) = true then _ else _) = _
        rw [if_pos him]
      have hlen : (ns.map D.str).length = ns.length := List.length_map _
      have dm := dig (ns.length : Int) (by omega) (by omega)
      obtain ⟨k, hk, hk2⟩ : ∃ k : Nat, t % (ns.length : Int) = (k : Int) ∧ k < ns.length := by
        have b1 := Int.emod_nonneg t (show (ns.length : Int) ≠ 0 by omega)
        have b2 := Int.emod_lt_of_pos t (show 0 < (ns.length : Int) by omega)
        exact ⟨(t % (ns.length : Int)).toNat, by omega, by omega⟩
      have fin : ∀ ms : List Str, ms.length = ns.length → (∀ x ∈ ms, x ∈ ahead) → RecOk ahead (.op w (ms.drop k ++ ms.take k)) ∧ opSl (.lst true (ms.map D.str)) (some (k : Int)) none = some (.lst true ((ms.drop k).map D.str)) ∧
          opSl (.lst true (ms.map D.str)) none (some (k : Int)) = some (.lst true ((ms.take k).map D.str)) ∧ opAdd (.lst true ((ms.drop k).map D.str)) (.lst true ((ms.take k).map D.str)) = some (.lst true ((ms.drop k ++ ms.take k).map D.str)) ∧
          opTuple [.lst true ((ms.drop k ++ ms.take k).map D.str)] = some (.tup ((ms.drop k ++ ms.take k).map D.str)) := fun ms hms hma => by
        have hm := imm_strs ms
        have hkl : k ≤ (ms.map D.str).length := by rw [List.length_map]; omega
        have hlen2 : (ms.drop k ++ ms.take k).length = ns.length := by simp; omega
        refine ⟨⟨h1, by omega, by omega, fun q => absurd q hl, fun x hx => ?_⟩, ?_, ?_, ?_, ?_⟩
        · rcases List.mem_append.mp hx with hx | hx
          · exact hma x (List.mem_of_mem_drop hx)
          · exact hma x (List.mem_of_mem_take hx)
        · rw [sl_from hkl hm, List.map_drop]
        · rw [sl_to hkl hm, List.map_take]
        · show (if _ ∧ _ ∧ _ then _ else _) = _
          rw [if_pos ⟨by rw [List.length_map, List.length_map, sizeLine_eq]; simp; omega, imm_strs _, imm_strs _⟩, List.map_append]
        · show (if immL _ = true then _ else _) = _
          rw [if_pos (imm_strs _)]
      by_cases hz : t / (ns.length : Int) % 4 = 0
      · have b1 := Int.emod_nonneg (t / (ns.length : Int) / 4) (show (ns.length : Int) ≠ 0 by omega)
        have b2 := Int.emod_lt_of_pos (t / (ns.length : Int) / 4) (show 0 < (ns.length : Int) by omega)
        obtain ⟨x, hx, ei⟩ := ix_strs (o := true) (l := ns) (i := t / (ns.length : Int) / 4 % (ns.length : Int)) b1 b2
        obtain ⟨f1, f2, f3, f4, f5⟩ := fin (ns.set k x) (by simp) fun y hy => by
          rcases List.mem_or_eq_of_mem_set hy with hy | hy
          · exact h5 y hy
          · rw [hy]; exact h5 x hx
        have ep : opPut (.lst true (ns.map D.str)) (.int (k : Int)) (.str x) = some (.lst true ((ns.set k x).map D.str)) := by
          have e0 : L2.ixN (ns.map D.str).length (k : Int) = some k := by
            unfold L2.ixN
            rw [if_pos (by omega), if_pos (by rw [hlen]; omega), Int.toNat_natCast]
          simp only [opPut, e0, List.map_set]
        refine ⟨_, t / (ns.length : Int) / 4 / (ns.length : Int), f1, ?_⟩
        have hst2 : stableL (((ns.set k x).drop k ++ (ns.set k x).take k).map D.str) = true := stableL_of_imm _ (imm_strs _)
        generalize hms : ns.set k x = ms at *
        simp only [List.map_append, List.map_drop, List.map_take] at f2 f3 f4 f5 hst2
        simp [m__law_again, b__law_again, fnM, outs, sSeq, sIf, sAsg, sRet, sRetN, sNil, sExp, sNo, bP, bV, bAnd, bOr, bNot, bYes, eP, eMv, eFr, pVar, pC, pOp2, pOp1, eOp2, eOpP, eOpPP, eOpN, eOpV, eIx, eIxP, pBi, pAll, eBi, eBiP, takeA, valsA, aE, aS, aNil, eTup, eLst, eCall, callA, putA, gN, gT, gTu, gSt, lVar, lIx, getP, putP, getS, putS, eMt, eMt0, mAppend, opLen, opLt, opLe, opGt, opGe, opSub, modI, eqI, eqS, neI, neS, opIsN, opNotN, D.stable, stableL, D.imm, immL, D.frz, frzL, pSl, pPart, ePO, List.set_cons_zero, List.set_cons_succ, List.getD_cons_zero, List.getD_cons_succ, recD, e1, e2, hne, hl, el, dm, d4, hk, hz, ei, ep, f2, f3, f4, f5, hst2]
      · obtain ⟨f1, f2, f3, f4, f5⟩ := fin ns rfl h5
        refine ⟨_, t / (ns.length : Int) / 4, f1, ?_⟩
        have hst2 : stableL ((ns.drop k ++ ns.take k).map D.str) = true := stableL_of_imm _ (imm_strs _)
        simp only [List.map_append, List.map_drop, List.map_take] at f2 f3 f4 f5 hst2
        simp [m__law_again, b__law_again, fnM, outs, sSeq, sIf, sAsg, sRet, sRetN, sNil, sExp, sNo, bP, bV, bAnd, bOr, bNot, bYes, eP, eMv, eFr, pVar, pC, pOp2, pOp1, eOp2, eOpP, eOpPP, eOpN, eOpV, eIx, eIxP, pBi, pAll, eBi, eBiP, takeA, valsA, aE, aS, aNil, eTup, eLst, eCall, callA, putA, gN, gT, gTu, gSt, lVar, lIx, getP, putP, getS, putS, eMt, eMt0, mAppend, opLen, opLt, opLe, opGt, opGe, opSub, modI, eqI, eqS, neI, neS, opIsN, opNotN, D.stable, stableL, D.imm, immL, D.frz, frzL, pSl, pPart, ePO, List.set_cons_zero, List.set_cons_succ, List.getD_cons_zero, List.getD_cons_succ, recD, e1, e2, hne, hl, el, dm, d4, hk, hz, f2, f3, f4, f5, hst2]
end Lk

set_option Elab.async false
set_option linter.all false
set_option maxRecDepth 100000
set_option maxHeartbeats 4000000
namespace Lk
open PySem Dl
theorem recD_imm (r : Rec) : (recD r).imm = true := by
  cases r with
  | leaf n => simp [recD, D.imm, immL]
  | op w ns => simp [recD, D.imm, immL, imm_strs]
theorem recD_stable (r : Rec) : (recD r).stable = true := D.stable_of_imm _ (recD_imm r)
theorem partD_imm (p : Part) : (partD p).imm = true := by simp [partD, D.imm, immL, recD_imm]
theorem partD_stable (p : Part) : (partD p).stable = true := D.stable_of_imm _ (partD_imm p)
theorem parts_imm : ∀ (ps : List Part), immL (ps.map partD) = true
  | [] => by simp [immL]
  | p :: ps => by rw [List.map_cons, immL, parts_imm ps, partD_imm]; rfl
theorem RecOk.mono {a b : List Str} {r : Rec} (h : RecOk a r) (hs : ∀ x ∈ a, x ∈ b) : RecOk b r := by
  cases r with
  | leaf n => exact h
  | op w ns => exact ⟨h.1, h.2.1, h.2.2.1, h.2.2.2.1, fun x hx => hs x (h.2.2.2.2 x hx)⟩
/-- parts whose names are the first of these words -/
structure PartsOk (ws : List Str) (ps : List Part) : Prop where
  nm : ps.map Part.name = ws.take ps.length
  le : ps.length ≤ ws.length
  ok : ∀ (i : Nat) (p : Part), ps[i]? = some p → RecOk (ws.take i) p.recp ∧ (1 ≤ p.size ∧ p.size ≤ 9) ∧ (1 ≤ p.cost ∧ p.cost ≤ 9)
theorem PartsOk.snoc {ws : List Str} {ps : List Part} {w : Str} {r : Rec} {a b : Int} (h : PartsOk ws ps) (hw : ws[ps.length]? = some w) (hr : RecOk (ws.take ps.length) r) (ha : 1 ≤ a ∧ a ≤ 9) (hb : 1 ≤ b ∧ b ≤ 9) : PartsOk ws (ps ++ [⟨w, r, a, b⟩]) := by
  obtain ⟨hl, hw'⟩ := List.getElem?_eq_some_iff.mp hw
  refine ⟨?_, ?_, fun i p hp => ?_⟩
  · rw [List.map_append, h.nm, List.length_append, List.length_singleton, List.take_succ, hw]
    rfl
  · rw [List.length_append, List.length_singleton]; omega
  · by_cases hi : i < ps.length
    · rw [List.getElem?_append_left hi] at hp
      exact h.ok i p hp
    · have : i = ps.length := by
        have := (List.getElem?_eq_some_iff.mp hp).1
        rw [List.length_append, List.length_singleton] at this
        omega
      subst this
      rw [List.getElem?_append_right (Nat.le_refl _), Nat.sub_self] at hp
      cases hp
      exact ⟨hr, ha, hb⟩
theorem book_step (ns : List Int) (st mo t : Int) (n : Option D) (ws : List Str) (ps : List Part) (u v : Option D) (hw : ∀ x ∈ ws, PyData.strOk x = true) (h24 : ws.length ≤ 24) (hp : PartsOk ws ps) (hk : ps.length < ws.length) :
    ∃ (t' : Int) (p : Part) (u' v' : Option D), PartsOk ws (ps ++ [p]) ∧ w1__law_book [some (.scr ns), some (.int st), some (.int mo), some (.lst true [.int t]), n, some (.lst true (ws.map D.str)), some (.lst true (ps.map partD)), some (.int (ps.length : Int)), u, v] =
      some (.nx, [some (.scr ns), some (.int st), some (.int mo), some (.lst true [.int t']), n, some (.lst true (ws.map D.str)), some (.lst true ((ps ++ [p]).map partD)), some (.int (ps.length : Int)), u', v']) := by
  have d4 := dig 4 (by decide) (by decide)
  have hwk : ws[ps.length]? = some ws[ps.length] := List.getElem?_eq_getElem hk
  have ew : opIx (.lst true (ws.map D.str)) (.int (ps.length : Int)) = some (.str ws[ps.length]) := by
    obtain ⟨d, e1, _, e2⟩ := ix_lst (o := true) (ds := ws.map D.str) (i := (ps.length : Int)) (by omega) (by rw [List.length_map]; omega)
    rw [Int.toNat_natCast, List.getElem?_map, hwk] at e1
    cases e1
    exact e2
  have esl : opSl (.lst true (ws.map D.str)) none (some (ps.length : Int)) = some (.lst true ((ws.take ps.length).map D.str)) := by
    rw [sl_to (by rw [List.length_map]; omega) (imm_strs ws), List.map_take]
  have hl10 : ps.length < 10000 := by omega
  obtain ⟨r, t1, hr, er⟩ := recipe_ok t (ws.take ps.length) (by rw [List.length_take]; omega) fun x hx => hw x (List.mem_of_mem_take hx)
  obtain ⟨a, t2, ha, ea⟩ := number_ok t1
  obtain ⟨b, t3, hb, eb⟩ := number_ok t2
  have hrs := recD_stable r
  simp only [List.map_take] at esl er
  by_cases h0 : (0 : Int) < ps.length
  · have hg : opGt (.int (ps.length : Int)) (.int 0) = some (.bl true) := by
      show some (D.bl (decide ((0 : Int) < (ps.length : Int)))) = _
      rw [decide_eq_true h0]
    by_cases hz : t3 % 4 = 0
    · have dk := dig (ps.length : Int) h0 (by omega) (t3 / 4)
      have b1 := Int.emod_nonneg (t3 / 4) (show (ps.length : Int) ≠ 0 by omega)
      have b2 := Int.emod_lt_of_pos (t3 / 4) h0
      obtain ⟨d, q1, _, q2⟩ := ix_lst (o := true) (ds := ps.map partD) (i := t3 / 4 % (ps.length : Int)) b1 (by rw [List.length_map]; exact b2)
      rw [List.getElem?_map] at q1
      obtain ⟨el, hel, rfl⟩ := Option.map_eq_some_iff.mp q1
      obtain ⟨g1, g2, g3⟩ := hp.ok _ _ hel
      have hj : (t3 / 4 % (ps.length : Int)).toNat < ps.length := (List.getElem?_eq_some_iff.mp hel).1
      have g1' : RecOk (ws.take ps.length) el.recp := g1.mono fun x hx => by
        have e : ws.take (t3 / 4 % (ps.length : Int)).toNat = (ws.take ps.length).take (t3 / 4 % (ps.length : Int)).toNat := by rw [List.take_take, Nat.min_eq_left (by omega)]
        rw [e] at hx
        exact List.mem_of_mem_take hx
      obtain ⟨r', t4, hr', er'⟩ := again_ok (t3 / 4 / (ps.length : Int)) (ws.take ps.length) el.recp g1' fun x hx => hw x (List.mem_of_mem_take hx)
      have i1 : opIx (.tup [.str el.name, recD el.recp, .int el.size, .int el.cost]) (.int 1) = some (recD el.recp) := rfl
      have i2 : opIx (.tup [.str el.name, recD el.recp, .int el.size, .int el.cost]) (.int 2) = some (.int el.size) := rfl
      have i3 : opIx (.tup [.str el.name, recD el.recp, .int el.size, .int el.cost]) (.int 3) = some (.int el.cost) := rfl
      have s1 := partD_stable el
      have s2 := recD_stable el.recp
      have s3 := recD_stable r'
      refine ⟨t4, ⟨ws[ps.length], r', el.size, el.cost⟩, some (partD ⟨ws[ps.length], r', el.size, el.cost⟩), some (partD el), hp.snoc hwk hr' g2 g3, ?_⟩
      simp [w1__law_book, fnM, outs, sSeq, sIf, sAsg, sRet, sRetN, sNil, sExp, sNo, bP, bV, bAnd, bOr, bNot, bYes, eP, eMv, eFr, pVar, pC, pOp2, pOp1, eOp2, eOpP, eOpPP, eOpN, eOpV, eIx, eIxP, pBi, pAll, eBi, eBiP, takeA, valsA, aE, aS, aNil, eTup, eLst, eCall, callA, putA, gN, gT, gTu, gSt, lVar, lIx, getP, putP, getS, putS, eMt, eMt0, mAppend, opLen, opLt, opLe, opGe, opSub, modI, eqI, eqS, neI, neS, opIsN, opNotN, D.stable, stableL, D.imm, immL, D.frz, frzL, pSl, pPart, ePO, List.set_cons_zero, List.set_cons_succ, List.getD_cons_zero, List.getD_cons_succ, d4, ew, esl, er, ea, eb, hrs, hg, hz, dk, q2, i1, i2, i3, s1, s2, s3, er', hl10, partD]
    · refine ⟨t3 / 4, ⟨ws[ps.length], r, a, b⟩, some (partD ⟨ws[ps.length], r, a, b⟩), v, hp.snoc hwk hr ha hb, ?_⟩
      simp [w1__law_book, fnM, outs, sSeq, sIf, sAsg, sRet, sRetN, sNil, sExp, sNo, bP, bV, bAnd, bOr, bNot, bYes, eP, eMv, eFr, pVar, pC, pOp2, pOp1, eOp2, eOpP, eOpPP, eOpN, eOpV, eIx, eIxP, pBi, pAll, eBi, eBiP, takeA, valsA, aE, aS, aNil, eTup, eLst, eCall, callA, putA, gN, gT, gTu, gSt, lVar, lIx, getP, putP, getS, putS, eMt, eMt0, mAppend, opLen, opLt, opLe, opGe, opSub, modI, eqI, eqS, neI, neS, opIsN, opNotN, D.stable, stableL, D.imm, immL, D.frz, frzL, pSl, pPart, ePO, List.set_cons_zero, List.set_cons_succ, List.getD_cons_zero, List.getD_cons_succ, d4, ew, esl, er, ea, eb, hrs, hg, hz, hl10, partD]
  · refine ⟨t3, ⟨ws[ps.length], r, a, b⟩, some (partD ⟨ws[ps.length], r, a, b⟩), v, hp.snoc hwk hr ha hb, ?_⟩
    have h0' : opGt (.int (ps.length : Int)) (.int 0) = some (.bl false) := by
      show some (D.bl (decide ((0 : Int) < (ps.length : Int)))) = _
      rw [decide_eq_false h0]
    simp [w1__law_book, fnM, outs, sSeq, sIf, sAsg, sRet, sRetN, sNil, sExp, sNo, bP, bV, bAnd, bOr, bNot, bYes, eP, eMv, eFr, pVar, pC, pOp2, pOp1, eOp2, eOpP, eOpPP, eOpN, eOpV, eIx, eIxP, pBi, pAll, eBi, eBiP, takeA, valsA, aE, aS, aNil, eTup, eLst, eCall, callA, putA, gN, gT, gTu, gSt, lVar, lIx, getP, putP, getS, putS, eMt, eMt0, mAppend, opLen, opLt, opLe, opGe, opSub, modI, eqI, eqS, neI, neS, opIsN, opNotN, D.stable, stableL, D.imm, immL, D.frz, frzL, pSl, pPart, ePO, List.set_cons_zero, List.set_cons_succ, List.getD_cons_zero, List.getD_cons_succ, d4, ew, esl, er, ea, eb, hrs, h0', hl10, partD]
/-- what the laws need of a book -/
structure BookOk (ps : List Part) : Prop where
  len : 1 ≤ ps.length ∧ ps.length ≤ 24
  nd : (ps.map Part.name).Nodup
  word : ∀ p ∈ ps, wordB p.name = true
  odd : ∀ p ∈ ps, p.name ∉ oddW
  ok : ∀ (i : Nat) (p : Part), ps[i]? = some p → RecOk ((ps.map Part.name).take i) p.recp ∧ (1 ≤ p.size ∧ p.size ≤ 9) ∧ (1 ≤ p.cost ∧ p.cost ≤ 9)
theorem book_ok (ns : List Int) (st mo : Nat) (hn : ns.length ≤ 63) (h1 : 1 ≤ mo) (h2 : mo ≤ 24) : ∃ ps, BookOk ps ∧ ps.length ≤ mo ∧ m__law_book [.scr ns, .int st, .int mo] = some (bookD ps, [.scr ns, .int st, .int mo]) := by
  obtain ⟨t, et⟩ := tape_ok ns st hn
  have dm := dig (mo : Int) (by omega) (by omega) t
  obtain ⟨n, hn1, hn2⟩ : ∃ n : Nat, 1 + t % (mo : Int) = (n : Int) ∧ (1 ≤ n ∧ n ≤ mo) := by
    have b1 := Int.emod_nonneg t (show (mo : Int) ≠ 0 by omega)
    have b2 := Int.emod_lt_of_pos t (show 0 < (mo : Int) by omega)
    exact ⟨(1 + t % (mo : Int)).toNat, by omega, by omega⟩
  obtain ⟨ws, t2, hws, ew⟩ := words_ok (t / (mo : Int)) n hn2.1 (by omega)
  have hstr : ∀ x ∈ ws, PyData.strOk x = true := fun x hx => word_ok (hws.ok x hx)
  have hlen := hws.len
  obtain ⟨ρ', e1, t3, ps, u, v, k, q2, q4, q5⟩ := forL_inv (g := gN 7) (body := w1__law_book) (fun i ρ => ∃ (t : Int) (ps : List Part) (u v : Option D) (k : Option D), ps.length = i ∧ PartsOk ws ps ∧
      ρ = [some (.scr ns), some (.int st), some (.int mo), some (.lst true [.int t]), some (.int n), some (.lst true (ws.map D.str)), some (.lst true (ps.map partD)), k, u, v])
    (ds := rangeD 0 n) (k := 0) (ρ := [some (.scr ns), some (.int st), some (.int mo), some (.lst true [.int t2]), some (.int n), some (.lst true (ws.map D.str)), some (.lst true []), none, none, none]) ⟨t2, [], none, none, none, rfl, ⟨by simp, by simp, by simp⟩, rfl⟩ (fun i hi ρ q => by
      obtain ⟨t, ps, u, v, k, q1, q2, rfl⟩ := q
      rw [range_len] at hi
      rw [range_at]
      rw [Nat.zero_add] at q1
      subst q1
      rw [Int.zero_add]
      obtain ⟨t', p, u', v', s1, s2⟩ := book_step ns st mo t (some (.int n)) ws ps u v hstr (by omega) q2 (by omega)
      exact ⟨_, _, rfl, .inl s2, t', ps ++ [p], u', v', _, by simp, s1, rfl⟩)
  rw [Nat.zero_add, range_len] at q2
  subst q5
  have fr := forR1_of (it := eP (pVar 4)) (g := gN 7) (body := w1__law_book) (j := (n : Int)) (ρ1 := [some (.scr ns), some (.int st), some (.int mo), some (.lst true [.int t2]), some (.int n), some (.lst true (ws.map D.str)), some (.lst true []), none, none, none]) (eP_of rfl rfl) (by omega) (by omega) e1
  have hnm : ps.map Part.name = ws := by rw [q4.nm, q2, ← hlen, List.take_length]
  refine ⟨ps, ⟨by omega, by rw [hnm]; exact hws.nd, fun p hp => ?_, fun p hp => ?_, fun i p hp => by rw [hnm]; exact q4.ok i p hp⟩, by omega, ?_⟩
  · exact hws.ok _ (by rw [← hnm]; exact List.mem_map.mpr ⟨p, hp, rfl⟩)
  · exact hws.odd _ (by rw [← hnm]; exact List.mem_map.mpr ⟨p, hp, rfl⟩)
  · have ht : opTuple [.lst true (ps.map partD)] = some (.tup (ps.map partD)) := by
      show (if immL (ps.map partD) = true then _ else _) = _
      rw [if_pos (parts_imm ps)]
    have hst : stableL (ps.map partD) = true := stableL_of_imm _ (parts_imm ps)
    simp [m__law_book, b__law_book, fnM, outs, sSeq, sIf, sAsg, sRet, sRetN, sNil, sExp, sNo, bP, bV, bAnd, bOr, bNot, bYes, eP, eMv, eFr, pVar, pC, pOp2, pOp1, eOp2, eOpP, eOpPP, eOpN, eOpV, eIx, eIxP, pBi, pAll, eBi, eBiP, takeA, valsA, aE, aS, aNil, eTup, eLst, eCall, callA, putA, gN, gT, gTu, gSt, lVar, lIx, getP, putP, getS, putS, eMt, eMt0, mAppend, opLen, opLt, opLe, opGt, opGe, opSub, modI, eqI, eqS, neI, neS, opIsN, opNotN, D.stable, stableL, D.imm, immL, D.frz, frzL, pSl, pPart, ePO, List.set_cons_zero, List.set_cons_succ, List.getD_cons_zero, List.getD_cons_succ, et, dm, addI, hn1, ew, fr, ht, hst, bookD]
end Lk

set_option Elab.async false
set_option linter.all false
set_option maxRecDepth 100000
set_option maxHeartbeats 4000000
namespace Lk
open PySem Dl
def needs : Rec → List Str
  | .leaf _ => []
  | .op _ ns => ns
def recW : Rec → Str
  | .leaf _ => "leaf"
  | .op w _ => w
def recV : Rec → D
  | .leaf n => .int n
  | .op _ ns => .tup (ns.map D.str)
theorem part_0 (p : Part) : opIx (partD p) (.int 0) = some (.str p.name) := rfl
theorem part_1 (p : Part) : opIx (partD p) (.int 1) = some (recD p.recp) := rfl
theorem rec_0 (r : Rec) : opIx (recD r) (.int 0) = some (.str (recW r)) := by cases r <;> rfl
theorem rec_1 (r : Rec) : opIx (recD r) (.int 1) = some (recV r) := by cases r <;> rfl
theorem recV_imm (r : Rec) : (recV r).imm = true := by
  cases r with
  | leaf n => rfl
  | op w ns => exact strs_imm ns
theorem recV_stable (r : Rec) : (recV r).stable = true := D.stable_of_imm _ (recV_imm r)
theorem book_imm (ps : List Part) : (bookD ps).imm = true := parts_imm ps
theorem book_stable (ps : List Part) : (bookD ps).stable = true := D.stable_of_imm _ (book_imm ps)
theorem book_frz (ps : List Part) : (bookD ps).frz = bookD ps := D.frz_of_stable _ (book_stable ps)
theorem book_items (ps : List Part) : itemsD (bookD ps).frz = some (ps.map partD) := by rw [book_frz]; rfl
theorem op_ne_leaf {a : List Str} {w : Str} {ns : List Str} (h : RecOk a (.op w ns)) : ¬ w = "leaf" := by
  rcases h.1 with h | h | h | h <;> subst h <;> decide +kernel
theorem needs_ok {a : List Str} (p : Part) (h : RecOk a p.recp) : m_needs_of [partD p] = some (.tup ((needs p.recp).map D.str), [partD p]) := by
  cases hr : p.recp with
  | leaf n => simp [m_needs_of, b_needs_of, fnM, outs, sSeq, sIf, sAsg, sRet, sRetN, sNil, sExp, sNo, bP, bV, bAnd, bOr, bNot, bYes, eP, eMv, eFr, pVar, pC, pOp2, pOp1, eOp2, eOpP, eOpPP, eOpN, eOpV, eIx, eIxP, pBi, pAll, eBi, eBiP, takeA, valsA, aE, aS, aNil, eTup, eLst, eCall, callA, putA, gN, gT, gTu, gSt, lVar, lIx, getP, putP, getS, putS, eMt, eMt0, mAppend, opLen, opLt, opLe, opGt, opGe, opSub, modI, eqI, eqS, neI, neS, opIsN, opNotN, D.stable, stableL, D.imm, immL, D.frz, frzL, pSl, pPart, ePO, List.set_cons_zero, List.set_cons_succ, List.getD_cons_zero, List.getD_cons_succ, part_1, rec_0, rec_1, eqS, hr, recW, needs, partD_stable]
  | op w ns =>
    rw [hr] at h
    have hw := op_ne_leaf h
    have hs := recV_stable (.op w ns)
    simp [recV] at hs
    simp [m_needs_of, b_needs_of, fnM, outs, sSeq, sIf, sAsg, sRet, sRetN, sNil, sExp, sNo, bP, bV, bAnd, bOr, bNot, bYes, eP, eMv, eFr, pVar, pC, pOp2, pOp1, eOp2, eOpP, eOpPP, eOpN, eOpV, eIx, eIxP, pBi, pAll, eBi, eBiP, takeA, valsA, aE, aS, aNil, eTup, eLst, eCall, callA, putA, gN, gT, gTu, gSt, lVar, lIx, getP, putP, getS, putS, eMt, eMt0, mAppend, opLen, opLt, opLe, opGt, opGe, opSub, modI, eqI, eqS, neI, neS, opIsN, opNotN, D.stable, stableL, D.imm, immL, D.frz, frzL, pSl, pPart, ePO, List.set_cons_zero, List.set_cons_succ, List.getD_cons_zero, List.getD_cons_succ, part_1, rec_0, rec_1, eqS, hr, recW, needs, partD_stable, hw, recV, strs_imm, stableL_of_imm]
def nmP (p : Part) : Str × D := (p.name, partD p)
theorem nmP_imm : ∀ ps : List Part, immL (vS (ps.map nmP)) = true
  | [] => rfl
  | p :: ps => by
    show ((partD p).imm && immL (vS (ps.map nmP))) = true
    rw [partD_imm, nmP_imm ps]; rfl
theorem bls_map {α : Type} (f : α → Bool) : ∀ l : List α, blsL (l.map fun x => D.bl (f x)) = some (l.map f)
  | [] => rfl
  | x :: l => by rw [List.map_cons, List.map_cons, blsL, bls_map f l]
theorem names_of (ps : List Part) : (ps.map nmP).map (·.1) = ps.map Part.name := by rw [List.map_map]; rfl
theorem snoc_ind {α : Type} {P : List α → Prop} (h0 : P []) (hs : ∀ l a, P l → P (l ++ [a])) (l : List α) : P l := by
  rw [← List.reverse_reverse l]
  induction l.reverse with
  | nil => exact h0
  | cons a l ih => rw [List.reverse_cons]; exact hs _ _ ih
/-- a book's part behind the parts ahead of it -/
theorem BookOk.at {ps pre post : List Part} {p : Part} (h : BookOk ps) (e : ps = pre ++ p :: post) : RecOk (pre.map Part.name) p.recp ∧ p.name ∉ pre.map Part.name ∧ pre.length ≤ 23 := by
  have hp : ps[pre.length]? = some p := by rw [e, List.getElem?_append_right (Nat.le_refl _), Nat.sub_self]; rfl
  have h1 := (h.ok _ _ hp).1
  have ht : (ps.map Part.name).take pre.length = pre.map Part.name := by
    rw [e, List.map_append, List.take_left' (by rw [List.length_map])]
  rw [ht] at h1
  refine ⟨h1, fun hm => ?_, ?_⟩
  · have hn := h.nd
    rw [e, List.map_append, List.map_cons] at hn
    exact (List.nodup_append.mp hn).2.2 _ hm _ List.mem_cons_self rfl
  · have := h.len.2
    rw [e, List.length_append, List.length_cons] at this
    omega
theorem svL_strs : ∀ l : List Str, svL (l.map D.str) = some (l.map L2.V.str)
  | [] => rfl
  | x :: l => by rw [List.map_cons, svL, svL_strs l]; rfl
theorem inV_strs (x : Str) (l : List Str) : L2.inV (.str x) (l.map L2.V.str) = decide (x ∈ l) := by
  unfold L2.inV
  rw [List.any_map]
  induction l with
  | nil => simp
  | cons y l ih =>
    rw [List.any_cons, ih]
    have : (Function.comp (fun y => L2.eqV y (.str x)) L2.V.str) y = decide (y = x) := by
      show (y == x) = _
      by_cases e : y = x <;> simp [e]
    rw [this]
    by_cases h : x = y
    · subst h; simp
    · have h' : ¬ y = x := fun e => h e.symm
      simp [h, h']
theorem in_strs {o : Bool} (x : Str) (l : List Str) : opIn (.str x) (.lst o (l.map D.str)) = some (.bl (decide (x ∈ l))) := by
  show (match (match (D.str x).sv, svL (l.map D.str) with | some a, some bs => some (L2.inV a bs) | _, _ => _) with | some b => some (D.bl b) | none => none) = _
  rw [svL_strs]
  show some (D.bl (L2.inV (.str x) (l.map L2.V.str))) = _
  rw [inV_strs]
def trueS (l : List Str) : List (Str × D) := l.map fun x => (x, D.bl true)
theorem trueS_imm : ∀ l : List Str, immL (vS (trueS l)) = true
  | [] => rfl
  | x :: l => by
    show ((D.bl true).imm && immL (vS (trueS l))) = true
    rw [trueS_imm l]; rfl
theorem trueS_keys (l : List Str) : (trueS l).map (·.1) = l := by unfold trueS; rw [List.map_map]; exact List.map_id l
theorem true_pairs (l : List Str) : ((trueS l).map fun p => D.tup [.str p.1, p.2]) = l.map fun x => D.tup [.str x, .bl true] := by unfold trueS; rw [List.map_map]; rfl
theorem dict_true {o : Bool} (l : List Str) : opDict [.lst o (l.map fun x => D.tup [.str x, .bl true])] = some (dicS (mrg [] (trueS l))) := by
  rw [← true_pairs]; exact dict_S _ (trueS_imm l)
theorem BookOk.recAt {ps : List Part} (h : BookOk ps) {p : Part} (hp : p ∈ ps) : ∃ a, RecOk a p.recp := by
  obtain ⟨i, hi⟩ := List.getElem?_of_mem hp
  exact ⟨_, (h.ok i p hi).1⟩
theorem needs_len {a : List Str} {r : Rec} (h : RecOk a r) : (needs r).length ≤ 4 := by
  cases r with
  | leaf n => simp [needs]
  | op w ns => exact h.2.2.1
theorem word_str {ps : List Part} (h : BookOk ps) {x : Str} (hx : x ∈ ps.map Part.name) : PyData.strOk x = true := by
  obtain ⟨p, hp, rfl⟩ := List.mem_map.mp hx
  exact word_ok (h.word p hp)
theorem needs_mem {ps : List Part} (h : BookOk ps) {p : Part} (hp : p ∈ ps) {x : Str} (hx : x ∈ needs p.recp) : x ∈ ps.map Part.name := by
  obtain ⟨i, hi⟩ := List.getElem?_of_mem hp
  have := (h.ok i p hi).1
  cases hr : p.recp with
  | leaf n => rw [hr] at hx; simp [needs] at hx
  | op w ns =>
    rw [hr] at this hx
    exact List.mem_of_mem_take (this.2.2.2.2 x hx)
theorem any_strs (l S : List Str) : opAny [.lst true (l.map fun x => D.bl (decide (x ∈ S)))] = some (.bl (l.any fun x => decide (x ∈ S))) := by
  show (match blsL (l.map fun x => D.bl (decide (x ∈ S))) with | some l => some (D.bl (l.any id)) | none => none) = _
  rw [bls_map (fun x => decide (x ∈ S))]
  simp [List.any_map, Function.comp_def]
theorem ints_map : ∀ l : List Int, intsL (l.map D.int) = some l
  | [] => rfl
  | x :: l => by rw [List.map_cons, intsL, ints_map l]
theorem sum_ok {o : Bool} (l : List Int) : opSum [.lst o (l.map D.int)] = some (.int l.sum) := by
  show (match intsL (l.map D.int) with | some l => some (D.int l.sum) | none => none) = _
  rw [ints_map]
theorem max_ok {o : Bool} (l : List Int) : opMax [.lst o (l.map D.int)] = (maxL l).map D.int := by
  show (match intsL (l.map D.int) with | some l => (maxL l).map D.int | none => none) = _
  rw [ints_map]
theorem frz_ints (o : Bool) (l : List Int) : (D.lst o (l.map D.int)).frz = .lst false (l.map D.int) := by
  rw [D.frz, frzL_of_stable _ (stableL_of_imm _ (ints_imm l))]
theorem in_trueS (x : Str) (l : List Str) : opIn (.str x) (dicS (trueS l)) = some (.bl (decide (x ∈ l))) := by rw [in_dS, trueS_keys]
theorem find_erase {l : List Str} {x : Str} (h : x ∈ l) : ∃ j, (l.map D.str).findIdx? (fun z => decide (z = D.str x)) = some j ∧ j < l.length ∧ l.eraseIdx j = l.erase x := by
  induction l with
  | nil => cases h
  | cons a l ih =>
    rw [List.map_cons, List.findIdx?_cons]
    by_cases e : a = x
    · subst e
      exact ⟨0, by simp, by simp, by simp⟩
    · have h' : x ∈ l := by
        rcases List.mem_cons.mp h with h | h
        · exact absurd h.symm e
        · exact h
      obtain ⟨j, h1, h2, h3⟩ := ih h'
      have e1 : ¬ (D.str a = D.str x) := fun q => e (str_inj.mp q)
      refine ⟨j + 1, by simp [e1, h1], by simpa using h2, ?_⟩
      rw [List.eraseIdx_cons_succ, h3, List.erase_cons, if_neg (by simpa using e)]
theorem pop_true {l : List Str} (hn : l.Nodup) {x : Str} (h : x ∈ l) : mDPop (dicS (trueS l)) [.str x] = some (dicS (trueS (l.erase x)), .bl true) := by
  obtain ⟨j, h1, h2, h3⟩ := find_erase h
  have ek : ∀ l : List Str, kS (trueS l) = l.map D.str := fun l => by unfold kS trueS; rw [List.map_map]; rfl
  have ev : ∀ l : List Str, vS (trueS l) = l.map fun _ => D.bl true := fun l => by unfold vS trueS; rw [List.map_map]; rfl
  have em : ∀ {α β : Type} (f : α → β) (l : List α) (j : Nat), (l.map f).eraseIdx j = (l.eraseIdx j).map f := fun f l j => (map_erase f l j).symm
  show (if (D.str x).key.isSome = true then (match (kS (trueS l)).findIdx? (fun z => decide (z = D.str x)) with
      | some j => match (vS (trueS l))[j]? with
        | some v => if ((kS (trueS l)).eraseIdx j).all (fun z => decide (z ≠ D.str x)) = true then some (D.dic true .k ((kS (trueS l)).eraseIdx j) ((vS (trueS l)).eraseIdx j), v) else none
        | none => none
      | none => none) else none) = _
  rw [if_pos (show (D.str x).key.isSome = true from rfl), ek, ev, h1]
  show (match (l.map fun _ => D.bl true)[j]? with | some v => _ | none => none) = _
  have hj : (l.map fun _ => D.bl true)[j]? = some (.bl true) := by rw [List.getElem?_map, List.getElem?_eq_getElem h2]; rfl
  rw [hj]
  have ha : ((l.map D.str).eraseIdx j).all (fun z => decide (z ≠ D.str x)) = true := by
    rw [em, h3, List.all_map, List.all_eq_true]
    intro y hy
    simp only [Function.comp, decide_eq_true_eq, ne_eq, str_inj]
    exact fun e => (List.Nodup.not_mem_erase hn) (e ▸ hy)
  show (if ((l.map D.str).eraseIdx j).all (fun z => decide (z ≠ D.str x)) = true then _ else none) = _
  rw [if_pos ha, em, em, h3]
  unfold dicS
  rw [ek, ev]
theorem put_true {l : List Str} {x : Str} (h : x ∉ l) (hl : l.length < 10000) : opPut (dicS (trueS l)) (.str x) (.bl true) = some (dicS (trueS (l ++ [x]))) := by
  rw [put_dS _ _ _ rfl (by unfold trueS; rw [List.length_map]; exact hl), setS_new (by rw [trueS_keys]; exact h)]
  unfold trueS
  rw [List.map_append]
  rfl
theorem all_strs (l S : List Str) : opAll [.lst true (l.map fun x => D.bl (decide (x ∈ S)))] = some (.bl (l.all fun x => decide (x ∈ S))) := by
  show (match blsL (l.map fun x => D.bl (decide (x ∈ S))) with | some l => some (D.bl (l.all id)) | none => none) = _
  rw [bls_map (fun x => decide (x ∈ S))]
  simp [List.all_map, Function.comp_def]
end Lk

set_option Elab.async false
set_option linter.all false
set_option maxRecDepth 100000
set_option maxHeartbeats 4000000
namespace Lk
open PySem Dl
theorem by_name_ok (ps : List Part) (hl : ps.length ≤ 24) : m_parts_by_name [bookD ps] = some (dicS (mrg [] (ps.map nmP)), [bookD ps]) := by
  have hc : eComp (eP (pVar 0)) (gN 1) bYes x1_parts_by_name [1] [some (bookD ps), none] = some (.lst true (ps.map fun p => D.tup [.str p.name, partD p]), [some (bookD ps), none]) := by
    refine comp_M (c := partD) (f := fun p => D.tup [.str p.name, partD p]) (ρ1 := [some (bookD ps), none]) (eP_of rfl (book_stable ps)) (book_items ps) (by omega) fun p _ => ?_
    refine ⟨_, rfl, [some (bookD ps), some (partD p)], ?_, rfl⟩
    simp [x1_parts_by_name, fnM, outs, sSeq, sIf, sAsg, sRet, sRetN, sNil, sExp, sNo, bP, bV, bAnd, bOr, bNot, bYes, eP, eMv, eFr, pVar, pC, pOp2, pOp1, eOp2, eOpP, eOpPP, eOpN, eOpV, eIx, eIxP, pBi, pAll, eBi, eBiP, takeA, valsA, aE, aS, aNil, eTup, eLst, eCall, callA, putA, gN, gT, gTu, gSt, lVar, lIx, getP, putP, getS, putS, eMt, eMt0, mAppend, opLen, opLt, opLe, opGt, opGe, opSub, modI, eqI, eqS, neI, neS, opIsN, opNotN, D.stable, stableL, D.imm, immL, D.frz, frzL, pSl, pPart, ePO, List.set_cons_zero, List.set_cons_succ, List.getD_cons_zero, List.getD_cons_succ, part_0, wipeD, partD_stable]
  have hd := dict_S (o := true) (ps.map nmP) (nmP_imm ps)
  rw [List.map_map] at hd
  have e : ((fun p => D.tup [.str p.1, p.2]) ∘ nmP) = fun p : Part => D.tup [.str p.name, partD p] := rfl
  rw [e] at hd
  simp [m_parts_by_name, b_parts_by_name, fnM, outs, sSeq, sIf, sAsg, sRet, sRetN, sNil, sExp, sNo, bP, bV, bAnd, bOr, bNot, bYes, eP, eMv, eFr, pVar, pC, pOp2, pOp1, eOp2, eOpP, eOpPP, eOpN, eOpV, eIx, eIxP, pBi, pAll, eBi, eBiP, takeA, valsA, aE, aS, aNil, eTup, eLst, eCall, callA, putA, gN, gT, gTu, gSt, lVar, lIx, getP, putP, getS, putS, eMt, eMt0, mAppend, opLen, opLt, opLe, opGt, opGe, opSub, modI, eqI, eqS, neI, neS, opIsN, opNotN, D.stable, stableL, D.imm, immL, D.frz, frzL, pSl, pPart, ePO, List.set_cons_zero, List.set_cons_succ, List.getD_cons_zero, List.getD_cons_succ, hc, hd]
end Lk

set_option Elab.async false
set_option linter.all false
set_option maxRecDepth 100000
set_option maxHeartbeats 4000000
namespace Lk
open PySem Dl
theorem need_names_ok {o : Bool} (ps : List Part) (hl : ps.length ≤ 24) (names : List Str) (hn : names.length ≤ 1000) (h : ∀ x ∈ names, x ∈ ps.map Part.name) : m_need_names [bookD ps, .lst o (names.map D.str)] = some (.non, [bookD ps, .lst false (names.map D.str)]) := by
  have h1 := by_name_ok ps hl
  have hs : (D.lst false (names.map D.str)).stable = true := by simp [D.stable, stableL_of_imm _ (strs_imm names)]
  have hc : eComp (eFr 1) (gN 3) bYes x1_need_names [3] [some (bookD ps), some (.lst o (names.map D.str)), some (dicS (mrg [] (ps.map nmP))), none] =
      some (.lst true (names.map fun x => D.bl true), [some (bookD ps), some (.lst false (names.map D.str)), some (dicS (mrg [] (ps.map nmP))), none]) := by
    refine comp_M (c := D.str) (f := fun _ => D.bl true) (ρ1 := [some (bookD ps), some (.lst false (names.map D.str)), some (dicS (mrg [] (ps.map nmP))), none]) (d := .lst false (names.map D.str)) ?_ (by rw [frz_strs]; rfl) (by omega) fun x hx => ?_
    · simp only [eFr, List.getD_cons_zero, List.getD_cons_succ, frz_strs, List.set_cons_succ, List.set_cons_zero]
    · refine ⟨_, rfl, [some (bookD ps), some (.lst false (names.map D.str)), some (dicS (mrg [] (ps.map nmP))), some (.str x)], ?_, rfl⟩
      have hk : x ∈ (mrg [] (ps.map nmP)).map (·.1) := (keys_mrg _ _ _).mpr (.inr (by rw [names_of]; exact h x hx))
      have hin : opIn (.str x) (dicS (mrg [] (ps.map nmP))) = some (.bl true) := by rw [in_dS, decide_eq_true hk]
      simp [x1_need_names, fnM, outs, sSeq, sIf, sAsg, sRet, sRetN, sNil, sExp, sNo, bP, bV, bAnd, bOr, bNot, bYes, eP, eMv, eFr, pVar, pC, pOp2, pOp1, eOp2, eOpP, eOpPP, eOpN, eOpV, eIx, eIxP, pBi, pAll, eBi, eBiP, takeA, valsA, aE, aS, aNil, eTup, eLst, eCall, callA, putA, gN, gT, gTu, gSt, lVar, lIx, getP, putP, getS, putS, eMt, eMt0, mAppend, opLen, opLt, opLe, opGt, opGe, opSub, modI, eqI, eqS, neI, neS, opIsN, opNotN, D.stable, stableL, D.imm, immL, D.frz, frzL, pSl, pPart, ePO, List.set_cons_zero, List.set_cons_succ, List.getD_cons_zero, List.getD_cons_succ, hin, wipeD]
  have ha : opAll [.lst true (names.map fun x => D.bl true)] = some (.bl true) := by
    show (match blsL (names.map fun x => D.bl true) with | some l => some (D.bl (l.all id)) | none => none) = _
    rw [bls_map (fun _ => true)]
    simp
  simp only [List.map_const'] at hc ha
  simp [m_need_names, b_need_names, fnM, outs, sSeq, sIf, sAsg, sRet, sRetN, sNil, sExp, sNo, bP, bV, bAnd, bOr, bNot, bYes, eP, eMv, eFr, pVar, pC, pOp2, pOp1, eOp2, eOpP, eOpPP, eOpN, eOpV, eIx, eIxP, pBi, pAll, eBi, eBiP, takeA, valsA, aE, aS, aNil, eTup, eLst, eCall, callA, putA, gN, gT, gTu, gSt, lVar, lIx, getP, putP, getS, putS, eMt, eMt0, mAppend, opLen, opLt, opLe, opGt, opGe, opSub, modI, eqI, eqS, neI, neS, opIsN, opNotN, D.stable, stableL, D.imm, immL, D.frz, frzL, pSl, pPart, ePO, List.set_cons_zero, List.set_cons_succ, List.getD_cons_zero, List.getD_cons_succ, h1, hc, ha, book_stable]
end Lk

set_option Elab.async false
set_option linter.all false
set_option maxRecDepth 100000
set_option maxHeartbeats 4000000
namespace Lk
open PySem Dl
/-! UR: a book's repr -/
def okW (x : Str) : Prop := (∀ c ∈ TL.tl x, 48 ≤ c) ∧ x.length ≤ 8
theorem okW_word {w : Str} (h : wordB w = true) : okW w := by
  unfold wordB at h
  rw [Bool.and_eq_true, decide_eq_true_eq] at h
  refine ⟨fun c hc => ?_, h.1.2⟩
  have := of_decide_eq_true (List.all_eq_true.mp h.2 c hc)
  omega
theorem BookOk.facts {ps : List Part} (b : BookOk ps) {p : Part} (hp : p ∈ ps) : ∃ a, wordB p.name = true ∧ RecOk a p.recp ∧ (∀ x ∈ needs p.recp, wordB x = true) ∧ (1 ≤ p.size ∧ p.size ≤ 9) ∧ (1 ≤ p.cost ∧ p.cost ≤ 9) := by
  obtain ⟨i, hi⟩ := List.getElem?_of_mem hp
  obtain ⟨k1, k2, k3⟩ := b.ok i p hi
  exact ⟨_, b.word p hp, k1, fun x hx => by
    obtain ⟨q, hq, rfl⟩ := List.mem_map.mp (needs_mem b hp hx)
    exact b.word q hq, k2, k3⟩
theorem parts_nic {ps : List Part} (b : BookOk ps) {o : Bool} : sml 5 (.lst o (ps.map partD)) = true ∧ sml 5 (bookD ps) = true := by
  have key : (ps.map partD).all (sml 4) = true := by
    rw [List.all_map, List.all_eq_true]
    intro p hp
    obtain ⟨a, f1, f2, f3, f4, f5⟩ := b.facts hp
    have s1 : p.size.natAbs < 1000000000000 := by omega
    have s2 : p.cost.natAbs < 1000000000000 := by omega
    have hr : sml 3 (recD p.recp) = true := by
      cases hq : p.recp with
      | leaf n =>
        rw [hq] at f2
        have : n.natAbs < 1000000000000 := by have := f2.1; have := f2.2; omega
        have h0 : PyData.strOk ("leaf" : Str) = true := by decide +kernel
        simp [recD, sml, this, h0]
      | op w ns =>
        rw [hq] at f2 f3
        have h0 : PyData.strOk w = true := by rcases f2.1 with h | h | h | h <;> subst h <;> decide +kernel
        have h1 : ∀ x ∈ ns, PyData.strOk x = true := fun x hx => word_ok (f3 x hx)
        simp [recD, sml, h0]
        exact h1
    simp [Function.comp, partD, sml, word_ok f1, s1, s2, hr]
  exact ⟨by simpa [sml] using key, by simpa [sml, bookD] using key⟩
theorem book_weight {ps : List Part} (b : BookOk ps) : (bookD ps).py.weight ≤ 2 ^ 20 := by
  have hps := b.len.2
  rw [bookD, D.py, PyData.weight, weightAll_sum, pyL_map, List.map_map, List.map_map]
  refine Nat.le_trans (sum_le (k := 1000) fun x hx => ?_) ?_
  · obtain ⟨p, hp, rfl⟩ := List.mem_map.mp hx
    obtain ⟨a, f1, f2, f3, f4, f5⟩ := b.facts hp
    have z0 := (okW_word f1).2
    have z0' : p.name.cps.size ≤ 8 := z0
    have z1 := int_weight (i := p.size) (by omega)
    have z2 := int_weight (i := p.cost) (by omega)
    have z3 : (recD p.recp).py.weight ≤ 200 := by
      cases hq : p.recp with
      | leaf n =>
        rw [hq] at f2
        have := int_weight (i := n) (by have := f2.1; have := f2.2; omega)
        have h4 : ("leaf" : Str).cps.size = 4 := by decide +kernel
        simp only [recD, D.py, pyL, PyData.weight, PyData.weightAll] at this ⊢
        omega
      | op w ns =>
        rw [hq] at f2 f3
        have hw : w.cps.size ≤ 8 := by rcases f2.1 with h | h | h | h <;> subst h <;> decide +kernel
        have : (D.tup (ns.map D.str)).py.weight ≤ 9 * 4 := by
          rw [D.py, PyData.weight, weightAll_sum, pyL_map, List.map_map, List.map_map]
          refine Nat.le_trans (sum_le (k := 9) fun y hy => ?_) ?_
          · obtain ⟨z, hz, rfl⟩ := List.mem_map.mp hy
            have := (okW_word (f3 z hz)).2
            have h8 : z.cps.size ≤ 8 := this
            simp only [Function.comp, D.py, PyData.weight]
            omega
          · rw [List.length_map]
            have := f2.2.2.1
            omega
        show PyData.weightAll (pyL [.str w, .tup (ns.map D.str)]) ≤ 200
        simp only [pyL, PyData.weightAll]
        have h9 : (D.str w).py.weight ≤ 8 := hw
        omega
    show PyData.weightAll (pyL [.str p.name, recD p.recp, .int p.size, .int p.cost]) + 1 ≤ 1000
    simp only [pyL, PyData.weightAll]
    have h9 : (D.str p.name).py.weight ≤ 8 := z0'
    have h10 : (D.int p.size).py.weight ≤ 40 := z1
    have h11 : (D.int p.cost).py.weight ≤ 40 := z2
    omega
  · rw [List.length_map]
    have : (2 : Nat) ^ 20 = 1048576 := by decide
    omega
theorem repr_book {ps : List Part} (b : BookOk ps) : ∃ x, opRepr [bookD ps] = some (.str x) := ⟨_, repr_tup (n := 5) (parts_nic b (o := true)).2 (by decide) (book_weight b)⟩
end Lk

set_option Elab.async false
set_option linter.all false
set_option maxRecDepth 100000
set_option maxHeartbeats 4000000
namespace Lk
open PySem Dl
local macro_rules
  | `(tactic| simp_arith [$ls,*]) => `(tactic| simp [fnM, fnX, outs, outX, sSeq, sIf, sAsg, sRet, sRetN, sNil, sExp, sNo, sWp, wipeD, sExpX, sSetX, sRetX, callX, sTry, sRz0, sRz1, bP, bV, bAnd, bOr, bNot, bYes, eP, eMv, eFr, eFz, pVar, pC, pOp2, pOp1, eOp2, eOpP, eOpPP, eOpN, eOpV, eIx, eIxP, pBi, pAll, eBi, eBiP, takeA, valsA, aE, aS, aNil, eTup, eLst, pTup, eCall, callA, putA, gN, gT, gTu, gSt, lVar, lIx, lFld, eMt, eMt0, eMtL, getP_nil, putP_nil, mAppend, pFld, pIsi, pIsE, pXf, pAndV, pOrV, eAndV, eOrV, eIf, pNotV, eNotV, pGet, pSl, pPart, ePO, opIsN, opNotN, D.stable, stableL, D.imm, immL, D.frz, frzL, eqI, eqS, neI, neS, addI, eRevP, eRevE, eFrL, sSetF, eAddM, List.set_cons_zero, List.set_cons_succ, List.getD_cons_zero, List.getD_cons_succ, $ls,*])
/-! A10: books joined: the program's -/
structure Kind where
  w : Str
  n : Int
  ns : List Str
  a : Int
  c : Int
deriving DecidableEq
def stF (l : List (Str × Str)) (x : Str) : Str := (l.lookup x).getD ""
def mapR (f : Str → Str) : Rec → Rec
  | .leaf n => .leaf n
  | .op w ns => .op w (ns.map f)
def kindOf (f : Str → Str) (p : Part) : Kind := match p.recp with
  | .leaf n => ⟨"leaf", n, [], p.size, p.cost⟩
  | .op w ns => ⟨w, 0, (if w = "less" then ns.map f else sortS (ns.map f)), p.size, p.cost⟩
structure Jst where
  kn : List (Kind × Str)
  st : List (Str × Str)
  fd : List Part
def jstep (s : Jst) (p : Part) : Jst := match s.kn.lookup (kindOf (stF s.st) p) with
  | some x => ⟨s.kn, s.st ++ [(p.name, x)], s.fd⟩
  | none => ⟨s.kn ++ [(kindOf (stF s.st) p, p.name)], s.st ++ [(p.name, p.name)], s.fd ++ [⟨p.name, mapR (stF s.st) p.recp, p.size, p.cost⟩]⟩
def kV (k : Kind) : D := if k.w = "leaf" then .int k.n else .tup (k.ns.map D.str)
def kTup (k : Kind) : D := .tup [.str k.w, kV k, .int k.a, .int k.c]
def KOk (k : Kind) : Prop := (k.w = "leaf" → k.ns = []) ∧ (k.w ≠ "leaf" → k.n = 0) ∧ (∀ x ∈ k.ns, PyData.strOk x = true) ∧ k.ns.length ≤ 4 ∧ PyData.strOk k.w = true
theorem strs_injD {a b : List Str} (h : a.map D.str = b.map D.str) : a = b := by
  induction a generalizing b with
  | nil => cases b with
    | nil => rfl
    | cons y b => simp at h
  | cons x a ih => cases b with
    | nil => simp at h
    | cons y b =>
      simp only [List.map_cons, List.cons.injEq] at h
      rw [str_inj.mp h.1, ih h.2]
theorem kTup_inj {a b : Kind} (ha : KOk a) (hb : KOk b) (h : kTup a = kTup b) : a = b := by
  obtain ⟨w, n, ns, x, c⟩ := a
  obtain ⟨w', n', ns', x', c'⟩ := b
  unfold kTup at h
  injection h with h
  simp only [List.cons.injEq, and_true] at h
  obtain ⟨h1, h2, h3, h4⟩ := h
  have h1 := str_inj.mp h1
  subst h1
  injection h3 with h3
  injection h4 with h4
  subst h3; subst h4
  by_cases hw : w = "leaf"
  · have e1 := ha.1 hw
    have e2 := hb.1 hw
    simp only at e1 e2
    subst e1; subst e2
    unfold kV at h2
    rw [if_pos hw, if_pos hw] at h2
    injection h2 with h2
    simp only at h2
    rw [h2]
  · have e1 := ha.2.1 hw
    have e2 := hb.2.1 hw
    simp only at e1 e2
    subst e1; subst e2
    unfold kV at h2
    rw [if_neg hw, if_neg hw] at h2
    injection h2 with h2
    have h2 := strs_injD h2
    simp only at h2
    rw [h2]
theorem nkL_strs : ∀ l : List Str, nkL (l.map D.str) = some (l.map NestedKey.text)
  | [] => by rw [List.map_nil, nkL]; rfl
  | x :: l => by rw [List.map_cons, nkL, nkL_strs l, D.nk]; rfl
theorem depth_strs : ∀ l : List Str, NestedKey.depthAll (l.map NestedKey.text) ≤ 1
  | [] => by rw [List.map_nil, NestedKey.depthAll]; omega
  | x :: l => by
    rw [List.map_cons, NestedKey.depthAll, NestedKey.depth]
    have := depth_strs l
    omega
theorem kTup_nk (k : Kind) : nkOk (kTup k) = true := by
  have := depth_strs k.ns
  unfold kTup kV nkOk
  by_cases h : k.w = "leaf"
  · rw [if_pos h]
    simp [nkL, D.nk, NestedKey.depth, NestedKey.depthAll]
  · rw [if_neg h]
    simp only [nkL, D.nk, nkL_strs, NestedKey.depth, NestedKey.depthAll]
    exact decide_eq_true (by omega)
theorem kTup_imm (k : Kind) : (kTup k).imm = true := by
  unfold kTup kV
  by_cases h : k.w = "leaf"
  · rw [if_pos h]; rfl
  · rw [if_neg h]
    show (true && (immL (k.ns.map D.str) && true)) = true
    rw [strs_imm]; rfl
/-- what holds on the way -/
structure JOk (s : Jst) (pre : List Part) : Prop where
  ko : ∀ e ∈ s.kn, KOk e.1
  knf : s.kn.map (·.2) = s.fd.map Part.name
  stk : s.st.map (·.1) = pre.map Part.name
  str : ∀ e ∈ s.st, PyData.strOk e.2 = true
  kns : ∀ e ∈ s.kn, PyData.strOk e.2 = true
  len : s.kn.length ≤ pre.length
theorem lookup_mem {α β : Type} [DecidableEq α] {x : α} {y : β} : ∀ {l : List (α × β)}, l.lookup x = some y → (x, y) ∈ l
  | [], h => by simp at h
  | (a, b) :: l, h => by
    rw [List.lookup_cons] at h
    cases hb : x == a with
    | true => rw [hb] at h; cases h; rw [beq_iff_eq] at hb; subst hb; exact List.mem_cons_self
    | false => rw [hb] at h; exact List.mem_cons_of_mem _ (lookup_mem h)
theorem stF_ok {s : Jst} {pre : List Part} (h : JOk s pre) {x : Str} (hx : x ∈ pre.map Part.name) : s.st.lookup x = some (stF s.st x) ∧ PyData.strOk (stF s.st x) = true := by
  rw [← h.stk] at hx
  have h1 := look_isSome s.st x
  rw [decide_eq_true hx] at h1
  obtain ⟨y, hy⟩ := Option.isSome_iff_exists.mp h1
  unfold stF
  rw [hy]
  refine ⟨rfl, ?_⟩
  exact h.str _ (lookup_mem hy)
theorem kindOf_ok {s : Jst} {pre : List Part} (h : JOk s pre) {p : Part} (hr : RecOk (pre.map Part.name) p.recp) : KOk (kindOf (stF s.st) p) := by
  unfold kindOf
  cases hp : p.recp with
  | leaf n => exact ⟨fun _ => rfl, fun q => absurd rfl q, fun x hx => (by cases hx), Nat.zero_le _, (by decide +kernel : PyData.strOk "leaf" = true)⟩
  | op w ns =>
    rw [hp] at hr
    have hn : ∀ x ∈ ns.map (stF s.st), PyData.strOk x = true := fun x hx => by
      obtain ⟨y, hy, rfl⟩ := List.mem_map.mp hx
      exact (stF_ok h (hr.2.2.2.2 y hy)).2
    have hw : PyData.strOk w = true := by
      rcases hr.1 with h | h | h | h <;> subst h <;> decide +kernel
    refine ⟨fun q => absurd q (op_ne_leaf hr), fun _ => rfl, ?_, ?_, hw⟩
    · simp only
      split
      · exact hn
      · exact fun x hx => hn x ((sortS_perm _).mem_iff.mp hx)
    · simp only
      have hl := hr.2.2.1
      split
      · rw [List.length_map]; exact hl
      · rw [(sortS_perm _).length_eq, List.length_map]; exact hl
theorem jstep_ok {s : Jst} {pre : List Part} (h : JOk s pre) {p : Part} (hr : RecOk (pre.map Part.name) p.recp) (hs : PyData.strOk p.name = true) : JOk (jstep s p) (pre ++ [p]) := by
  unfold jstep
  cases hk : s.kn.lookup (kindOf (stF s.st) p) with
  | some x =>
    have hx : PyData.strOk x = true := h.kns _ (lookup_mem hk)
    exact ⟨h.ko, h.knf, by simp only [List.map_append, h.stk]; rfl, fun e he => by
      rcases List.mem_append.mp he with he | he
      · exact h.str e he
      · rw [List.mem_singleton.mp he]; exact hx, h.kns, by have := h.len; simp only [List.length_append]; omega⟩
  | none =>
    refine ⟨fun e he => ?_, ?_, ?_, fun e he => ?_, fun e he => ?_, ?_⟩
    · rcases List.mem_append.mp he with he | he
      · exact h.ko e he
      · rw [List.mem_singleton.mp he]; exact kindOf_ok h hr
    · simp only [List.map_append, h.knf]; rfl
    · simp only [List.map_append, h.stk]; rfl
    · rcases List.mem_append.mp he with he | he
      · exact h.str e he
      · rw [List.mem_singleton.mp he]; exact hs
    · rcases List.mem_append.mp he with he | he
      · exact h.kns e he
      · rw [List.mem_singleton.mp he]; exact hs
    · have := h.len; simp only [List.length_append, List.length_singleton]; omega
end Lk

set_option Elab.async false
set_option linter.all false
set_option maxRecDepth 100000
set_option maxHeartbeats 4000000
namespace Lk
open PySem Dl
local macro_rules
  | `(tactic| simp_arith! [$ls,*]) => `(tactic| simp [outs, outX, sNo, wipeD, sExpX, sSetX, sRetX, callX, sTry, sRz0, sRz1, bP, bV, bAnd, bOr, bNot, bYes, eP, eMv, eFr, eFz, pVar, pC, pOp2, pOp1, eOp2, eOpP, eOpPP, eOpN, eOpV, eIx, eIxP, pBi, pAll, eBi, eBiP, takeA, valsA, aE, aS, aNil, eTup, eLst, pTup, eCall, callA, putA, gN, gT, gTu, gSt, lVar, lIx, lFld, eMt, eMt0, eMtL, getP_nil, putP_nil, mAppend, pFld, pIsi, pIsE, pXf, pAndV, pOrV, eAndV, eOrV, eIf, pNotV, eNotV, pGet, pSl, pPart, ePO, opIsN, opNotN, D.stable, stableL, D.imm, immL, D.frz, frzL, eqI, eqS, neI, neS, addI, eRevP, eRevE, eFrL, sSetF, eAddM, wp_seq, wp_asg, wp_if, wp_ret, wp_retN, wp_nil, wp_exp, wp_wp, wp_ct, wp_bk, kSeq_nx, kSeq_rt, kSeq_bk, kSeq_ct, kSeq_xc, kAsg, kIf_t, kIf_f, kRet_eq, kExp_eq, kWp_eq, kTurn_nx, kTurn_ct, kTurn_bk, kTurn_rt, kTurn_xc, kFn_rt, kFn_nx, We, Wb, List.set_cons_zero, List.set_cons_succ, List.getD_cons_zero, List.getD_cons_succ, $ls,*])
/-! B10: the program's joined -/
theorem sS_stable (l : List (Str × Str)) : stableL (vS (sS l)) = true := by
  unfold vS sS
  rw [List.map_map]
  induction l with
  | nil => rfl
  | cons x l ih => show (true && stableL _) = true; rw [ih]; rfl
theorem srtT (l : List Str) (h : l.length < 64) : opSortedT [.tup (l.map D.str)] = some (.lst true ((sortS l).map D.str)) := by
  show (match strsL (l.map D.str) with | some l => if l.length < 64 then some (D.lst true ((sortS l).map D.str)) else none | none => none) = _
  have hm : ∀ l : List Str, strsL (l.map D.str) = some l := fun l => by
    induction l with
    | nil => rfl
    | cons x l ih => rw [List.map_cons, strsL, ih]
  rw [hm]
  show (if l.length < 64 then _ else none) = _
  rw [if_pos h]
theorem tupS (o : Bool) (l : List Str) : opTuple [.lst o (l.map D.str)] = some (.tup (l.map D.str)) := by
  show (if immL (l.map D.str) = true then _ else _) = _
  rw [if_pos (strs_imm _)]
theorem strs_stable (l : List Str) : stableL (l.map D.str) = true := stableL_of_imm _ (strs_imm l)
theorem tup_stable (l : List Str) : (D.tup (l.map D.str)).stable = true := by rw [D.stable]; exact strs_stable l
theorem ns_comp {s : Jst} {pre : List Part} (h : JOk s pre) {ns : List Str} (hn : ∀ x ∈ ns, x ∈ pre.map Part.name) (hl : ns.length ≤ 4) : ∀ x ∈ ns, opIx (dicS (sS s.st)) (.str x) = some (.str (stF s.st x)) := fun x hx => by
  rw [ix_dS, sS_lookup, (stF_ok h (hn x hx)).1]
  rfl
theorem kind_ok {s : Jst} {pre : List Part} (h : JOk s pre) {p : Part} (hr : RecOk (pre.map Part.name) p.recp) :
    m_kind_of [partD p, dicS (sS s.st)] = some (kTup (kindOf (stF s.st) p), [partD p, dicS (sS s.st)]) := by
  have hps := partD_stable p
  refine wp_fnE rfl rfl ?_
  change Wp b_kind_of [some (partD p), some (dicS (sS s.st)), none, none, none] _
  have p2 : opIx (partD p) (.int 2) = some (.int p.size) := rfl
  have p3 : opIx (partD p) (.int 3) = some (.int p.cost) := rfl
  have p1 := part_1 p
  have hnd := needs_ok p hr
  cases hp : p.recp with
  | leaf n =>
    have e : kTup (kindOf (stF s.st) p) = .tup [.str "leaf", .int n, .int p.size, .int p.cost] := by unfold kTup kV kindOf; rw [hp]; rfl
    rw [e]
    rw [hp] at p1
    change _ = some (D.tup [.str "leaf", .int n]) at p1
    generalize partD p = PD at *
    generalize dicS (sS s.st) = SD at *
    simp_arith! [b_kind_of, p1, p2, p3]
  | op w ns =>
    rw [hp] at p1 hnd hr
    change _ = some (D.tup [.str w, .tup (ns.map D.str)]) at p1
    have hix := ns_comp h hr.2.2.2.2 hr.2.2.1
    have hw := op_ne_leaf hr
    have hl := hr.2.2.1
    have hss := tup_stable ns
    have hdn : stableL (ns.map D.str) = true := strs_stable ns
    have hcomp : eComp (eCall m_needs_of (aS 0 aNil)) (gN 4) bYes x1_kind_of [4] [some (partD p), some (dicS (sS s.st)), some (.str w), some (.tup (ns.map D.str)), none] = some (.lst true ((ns.map (stF s.st)).map D.str), [some (partD p), some (dicS (sS s.st)), some (.str w), some (.tup (ns.map D.str)), none]) := by
      have := comp_M (c := D.str) (f := fun x => D.str (stF s.st x)) (it := eCall m_needs_of (aS 0 aNil)) (g := gN 4) (e := x1_kind_of) (vs := [4]) (ρ := [some (partD p), some (dicS (sS s.st)), some (.str w), some (.tup (ns.map D.str)), none]) (ρ1 := [some (partD p), some (dicS (sS s.st)), some (.str w), some (.tup (ns.map D.str)), none]) (d := .tup (ns.map D.str)) (xs := ns) (by
          change m_needs_of [partD p] = some (.tup (ns.map D.str), [partD p]) at hnd
          generalize ns.map D.str = NS at *
          generalize partD p = PD at *
          generalize dicS (sS s.st) = SD at *
          simp_arith! [hnd]) (by rw [frz_tup (strs_imm ns)]; rfl) (by omega) fun x hx => by
        have := hix x hx
        refine ⟨_, rfl, [some (partD p), some (dicS (sS s.st)), some (.str w), some (.tup (ns.map D.str)), some (.str x)], ?_, rfl⟩
        generalize partD p = PD at *
        generalize dicS (sS s.st) = SD at *
        simp_arith! [x1_kind_of, this]
      rw [this, List.map_map]
      rfl
    have ht := tupS true (ns.map (stF s.st))
    have hst := strs_stable (ns.map (stF s.st))
    have hst2 := strs_stable (sortS (ns.map (stF s.st)))
    have hsd := srtT (ns.map (stF s.st)) (by rw [List.length_map]; omega)
    have hts := tupS true (sortS (ns.map (stF s.st)))
    by_cases hless : w = "less"
    · have e : kTup (kindOf (stF s.st) p) = .tup [.str w, .tup ((ns.map (stF s.st)).map D.str), .int p.size, .int p.cost] := by unfold kTup kV kindOf; rw [hp]; simp only [if_neg hw, if_pos hless]
      rw [e]
      generalize (ns.map (stF s.st)).map D.str = N2 at *
      generalize (sortS (ns.map (stF s.st))).map D.str = N3 at *
      generalize ns.map D.str = NS at *
      generalize partD p = PD at *
      generalize dicS (sS s.st) = SD at *
      have hless' : (w = "less") = True := eq_true hless
      simp_arith! [b_kind_of, p1, p2, p3, hw, hcomp, ht, hst, hss, hdn, hless']
    · have e : kTup (kindOf (stF s.st) p) = .tup [.str w, .tup ((sortS (ns.map (stF s.st))).map D.str), .int p.size, .int p.cost] := by unfold kTup kV kindOf; rw [hp]; simp only [if_neg hw, if_neg hless]
      rw [e]
      generalize (ns.map (stF s.st)).map D.str = N2 at *
      generalize (sortS (ns.map (stF s.st))).map D.str = N3 at *
      generalize ns.map D.str = NS at *
      generalize partD p = PD at *
      generalize dicS (sS s.st) = SD at *
      simp_arith! [b_kind_of, p1, p2, p3, hw, hcomp, ht, hst, hst2, hss, hdn, hless, hsd, hts]
end Lk

set_option Elab.async false
set_option linter.all false
set_option maxRecDepth 100000
set_option maxHeartbeats 4000000
namespace Lk
open PySem Dl
local macro_rules
  | `(tactic| simp_arith [$ls,*]) => `(tactic| simp [fnM, fnX, outs, outX, sSeq, sIf, sAsg, sRet, sRetN, sNil, sExp, sNo, sWp, wipeD, sExpX, sSetX, sRetX, callX, sTry, sRz0, sRz1, bP, bV, bAnd, bOr, bNot, bYes, eP, eMv, eFr, eFz, pVar, pC, pOp2, pOp1, eOp2, eOpP, eOpPP, eOpN, eOpV, eIx, eIxP, pBi, pAll, eBi, eBiP, takeA, valsA, aE, aS, aNil, eTup, eLst, pTup, eCall, callA, putA, gN, gT, gTu, gSt, lVar, lIx, lFld, eMt, eMt0, eMtL, getP_nil, putP_nil, mAppend, pFld, pIsi, pIsE, pXf, pAndV, pOrV, eAndV, eOrV, eIf, pNotV, eNotV, pGet, pSl, pPart, ePO, opIsN, opNotN, D.stable, stableL, D.imm, immL, D.frz, frzL, eqI, eqS, neI, neS, addI, eRevP, eRevE, eFrL, sSetF, eAddM, List.set_cons_zero, List.set_cons_succ, List.getD_cons_zero, List.getD_cons_succ, $ls,*])
local macro_rules
  | `(tactic| simp_arith! [$ls,*]) => `(tactic| simp [outs, outX, sNo, wipeD, sExpX, sSetX, sRetX, callX, sTry, sRz0, sRz1, bP, bV, bAnd, bOr, bNot, bYes, eP, eMv, eFr, eFz, pVar, pC, pOp2, pOp1, eOp2, eOpP, eOpPP, eOpN, eOpV, eIx, eIxP, pBi, pAll, eBi, eBiP, takeA, valsA, aE, aS, aNil, eTup, eLst, pTup, eCall, callA, putA, gN, gT, gTu, gSt, lVar, lIx, lFld, eMt, eMt0, eMtL, getP_nil, putP_nil, mAppend, pFld, pIsi, pIsE, pXf, pAndV, pOrV, eAndV, eOrV, eIf, pNotV, eNotV, pGet, pSl, pPart, ePO, opIsN, opNotN, D.stable, stableL, D.imm, immL, D.frz, frzL, eqI, eqS, neI, neS, addI, eRevP, eRevE, eFrL, sSetF, eAddM, wp_seq, wp_asg, wp_if, wp_ret, wp_retN, wp_nil, wp_exp, wp_wp, wp_ct, wp_bk, kSeq_nx, kSeq_rt, kSeq_bk, kSeq_ct, kSeq_xc, kAsg, kIf_t, kIf_f, kRet_eq, kExp_eq, kWp_eq, kTurn_nx, kTurn_ct, kTurn_bk, kTurn_rt, kTurn_xc, kFn_rt, kFn_nx, We, Wb, List.set_cons_zero, List.set_cons_succ, List.getD_cons_zero, List.getD_cons_succ, $ls,*])
/-! C10: the program's joined, whole -/
def knD (kn : List (Kind × Str)) : D := .dic true .n (tkD kTup kn) (tvD D.str kn)
def jE (ps : List Part) (s : Jst) (a b c d : Option D) : DEnv := [some (bookD ps), some (knD s.kn), some (dicS (sS s.st)), some (.lst true (s.fd.map partD)), a, b, c, d]
theorem recD_map (f : Str → Str) (r : Rec) : recD (mapR f r) = match r with | .leaf n => .tup [.str "leaf", .int n] | .op w ns => .tup [.str w, .tup ((ns.map f).map D.str)] := by
  cases r <;> rfl
theorem put_st (l : List (Str × Str)) (x y : Str) (h : x ∉ l.map (·.1)) (hl : l.length < 10000) : opPut (dicS (sS l)) (.str x) (.str y) = some (dicS (sS (l ++ [(x, y)]))) := by
  rw [put_dS _ _ _ rfl (by unfold sS; rw [List.length_map]; exact hl), setS_new (by rw [sS_keys]; exact h)]
  unfold sS
  rw [List.map_append]
  rfl
theorem fd_len {s : Jst} {pre : List Part} (h : JOk s pre) : s.fd.length = s.kn.length := by
  have := congrArg List.length h.knf
  rw [List.length_map, List.length_map] at this
  exact this.symm
theorem st_len {s : Jst} {pre : List Part} (h : JOk s pre) : s.st.length = pre.length := by
  have := congrArg List.length h.stk
  rw [List.length_map, List.length_map] at this
  exact this
theorem joined_step {ps : List Part} {s : Jst} {pre : List Part} (h : JOk s pre) (hpl : pre.length ≤ 24) {p : Part} (hr : RecOk (pre.map Part.name) p.recp) (hs : PyData.strOk p.name = true) (hnew : p.name ∉ pre.map Part.name) (b c d : Option D) :
    ∃ b' c' d', w1_joined (jE ps s (some (partD p)) b c d) = some (.nx, jE ps (jstep s p) (some (partD p)) b' c' d') := by
  have hk := kind_ok h hr
  have ko := kindOf_ok h hr
  have hap : Apt kTup s.kn (kindOf (stF s.st) p) := fun e he q => kTup_inj (h.ko e he) ko q
  have hnk := kTup_nk (kindOf (stF s.st) p)
  have hin := in_tD kTup D.str true true hap hnk
  have hsn := put_st s.st p.name
  have hkl := h.len
  have p0 := part_0 p
  have p1 := part_1 p
  have p2 : opIx (partD p) (.int 2) = some (.int p.size) := rfl
  have p3 : opIx (partD p) (.int 3) = some (.int p.cost) := rfl
  have hks := D.stable_of_imm _ (kTup_imm (kindOf (stF s.st) p))
  have hnst : p.name ∉ s.st.map (·.1) := by rw [h.stk]; exact hnew
  have hsl := st_len h
  have hfl := fd_len h
  rw [if_pos rfl] at hin
  change opInN true _ (knD s.kn) = _ at hin
  unfold jstep
  cases hlk : s.kn.lookup (kindOf (stF s.st) p) with
  | some x =>
    have hmem : kindOf (stF s.st) p ∈ s.kn.map (·.1) := List.mem_map.mpr ⟨_, lookup_mem hlk, rfl⟩
    rw [decide_eq_true hmem] at hin
    have hix := ix_tD (vf := D.str) (o := true) kTup hap hnk hlk rfl
    change opIxN (knD s.kn) _ = _ at hix
    have hput := put_st s.st p.name x hnst (by omega)
    refine ⟨some (kTup (kindOf (stF s.st) p)), c, d, ?_⟩
    unfold jE
    simp only
    generalize dicS (sS (s.st ++ [(p.name, x)])) = S2 at *
    generalize kTup (kindOf (stF s.st) p) = KD at *
    generalize knD s.kn = KN at *
    generalize dicS (sS s.st) = SD at *
    generalize bookD ps = BD at *
    generalize s.fd.map partD = FD at *
    generalize partD p = PD at *
    simp_arith [w1_joined, hk, hin, hix, p0, hput, hks]
  | none =>
    have hmem := look_none.mp hlk
    rw [decide_eq_false hmem] at hin
    have hput := put_st s.st p.name p.name hnst (by omega)
    have hnew2 := new_tD (vf := D.str) kTup p.name hap hnk hmem (by omega)
    change opPutN (knD s.kn) _ (.str p.name) = some (knD (s.kn ++ [(kindOf (stF s.st) p, p.name)])) at hnew2
    have hap' : Apt kTup (s.kn ++ [(kindOf (stF s.st) p, p.name)]) (kindOf (stF s.st) p) := fun e he q => by
      rcases List.mem_append.mp he with he | he
      · exact hap e he q
      · rw [List.mem_singleton.mp he]
    have hlk2 : (s.kn ++ [(kindOf (stF s.st) p, p.name)]).lookup (kindOf (stF s.st) p) = some p.name := by
      rw [List.lookup_append, hlk]
      simp
    have hix := ix_tD (vf := D.str) (o := true) kTup hap' hnk hlk2 rfl
    change opIxN (knD (s.kn ++ [(kindOf (stF s.st) p, p.name)])) _ = _ at hix
    have hfd : (s.fd ++ [(⟨p.name, mapR (stF s.st) p.recp, p.size, p.cost⟩ : Part)]).map partD = s.fd.map partD ++ [.tup [.str p.name, recD (mapR (stF s.st) p.recp), .int p.size, .int p.cost]] := by rw [List.map_append]; rfl
    have hfl10 : (s.fd.map partD).length < 10000 := by rw [List.length_map]; omega
    have hrs := recD_stable p.recp
    have hrs2 := recD_stable (mapR (stF s.st) p.recp)
    have r0 := rec_0 p.recp
    have hps := partD_stable p
    cases hp : p.recp with
    | leaf n =>
      rw [hp] at hrs r0 p1 hrs2 hfd
      refine ⟨some (kTup (kindOf (stF s.st) p)), some (recD (.leaf n)), d, ?_⟩
      change opIx _ _ = some (D.str "leaf") at r0
      have er : recD (mapR (stF s.st) (.leaf n)) = recD (.leaf n) := rfl
      rw [er] at hfd
      unfold jE
      simp only
      rw [hp] at *
      rw [hfd]
      generalize dicS (sS (s.st ++ [(p.name, p.name)])) = S2 at *
      generalize kTup (kindOf (stF s.st) p) = KD at *
      generalize knD s.kn = KN at *
      generalize knD (s.kn ++ [(kindOf (stF s.st) p, p.name)]) = KN2 at *
      generalize dicS (sS s.st) = SD at *
      generalize bookD ps = BD at *
      generalize s.fd.map partD = FD at *
      generalize recD (.leaf n) = RD at *
      generalize partD p = PD at *
      simp_arith [w1_joined, hk, hin, hix, p0, p1, p2, p3, hput, hks, gStN, hnew2, r0, hrs, hfl10]
    | op w ns =>
      have hnd := needs_ok p hr
      rw [hp] at hrs r0 p1 hrs2 hfd hr hnd
      change opIx _ _ = some (D.str w) at r0
      have hw := op_ne_leaf hr
      have hl := hr.2.2.1
      have hix2 := ns_comp h hr.2.2.2.2 hl
      refine ⟨some (kTup (kindOf (stF s.st) p)), some (recD (.op w (ns.map (stF s.st)))), none, ?_⟩
      change _ = s.fd.map partD ++ [.tup [.str p.name, .tup [.str w, .tup ((ns.map (stF s.st)).map D.str)], .int p.size, .int p.cost]] at hfd
      have er : recD (.op w (ns.map (stF s.st))) = .tup [.str w, .tup ((ns.map (stF s.st)).map D.str)] := rfl
      rw [er]
      have ht := tupS true (ns.map (stF s.st))
      have hst := strs_stable (ns.map (stF s.st))
      have hcomp : ∀ KN2 KD : Option D, eComp (eCall m_needs_of (aS 4 aNil)) (gN 7) bYes x1_joined [7] [some (bookD ps), KN2, some (dicS (sS s.st)), some (.lst true (s.fd.map partD)), some (partD p), KD, some (recD (.op w ns)), d] = some (.lst true ((ns.map (stF s.st)).map D.str), [some (bookD ps), KN2, some (dicS (sS s.st)), some (.lst true (s.fd.map partD)), some (partD p), KD, some (recD (.op w ns)), none]) := fun KN2 KD => by
        have := comp_M (c := D.str) (f := fun x => D.str (stF s.st x)) (it := eCall m_needs_of (aS 4 aNil)) (g := gN 7) (e := x1_joined) (vs := [7]) (ρ := [some (bookD ps), KN2, some (dicS (sS s.st)), some (.lst true (s.fd.map partD)), some (partD p), KD, some (recD (.op w ns)), d]) (ρ1 := [some (bookD ps), KN2, some (dicS (sS s.st)), some (.lst true (s.fd.map partD)), some (partD p), KD, some (recD (.op w ns)), d]) (d := .tup (ns.map D.str)) (xs := ns) (by
            change m_needs_of [partD p] = some (.tup (ns.map D.str), [partD p]) at hnd
            generalize ns.map D.str = NS at *
            generalize partD p = PD at *
            simp_arith [hnd]) (by rw [frz_tup (strs_imm ns)]; rfl) (by omega) fun x hx => by
          have := hix2 x hx
          refine ⟨_, rfl, [some (bookD ps), KN2, some (dicS (sS s.st)), some (.lst true (s.fd.map partD)), some (partD p), KD, some (recD (.op w ns)), some (.str x)], ?_, rfl⟩
          generalize partD p = PD at *
          generalize dicS (sS s.st) = SD at *
          simp_arith [x1_joined, this]
        rw [this, List.map_map]
        rfl
      unfold jE
      simp only
      rw [hp] at *
      show _ = some (Fl.nx, [_, _, _, some (D.lst true ((s.fd ++ [(⟨p.name, mapR (stF s.st) (.op w ns), p.size, p.cost⟩ : Part)]).map partD)), _, _, _, _])
      rw [hfd]
      generalize dicS (sS (s.st ++ [(p.name, p.name)])) = S2 at *
      generalize kTup (kindOf (stF s.st) p) = KD at *
      generalize knD s.kn = KN at *
      generalize knD (s.kn ++ [(kindOf (stF s.st) p, p.name)]) = KN2 at *
      generalize dicS (sS s.st) = SD at *
      generalize bookD ps = BD at *
      generalize s.fd.map partD = FD at *
      generalize recD (.op w ns) = RD at *
      generalize (ns.map (stF s.st)).map D.str = N2 at *
      generalize partD p = PD at *
      simp_arith [w1_joined, hk, hin, hix, p0, p1, p2, p3, hput, hks, gStN, hnew2, r0, hrs, hfl10, hw, hcomp, ht, hst]
end Lk

set_option Elab.async false
set_option linter.all false
set_option maxRecDepth 100000
set_option maxHeartbeats 4000000
namespace Lk
open PySem Dl
local macro_rules
  | `(tactic| simp_arith [$ls,*]) => `(tactic| simp [fnM, fnX, outs, outX, sSeq, sIf, sAsg, sRet, sRetN, sNil, sExp, sNo, sWp, wipeD, sExpX, sSetX, sRetX, callX, sTry, sRz0, sRz1, bP, bV, bAnd, bOr, bNot, bYes, eP, eMv, eFr, eFz, pVar, pC, pOp2, pOp1, eOp2, eOpP, eOpPP, eOpN, eOpV, eIx, eIxP, pBi, pAll, eBi, eBiP, takeA, valsA, aE, aS, aNil, eTup, eLst, pTup, eCall, callA, putA, gN, gT, gTu, gSt, lVar, lIx, lFld, eMt, eMt0, eMtL, getP_nil, putP_nil, mAppend, pFld, pIsi, pIsE, pXf, pAndV, pOrV, eAndV, eOrV, eIf, pNotV, eNotV, pGet, pSl, pPart, ePO, opIsN, opNotN, D.stable, stableL, D.imm, immL, D.frz, frzL, eqI, eqS, neI, neS, addI, eRevP, eRevE, eFrL, sSetF, eAddM, List.set_cons_zero, List.set_cons_succ, List.getD_cons_zero, List.getD_cons_succ, $ls,*])
local macro_rules
  | `(tactic| simp_arith! [$ls,*]) => `(tactic| simp [outs, outX, sNo, wipeD, sExpX, sSetX, sRetX, callX, sTry, sRz0, sRz1, bP, bV, bAnd, bOr, bNot, bYes, eP, eMv, eFr, eFz, pVar, pC, pOp2, pOp1, eOp2, eOpP, eOpPP, eOpN, eOpV, eIx, eIxP, pBi, pAll, eBi, eBiP, takeA, valsA, aE, aS, aNil, eTup, eLst, pTup, eCall, callA, putA, gN, gT, gTu, gSt, lVar, lIx, lFld, eMt, eMt0, eMtL, getP_nil, putP_nil, mAppend, pFld, pIsi, pIsE, pXf, pAndV, pOrV, eAndV, eOrV, eIf, pNotV, eNotV, pGet, pSl, pPart, ePO, opIsN, opNotN, D.stable, stableL, D.imm, immL, D.frz, frzL, eqI, eqS, neI, neS, addI, eRevP, eRevE, eFrL, sSetF, eAddM, wp_seq, wp_asg, wp_if, wp_ret, wp_retN, wp_nil, wp_exp, wp_wp, wp_ct, wp_bk, kSeq_nx, kSeq_rt, kSeq_bk, kSeq_ct, kSeq_xc, kAsg, kIf_t, kIf_f, kRet_eq, kExp_eq, kWp_eq, kTurn_nx, kTurn_ct, kTurn_bk, kTurn_rt, kTurn_xc, kFn_rt, kFn_nx, We, Wb, List.set_cons_zero, List.set_cons_succ, List.getD_cons_zero, List.getD_cons_succ, $ls,*])
/-! D10: the program's joined, told; kinds as the law writes them -/
def joinedS (ps : List Part) : Jst := ps.foldl jstep ⟨[], [], []⟩
theorem joined_jok {ps : List Part} (b : BookOk ps) : ∀ pre post, ps = pre ++ post → JOk (pre.foldl jstep ⟨[], [], []⟩) pre := by
  intro pre
  induction pre using snoc_ind with
  | h0 => intro post e; exact ⟨fun e he => (by cases he), rfl, rfl, fun e he => (by cases he), fun e he => (by cases he), Nat.le_refl _⟩
  | hs l a ih =>
    intro post e
    have e2 : ps = l ++ a :: post := by rw [e]; simp
    rw [List.foldl_append]
    exact jstep_ok (ih (a :: post) e2) (b.at e2).1 (word_ok (b.word a (by rw [e2]; simp)))
theorem joined_ok {ps : List Part} (b : BookOk ps) : m_joined [bookD ps] = some (.tup [bookD (joinedS ps).fd, dicS (sS (joinedS ps).st)], [bookD ps]) := by
  have hpl := b.len.2
  refine wp_fnE rfl rfl ?_
  change Wp b_joined [some (bookD ps), none, none, none, none, none, none, none] _
  have hfor : ∀ Q, (∀ x y z w, Q .nx (jE ps (joinedS ps) x y z w)) → Wp (sFor (eP (pVar 0)) (gN 4) w1_joined) (jE ps ⟨[], [], []⟩ none none none none) Q := fun Q hQ => by
    refine wp_for partD ps (fun pre ρ => ∃ x y z w, ρ = jE ps (pre.foldl jstep ⟨[], [], []⟩) x y z w) (ρ1 := jE ps ⟨[], [], []⟩ none none none none) (d := bookD ps) ?_ (by rw [book_frz]; rfl) ⟨none, none, none, none, rfl⟩ (fun pre p post e ρ q => ?_) (fun ρ q => ?_)
    · exact eP_of rfl (book_stable ps)
    · obtain ⟨x, y, z, w, rfl⟩ := q
      have h := joined_jok b pre (p :: post) e
      obtain ⟨y', z', w', es⟩ := joined_step (ps := ps) h (by have := (b.at e).2.2; omega) (b.at e).1 (word_ok (b.word p (by rw [e]; simp))) (b.at e).2.1 y z w
      refine ⟨_, rfl, .mk es ?_⟩
      rw [List.foldl_append]
      exact ⟨_, _, _, _, rfl⟩
    · obtain ⟨x, y, z, w, rfl⟩ := q
      exact hQ x y z w
  have hbk : opTuple [.lst true ((joinedS ps).fd.map partD)] = some (bookD (joinedS ps).fd) := by
    show (if immL ((joinedS ps).fd.map partD) = true then _ else _) = _
    rw [if_pos (parts_imm _)]
    rfl
  have hbs := book_stable (joinedS ps).fd
  rw [b_joined, wp_seq, wp_asg, we_of (d := knD []) (ρ' := [some (bookD ps), none, none, none, none, none, none, none]) rfl]
  show Wp (sSeq (sAsg (eDicN .k) (gN 2)) _) [some (bookD ps), some (knD []), none, none, none, none, none, none] _
  rw [wp_seq, wp_asg, we_of (d := dicS (sS [])) (ρ' := [some (bookD ps), some (knD []), none, none, none, none, none, none]) rfl]
  show Wp (sSeq (sAsg (eLst aNil) (gN 3)) _) [some (bookD ps), some (knD []), some (dicS (sS [])), none, none, none, none, none] _
  rw [wp_seq, wp_asg, we_of (d := .lst true []) (ρ' := [some (bookD ps), some (knD []), some (dicS (sS [])), none, none, none, none, none]) rfl]
  show Wp (sSeq (sFor (eP (pVar 0)) (gN 4) w1_joined) _) (jE ps ⟨[], [], []⟩ none none none none) _
  rw [wp_seq]
  refine hfor _ fun x y z w => ?_
  show Wp (sRet _) (jE ps (joinedS ps) x y z w) _
  unfold jE
  generalize bookD (joinedS ps).fd = B2 at *
  generalize (joinedS ps).fd.map partD = FD at *
  generalize dicS (sS (joinedS ps).st) = SD at *
  generalize bookD ps = BD at *
  simp_arith! [hbk, hbs]
/-! kinds as the law writes them -/
def kLV (o : Bool) (k : Kind) : D := if k.w = "leaf" then .int k.n else if k.w = "less" then .tup (k.ns.map D.str) else .lst o (k.ns.map D.str)
def kLst (o o' : Bool) (k : Kind) : D := .lst o [.str k.w, kLV o' k, .int k.a, .int k.c]
def kvP (k : Kind) : PyData := if k.w = "leaf" then .int k.n else if k.w = "less" then .tuple (k.ns.map PyData.str) else .list (k.ns.map PyData.str)
def kPy (k : Kind) : PyData := .list [.str k.w, kvP k, .int k.a, .int k.c]
theorem pyL_strs : ∀ l : List Str, pyL (l.map D.str) = l.map PyData.str
  | [] => rfl
  | x :: l => by rw [List.map_cons, pyL, pyL_strs l]; rfl
theorem kLst_py (o o' : Bool) (k : Kind) : (kLst o o' k).py = kPy k := by
  unfold kLst kPy kLV kvP
  by_cases h1 : k.w = "leaf"
  · simp only [if_pos h1, D.py, pyL]
  · by_cases h2 : k.w = "less"
    · simp only [if_neg h1, if_pos h2, D.py, pyL, pyL_strs]
    · simp only [if_neg h1, if_neg h2, D.py, pyL, pyL_strs]
theorem eqvA_strs : ∀ (a b : List Str), PyData.eqvAll (a.map PyData.str) (b.map PyData.str) = decide (a = b)
  | [], [] => by simp [PyData.eqvAll]
  | [], _ :: _ => by simp [PyData.eqvAll]
  | _ :: _, [] => by simp [PyData.eqvAll]
  | x :: a, y :: b => by
    rw [List.map_cons, List.map_cons, PyData.eqvAll, eqvA_strs a b, PyData.eqv]
    rw [Bool.eq_iff_iff]
    simp
theorem eqv_kPy {a b : Kind} (ha : KOk a) (hb : KOk b) : PyData.eqv (kPy a) (kPy b) = decide (a = b) := by
  obtain ⟨w, n, ns, x, c⟩ := a
  obtain ⟨w', n', ns', x', c'⟩ := b
  rw [Bool.eq_iff_iff, decide_eq_true_iff]
  unfold kPy
  simp only [PyData.eqv, PyData.eqvAll, Bool.and_true, Bool.and_eq_true, beq_iff_eq]
  constructor
  · rintro ⟨h1, h2, h3, h4⟩
    subst h1; subst h3; subst h4
    unfold kvP at h2
    by_cases hw : w = "leaf"
    · have e1 := ha.1 hw
      have e2 := hb.1 hw
      simp only at e1 e2
      subst e1; subst e2
      simp only [if_pos hw, PyData.eqv, beq_iff_eq] at h2
      rw [h2]
    · have e1 := ha.2.1 hw
      have e2 := hb.2.1 hw
      simp only at e1 e2
      subst e1; subst e2
      by_cases hl : w = "less"
      · simp only [if_neg hw, if_pos hl, PyData.eqv, eqvA_strs, decide_eq_true_eq] at h2
        rw [h2]
      · simp only [if_neg hw, if_neg hl, PyData.eqv, eqvA_strs, decide_eq_true_eq] at h2
        rw [h2]
  · intro h
    injection h with h1 h2 h3 h4 h5
    subst h1; subst h2; subst h3; subst h4; subst h5
    refine ⟨rfl, ?_, rfl, rfl⟩
    unfold kvP
    by_cases hw : w = "leaf"
    · simp [if_pos hw, PyData.eqv]
    · by_cases hl : w = "less"
      · simp [if_neg hw, if_pos hl, PyData.eqv, eqvA_strs]
      · simp [if_neg hw, if_neg hl, PyData.eqv, eqvA_strs]
theorem kLst_nic (o o' : Bool) {k : Kind} (h : KOk k) : nic 2 (kLst o o' k) = true := by
  have hs := h.2.2.1
  have hw := h.2.2.2.2
  unfold kLst kLV
  by_cases h1 : k.w = "leaf"
  · simp [if_pos h1, nic, hw]
  · by_cases h2 : k.w = "less"
    · simp [if_neg h1, if_pos h2, nic, hw, List.all_map, Function.comp_def]
      exact hs
    · simp [if_neg h1, if_neg h2, nic, hw, List.all_map, Function.comp_def]
      exact hs
def knL (kn : List (Kind × Str)) : List D := kn.map fun e => kLst false false e.1
theorem knL_cmp {kn : List (Kind × Str)} (h : ∀ e ∈ kn, KOk e.1) (o : Bool) : (D.lst o (knL kn)).cmp = true := by
  refine nic_cmp (n := 3) ?_ (by decide)
  unfold knL
  simp only [nic, List.all_map, List.all_eq_true, Function.comp]
  exact fun e he => kLst_nic false false (h e he)
theorem pyL_knL (kn : List (Kind × Str)) : pyL (knL kn) = kn.map fun e => kPy e.1 := by
  unfold knL
  rw [pyL_map, List.map_map]
  exact List.map_congr_left fun e _ => kLst_py false false e.1
theorem ni_knL {kn : List (Kind × Str)} {k : Kind} (h : ∀ e ∈ kn, KOk e.1) (hk : KOk k) (o o' : Bool) : opNi (kLst o o' k) (.lst true (knL kn)) = some (.bl (!decide (k ∈ kn.map (·.1)))) := by
  have h1 : (kLst o o' k).cmp = true := nic_cmp (kLst_nic o o' hk) (by decide)
  have h2 := knL_cmp h false
  have hs : (kLst o o' k).sv = none := rfl
  unfold opNi inB
  show (match inSeq (kLst o o' k) (knL kn) with | some b => some (D.bl (!b)) | none => none) = _
  unfold inSeq
  rw [hs]
  simp only [h1, h2, and_self, if_true, kLst_py, pyL_knL]
  congr 3
  rw [Bool.eq_iff_iff, List.any_eq_true, decide_eq_true_iff]
  constructor
  · rintro ⟨z, hz, e⟩
    obtain ⟨q, hq, rfl⟩ := List.mem_map.mp hz
    rw [eqv_kPy (h q hq) hk, decide_eq_true_iff] at e
    exact List.mem_map.mpr ⟨q, hq, e⟩
  · intro q
    obtain ⟨e, he, rfl⟩ := List.mem_map.mp q
    exact ⟨_, List.mem_map.mpr ⟨e, he, rfl⟩, by rw [eqv_kPy (h e he) hk]; simp⟩
theorem first_kn {k : Kind} (hk : KOk k) : ∀ {kn : List (Kind × Str)} {x : Str}, (∀ e ∈ kn, KOk e.1) → kn.lookup k = some x → ∃ j, firstEq (kPy k) (kn.map fun e => kPy e.1) = some j ∧ (kn.map (·.2))[j]? = some x
  | [], x, _, h => by simp at h
  | (a, b) :: kn, x, hn, h => by
    rw [List.lookup_cons] at h
    have ha : KOk a := hn (a, b) (by simp)
    by_cases e : k = a
    · subst e
      simp only [beq_self_eq_true] at h
      cases h
      refine ⟨0, ?_, rfl⟩
      rw [List.map_cons, firstEq, eqv_kPy ha hk]
      simp
    · have hb : (k == a) = false := by rw [beq_eq_false_iff_ne]; exact e
      rw [hb] at h
      obtain ⟨j, h1, h2⟩ := first_kn hk (fun e he => hn e (by simp [he])) h
      refine ⟨j + 1, ?_, h2⟩
      rw [List.map_cons, firstEq, eqv_kPy ha hk, decide_eq_false (fun q => e q.symm)]
      simp only [Bool.false_eq_true, if_false, h1]
      rfl
theorem idx_knL {kn : List (Kind × Str)} {k : Kind} {x : Str} (h : ∀ e ∈ kn, KOk e.1) (hk : KOk k) (o o' : Bool) (hx : kn.lookup k = some x) : ∃ j : Nat, opIdx (.lst true (knL kn)) (kLst o o' k) = some (.int (j : Int)) ∧ (kn.map (·.2))[j]? = some x := by
  obtain ⟨j, h1, h2⟩ := first_kn hk h hx
  refine ⟨j, ?_, h2⟩
  have c1 : (kLst o o' k).cmp = true := nic_cmp (kLst_nic o o' hk) (by decide)
  have c2 := knL_cmp h true
  unfold opIdx
  simp only [c1, c2, and_self, if_true, kLst_py, pyL_knL, h1]
end Lk

set_option Elab.async false
set_option linter.all false
set_option maxRecDepth 100000
set_option maxHeartbeats 4000000
namespace Lk
open PySem Dl
local macro_rules
  | `(tactic| simp_arith [$ls,*]) => `(tactic| simp [fnM, fnX, outs, outX, sSeq, sIf, sAsg, sRet, sRetN, sNil, sExp, sNo, sWp, wipeD, sExpX, sSetX, sRetX, callX, sTry, sRz0, sRz1, bP, bV, bAnd, bOr, bNot, bYes, eP, eMv, eFr, eFz, pVar, pC, pOp2, pOp1, eOp2, eOpP, eOpPP, eOpN, eOpV, eIx, eIxP, pBi, pAll, eBi, eBiP, takeA, valsA, aE, aS, aNil, eTup, eLst, pTup, eCall, callA, putA, gN, gT, gTu, gSt, lVar, lIx, lFld, eMt, eMt0, eMtL, getP_nil, putP_nil, mAppend, pFld, pIsi, pIsE, pXf, pAndV, pOrV, eAndV, eOrV, eIf, pNotV, eNotV, pGet, pSl, pPart, ePO, opIsN, opNotN, D.stable, stableL, D.imm, immL, D.frz, frzL, eqI, eqS, neI, neS, addI, eRevP, eRevE, eFrL, sSetF, eAddM, List.set_cons_zero, List.set_cons_succ, List.getD_cons_zero, List.getD_cons_succ, $ls,*])
local macro_rules
  | `(tactic| simp_arith! [$ls,*]) => `(tactic| simp [outs, outX, sNo, wipeD, sExpX, sSetX, sRetX, callX, sTry, sRz0, sRz1, bP, bV, bAnd, bOr, bNot, bYes, eP, eMv, eFr, eFz, pVar, pC, pOp2, pOp1, eOp2, eOpP, eOpPP, eOpN, eOpV, eIx, eIxP, pBi, pAll, eBi, eBiP, takeA, valsA, aE, aS, aNil, eTup, eLst, pTup, eCall, callA, putA, gN, gT, gTu, gSt, lVar, lIx, lFld, eMt, eMt0, eMtL, getP_nil, putP_nil, mAppend, pFld, pIsi, pIsE, pXf, pAndV, pOrV, eAndV, eOrV, eIf, pNotV, eNotV, pGet, pSl, pPart, ePO, opIsN, opNotN, D.stable, stableL, D.imm, immL, D.frz, frzL, eqI, eqS, neI, neS, addI, eRevP, eRevE, eFrL, sSetF, eAddM, wp_seq, wp_asg, wp_if, wp_ret, wp_retN, wp_nil, wp_exp, wp_wp, wp_ct, wp_bk, kSeq_nx, kSeq_rt, kSeq_bk, kSeq_ct, kSeq_xc, kAsg, kIf_t, kIf_f, kRet_eq, kExp_eq, kWp_eq, kTurn_nx, kTurn_ct, kTurn_bk, kTurn_rt, kTurn_xc, kFn_rt, kFn_nx, We, Wb, List.set_cons_zero, List.set_cons_succ, List.getD_cons_zero, List.getD_cons_succ, $ls,*])
/-! E10: the law's joined -/
def ljE (ps : List Part) (s : Jst) (a b c d e f : Option D) : DEnv := [some (bookD ps), some (dicS (sS s.st)), some (.lst true (knL s.kn)), some (.lst true (s.fd.map partD)), a, b, c, d, e, f, none]
theorem kLst_frz (o o' : Bool) (k : Kind) : (kLst o o' k).frz = kLst false false k := by
  unfold kLst kLV
  by_cases h1 : k.w = "leaf"
  · simp only [if_pos h1, D.frz, frzL]
  · by_cases h2 : k.w = "less"
    · simp only [if_neg h1, if_pos h2, D.frz, frzL, frzL_of_stable _ (strs_stable _)]
    · simp only [if_neg h1, if_neg h2, D.frz, frzL, frzL_of_stable _ (strs_stable _)]
def tlD (f : Str → Str) (p : Part) : D := recD (mapR f p.recp)
theorem tl_imm (f : Str → Str) (p : Part) : (tlD f p).imm = true := recD_imm _
theorem lj_tail {ps : List Part} {s : Jst} {pre : List Part} (h : JOk s pre) (hpl : pre.length ≤ 24) {p : Part} (hr : RecOk (pre.map Part.name) p.recp) (hnew : p.name ∉ pre.map Part.name) :
    Wp (sSeq (sIf (bP (pOp2 opNi (pVar 9) (pVar 2))) (sSeq (sExp (eMt mAppend 3 (aE (eTup (aE (eP (pVar 4)) (aE (eP (pVar 8)) (aE (eP (pVar 6)) (aE (eP (pVar 7)) aNil))))) aNil)))
    (sExp (eMt mAppend 2 (aE (eFr 9) aNil)))) sNil)
    (sAsg (eP (pOp2 opIx (pOp2 opIx (pVar 3) (pIdx (pVar 2) (pVar 9))) (pC (.int 0)))) (gSt (lVar 1) (pVar 4)))) (ljE ps s (some (.str p.name)) (some (recD p.recp)) (some (.int p.size)) (some (.int p.cost)) (some (tlD (stF s.st) p)) (some (kLst true true (kindOf (stF s.st) p))))
    (fun f ρ => f = .nx ∧ ∃ x, ρ = ljE ps (jstep s p) (some (.str p.name)) (some (recD p.recp)) (some (.int p.size)) (some (.int p.cost)) (some (tlD (stF s.st) p)) x) := by
  have ko := kindOf_ok h hr
  have hni := ni_knL h.ko ko true true
  have hnst : p.name ∉ s.st.map (·.1) := by rw [h.stk]; exact hnew
  have hsl := st_len h
  have hfl := fd_len h
  have hkl := h.len
  have hts := D.stable_of_imm _ (tl_imm (stF s.st) p)
  unfold jstep
  cases hlk : s.kn.lookup (kindOf (stF s.st) p) with
  | some x =>
    have hmem : kindOf (stF s.st) p ∈ s.kn.map (·.1) := List.mem_map.mpr ⟨_, lookup_mem hlk, rfl⟩
    rw [decide_eq_true hmem] at hni
    obtain ⟨j, hj, hjx⟩ := idx_knL h.ko ko true true hlk
    rw [h.knf, List.getElem?_map] at hjx
    obtain ⟨q, hq, rfl⟩ := Option.map_eq_some_iff.mp hjx
    have hfa := ix_at (o := true) (c := partD) hq
    have hf0 := part_0 q
    have hput := put_st s.st p.name q.name hnst (by omega)
    unfold ljE
    simp only
    refine Wp.iff.mpr ⟨.nx, _, ?_, rfl, some (kLst true true (kindOf (stF s.st) p)), rfl⟩
    generalize dicS (sS (s.st ++ [(p.name, q.name)])) = S2 at *
    generalize kLst true true (kindOf (stF s.st) p) = KD at *
    generalize knL s.kn = KN at *
    generalize dicS (sS s.st) = SD at *
    generalize bookD ps = BD at *
    generalize s.fd.map partD = FD at *
    generalize partD q = PD at *
    generalize tlD (stF s.st) p = TD at *
    simp_arith [hni, pIdx, hj, hfa, hf0, hput]
  | none =>
    have hmem := look_none.mp hlk
    rw [decide_eq_false hmem] at hni
    have hput := put_st s.st p.name p.name hnst (by omega)
    have hlk2 : (s.kn ++ [(kindOf (stF s.st) p, p.name)]).lookup (kindOf (stF s.st) p) = some p.name := by
      rw [List.lookup_append, hlk]
      simp
    have hko2 : ∀ e ∈ s.kn ++ [(kindOf (stF s.st) p, p.name)], KOk e.1 := fun e he => by
      rcases List.mem_append.mp he with he | he
      · exact h.ko e he
      · rw [List.mem_singleton.mp he]; exact ko
    obtain ⟨j, hj, hjx⟩ := idx_knL hko2 ko false false hlk2
    have hkf : (s.kn ++ [(kindOf (stF s.st) p, p.name)]).map (·.2) = (s.fd ++ [(⟨p.name, mapR (stF s.st) p.recp, p.size, p.cost⟩ : Part)]).map Part.name := by
      rw [List.map_append, List.map_append, h.knf]; rfl
    rw [hkf, List.getElem?_map] at hjx
    obtain ⟨q, hq, hqn⟩ := Option.map_eq_some_iff.mp hjx
    have hfa := ix_at (o := true) (c := partD) hq
    have hf0 := part_0 q
    rw [hqn] at hf0
    have hkL : knL (s.kn ++ [(kindOf (stF s.st) p, p.name)]) = knL s.kn ++ [kLst false false (kindOf (stF s.st) p)] := by unfold knL; rw [List.map_append]; rfl
    have hfd : (s.fd ++ [(⟨p.name, mapR (stF s.st) p.recp, p.size, p.cost⟩ : Part)]).map partD = s.fd.map partD ++ [.tup [.str p.name, tlD (stF s.st) p, .int p.size, .int p.cost]] := by rw [List.map_append]; rfl
    have hl1 : (knL s.kn).length < 10000 := by unfold knL; rw [List.length_map]; omega
    have hl2 : (s.fd.map partD).length < 10000 := by rw [List.length_map]; omega
    have hfz := kLst_frz true true (kindOf (stF s.st) p)
    rw [hkL] at hj
    rw [hfd] at hfa
    unfold ljE
    simp only
    rw [hkL, hfd]
    refine Wp.iff.mpr ⟨.nx, _, ?_, rfl, some (kLst false false (kindOf (stF s.st) p)), rfl⟩
    generalize dicS (sS (s.st ++ [(p.name, p.name)])) = S2 at *
    generalize kLst true true (kindOf (stF s.st) p) = KD at *
    generalize kLst false false (kindOf (stF s.st) p) = KF at *
    generalize knL s.kn = KN at *
    generalize dicS (sS s.st) = SD at *
    generalize bookD ps = BD at *
    generalize s.fd.map partD = FD at *
    generalize partD q = PD at *
    generalize tlD (stF s.st) p = TD at *
    simp_arith [hni, pIdx, hj, hfa, hf0, hput, hl1, hl2, hfz, hts]
end Lk

set_option Elab.async false
set_option linter.all false
set_option maxRecDepth 100000
set_option maxHeartbeats 4000000
namespace Lk
open PySem Dl
local macro_rules
  | `(tactic| simp_arith [$ls,*]) => `(tactic| simp [fnM, fnX, outs, outX, sSeq, sIf, sAsg, sRet, sRetN, sNil, sExp, sNo, sWp, wipeD, sExpX, sSetX, sRetX, callX, sTry, sRz0, sRz1, bP, bV, bAnd, bOr, bNot, bYes, eP, eMv, eFr, eFz, pVar, pC, pOp2, pOp1, eOp2, eOpP, eOpPP, eOpN, eOpV, eIx, eIxP, pBi, pAll, eBi, eBiP, takeA, valsA, aE, aS, aNil, eTup, eLst, pTup, eCall, callA, putA, gN, gT, gTu, gSt, lVar, lIx, lFld, eMt, eMt0, eMtL, getP_nil, putP_nil, mAppend, pFld, pIsi, pIsE, pXf, pAndV, pOrV, eAndV, eOrV, eIf, pNotV, eNotV, pGet, pSl, pPart, ePO, opIsN, opNotN, D.stable, stableL, D.imm, immL, D.frz, frzL, eqI, eqS, neI, neS, addI, eRevP, eRevE, eFrL, sSetF, eAddM, List.set_cons_zero, List.set_cons_succ, List.getD_cons_zero, List.getD_cons_succ, $ls,*])
local macro_rules
  | `(tactic| simp_arith! [$ls,*]) => `(tactic| simp [outs, outX, sNo, wipeD, sExpX, sSetX, sRetX, callX, sTry, sRz0, sRz1, bP, bV, bAnd, bOr, bNot, bYes, eP, eMv, eFr, eFz, pVar, pC, pOp2, pOp1, eOp2, eOpP, eOpPP, eOpN, eOpV, eIx, eIxP, pBi, pAll, eBi, eBiP, takeA, valsA, aE, aS, aNil, eTup, eLst, pTup, eCall, callA, putA, gN, gT, gTu, gSt, lVar, lIx, lFld, eMt, eMt0, eMtL, getP_nil, putP_nil, mAppend, pFld, pIsi, pIsE, pXf, pAndV, pOrV, eAndV, eOrV, eIf, pNotV, eNotV, pGet, pSl, pPart, ePO, opIsN, opNotN, D.stable, stableL, D.imm, immL, D.frz, frzL, eqI, eqS, neI, neS, addI, eRevP, eRevE, eFrL, sSetF, eAddM, wp_seq, wp_asg, wp_if, wp_ret, wp_retN, wp_nil, wp_exp, wp_wp, wp_ct, wp_bk, kSeq_nx, kSeq_rt, kSeq_bk, kSeq_ct, kSeq_xc, kAsg, kIf_t, kIf_f, kRet_eq, kExp_eq, kWp_eq, kTurn_nx, kTurn_ct, kTurn_bk, kTurn_rt, kTurn_xc, kFn_rt, kFn_nx, We, Wb, List.set_cons_zero, List.set_cons_succ, List.getD_cons_zero, List.getD_cons_succ, $ls,*])
/-! F10: the law's joined, whole -/
theorem in3 (w : Str) (h : w = "plus" ∨ w = "times" ∨ w = "most") : opIn (.str w) (.tup [.str "plus", .str "times", .str "most"]) = some (.bl true) := by
  rcases h with h | h | h <;> subst h <;> decide +kernel
theorem lj_step {ps : List Part} {s : Jst} {pre : List Part} (h : JOk s pre) (hpl : pre.length ≤ 24) {p : Part} (hr : RecOk (pre.map Part.name) p.recp) (hnew : p.name ∉ pre.map Part.name) (x : Option D) :
    Wp w1__law_joined (ljE ps s (some (.str p.name)) (some (recD p.recp)) (some (.int p.size)) (some (.int p.cost)) none none) (fun f ρ => f = .nx ∧ ρ = ljE ps (jstep s p) none none none none none none) := by
  rw [w1__law_joined, wp_wp]
  have tail := lj_tail (ps := ps) h hpl hr hnew
  have tail2 := tail.imp (R := kWp [4, 5, 6, 7, 8, 9] fun f ρ => f = .nx ∧ ρ = ljE ps (jstep s p) none none none none none none) fun f ρ q => by
    obtain ⟨rfl, x, rfl⟩ := q
    exact ⟨rfl, rfl⟩
  clear tail
  have hrs := recD_stable p.recp
  have r0 := rec_0 p.recp
  have r1 := rec_1 p.recp
  generalize (kWp [4, 5, 6, 7, 8, 9] fun f ρ => f = Fl.nx ∧ ρ = ljE ps (jstep s p) none none none none none none) = POST at *
  generalize (sSeq (sIf (bP (pOp2 opNi (pVar 9) (pVar 2))) (sSeq (sExp (eMt mAppend 3 (aE (eTup (aE (eP (pVar 4)) (aE (eP (pVar 8)) (aE (eP (pVar 6)) (aE (eP (pVar 7)) aNil))))) aNil)))
    (sExp (eMt mAppend 2 (aE (eFr 9) aNil)))) sNil)
    (sAsg (eP (pOp2 opIx (pOp2 opIx (pVar 3) (pIdx (pVar 2) (pVar 9))) (pC (.int 0)))) (gSt (lVar 1) (pVar 4)))) = TAIL at *
  cases hp : p.recp with
  | leaf n =>
    have e1 : tlD (stF s.st) p = recD p.recp := by unfold tlD; rw [hp]; rfl
    have e2 : kLst true true (kindOf (stF s.st) p) = .lst true [.str "leaf", .int n, .int p.size, .int p.cost] := by unfold kLst kLV kindOf; rw [hp]; rfl
    rw [e1, e2] at tail2
    rw [hp] at r0 r1 tail2 hrs
    change opIx _ _ = some (D.str "leaf") at r0
    change opIx _ _ = some (D.int n) at r1
    have hin : opIn (.str "leaf") (.tup [.str "plus", .str "times", .str "most"]) = some (.bl false) := by decide +kernel
    unfold ljE at *
    generalize recD (.leaf n) = RD at *
    generalize bookD ps = BD at *
    generalize dicS (sS s.st) = SD at *
    generalize knL s.kn = KN at *
    generalize s.fd.map partD = FD at *
    simp_arith! [r0, r1, hrs, hin, tail2]
  | op w ns =>
    rw [hp] at hr
    have hw := op_ne_leaf hr
    have hl := hr.2.2.1
    have hix := ns_comp h hr.2.2.2.2 hl
    have e1 : tlD (stF s.st) p = .tup [.str w, .tup ((ns.map (stF s.st)).map D.str)] := by unfold tlD; rw [hp]; rfl
    rw [hp] at r0 r1 tail2 hrs
    change opIx _ _ = some (D.str w) at r0
    change opIx _ _ = some (D.tup (ns.map D.str)) at r1
    have ht := tupS true (ns.map (stF s.st))
    have hst := strs_stable (ns.map (stF s.st))
    have hss := strs_stable ns
    have hcomp : eComp (eP (pOp2 opIx (pVar 5) (pC (.int 1)))) (gN 10) bYes x1__law_joined [10] (ljE ps s (some (.str p.name)) (some (recD (.op w ns))) (some (.int p.size)) (some (.int p.cost)) (some (recD (.op w ns))) none) = some (.lst true ((ns.map (stF s.st)).map D.str), ljE ps s (some (.str p.name)) (some (recD (.op w ns))) (some (.int p.size)) (some (.int p.cost)) (some (recD (.op w ns))) none) := by
      have := comp_M (c := D.str) (f := fun x => D.str (stF s.st x)) (it := eP (pOp2 opIx (pVar 5) (pC (.int 1)))) (g := gN 10) (e := x1__law_joined) (vs := [10]) (ρ := ljE ps s (some (.str p.name)) (some (recD (.op w ns))) (some (.int p.size)) (some (.int p.cost)) (some (recD (.op w ns))) none) (ρ1 := ljE ps s (some (.str p.name)) (some (recD (.op w ns))) (some (.int p.size)) (some (.int p.cost)) (some (recD (.op w ns))) none) (d := .tup (ns.map D.str)) (xs := ns) (by
          unfold ljE
          generalize ns.map D.str = NS at *
          generalize recD (.op w ns) = RD at *
          simp_arith [r1, hss]) (by rw [frz_tup (strs_imm ns)]; rfl) (by omega) fun x hx => by
        have := hix x hx
        refine ⟨_, rfl, (ljE ps s (some (.str p.name)) (some (recD (.op w ns))) (some (.int p.size)) (some (.int p.cost)) (some (recD (.op w ns))) none).set 10 (some (.str x)), ?_, rfl⟩
        unfold ljE
        generalize dicS (sS s.st) = SD at *
        simp_arith [x1__law_joined, this]
      rw [this, List.map_map]
      rfl
    have t0 : ∀ a c : D, opIx (.tup [a, c]) (.int 0) = some a := fun _ _ => rfl
    have t1 : ∀ a c : D, opIx (.tup [a, c]) (.int 1) = some c := fun _ _ => rfl
    have hpt : ∀ a c d e v : D, opPut (.lst true [a, c, d, e]) (.int 1) v = some (.lst true [a, v, d, e]) := fun _ _ _ _ _ => rfl
    rw [e1] at tail2
    by_cases hless : w = "less"
    · have e2 : kLst true true (kindOf (stF s.st) p) = .lst true [.str w, .tup ((ns.map (stF s.st)).map D.str), .int p.size, .int p.cost] := by unfold kLst kLV kindOf; rw [hp]; simp only [if_neg hw, if_pos hless]
      have hin : opIn (.str w) (.tup [.str "plus", .str "times", .str "most"]) = some (.bl false) := by rw [hless]; decide +kernel
      rw [e2] at tail2
      unfold ljE at *
      generalize recD (.op w ns) = RD at *
      generalize bookD ps = BD at *
      generalize dicS (sS s.st) = SD at *
      generalize knL s.kn = KN at *
      generalize s.fd.map partD = FD at *
      generalize (ns.map (stF s.st)).map D.str = N2 at *
      simp_arith! [r0, r1, hrs, hin, tail2, hw, hcomp, ht, hst, t0, t1]
    · have e2 : kLst true true (kindOf (stF s.st) p) = .lst true [.str w, .lst true ((sortS (ns.map (stF s.st))).map D.str), .int p.size, .int p.cost] := by unfold kLst kLV kindOf; rw [hp]; simp only [if_neg hw, if_neg hless]
      have hin := in3 w (by
        rcases hr.1 with h | h | h | h
        · exact .inl h
        · exact .inr (.inl h)
        · exact .inr (.inr h)
        · exact absurd h hless)
      have hsd := srtT (ns.map (stF s.st)) (by rw [List.length_map]; omega)
      have hst2 := strs_stable (sortS (ns.map (stF s.st)))
      rw [e2] at tail2
      unfold ljE at *
      generalize recD (.op w ns) = RD at *
      generalize bookD ps = BD at *
      generalize dicS (sS s.st) = SD at *
      generalize knL s.kn = KN at *
      generalize s.fd.map partD = FD at *
      generalize (ns.map (stF s.st)).map D.str = N2 at *
      generalize (sortS (ns.map (stF s.st))).map D.str = N3 at *
      simp_arith! [r0, r1, hrs, hin, tail2, hw, hcomp, ht, hst, hsd, t0, t1, hpt]
end Lk

set_option Elab.async false
set_option linter.all false
set_option maxRecDepth 100000
set_option maxHeartbeats 4000000
namespace Lk
open PySem Dl
local macro_rules
  | `(tactic| simp_arith [$ls,*]) => `(tactic| simp [fnM, fnX, outs, outX, sSeq, sIf, sAsg, sRet, sRetN, sNil, sExp, sNo, sWp, wipeD, sExpX, sSetX, sRetX, callX, sTry, sRz0, sRz1, bP, bV, bAnd, bOr, bNot, bYes, eP, eMv, eFr, eFz, pVar, pC, pOp2, pOp1, eOp2, eOpP, eOpPP, eOpN, eOpV, eIx, eIxP, pBi, pAll, eBi, eBiP, takeA, valsA, aE, aS, aNil, eTup, eLst, pTup, eCall, callA, putA, gN, gT, gTu, gSt, lVar, lIx, lFld, eMt, eMt0, eMtL, getP_nil, putP_nil, mAppend, pFld, pIsi, pIsE, pXf, pAndV, pOrV, eAndV, eOrV, eIf, pNotV, eNotV, pGet, pSl, pPart, ePO, opIsN, opNotN, D.stable, stableL, D.imm, immL, D.frz, frzL, eqI, eqS, neI, neS, addI, eRevP, eRevE, eFrL, sSetF, eAddM, List.set_cons_zero, List.set_cons_succ, List.getD_cons_zero, List.getD_cons_succ, $ls,*])
local macro_rules
  | `(tactic| simp_arith! [$ls,*]) => `(tactic| simp [outs, outX, sNo, wipeD, sExpX, sSetX, sRetX, callX, sTry, sRz0, sRz1, bP, bV, bAnd, bOr, bNot, bYes, eP, eMv, eFr, eFz, pVar, pC, pOp2, pOp1, eOp2, eOpP, eOpPP, eOpN, eOpV, eIx, eIxP, pBi, pAll, eBi, eBiP, takeA, valsA, aE, aS, aNil, eTup, eLst, pTup, eCall, callA, putA, gN, gT, gTu, gSt, lVar, lIx, lFld, eMt, eMt0, eMtL, getP_nil, putP_nil, mAppend, pFld, pIsi, pIsE, pXf, pAndV, pOrV, eAndV, eOrV, eIf, pNotV, eNotV, pGet, pSl, pPart, ePO, opIsN, opNotN, D.stable, stableL, D.imm, immL, D.frz, frzL, eqI, eqS, neI, neS, addI, eRevP, eRevE, eFrL, sSetF, eAddM, wp_seq, wp_asg, wp_if, wp_ret, wp_retN, wp_nil, wp_exp, wp_wp, wp_ct, wp_bk, kSeq_nx, kSeq_rt, kSeq_bk, kSeq_ct, kSeq_xc, kAsg, kIf_t, kIf_f, kRet_eq, kExp_eq, kWp_eq, kTurn_nx, kTurn_ct, kTurn_bk, kTurn_rt, kTurn_xc, kFn_rt, kFn_nx, We, Wb, List.set_cons_zero, List.set_cons_succ, List.getD_cons_zero, List.getD_cons_succ, $ls,*])
/-! H10: a joined book is a book -/
structure JB (s : Jst) (pre : List Part) : Prop where
  sub : (s.fd.map Part.name).Sublist (pre.map Part.name)
  fd : ∀ p ∈ s.fd, ∃ q ∈ pre, p.name = q.name ∧ p.size = q.size ∧ p.cost = q.cost
  st : ∀ e ∈ s.st, e.2 ∈ s.fd.map Part.name
  ok : ∀ (i : Nat) (p : Part), s.fd[i]? = some p → RecOk ((s.fd.map Part.name).take i) p.recp
  ne : pre ≠ [] → s.fd ≠ []
theorem stF_in {s : Jst} {pre : List Part} (h : JOk s pre) (hb : JB s pre) {x : Str} (hx : x ∈ pre.map Part.name) : stF s.st x ∈ s.fd.map Part.name := by
  have h1 := (stF_ok h hx).1
  exact hb.st _ (lookup_mem h1)
theorem mapR_ok {f : Str → Str} {a c : List Str} {r : Rec} (h : RecOk a r) (hf : ∀ x ∈ a, f x ∈ c) : RecOk c (mapR f r) := by
  cases r with
  | leaf n => exact h
  | op w ns =>
    refine ⟨h.1, ?_, ?_, fun e => ?_, fun x hx => ?_⟩
    · rw [List.length_map]; exact h.2.1
    · rw [List.length_map]; exact h.2.2.1
    · rw [List.length_map]; exact h.2.2.2.1 e
    · obtain ⟨y, hy, rfl⟩ := List.mem_map.mp hx
      exact hf y (h.2.2.2.2 y hy)
theorem jb_step {s : Jst} {pre : List Part} (h : JOk s pre) (hb : JB s pre) {p : Part} (hr : RecOk (pre.map Part.name) p.recp) : JB (jstep s p) (pre ++ [p]) := by
  unfold jstep
  cases hk : s.kn.lookup (kindOf (stF s.st) p) with
  | some x =>
    have hx : x ∈ s.fd.map Part.name := by
      rw [← h.knf]
      exact List.mem_map.mpr ⟨_, lookup_mem hk, rfl⟩
    refine ⟨?_, fun q hq => ?_, fun e he => ?_, hb.ok, fun _ e => ?_⟩
    · rw [List.map_append]
      exact hb.sub.trans (List.sublist_append_left _ _)
    · obtain ⟨q', h1, h2⟩ := hb.fd q hq
      exact ⟨q', List.mem_append_left _ h1, h2⟩
    · rcases List.mem_append.mp he with he | he
      · exact hb.st e he
      · rw [List.mem_singleton.mp he]; exact hx
    · simp only at e
      rw [e] at hx
      cases hx
  | none =>
    refine ⟨?_, fun q hq => ?_, fun e he => ?_, fun i q hq => ?_, fun _ => by simp⟩
    · simp only [List.map_append, List.map_cons, List.map_nil]
      exact hb.sub.append (List.Sublist.refl _)
    · rcases List.mem_append.mp hq with hq | hq
      · obtain ⟨q', h1, h2⟩ := hb.fd q hq
        exact ⟨q', List.mem_append_left _ h1, h2⟩
      · rw [List.mem_singleton.mp hq]
        exact ⟨p, by simp, rfl, rfl, rfl⟩
    · simp only [List.map_append, List.mem_append]
      rcases List.mem_append.mp he with he | he
      · exact .inl (hb.st e he)
      · rw [List.mem_singleton.mp he]; exact .inr (by simp)
    · simp only at hq ⊢
      by_cases hi : i < s.fd.length
      · rw [List.getElem?_append_left hi] at hq
        have := hb.ok i q hq
        rw [List.map_append, List.take_append_of_le_length (by rw [List.length_map]; omega)]
        exact this
      · have hi2 : i = s.fd.length := by
          have := (List.getElem?_eq_some_iff.mp hq).1
          rw [List.length_append, List.length_singleton] at this
          omega
        subst hi2
        rw [List.getElem?_append_right (Nat.le_refl _), Nat.sub_self] at hq
        cases hq
        rw [List.map_append, List.take_left' (by rw [List.length_map])]
        exact mapR_ok hr fun x hx => stF_in h hb hx
theorem joined_jb {ps : List Part} (b : BookOk ps) : ∀ pre post, ps = pre ++ post → JB (pre.foldl jstep ⟨[], [], []⟩) pre := by
  intro pre
  induction pre using snoc_ind with
  | h0 => intro post e; exact ⟨List.Sublist.refl _, fun e he => (by cases he), fun e he => (by cases he), fun i p hp => by simp at hp, fun q => absurd rfl q⟩
  | hs l a ih =>
    intro post e
    have e2 : ps = l ++ a :: post := by rw [e]; simp
    rw [List.foldl_append]
    exact jb_step (joined_jok b l (a :: post) e2) (ih (a :: post) e2) (b.at e2).1
theorem joined_book {ps : List Part} (b : BookOk ps) : BookOk (joinedS ps).fd := by
  have h := joined_jb b ps [] (by simp)
  have hne : ps ≠ [] := by have := b.len.1; intro e; rw [e] at this; simp at this
  have hfac : ∀ p ∈ (joinedS ps).fd, ∃ q ∈ ps, p.name = q.name ∧ p.size = q.size ∧ p.cost = q.cost := h.fd
  have hl : (joinedS ps).fd.length ≤ ps.length := by
    have := h.sub.length_le
    rw [List.length_map, List.length_map] at this
    exact this
  refine ⟨⟨?_, by have := b.len.2; omega⟩, h.sub.nodup b.nd, fun p hp => ?_, fun p hp => ?_, fun i p hp => ?_⟩
  · have := h.ne hne
    exact List.length_pos_iff.mpr this
  · obtain ⟨q, hq, e, _⟩ := hfac p hp
    rw [e]; exact b.word q hq
  · obtain ⟨q, hq, e, _⟩ := hfac p hp
    rw [e]; exact b.odd q hq
  · obtain ⟨q, hq, _, e1, e2⟩ := hfac p (List.mem_of_getElem? hp)
    obtain ⟨j, hj⟩ := List.getElem?_of_mem hq
    have := (b.ok j q hj).2
    rw [e1, e2]
    exact ⟨h.ok i p hp, this⟩
theorem joined_st {ps : List Part} (b : BookOk ps) : ((joinedS ps).st.map (·.1)) = ps.map Part.name := (joined_jok b ps [] (by simp)).stk
end Lk

set_option Elab.async false
set_option linter.all false
set_option maxRecDepth 100000
set_option maxHeartbeats 4000000
namespace Lk
open PySem Dl
local macro_rules
  | `(tactic| simp_arith [$ls,*]) => `(tactic| simp [fnM, fnX, outs, outX, sSeq, sIf, sAsg, sRet, sRetN, sNil, sExp, sNo, sWp, wipeD, sExpX, sSetX, sRetX, callX, sTry, sRz0, sRz1, bP, bV, bAnd, bOr, bNot, bYes, eP, eMv, eFr, eFz, pVar, pC, pOp2, pOp1, eOp2, eOpP, eOpPP, eOpN, eOpV, eIx, eIxP, pBi, pAll, eBi, eBiP, takeA, valsA, aE, aS, aNil, eTup, eLst, pTup, eCall, callA, putA, gN, gT, gTu, gSt, lVar, lIx, lFld, eMt, eMt0, eMtL, getP_nil, putP_nil, mAppend, pFld, pIsi, pIsE, pXf, pAndV, pOrV, eAndV, eOrV, eIf, pNotV, eNotV, pGet, pSl, pPart, ePO, opIsN, opNotN, D.stable, stableL, D.imm, immL, D.frz, frzL, eqI, eqS, neI, neS, addI, eRevP, eRevE, eFrL, sSetF, eAddM, List.set_cons_zero, List.set_cons_succ, List.getD_cons_zero, List.getD_cons_succ, $ls,*])
local macro_rules
  | `(tactic| simp_arith! [$ls,*]) => `(tactic| simp [outs, outX, sNo, wipeD, sExpX, sSetX, sRetX, callX, sTry, sRz0, sRz1, bP, bV, bAnd, bOr, bNot, bYes, eP, eMv, eFr, eFz, pVar, pC, pOp2, pOp1, eOp2, eOpP, eOpPP, eOpN, eOpV, eIx, eIxP, pBi, pAll, eBi, eBiP, takeA, valsA, aE, aS, aNil, eTup, eLst, pTup, eCall, callA, putA, gN, gT, gTu, gSt, lVar, lIx, lFld, eMt, eMt0, eMtL, getP_nil, putP_nil, mAppend, pFld, pIsi, pIsE, pXf, pAndV, pOrV, eAndV, eOrV, eIf, pNotV, eNotV, pGet, pSl, pPart, ePO, opIsN, opNotN, D.stable, stableL, D.imm, immL, D.frz, frzL, eqI, eqS, neI, neS, addI, eRevP, eRevE, eFrL, sSetF, eAddM, wp_seq, wp_asg, wp_if, wp_ret, wp_retN, wp_nil, wp_exp, wp_wp, wp_ct, wp_bk, kSeq_nx, kSeq_rt, kSeq_bk, kSeq_ct, kSeq_xc, kAsg, kIf_t, kIf_f, kRet_eq, kExp_eq, kWp_eq, kTurn_nx, kTurn_ct, kTurn_bk, kTurn_rt, kTurn_xc, kFn_rt, kFn_nx, We, Wb, List.set_cons_zero, List.set_cons_succ, List.getD_cons_zero, List.getD_cons_succ, $ls,*])
/-! I10: the law's joined told, are_alike, the law -/
theorem law_joined_ok {ps : List Part} (b : BookOk ps) : m__law_joined [bookD ps] = some (.tup [bookD (joinedS ps).fd, dicS (sS (joinedS ps).st)], [bookD ps]) := by
  have hpl := b.len.2
  refine wp_fnE rfl rfl ?_
  change Wp b__law_joined [some (bookD ps), none, none, none, none, none, none, none, none, none, none] _
  have hfor : ∀ Q, Q .nx (ljE ps (joinedS ps) none none none none none none) → Wp (sFor (eP (pVar 0)) (gTu [4, 5, 6, 7]) w1__law_joined) (ljE ps ⟨[], [], []⟩ none none none none none none) Q := fun Q hQ => by
    refine wp_for partD ps (fun pre ρ => ρ = ljE ps (pre.foldl jstep ⟨[], [], []⟩) none none none none none none) (ρ1 := ljE ps ⟨[], [], []⟩ none none none none none none) (d := bookD ps) ?_ (by rw [book_frz]; rfl) rfl (fun pre p post e ρ q => ?_) (fun ρ q => ?_)
    · exact eP_of rfl (book_stable ps)
    · subst q
      have h := joined_jok b pre (p :: post) e
      refine ⟨_, rfl, (lj_step (ps := ps) h (by have := (b.at e).2.2; omega) (b.at e).1 (b.at e).2.1 none).imp fun f ρ q => ?_⟩
      obtain ⟨rfl, rfl⟩ := q
      rw [List.foldl_append]
      rfl
    · subst q
      exact hQ
  have hbk : opTuple [.lst true ((joinedS ps).fd.map partD)] = some (bookD (joinedS ps).fd) := by
    show (if immL ((joinedS ps).fd.map partD) = true then _ else _) = _
    rw [if_pos (parts_imm _)]
    rfl
  have hbs := book_stable (joinedS ps).fd
  rw [b__law_joined, wp_seq, wp_asg, we_of (d := dicS (sS [])) (ρ' := [some (bookD ps), none, none, none, none, none, none, none, none, none, none]) rfl]
  show Wp (sSeq (sAsg (eLst aNil) (gN 2)) _) [some (bookD ps), some (dicS (sS [])), none, none, none, none, none, none, none, none, none] _
  rw [wp_seq, wp_asg, we_of (d := .lst true []) (ρ' := [some (bookD ps), some (dicS (sS [])), none, none, none, none, none, none, none, none, none]) rfl]
  show Wp (sSeq (sAsg (eLst aNil) (gN 3)) _) [some (bookD ps), some (dicS (sS [])), some (.lst true []), none, none, none, none, none, none, none, none] _
  rw [wp_seq, wp_asg, we_of (d := .lst true []) (ρ' := [some (bookD ps), some (dicS (sS [])), some (.lst true []), none, none, none, none, none, none, none, none]) rfl]
  show Wp (sSeq (sWp [4, 5, 6, 7, 8, 9] (sFor (eP (pVar 0)) (gTu [4, 5, 6, 7]) w1__law_joined)) _) (ljE ps ⟨[], [], []⟩ none none none none none none) _
  rw [wp_seq, wp_wp]
  refine hfor _ ?_
  show Wp (sRet _) (ljE ps (joinedS ps) none none none none none none) _
  unfold ljE
  generalize bookD (joinedS ps).fd = B2 at *
  generalize (joinedS ps).fd.map partD = FD at *
  generalize dicS (sS (joinedS ps).st) = SD at *
  generalize bookD ps = BD at *
  simp_arith! [hbk, hbs]
theorem st_at {ps : List Part} (b : BookOk ps) {x : Str} (hx : x ∈ ps.map Part.name) : opIx (dicS (sS (joinedS ps).st)) (.str x) = some (.str (stF (joinedS ps).st x)) := by
  have h1 : (joinedS ps).st.lookup x = some (stF (joinedS ps).st x) := (stF_ok (joined_jok b ps [] (by simp)) hx).1
  rw [ix_dS, sS_lookup, h1]
  rfl
theorem alike_ok {ps : List Part} (b : BookOk ps) {x y : Str} (hx : x ∈ ps.map Part.name) (hy : y ∈ ps.map Part.name) :
    m_are_alike [bookD ps, .str x, .str y] = some (.bl (decide (stF (joinedS ps).st x = stF (joinedS ps).st y)), [bookD ps, .str x, .str y]) := by
  have hn := need_names_ok (o := true) ps b.len.2 [x, y] (by simp) (fun z hz => by
    simp only [List.mem_cons, List.not_mem_nil, or_false] at hz
    rcases hz with rfl | rfl
    · exact hx
    · exact hy)
  change m_need_names [bookD ps, .lst true [.str x, .str y]] = some (.non, [bookD ps, .lst false [.str x, .str y]]) at hn
  have hj := joined_ok b
  have h1 := st_at b hx
  have h2 := st_at b hy
  refine wp_fnE rfl rfl ?_
  change Wp b_are_alike [some (bookD ps), some (.str x), some (.str y), none] _
  generalize dicS (sS (joinedS ps).st) = SD at *
  generalize bookD (joinedS ps).fd = B2 at *
  generalize bookD ps = BD at *
  simp_arith! [b_are_alike, hn, hj, h1, h2, eIxT]
theorem turn1 {ps : List Part} (b : BookOk ps) (s0 s1 s3 s4 s5 : Option D) : Wp w1_law [s0, s1, some (bookD ps), s3, s4, s5, some (bookD (joinedS ps).fd), some (dicS (sS (joinedS ps).st)), none, none, none, none, none] fun f ρ => f = .nx ∧ ρ = [s0, s1, some (bookD ps), none, s4, s5, some (bookD (joinedS ps).fd), some (dicS (sS (joinedS ps).st)), none, none, none, none, none] := by
  have hj := joined_ok b
  obtain ⟨x, hx⟩ := repr_book (joined_book b)
  have hnd : ((joinedS ps).st.map (·.1)).Nodup := by rw [joined_st b]; exact b.nd
  have hne : opNeX (dicS (sS (joinedS ps).st)) (dicS (sS (joinedS ps).st)) = some (.bl false) := by
    unfold opNeX dicS
    rw [eqX_same hnd]
    rfl
  have hcl : mDClear (dicS (sS (joinedS ps).st)) [] = some (.dic true .k [] [], .non) := rfl
  have his : opIsi "dict" (dicS (sS (joinedS ps).st)) = some (.bl true) := rfl
  have hit : ∀ a c : D, opIsi "tuple" (.tup [a, c]) = some (.bl true) := fun _ _ => rfl
  have hln : ∀ a c : D, opLen [.tup [a, c]] = some (.int 2) := fun _ _ => rfl
  have t0 : ∀ a c : D, opIx (.tup [a, c]) (.int 0) = some a := fun _ _ => rfl
  have t1 : ∀ a c : D, opIx (.tup [a, c]) (.int 1) = some c := fun _ _ => rfl
  have g1 : ∀ a c : D, getS (.ix (.int 1)) (.tup [a, c]) = some c := fun _ _ => rfl
  have g2 : ∀ a c d : D, putS (.ix (.int 1)) (.tup [a, c]) d = some (.tup [a, d]) := fun _ _ _ => rfl
  generalize dicS (sS (joinedS ps).st) = SD at *
  generalize bookD (joinedS ps).fd = B2 at *
  generalize bookD ps = BD at *
  simp_arith! [w1_law, g1, g2, hj, hx, hne, hcl, his, hit, hln, t0, t1, getP, putP]
theorem turn2 {ps : List Part} (b : BookOk ps) (t : Int) (s0 s1 s3 : Option D) : Wp w2_law [s0, s1, some (bookD ps), s3, some (.lst true [.int t]), some (.lst true ((ps.map Part.name).map D.str)), some (bookD (joinedS ps).fd), some (dicS (sS (joinedS ps).st)), none, none, none, none, none] fun f ρ => f = .nx ∧ ∃ t', ρ = [s0, s1, some (bookD ps), none, some (.lst true [.int t']), some (.lst true ((ps.map Part.name).map D.str)), some (bookD (joinedS ps).fd), some (dicS (sS (joinedS ps).st)), none, none, none, none, none] := by
  have hl := b.len
  have hlen : opLen [.lst true ((ps.map Part.name).map D.str)] = some (.int (ps.length : Int)) := by
    show some (D.int (((ps.map Part.name).map D.str).length : Int)) = _
    rw [List.length_map, List.length_map]
  have d1 := dig (ps.length : Int) (by omega) (by omega)
  have pick : ∀ t : Int, ∃ x, x ∈ ps.map Part.name ∧ opIx (.lst true ((ps.map Part.name).map D.str)) (.int (t % (ps.length : Int))) = some (.str x) := fun t => by
    have b1 := Int.emod_nonneg t (show (ps.length : Int) ≠ 0 by omega)
    have b2 := Int.emod_lt_of_pos t (show 0 < (ps.length : Int) by omega)
    exact ix_strs (o := true) (l := ps.map Part.name) b1 (by rw [List.length_map]; exact b2)
  obtain ⟨x, hx, ex⟩ := pick t
  obtain ⟨y, hy, ey⟩ := pick (t / (ps.length : Int))
  have ha := alike_ok b hx hy
  have h1 := st_at b hx
  have h2 := st_at b hy
  have hb : ∀ B, opIsi "bool" (.bl B) = some (.bl true) := fun _ => rfl
  have he : ∀ B, opNe (.bl B) (.bl B) = some (.bl false) := fun B => by cases B <;> rfl
  have e1 := eqS (stF (joinedS ps).st x) (stF (joinedS ps).st y)
  generalize hB : decide (stF (joinedS ps).st x = stF (joinedS ps).st y) = B at *
  have hb' := hb B
  have he' := he B
  have fin : ∀ S, Wp S [s0, s1, some (bookD ps), s3, some (.lst true [.int t]), some (.lst true ((ps.map Part.name).map D.str)), some (bookD (joinedS ps).fd), some (dicS (sS (joinedS ps).st)), none, none, none, none, none] (fun f ρ => f = .nx ∧ ρ = [s0, s1, some (bookD ps), none, some (.lst true [.int (t / (ps.length : Int) / (ps.length : Int))]), some (.lst true ((ps.map Part.name).map D.str)), some (bookD (joinedS ps).fd), some (dicS (sS (joinedS ps).st)), none, none, none, none, none]) →
      Wp S [s0, s1, some (bookD ps), s3, some (.lst true [.int t]), some (.lst true ((ps.map Part.name).map D.str)), some (bookD (joinedS ps).fd), some (dicS (sS (joinedS ps).st)), none, none, none, none, none] fun f ρ => f = .nx ∧ ∃ t', ρ = [s0, s1, some (bookD ps), none, some (.lst true [.int t']), some (.lst true ((ps.map Part.name).map D.str)), some (bookD (joinedS ps).fd), some (dicS (sS (joinedS ps).st)), none, none, none, none, none] := fun S h => h.imp fun f ρ q => ⟨q.1, _, q.2⟩
  refine fin _ ?_
  generalize dicS (sS (joinedS ps).st) = SD at *
  generalize bookD (joinedS ps).fd = B2 at *
  generalize bookD ps = BD at *
  generalize (ps.map Part.name).map D.str = NS at *
  simp_arith! [w2_law, hlen, d1, ex, ey, ha, h1, h2, hb', he', e1]
theorem start10 (ns : List Int) (hn : ns.length ≤ 63) (k : Nat) :
    Wp w3_law [some (.scr ns), some (.int (k : Int)), none, none, none, none, none, none, none, none, none, none, none] fun f ρ => f = .nx ∧ ρ = [some (.scr ns), none, none, none, none, none, none, none, none, none, none, none, none] := by
  obtain ⟨ps, b, hl, eb⟩ := book_ok ns k 24 hn (by decide) (by decide)
  have eb' : m__law_book [.scr ns, .int (k : Int), .int 24] = some (bookD ps, [.scr ns, .int (k : Int), .int 24]) := eb
  have hlj := law_joined_ok b
  obtain ⟨t, et⟩ := tape_ok ns (k + 6) hn
  have et' : m__law_tape [.scr ns, .int ((k : Int) + 6)] = some (.lst true [.int t], [.scr ns, .int ((k : Int) + 6)]) := et
  have hbs := book_stable ps
  have hps := b.len.2
  have hcomp : eComp (eP (pVar 2)) (gN 12) bYes x1_law [12] [some (.scr ns), some (.int (k : Int)), some (bookD ps), none, some (.lst true [.int t]), none, some (bookD (joinedS ps).fd), some (dicS (sS (joinedS ps).st)), none, none, none, none, none] = some (.lst true ((ps.map Part.name).map D.str), [some (.scr ns), some (.int (k : Int)), some (bookD ps), none, some (.lst true [.int t]), none, some (bookD (joinedS ps).fd), some (dicS (sS (joinedS ps).st)), none, none, none, none, none]) := by
    have := comp_M (c := partD) (f := fun p => D.str p.name) (it := eP (pVar 2)) (g := gN 12) (e := x1_law) (vs := [12]) (ρ := [some (.scr ns), some (.int (k : Int)), some (bookD ps), none, some (.lst true [.int t]), none, some (bookD (joinedS ps).fd), some (dicS (sS (joinedS ps).st)), none, none, none, none, none]) (ρ1 := [some (.scr ns), some (.int (k : Int)), some (bookD ps), none, some (.lst true [.int t]), none, some (bookD (joinedS ps).fd), some (dicS (sS (joinedS ps).st)), none, none, none, none, none]) (d := bookD ps) (xs := ps) (eP_of rfl hbs) (by rw [book_frz]; rfl) (by omega) fun p hp => by
      have p0 := part_0 p
      refine ⟨_, rfl, [some (.scr ns), some (.int (k : Int)), some (bookD ps), none, some (.lst true [.int t]), none, some (bookD (joinedS ps).fd), some (dicS (sS (joinedS ps).st)), none, none, none, none, some (partD p)], ?_, rfl⟩
      generalize partD p = PD at *
      simp_arith [x1_law, p0]
    rw [this, List.map_map]
    rfl
  have loop1 : ∀ Q, Q .nx [some (.scr ns), some (.int (k : Int)), some (bookD ps), none, none, none, some (bookD (joinedS ps).fd), some (dicS (sS (joinedS ps).st)), none, none, none, none, none] → Wp (sForR1 (eP (pC (.int 2))) (gN 3) w1_law) [some (.scr ns), some (.int (k : Int)), some (bookD ps), none, none, none, some (bookD (joinedS ps).fd), some (dicS (sS (joinedS ps).st)), none, none, none, none, none] Q := fun Q hQ => by
    refine wp_for1 2 (fun _ ρ => ρ = [some (.scr ns), some (.int (k : Int)), some (bookD ps), none, none, none, some (bookD (joinedS ps).fd), some (dicS (sS (joinedS ps).st)), none, none, none, none, none]) (eP_of rfl rfl) (by omega) rfl (fun i _ ρ q => ?_) (fun ρ q => by subst q; exact hQ)
    subst q
    refine ⟨_, rfl, (turn1 b _ _ (some (.int (i : Int))) _ _).imp fun f ρ q => ?_⟩
    obtain ⟨rfl, rfl⟩ := q
    rfl
  have loop2 : ∀ Q, (∀ t', Q .nx [some (.scr ns), some (.int (k : Int)), some (bookD ps), none, some (.lst true [.int t']), some (.lst true ((ps.map Part.name).map D.str)), some (bookD (joinedS ps).fd), some (dicS (sS (joinedS ps).st)), none, none, none, none, none]) → Wp (sForR1 (eP (pC (.int 8))) (gN 3) w2_law) [some (.scr ns), some (.int (k : Int)), some (bookD ps), none, some (.lst true [.int t]), some (.lst true ((ps.map Part.name).map D.str)), some (bookD (joinedS ps).fd), some (dicS (sS (joinedS ps).st)), none, none, none, none, none] Q := fun Q hQ => by
    refine wp_for1 8 (fun _ ρ => ∃ t', ρ = [some (.scr ns), some (.int (k : Int)), some (bookD ps), none, some (.lst true [.int t']), some (.lst true ((ps.map Part.name).map D.str)), some (bookD (joinedS ps).fd), some (dicS (sS (joinedS ps).st)), none, none, none, none, none]) (eP_of rfl rfl) (by omega) ⟨t, rfl⟩ (fun i _ ρ q => ?_) (fun ρ q => by obtain ⟨t', rfl⟩ := q; exact hQ t')
    obtain ⟨t', rfl⟩ := q
    refine ⟨_, rfl, (turn2 b t' _ _ (some (.int (i : Int)))).imp fun f ρ q => ?_⟩
    obtain ⟨rfl, t2, rfl⟩ := q
    exact ⟨t2, rfl⟩
  have l2 := loop2 (kWp [3, 9, 10, 11] (kWp [1, 2, 3, 4, 5, 6, 7, 8, 9, 10, 11] fun f ρ => f = .nx ∧ ρ = [some (.scr ns), none, none, none, none, none, none, none, none, none, none, none, none])) fun t' => ⟨rfl, rfl⟩
  have l1 := loop1 (kWp [3, 8] (kSeq (sSeq (sAsg (eCall m__law_tape (aS 0 (aE (eP (pOp2 opAdd (pVar 1) (pC (.int 6)))) aNil))) (gN 4))
    (sSeq (sAsg (eComp (eP (pVar 2)) (gN 12) bYes x1_law [12]) (gN 5))
    (sWp [3, 9, 10, 11] (sForR1 (eP (pC (.int 8))) (gN 3) w2_law)))) (kWp [1, 2, 3, 4, 5, 6, 7, 8, 9, 10, 11] fun f ρ => f = .nx ∧ ρ = [some (.scr ns), none, none, none, none, none, none, none, none, none, none, none, none]))) (by
      generalize (kWp [1, 2, 3, 4, 5, 6, 7, 8, 9, 10, 11] fun f ρ => f = Fl.nx ∧ ρ = [some (D.scr ns), none, none, none, none, none, none, none, none, none, none, none, none]) = K at *
      clear loop1 loop2
      generalize dicS (sS (joinedS ps).st) = SD at *
      generalize bookD (joinedS ps).fd = B2 at *
      generalize bookD ps = BD at *
      generalize (ps.map Part.name).map D.str = NS at *
      simp_arith! [et', hcomp, addI, l2])
  rw [w3_law, wp_wp]
  generalize (kWp [1, 2, 3, 4, 5, 6, 7, 8, 9, 10, 11] fun f ρ => f = Fl.nx ∧ ρ = [some (D.scr ns), none, none, none, none, none, none, none, none, none, none, none, none]) = K at *
  clear loop1 loop2 hcomp
  generalize dicS (sS (joinedS ps).st) = SD at *
  generalize bookD (joinedS ps).fd = B2 at *
  generalize bookD ps = BD at *
  simp_arith! [eb', hlj, l1]
theorem law_true (ns : List Int) (hn : ns.length ≤ 63) : ∃ ds, m_law [.scr ns] = some (.bl true, ds) := by
  obtain ⟨j, hj1, em⟩ : ∃ j : Nat, j ≤ 60 ∧ pBi opMax [(pC (.int 1)), (pBi opMin [(pC (.int 4)), (pBi opLen [(pVar 0)])])] [some (.scr ns), none, none, none, none, none, none, none, none, none, none, none, none] = some (.int (j : Int)) := by
    refine ⟨(if (if (ns.length : Int) < 4 then (ns.length : Int) else 4) > 1 then (if (ns.length : Int) < 4 then (ns.length : Int) else 4) else 1).toNat, ?_, ?_⟩
    · split <;> (try split) <;> omega
    · show some (D.int (if (if (ns.length : Int) < 4 then (ns.length : Int) else 4) > 1 then (if (ns.length : Int) < 4 then (ns.length : Int) else 4) else 1)) = _
      congr 2
      split <;> (try split) <;> omega
  have wb : Wp b_law [some (.scr ns), none, none, none, none, none, none, none, none, none, none, none, none] (kFn 1 [] fun d os => d = .bl true ∧ os = [.scr ns]) := by
    rw [b_law, wp_seq, wp_wp]
    refine wp_for2 0 j (fun _ ρ => ρ = [some (.scr ns), none, none, none, none, none, none, none, none, none, none, none, none]) (eP_of rfl rfl) (j : Int) (eP_of em rfl) (by omega) (by omega) (by omega) rfl (fun k hk ρ q => ?_) (fun ρ q => ?_)
    · subst q
      refine ⟨_, rfl, ?_⟩
      have := start10 ns hn k
      rw [Int.zero_add]
      refine this.imp fun f ρ q => ?_
      obtain ⟨rfl, rfl⟩ := q
      rfl
    · subst q
      simp_arith! []
  refine ⟨[.scr ns], ?_⟩
  exact wp_fnE rfl rfl wb
end Lk

set_option Elab.async false
set_option linter.all false
set_option maxRecDepth 100000
set_option maxHeartbeats 4000000
namespace Lk
open PySem PySem.Spec PyProof.Rows L2 Dl
theorem all_mk {w : World} {K : PySem.W.Frag} {h : Heap} {mg : Str → Option Value} {fa : Addr} (X : K.In h) (G : h.Ns mainGlobals mg) (hfa : mg "law" = some (.ref fa))
    {f0 : Addr} {od0 an0 : Option Addr} {sl0 : Array (Option Value)} {oc0 kV0 dc0 pm0 cd0 ct0 : Value}
    {f1 : Addr} {od1 an1 : Option Addr} {sl1 : Array (Option Value)} {oc1 kV1 dc1 pm1 cd1 ct1 : Value}
    {f2 : Addr} {od2 an2 : Option Addr} {sl2 : Array (Option Value)} {oc2 kV2 dc2 pm2 cd2 ct2 : Value}
    {f3 : Addr} {od3 an3 : Option Addr} {sl3 : Array (Option Value)} {oc3 kV3 dc3 pm3 cd3 ct3 : Value}
    {f4 : Addr} {od4 an4 : Option Addr} {sl4 : Array (Option Value)} {oc4 kV4 dc4 pm4 cd4 ct4 : Value}
    {f5 : Addr} {od5 an5 : Option Addr} {sl5 : Array (Option Value)} {oc5 kV5 dc5 pm5 cd5 ct5 : Value}
    {f6 : Addr} {od6 an6 : Option Addr} {sl6 : Array (Option Value)} {oc6 kV6 dc6 pm6 cd6 ct6 : Value}
    {f7 : Addr} {od7 an7 : Option Addr} {sl7 : Array (Option Value)} {oc7 kV7 dc7 pm7 cd7 ct7 : Value}
    {f8 : Addr} {od8 an8 : Option Addr} {sl8 : Array (Option Value)} {oc8 kV8 dc8 pm8 cd8 ct8 : Value}
    {f9 : Addr} {od9 an9 : Option Addr} {sl9 : Array (Option Value)} {oc9 kV9 dc9 pm9 cd9 ct9 : Value}
    {f10 : Addr} {od10 an10 : Option Addr} {sl10 : Array (Option Value)} {oc10 kV10 dc10 pm10 cd10 ct10 : Value}
    {f11 : Addr} {od11 an11 : Option Addr} {sl11 : Array (Option Value)} {oc11 kV11 dc11 pm11 cd11 ct11 : Value}
    {f12 : Addr} {od12 an12 : Option Addr} {sl12 : Array (Option Value)} {oc12 kV12 dc12 pm12 cd12 ct12 : Value}
    {f13 : Addr} {od13 an13 : Option Addr} {sl13 : Array (Option Value)} {oc13 kV13 dc13 pm13 cd13 ct13 : Value}
    {f14 : Addr} {od14 an14 : Option Addr} {sl14 : Array (Option Value)} {oc14 kV14 dc14 pm14 cd14 ct14 : Value}
    {f15 : Addr} {od15 an15 : Option Addr} {sl15 : Array (Option Value)} {oc15 kV15 dc15 pm15 cd15 ct15 : Value}
    (a0 : PySem.W.nsIn K mainGlobals "_law_cell_at" = some (some (.ref f0))) (l0 : K.lookup f0 = some ⟨oc0, od0, .func (PySem.W.fnOf "_law_cell_at" "_law_cell_at" (defArgs (top 13)) (defBody (top 13)) (defScope (top 13)) .none kV0 dc0 pm0 an0 cd0 ct0), sl0⟩) (c0 : PySem.W.codeIn K cd0 "_law_cell_at" = true) (k0 : PySem.W.keepIn K (.ref f0) = true)
    (a1 : PySem.W.nsIn K mainGlobals "_law_tape" = some (some (.ref f1))) (l1 : K.lookup f1 = some ⟨oc1, od1, .func (PySem.W.fnOf "_law_tape" "_law_tape" (defArgs (top 14)) (defBody (top 14)) (defScope (top 14)) .none kV1 dc1 pm1 an1 cd1 ct1), sl1⟩) (c1 : PySem.W.codeIn K cd1 "_law_tape" = true) (k1 : PySem.W.keepIn K (.ref f1) = true)
    (a2 : PySem.W.nsIn K mainGlobals "_law_digit" = some (some (.ref f2))) (l2 : K.lookup f2 = some ⟨oc2, od2, .func (PySem.W.fnOf "_law_digit" "_law_digit" (defArgs (top 15)) (defBody (top 15)) (defScope (top 15)) .none kV2 dc2 pm2 an2 cd2 ct2), sl2⟩) (c2 : PySem.W.codeIn K cd2 "_law_digit" = true) (k2 : PySem.W.keepIn K (.ref f2) = true)
    (a3 : PySem.W.nsIn K mainGlobals "_law_words" = some (some (.ref f3))) (l3 : K.lookup f3 = some ⟨oc3, od3, .func (PySem.W.fnOf "_law_words" "_law_words" (defArgs (top 16)) (defBody (top 16)) (defScope (top 16)) .none kV3 dc3 pm3 an3 cd3 ct3), sl3⟩) (c3 : PySem.W.codeIn K cd3 "_law_words" = true) (k3 : PySem.W.keepIn K (.ref f3) = true)
    (a4 : PySem.W.nsIn K mainGlobals "_law_number" = some (some (.ref f4))) (l4 : K.lookup f4 = some ⟨oc4, od4, .func (PySem.W.fnOf "_law_number" "_law_number" (defArgs (top 18)) (defBody (top 18)) (defScope (top 18)) .none kV4 dc4 pm4 an4 cd4 ct4), sl4⟩) (c4 : PySem.W.codeIn K cd4 "_law_number" = true) (k4 : PySem.W.keepIn K (.ref f4) = true)
    (a5 : PySem.W.nsIn K mainGlobals "_law_recipe" = some (some (.ref f5))) (l5 : K.lookup f5 = some ⟨oc5, od5, .func (PySem.W.fnOf "_law_recipe" "_law_recipe" (defArgs (top 17)) (defBody (top 17)) (defScope (top 17)) .none kV5 dc5 pm5 an5 cd5 ct5), sl5⟩) (c5 : PySem.W.codeIn K cd5 "_law_recipe" = true) (k5 : PySem.W.keepIn K (.ref f5) = true)
    (a6 : PySem.W.nsIn K mainGlobals "_law_again" = some (some (.ref f6))) (l6 : K.lookup f6 = some ⟨oc6, od6, .func (PySem.W.fnOf "_law_again" "_law_again" (defArgs (top 19)) (defBody (top 19)) (defScope (top 19)) .none kV6 dc6 pm6 an6 cd6 ct6), sl6⟩) (c6 : PySem.W.codeIn K cd6 "_law_again" = true) (k6 : PySem.W.keepIn K (.ref f6) = true)
    (a7 : PySem.W.nsIn K mainGlobals "_law_book" = some (some (.ref f7))) (l7 : K.lookup f7 = some ⟨oc7, od7, .func (PySem.W.fnOf "_law_book" "_law_book" (defArgs (top 20)) (defBody (top 20)) (defScope (top 20)) .none kV7 dc7 pm7 an7 cd7 ct7), sl7⟩) (c7 : PySem.W.codeIn K cd7 "_law_book" = true) (k7 : PySem.W.keepIn K (.ref f7) = true)
    (a8 : PySem.W.nsIn K mainGlobals "_law_joined" = some (some (.ref f8))) (l8 : K.lookup f8 = some ⟨oc8, od8, .func (PySem.W.fnOf "_law_joined" "_law_joined" (defArgs (top 21)) (defBody (top 21)) (defScope (top 21)) .none kV8 dc8 pm8 an8 cd8 ct8), sl8⟩) (c8 : PySem.W.codeIn K cd8 "_law_joined" = true) (k8 : PySem.W.keepIn K (.ref f8) = true)
    (a9 : PySem.W.nsIn K mainGlobals "needs_of" = some (some (.ref f9))) (l9 : K.lookup f9 = some ⟨oc9, od9, .func (PySem.W.fnOf "needs_of" "needs_of" (defArgs (top 4)) (defBody (top 4)) (defScope (top 4)) .none kV9 dc9 pm9 an9 cd9 ct9), sl9⟩) (c9 : PySem.W.codeIn K cd9 "needs_of" = true) (k9 : PySem.W.keepIn K (.ref f9) = true)
    (a10 : PySem.W.nsIn K mainGlobals "kind_of" = some (some (.ref f10))) (l10 : K.lookup f10 = some ⟨oc10, od10, .func (PySem.W.fnOf "kind_of" "kind_of" (defArgs (top 9)) (defBody (top 9)) (defScope (top 9)) .none kV10 dc10 pm10 an10 cd10 ct10), sl10⟩) (c10 : PySem.W.codeIn K cd10 "kind_of" = true) (k10 : PySem.W.keepIn K (.ref f10) = true)
    (a11 : PySem.W.nsIn K mainGlobals "joined" = some (some (.ref f11))) (l11 : K.lookup f11 = some ⟨oc11, od11, .func (PySem.W.fnOf "joined" "joined" (defArgs (top 10)) (defBody (top 10)) (defScope (top 10)) .none kV11 dc11 pm11 an11 cd11 ct11), sl11⟩) (c11 : PySem.W.codeIn K cd11 "joined" = true) (k11 : PySem.W.keepIn K (.ref f11) = true)
    (a12 : PySem.W.nsIn K mainGlobals "parts_by_name" = some (some (.ref f12))) (l12 : K.lookup f12 = some ⟨oc12, od12, .func (PySem.W.fnOf "parts_by_name" "parts_by_name" (defArgs (top 5)) (defBody (top 5)) (defScope (top 5)) .none kV12 dc12 pm12 an12 cd12 ct12), sl12⟩) (c12 : PySem.W.codeIn K cd12 "parts_by_name" = true) (k12 : PySem.W.keepIn K (.ref f12) = true)
    (a13 : PySem.W.nsIn K mainGlobals "need_names" = some (some (.ref f13))) (l13 : K.lookup f13 = some ⟨oc13, od13, .func (PySem.W.fnOf "need_names" "need_names" (defArgs (top 7)) (defBody (top 7)) (defScope (top 7)) .none kV13 dc13 pm13 an13 cd13 ct13), sl13⟩) (c13 : PySem.W.codeIn K cd13 "need_names" = true) (k13 : PySem.W.keepIn K (.ref f13) = true)
    (a14 : PySem.W.nsIn K mainGlobals "are_alike" = some (some (.ref f14))) (l14 : K.lookup f14 = some ⟨oc14, od14, .func (PySem.W.fnOf "are_alike" "are_alike" (defArgs (top 11)) (defBody (top 11)) (defScope (top 11)) .none kV14 dc14 pm14 an14 cd14 ct14), sl14⟩) (c14 : PySem.W.codeIn K cd14 "are_alike" = true) (k14 : PySem.W.keepIn K (.ref f14) = true)
    (a15 : PySem.W.nsIn K mainGlobals "law" = some (some (.ref f15))) (l15 : K.lookup f15 = some ⟨oc15, od15, .func (PySem.W.fnOf "law" "law" (defArgs (top 22)) (defBody (top 22)) (defScope (top 22)) .none kV15 dc15 pm15 an15 cd15 ct15), sl15⟩) (c15 : PySem.W.codeIn K cd15 "law" = true) (k15 : PySem.W.keepIn K (.ref f15) = true)
    (z_all : PySem.W.nsIn K mainGlobals "all" = some none)
    (z_bool : PySem.W.nsIn K mainGlobals "bool" = some none)
    (z_dict : PySem.W.nsIn K mainGlobals "dict" = some none)
    (z_isinstance : PySem.W.nsIn K mainGlobals "isinstance" = some none)
    (z_len : PySem.W.nsIn K mainGlobals "len" = some none)
    (z_list : PySem.W.nsIn K mainGlobals "list" = some none)
    (z_max : PySem.W.nsIn K mainGlobals "max" = some none)
    (z_min : PySem.W.nsIn K mainGlobals "min" = some none)
    (z_range : PySem.W.nsIn K mainGlobals "range" = some none)
    (z_repr : PySem.W.nsIn K mainGlobals "repr" = some none)
    (z_sorted : PySem.W.nsIn K mainGlobals "sorted" = some none)
    (z_tuple : PySem.W.nsIn K mainGlobals "tuple" = some none)
    : LawAt PySem.Challenge.rw_holdshelf_k10_joined.prog w K mg fa m_law := by
  have e := hfa.symm.trans (PySem.W.mg_of X G a15)
  cases e
  have T : Txt K w mg := ⟨PySem.W.mg_none_of X G z_all, PySem.W.mg_none_of X G z_bool, PySem.W.mg_none_of X G z_dict, PySem.W.mg_none_of X G z_isinstance, PySem.W.mg_none_of X G z_len, PySem.W.mg_none_of X G z_list, PySem.W.mg_none_of X G z_max, PySem.W.mg_none_of X G z_min, PySem.W.mg_none_of X G z_range, PySem.W.mg_none_of X G z_repr, PySem.W.mg_none_of X G z_sorted, PySem.W.mg_none_of X G z_tuple, trivial⟩
  have F0 := fun_mk (st := (top 13)) l0 c0 k0
  have b0 := F0.binds (ps := ["script", "k"]) fun _ _ _ _ _ _ us hl => match us, hl with | [_, _], _ => rfl
  have F1 := fun_mk (st := (top 14)) l1 c1 k1
  have b1 := F1.binds (ps := ["script", "k"]) fun _ _ _ _ _ _ us hl => match us, hl with | [_, _], _ => rfl
  have F2 := fun_mk (st := (top 15)) l2 c2 k2
  have b2 := F2.binds (ps := ["tape", "many"]) fun _ _ _ _ _ _ us hl => match us, hl with | [_, _], _ => rfl
  have F3 := fun_mk (st := (top 16)) l3 c3 k3
  have b3 := F3.binds (ps := ["tape", "many"]) fun _ _ _ _ _ _ us hl => match us, hl with | [_, _], _ => rfl
  have F4 := fun_mk (st := (top 18)) l4 c4 k4
  have b4 := F4.binds (ps := ["tape"]) fun _ _ _ _ _ _ us hl => match us, hl with | [_], _ => rfl
  have F5 := fun_mk (st := (top 17)) l5 c5 k5
  have b5 := F5.binds (ps := ["tape", "ahead"]) fun _ _ _ _ _ _ us hl => match us, hl with | [_, _], _ => rfl
  have F6 := fun_mk (st := (top 19)) l6 c6 k6
  have b6 := F6.binds (ps := ["tape", "recipe"]) fun _ _ _ _ _ _ us hl => match us, hl with | [_, _], _ => rfl
  have F7 := fun_mk (st := (top 20)) l7 c7 k7
  have b7 := F7.binds (ps := ["script", "start", "most"]) fun _ _ _ _ _ _ us hl => match us, hl with | [_, _, _], _ => rfl
  have F8 := fun_mk (st := (top 21)) l8 c8 k8
  have b8 := F8.binds (ps := ["book"]) fun _ _ _ _ _ _ us hl => match us, hl with | [_], _ => rfl
  have F9 := fun_mk (st := (top 4)) l9 c9 k9
  have b9 := F9.binds (ps := ["part"]) fun _ _ _ _ _ _ us hl => match us, hl with | [_], _ => rfl
  have F10 := fun_mk (st := (top 9)) l10 c10 k10
  have b10 := F10.binds (ps := ["part", "standing"]) fun _ _ _ _ _ _ us hl => match us, hl with | [_, _], _ => rfl
  have F11 := fun_mk (st := (top 10)) l11 c11 k11
  have b11 := F11.binds (ps := ["book"]) fun _ _ _ _ _ _ us hl => match us, hl with | [_], _ => rfl
  have F12 := fun_mk (st := (top 5)) l12 c12 k12
  have b12 := F12.binds (ps := ["book"]) fun _ _ _ _ _ _ us hl => match us, hl with | [_], _ => rfl
  have F13 := fun_mk (st := (top 7)) l13 c13 k13
  have b13 := F13.binds (ps := ["book", "names"]) fun _ _ _ _ _ _ us hl => match us, hl with | [_, _], _ => rfl
  have F14 := fun_mk (st := (top 11)) l14 c14 k14
  have b14 := F14.binds (ps := ["book", "one", "other"]) fun _ _ _ _ _ _ us hl => match us, hl with | [_, _, _], _ => rfl
  have F15 := fun_mk (st := (top 22)) l15 c15 k15
  refine ok_law T F15 (fun s v => .of_eq rfl) (fun base hK hg => ?_) ⟨rfl, by decide, by decide⟩
  have C0 := ok__law_cell_at (P := PySem.Challenge.rw_holdshelf_k10_joined.prog) (w := w) (base := base) T F0 (PySem.W.mg_of X G a0) b0
  have C1 := ok__law_tape (P := PySem.Challenge.rw_holdshelf_k10_joined.prog) (w := w) (base := base) T F1 (PySem.W.mg_of X G a1) b1 C0
  have C2 := ok__law_digit (P := PySem.Challenge.rw_holdshelf_k10_joined.prog) (w := w) (base := base) T F2 (PySem.W.mg_of X G a2) b2
  have C3 := ok__law_words (P := PySem.Challenge.rw_holdshelf_k10_joined.prog) (w := w) (base := base) T F3 (PySem.W.mg_of X G a3) b3 C2
  have C4 := ok__law_number (P := PySem.Challenge.rw_holdshelf_k10_joined.prog) (w := w) (base := base) T F4 (PySem.W.mg_of X G a4) b4 C2
  have C5 := ok__law_recipe (P := PySem.Challenge.rw_holdshelf_k10_joined.prog) (w := w) (base := base) T F5 (PySem.W.mg_of X G a5) b5 C2
  have C6 := ok__law_again (P := PySem.Challenge.rw_holdshelf_k10_joined.prog) (w := w) (base := base) T F6 (PySem.W.mg_of X G a6) b6 C2
  have C7 := ok__law_book (P := PySem.Challenge.rw_holdshelf_k10_joined.prog) (w := w) (base := base) T F7 (PySem.W.mg_of X G a7) b7 C1 C2 C3 C4 C5 C6
  have C8 := ok__law_joined (P := PySem.Challenge.rw_holdshelf_k10_joined.prog) (w := w) (base := base) T F8 (PySem.W.mg_of X G a8) b8
  have C9 := ok_needs_of (P := PySem.Challenge.rw_holdshelf_k10_joined.prog) (w := w) (base := base) T F9 (PySem.W.mg_of X G a9) b9
  have C10 := ok_kind_of (P := PySem.Challenge.rw_holdshelf_k10_joined.prog) (w := w) (base := base) T F10 (PySem.W.mg_of X G a10) b10 C9
  have C11 := ok_joined (P := PySem.Challenge.rw_holdshelf_k10_joined.prog) (w := w) (base := base) T F11 (PySem.W.mg_of X G a11) b11 C10 C9
  have C12 := ok_parts_by_name (P := PySem.Challenge.rw_holdshelf_k10_joined.prog) (w := w) (base := base) T F12 (PySem.W.mg_of X G a12) b12
  have C13 := ok_need_names (P := PySem.Challenge.rw_holdshelf_k10_joined.prog) (w := w) (base := base) T F13 (PySem.W.mg_of X G a13) b13 C12
  have C14 := ok_are_alike (P := PySem.Challenge.rw_holdshelf_k10_joined.prog) (w := w) (base := base) T F14 (PySem.W.mg_of X G a14) b14 C13 C11
  exact ⟨C7, C8, C11, C1, C2, C14⟩
end Lk
open PySem PySem.W PyProof.Rows
set_option maxRecDepth 100000 in
set_option maxHeartbeats 0 in
theorem PySem.Challenge.cw_holdshelf_k10_joined_holds : PySem.Challenge.rw_holdshelf_k10_joined.Holds := by
  w_on; o_law; k_head; (case hw => w_witness2)
  k_fill
  refine Dl.walk_at (l := PySem.Challenge.rw_holdshelf_k10_joined) (n := 63) rfl (by decide) rfl (k := 5) ⟨rfl, by decide, by decide⟩ (fun w h Y => PySem.W.kIn_of Y) ?F Lk.law_true
  case F =>
    intro w mg fa h KX G hmg
    refine' Lk.all_mk KX G hmg ?a0 ?l0 ?c0 ?k0 ?a1 ?l1 ?c1 ?k1 ?a2 ?l2 ?c2 ?k2 ?a3 ?l3 ?c3 ?k3 ?a4 ?l4 ?c4 ?k4 ?a5 ?l5 ?c5 ?k5 ?a6 ?l6 ?c6 ?k6 ?a7 ?l7 ?c7 ?k7 ?a8 ?l8 ?c8 ?k8 ?a9 ?l9 ?c9 ?k9 ?a10 ?l10 ?c10 ?k10 ?a11 ?l11 ?c11 ?k11 ?a12 ?l12 ?c12 ?k12 ?a13 ?l13 ?c13 ?k13 ?a14 ?l14 ?c14 ?k14 ?a15 ?l15 ?c15 ?k15 ?z_all ?z_bool ?z_dict ?z_isinstance ?z_len ?z_list ?z_max ?z_min ?z_range ?z_repr ?z_sorted ?z_tuple
    (case a0 => k_is)
    (case l0 => k_is)
    (case c0 => k_is)
    (case k0 => k_is)
    (case a1 => k_is)
    (case l1 => k_is)
    (case c1 => k_is)
    (case k1 => k_is)
    (case a2 => k_is)
    (case l2 => k_is)
    (case c2 => k_is)
    (case k2 => k_is)
    (case a3 => k_is)
    (case l3 => k_is)
    (case c3 => k_is)
    (case k3 => k_is)
    (case a4 => k_is)
    (case l4 => k_is)
    (case c4 => k_is)
    (case k4 => k_is)
    (case a5 => k_is)
    (case l5 => k_is)
    (case c5 => k_is)
    (case k5 => k_is)
    (case a6 => k_is)
    (case l6 => k_is)
    (case c6 => k_is)
    (case k6 => k_is)
    (case a7 => k_is)
    (case l7 => k_is)
    (case c7 => k_is)
    (case k7 => k_is)
    (case a8 => k_is)
    (case l8 => k_is)
    (case c8 => k_is)
    (case k8 => k_is)
    (case a9 => k_is)
    (case l9 => k_is)
    (case c9 => k_is)
    (case k9 => k_is)
    (case a10 => k_is)
    (case l10 => k_is)
    (case c10 => k_is)
    (case k10 => k_is)
    (case a11 => k_is)
    (case l11 => k_is)
    (case c11 => k_is)
    (case k11 => k_is)
    (case a12 => k_is)
    (case l12 => k_is)
    (case c12 => k_is)
    (case k12 => k_is)
    (case a13 => k_is)
    (case l13 => k_is)
    (case c13 => k_is)
    (case k13 => k_is)
    (case a14 => k_is)
    (case l14 => k_is)
    (case c14 => k_is)
    (case k14 => k_is)
    (case a15 => k_is)
    (case l15 => k_is)
    (case c15 => k_is)
    (case k15 => k_is)
    (case z_all => k_is)
    (case z_bool => k_is)
    (case z_dict => k_is)
    (case z_isinstance => k_is)
    (case z_len => k_is)
    (case z_list => k_is)
    (case z_max => k_is)
    (case z_min => k_is)
    (case z_range => k_is)
    (case z_repr => k_is)
    (case z_sorted => k_is)
    (case z_tuple => k_is)
