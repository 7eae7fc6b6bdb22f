import PyProof.Rows.All
import Wide.All
import OpenK.AllK
import Wide.FinOn
import PyProof.EqAt
import PyProof.EqKinds
import PyProof.TupleCall
import HandS.ForMost
import KE.KeyNested
import HandS.Nested
import HandS.ExcInit
import HandS.TupAny
import HandS.Flow
import HandS.Deep
import HandS.HotCalls
import HandS.IsInst
import HandS.SortInts
import HandS.More
import HandS.Strs
import HandS.DictComp
import HandS.Iter
import HandS.Zip
import HandS.Words
import KE.GoesMore
import HandS.Dict
import HandS.DictTup
import HandS.FStr
import HandS.TupLe
import HandS.Conv
import HandS.Set
import HandS.SetFor
import HandS.Style
import KE.SortData
import HandS.RaiseMore
import PyProof.ReprRoads
import HandS.HeadHook3
import KE.KDictWalk
import KE.KDictCopyH
import KE.KCallOwn
import KE.KFmtOwn
import PyProof.InstEq
import HandS.Property
import HandS.Defaults
import KE.GoesZip
import KE.LtData
import HandS.TupLen
import KE.KDictDisplayH
import KE.KDictPairs
import HandS.TryOnly
import HandS.DictEq
import HandS.Head0
import HandS.Head1
import HandS.Head2
import HandS.HeadHook1
import HandS.HeadHook2
import HandS.HeadEnd
import HandS.ExcField
import KE.KExcSuper
import KE.KExcInit
import HandS.DictSubMake
import KE.KExcPX
import HandS.ExcIs
import HandS.ExcValue
import HandS.EndTab
import KE.KNestM
import PyProof.ExcBaseAll.ArithmeticError
import PySem.Challenge.RW_leafpackets_k01_constants_and_errors
section
set_option Elab.async false
set_option linter.all false
set_option maxRecDepth 100000
namespace M
open PySem PySem.Spec PyProof.Rows L2
/-- what is known of a tuple's object: nothing, no dict of its own, a plain one of the heap -/
inductive TK where
  | u
  | b
  | p
inductive Dat where
  | non
  | bl (b : Bool)
  | int (i : Int)
  | str (x : Str)
  /-- k: the object is known to bear no dict of its own (its methods may be called) -/
  | tup (k : TK) (xs : List Dat)
  | lst (o : Bool) (xs : List Dat)
  | dct (o : Bool) (ks vs : List Dat)
  | dtt (o : Bool) (ks vs : List Dat)
  /-- a dict whose keys are tuples of any depth -/
  | dxt (o : Bool) (ks vs : List Dat)
  | obj (o : Bool) (c : Nat) (vs : List Dat)
  /-- the law's script: a list of ints that never changes -/
  | scr (ns : List Int)
  /-- the exception at hand: its class, what it keeps -/
  | exn (c : Nat) (vs : List Dat)
  /-- the function at hand: what it has caught -/
  | fnv (vs : List Dat)
mutual
/-- nobody owns any part of it -/
def frz : Dat → Dat
  | .non => .non
  | .bl b => .bl b
  | .int i => .int i
  | .str x => .str x
  | .tup k xs => .tup k (frzs xs)
  | .lst true xs => .lst false (frzs xs)
  | .lst false xs => .lst false xs
  | .dct true ks vs => .dct false ks (frzs vs)
  | .dct false ks vs => .dct false ks vs
  | .dtt true ks vs => .dtt false ks (frzs vs)
  | .dtt false ks vs => .dtt false ks vs
  | .dxt true ks vs => .dxt false ks (frzs vs)
  | .dxt false ks vs => .dxt false ks vs
  | .obj true c vs => .obj false c (frzs vs)
  | .obj false c vs => .obj false c vs
  | .scr ns => .scr ns
  | .exn c vs => .exn c vs
  | .fnv vs => .fnv vs
def frzs : List Dat → List Dat
  | [] => []
  | d :: ds => frz d :: frzs ds
end
abbrev Fz (d : Dat) : Prop := frz d = d
/-- the classes: the name of each and its fields in the order in which they come -/
structure Tb where
  cn : Nat → Str
  fl : Nat → List Str
structure Wd where
  K : PySem.W.Frag
  mg : Str → Option Value
  T : Tb
  w : World
  /-- the tables of code objects, with the names that they tell -/
  tb : List NdefX.NTab
  /-- the exception that is handled: its object, its class, its dict -/
  exo : Option (Addr × Nat × Option Addr)
  /-- the function at hand: its object, its code, its long name, what it has caught -/
  fno : Option (Addr × Addr × Str × List V)
/-- no table of code objects -/
abbrev NT (o : HO) : Prop := ∀ ps, o ≠ .tbl ps
abbrev AS := Addr → Prop
def Em (f : AS) : Prop := ∀ a, ¬ f a
def kD : Key → Dat
  | .inl i => .int i
  | .inr x => .str x
/-- a tuple's object without a dict -/
def Bare (K : PySem.W.Frag) (H : Hp) (a : Addr) : Prop := (∃ o xs, H a = some (.frz o (.tup xs)) ∧ o.dict = none) ∨ ∃ o, K.lookup a = some o ∧ o.cls = .type "tuple" ∧ o.dict = none
/-- the script: locked, or of the written part -/
def Scr (K : PySem.W.Frag) (H : Hp) (a : Addr) (xs : List V) : Prop := (∃ o, H a = some (.frz o (.lst xs))) ∨ ∃ (o : Obj) (its : Array Value) (n : Nat), K.lookup a = some o ∧ o.cls = .type "list" ∧ o.dict = none ∧ o.data = .seq its n ∧ its.size ≤ sizeLine ∧ Vals xs its.toList
/-- what is known of a tuple's object: it bears no dict; or it's a plain one of the heap -/
def TupK (K : PySem.W.Frag) (H : Hp) (a : Addr) (vs : List V) : TK → Prop
  | .u => True
  | .b => Bare K H a
  | .p => H a = some (.tup vs)
mutual
/-- the key that a thing is, at any depth -/
def keyN : Dat → Option NestedKey
  | .non => some .none
  | .bl b => some (.num (if b = true then 1 else 0))
  | .int i => some (.num i)
  | .str x => some (.text x)
  | .tup _ xs => (keyNs xs).map .tup
  | .lst _ _ => none
  | .dct _ _ _ => none
  | .dtt _ _ _ => none
  | .dxt _ _ _ => none
  | .obj _ _ _ => none
  | .scr _ => none
  | .exn _ _ => none
  | .fnv _ => none
def keyNs : List Dat → Option (List NestedKey)
  | [] => some []
  | d :: ds => match keyN d, keyNs ds with
    | some k, some ks => some (k :: ks)
    | _, _ => none
end
/-- the key that a thing is, not too deep -/
def key8 (d : Dat) : Option NestedKey := (keyN d).bind fun k => if k.depth ≤ 8 then some k else none
abbrev NKV := NestedKey × Addr × V
/-- a dict whose keys are tuples of any depth: the keys, the tuples' addresses, what is held -/
def DXo (w : World) (a : Addr) (kvs : List NKV) : HO := .ext fun h => kvs.length ≤ sizeLine ∧ (a == sysModules) = false ∧
  ∃ xs : List (NestedKey × Addr × Value), Paired (fun (p : NKV) (q : NestedKey × Addr × Value) => p.1 = q.1 ∧ p.2.1 = q.2.1 ∧ RelV p.2.2 q.2.2) kvs xs ∧
    ∃ o es ep, h.get? a = some o ∧ o.ExactDict ∧ o.data = .dict es ep ∧ es.toList = xs.map (fun x => (⟨x.1.hash w, .ref x.2.1, x.2.2⟩ : DictEntry)) ∧ (xs.map (·.1)).Nodup
/-- what an exception keeps -/
def ExD (H : Hp) (d : Option Addr) (fs : List (Str × V)) : Prop := (d = none ∧ fs = []) ∨ ∃ da, d = some da ∧ H da = some (.xd fs)
/-- what an exception that is a thing of its own keeps -/
def ExU (F : AS) (H : Hp) (d : Option Addr) (fs : List (Str × V)) : Prop := (d = none ∧ fs = []) ∨ ∃ da, d = some da ∧ Rd H da (exd da fs) ∧ F da
mutual
inductive Rep (W : Wd) (F : AS) (H : Hp) : AS → Dat → V → Prop
  | non {fp} : Em fp → Rep W F H fp .non .non
  | bl {fp} (b : Bool) : Em fp → Rep W F H fp (.bl b) (.bl b)
  | int {fp} (i : Int) : Em fp → Rep W F H fp (.int i) (.int i)
  | str {fp} (x : Str) : Em fp → Rep W F H fp (.str x) (.str x)
  | tup {fp a vs ds k} : SqT W.K H a vs → TupK W.K H a vs k → Reps W F H fp ds vs → Rep W F H fp (.tup k ds) (.ref a)
  | lstF {fp a vs ds} : Em fp → Rd H a (.lst vs) → F a → Reps W F H fp ds vs → Rep W F H fp (.lst false ds) (.ref a)
  | lstO {fp f a vs ds} : H a = some (.lst vs) → Reps W F H f ds vs → ¬ f a → (∀ b, fp b ↔ b = a ∨ f b) → Rep W F H fp (.lst true ds) (.ref a)
  | dctF {fp a kvs ks vs} : Em fp → Rd H a (.dK kvs) → F a → ks = kvs.map (fun p => kD p.1) → Reps W F H fp vs (kvs.map (·.2)) → Rep W F H fp (.dct false ks vs) (.ref a)
  | dctO {fp f a kvs ks vs} : H a = some (.dK kvs) → ks = kvs.map (fun p => kD p.1) → Reps W F H f vs (kvs.map (·.2)) → ¬ f a → (∀ b, fp b ↔ b = a ∨ f b) → Rep W F H fp (.dct true ks vs) (.ref a)
  | dttF {fp a kvs ks vs} : Em fp → Rd H a (.dT kvs) → F a → ks = kvs.map (fun p => Dat.tup .p (p.1.map kD)) → Reps W F H fp vs (kvs.map (·.2)) → Rep W F H fp (.dtt false ks vs) (.ref a)
  | dttO {fp f a kvs ks vs} : H a = some (.dT kvs) → ks = kvs.map (fun p => Dat.tup .p (p.1.map kD)) → Reps W F H f vs (kvs.map (·.2)) → ¬ f a → (∀ b, fp b ↔ b = a ∨ f b) → Rep W F H fp (.dtt true ks vs) (.ref a)
  | dxtF {fp a kvs ks vs} : Em fp → Rd H a (DXo W.w a kvs) → F a → ks.map key8 = kvs.map (fun p => some p.1) → Reps W F H (fun _ => False) ks (kvs.map fun p => V.ref p.2.1) → Reps W F H fp vs (kvs.map (·.2.2)) → Rep W F H fp (.dxt false ks vs) (.ref a)
  | dxtO {fp f a kvs ks vs} : H a = some (DXo W.w a kvs) → ks.map key8 = kvs.map (fun p => some p.1) → Reps W F H (fun _ => False) ks (kvs.map fun p => V.ref p.2.1) → Reps W F H f vs (kvs.map (·.2.2)) → ¬ f a → (∀ b, fp b ↔ b = a ∨ f b) → Rep W F H fp (.dxt true ks vs) (.ref a)
  | objF {fp a C dx fs c vs} : Em fp → W.mg (W.T.cn c) = some (.ref C) → H a = some (.ins C dx fs) → F a → fs.map (·.1) = (W.T.fl c).take vs.length → Reps W F H fp vs (fs.map (·.2)) → Rep W F H fp (.obj false c vs) (.ref a)
  | objO {fp f a C dx fs c vs} : W.mg (W.T.cn c) = some (.ref C) → H a = some (.ins C dx fs) → fs.map (·.1) = (W.T.fl c).take vs.length → Reps W F H f vs (fs.map (·.2)) → ¬ f a → (∀ b, fp b ↔ b = a ∨ f b) → Rep W F H fp (.obj true c vs) (.ref a)
  | scr {fp a ns} : Em fp → Scr W.K H a (ns.map V.int) → Rep W F H fp (.scr ns) (.ref a)
  | exn {fp a c d fs vs} : Em fp → W.exo = some (a, c, d) → ExD H d fs → fs.map (·.1) = (W.T.fl c).take vs.length → Reps W F H fp vs (fs.map (·.2)) → Rep W F H fp (.exn c vs) (.ref a)
  | exv {fp a C d fs c vs} : Em fp → W.mg (W.T.cn c) = some (.ref C) → Rd H a (exo a C d) → F a → ExU F H d fs → fs.map (·.1) = (W.T.fl c).take vs.length → Reps W F H fp vs (fs.map (·.2)) → Rep W F H fp (.exn c vs) (.ref a)
  | fnv {fp a ca q us vs} : Em fp → W.fno = some (a, ca, q, us) → F ca → H ca = some (LamX.CodeO ca q) → Reps W F H fp vs us → Rep W F H fp (.fnv vs) (.ref a)
inductive Reps (W : Wd) (F : AS) (H : Hp) : AS → List Dat → List V → Prop
  | nil {fp} : Em fp → Reps W F H fp [] []
  | cons {fp f1 f2 d v ds vs} : Rep W F H f1 d v → Reps W F H f2 ds vs → (∀ a, f1 a → ¬ f2 a) → (∀ a, fp a ↔ f1 a ∨ f2 a) → Reps W F H fp (d :: ds) (v :: vs)
end
section
variable {W : Wd} {F F' : AS} {H H' : Hp}
mutual
theorem Rep.own : ∀ (d : Dat) (fp : AS) (v : V), Rep W F H fp d v → ∀ a, fp a → Mut (H a)
  | .non, _, _, h, a, q => by cases h with | non e => exact absurd q (e a)
  | .bl _, _, _, h, a, q => by cases h with | bl _ e => exact absurd q (e a)
  | .int _, _, _, h, a, q => by cases h with | int _ e => exact absurd q (e a)
  | .str _, _, _, h, a, q => by cases h with | str _ e => exact absurd q (e a)
  | .tup _ ds, _, _, h, a, q => by cases h with | tup _ _ r => exact Reps.own ds _ _ r a q
  | .lst _ ds, _, _, h, a, q => by
    cases h with
    | lstF e _ _ _ => exact absurd q (e a)
    | lstO e r _ i =>
      rcases (i a).mp q with z | z
      · subst z; rw [e]; exact True.intro
      · exact Reps.own ds _ _ r a z
  | .dct _ ks vs, _, _, h, a, q => by
    cases h with
    | dctF e _ _ _ _ => exact absurd q (e a)
    | dctO e _ r _ i =>
      rcases (i a).mp q with z | z
      · subst z; rw [e]; exact True.intro
      · exact Reps.own vs _ _ r a z
  | .dtt _ ks vs, _, _, h, a, q => by
    cases h with
    | dttF e _ _ _ _ => exact absurd q (e a)
    | dttO e _ r _ i =>
      rcases (i a).mp q with z | z
      · subst z; rw [e]; exact True.intro
      · exact Reps.own vs _ _ r a z
  | .dxt _ ks vs, _, _, h, a, q => by
    cases h with
    | dxtF e _ _ _ _ _ => exact absurd q (e a)
    | dxtO e _ _ r _ i =>
      rcases (i a).mp q with z | z
      · subst z; rw [e]; exact True.intro
      · exact Reps.own vs _ _ r a z
  | .obj _ c vs, _, _, h, a, q => by
    cases h with
    | objF e _ _ _ _ _ => exact absurd q (e a)
    | objO _ e _ r _ i =>
      rcases (i a).mp q with z | z
      · subst z; rw [e]; exact True.intro
      · exact Reps.own vs _ _ r a z
  | .scr ns, _, _, h, a, q => by cases h with | scr e _ => exact absurd q (e a)
  | .exn c vs, _, _, h, a, q => by
    cases h with
    | exn e _ _ _ _ => exact absurd q (e a)
    | exv e _ _ _ _ _ _ => exact absurd q (e a)
  | .fnv vs, _, _, h, a, q => by cases h with | fnv e _ _ _ _ => exact absurd q (e a)
theorem Reps.own : ∀ (ds : List Dat) (fp : AS) (vs : List V), Reps W F H fp ds vs → ∀ a, fp a → Mut (H a)
  | [], _, _, h, a, q => by cases h with | nil e => exact absurd q (e a)
  | d :: ds, _, _, h, a, q => by
    cases h with
    | cons r1 r2 _ i =>
      rcases (i a).mp q with z | z
      · exact Rep.own d _ _ r1 a z
      · exact Reps.own ds _ _ r2 a z
end
theorem Rd.keep {a : Addr} {u : HO} (nt : NT u) (h : Rd H a u) (k : ∀ o, H a = some o → NT o → H' a = some o) : Rd H' a u := by
  rcases h with h | ⟨o, h⟩
  · exact .inl (k _ h nt)
  · exact .inr ⟨o, k _ h fun _ z => nomatch z⟩
theorem SqT.keep {K : PySem.W.Frag} {a : Addr} {xs : List V} (h : SqT K H a xs) (k : ∀ o, H a = some o → NT o → ¬ Mut (some o) → H' a = some o) : SqT K H' a xs := by
  rcases h with (h | ⟨o, h⟩) | h
  · exact .inl (.inl (k _ h (fun _ z => nomatch z) fun z => z))
  · exact .inl (.inr ⟨o, k _ h (fun _ z => nomatch z) fun z => z⟩)
  · exact .inr h
theorem Bare.keep {K : PySem.W.Frag} {a : Addr} (h : Bare K H a) (k : ∀ o, H a = some o → NT o → ¬ Mut (some o) → H' a = some o) : Bare K H' a := by
  rcases h with ⟨o, u, h, z⟩ | h
  · exact .inl ⟨o, u, k _ h (fun _ z => nomatch z) fun z => z, z⟩
  · exact .inr h
theorem TupK.keep {K : PySem.W.Frag} {a : Addr} {vs : List V} {k : TK} (h : TupK K H a vs k) (i : ∀ o, H a = some o → NT o → ¬ Mut (some o) → H' a = some o) : TupK K H' a vs k := by
  cases k with
  | u => exact True.intro
  | b => exact Bare.keep h i
  | p => exact i _ h (fun _ z => nomatch z) fun z => z
mutual
/-- what a description leans on: its own containers, the frozen ones, what never changes -/
theorem Rep.mono (fx : ∀ a, F a → F' a) : ∀ (d : Dat) (fp : AS) (v : V), Rep W F H fp d v → (∀ a o, H a = some o → NT o → (fp a ∨ F a ∨ ¬ Mut (some o)) → H' a = some o) → Rep W F' H' fp d v
  | .non, _, _, h, _ => by cases h with | non e => exact .non e
  | .bl _, _, _, h, _ => by cases h with | bl _ e => exact .bl _ e
  | .int _, _, _, h, _ => by cases h with | int _ e => exact .int _ e
  | .str _, _, _, h, _ => by cases h with | str _ e => exact .str _ e
  | .tup _ ds, _, _, h, k => by cases h with | tup s z r => exact .tup (SqT.keep s fun o e t n => k _ o e t (.inr (.inr n))) (TupK.keep z fun o e t n => k _ o e t (.inr (.inr n))) (Reps.mono fx ds _ _ r k)
  | .lst _ ds, _, _, h, k => by
    cases h with
    | lstF e s f r => exact .lstF e (Rd.keep (fun _ z => nomatch z) s fun o q t => k _ o q t (.inr (.inl f))) (fx _ f) (Reps.mono fx ds _ _ r k)
    | lstO e r n i => exact .lstO (k _ _ e (fun _ z => nomatch z) (.inl ((i _).mpr (.inl rfl)))) (Reps.mono fx ds _ _ r fun a o q t z => k a o q t (z.imp_left fun z => (i a).mpr (.inr z))) n i
  | .dct _ ks vs, _, _, h, k => by
    cases h with
    | dctF e s f x r => exact .dctF e (Rd.keep (fun _ z => nomatch z) s fun o q t => k _ o q t (.inr (.inl f))) (fx _ f) x (Reps.mono fx vs _ _ r k)
    | dctO e x r n i => exact .dctO (k _ _ e (fun _ z => nomatch z) (.inl ((i _).mpr (.inl rfl)))) x (Reps.mono fx vs _ _ r fun a o q t z => k a o q t (z.imp_left fun z => (i a).mpr (.inr z))) n i
  | .dtt _ ks vs, _, _, h, k => by
    cases h with
    | dttF e s f x r => exact .dttF e (Rd.keep (fun _ z => nomatch z) s fun o q t => k _ o q t (.inr (.inl f))) (fx _ f) x (Reps.mono fx vs _ _ r k)
    | dttO e x r n i => exact .dttO (k _ _ e (fun _ z => nomatch z) (.inl ((i _).mpr (.inl rfl)))) x (Reps.mono fx vs _ _ r fun a o q t z => k a o q t (z.imp_left fun z => (i a).mpr (.inr z))) n i
  | .dxt _ ks vs, _, _, h, k => by
    cases h with
    | dxtF e s f x rk r => exact .dxtF e (Rd.keep (fun _ z => nomatch z) s fun o q t => k _ o q t (.inr (.inl f))) (fx _ f) x (Reps.mono fx ks _ _ rk fun a o q t z => k a o q t (z.imp_left False.elim)) (Reps.mono fx vs _ _ r k)
    | dxtO e x rk r n i => exact .dxtO (k _ _ e (fun _ z => nomatch z) (.inl ((i _).mpr (.inl rfl)))) x (Reps.mono fx ks _ _ rk fun a o q t z => k a o q t (z.imp_left False.elim)) (Reps.mono fx vs _ _ r fun a o q t z => k a o q t (z.imp_left fun z => (i a).mpr (.inr z))) n i
  | .obj _ c vs, _, _, h, k => by
    cases h with
    | objF e m s f x r => exact .objF e m (k _ _ s (fun _ z => nomatch z) (.inr (.inl f))) (fx _ f) x (Reps.mono fx vs _ _ r k)
    | objO m e x r n i => exact .objO m (k _ _ e (fun _ z => nomatch z) (.inl ((i _).mpr (.inl rfl)))) x (Reps.mono fx vs _ _ r fun a o q t z => k a o q t (z.imp_left fun z => (i a).mpr (.inr z))) n i
  | .scr ns, _, _, h, k => by
    cases h with
    | scr e s => exact .scr e (s.imp_left fun ⟨o, q⟩ => ⟨o, k _ _ q (fun _ z => nomatch z) (.inr (.inr fun z => z))⟩)
  | .exn c vs, _, _, h, k => by
    cases h with
    | exn e x d f r => exact .exn e x (d.imp_right fun ⟨da, e1, e2⟩ => ⟨da, e1, k _ _ e2 (fun _ z => nomatch z) (.inr (.inr fun z => z))⟩) f (Reps.mono fx vs _ _ r k)
    | exv e m s f x l r => exact .exv e m (Rd.keep (fun _ z => nomatch z) s fun o q t => k _ o q t (.inr (.inl f))) (fx _ f) (x.imp_right fun ⟨da, e1, e2, e3⟩ => ⟨da, e1, Rd.keep (fun _ z => nomatch z) e2 fun o q t => k _ o q t (.inr (.inl e3)), fx _ e3⟩) l (Reps.mono fx vs _ _ r k)
  | .fnv vs, _, _, h, k => by
    cases h with
    | fnv e x f c r => exact .fnv e x (fx _ f) (k _ _ c (fun _ => LamX.codeO_ne _) (.inr (.inl f))) (Reps.mono fx vs _ _ r k)
theorem Reps.mono (fx : ∀ a, F a → F' a) : ∀ (ds : List Dat) (fp : AS) (vs : List V), Reps W F H fp ds vs → (∀ a o, H a = some o → NT o → (fp a ∨ F a ∨ ¬ Mut (some o)) → H' a = some o) → Reps W F' H' fp ds vs
  | [], _, _, h, _ => by cases h with | nil e => exact .nil e
  | d :: ds, _, _, h, k => by
    cases h with
    | cons r1 r2 n i =>
      exact .cons (Rep.mono fx d _ _ r1 fun a o q t z => k a o q t (z.imp_left fun z => (i a).mpr (.inl z))) (Reps.mono fx ds _ _ r2 fun a o q t z => k a o q t (z.imp_left fun z => (i a).mpr (.inr z))) n i
end
mutual
/-- the same with another name of the footprint -/
theorem Rep.eqv : ∀ (d : Dat) (fp fp' : AS) (v : V), Rep W F H fp d v → (∀ a, fp' a ↔ fp a) → Rep W F H fp' d v
  | .non, _, _, _, h, i => by cases h with | non e => exact .non fun a z => e a ((i a).mp z)
  | .bl _, _, _, _, h, i => by cases h with | bl _ e => exact .bl _ fun a z => e a ((i a).mp z)
  | .int _, _, _, _, h, i => by cases h with | int _ e => exact .int _ fun a z => e a ((i a).mp z)
  | .str _, _, _, _, h, i => by cases h with | str _ e => exact .str _ fun a z => e a ((i a).mp z)
  | .tup _ ds, _, _, _, h, i => by cases h with | tup s z r => exact .tup s z (Reps.eqv ds _ _ _ r i)
  | .lst _ ds, _, _, _, h, i => by
    cases h with
    | lstF e s f r => exact .lstF (fun a z => e a ((i a).mp z)) s f (Reps.eqv ds _ _ _ r i)
    | lstO e r n j => exact .lstO e r n fun b => (i b).trans (j b)
  | .dct _ ks vs, _, _, _, h, i => by
    cases h with
    | dctF e s f x r => exact .dctF (fun a z => e a ((i a).mp z)) s f x (Reps.eqv vs _ _ _ r i)
    | dctO e x r n j => exact .dctO e x r n fun b => (i b).trans (j b)
  | .dtt _ ks vs, _, _, _, h, i => by
    cases h with
    | dttF e s f x r => exact .dttF (fun a z => e a ((i a).mp z)) s f x (Reps.eqv vs _ _ _ r i)
    | dttO e x r n j => exact .dttO e x r n fun b => (i b).trans (j b)
  | .dxt _ ks vs, _, _, _, h, i => by
    cases h with
    | dxtF e s f x rk r => exact .dxtF (fun a z => e a ((i a).mp z)) s f x rk (Reps.eqv vs _ _ _ r i)
    | dxtO e x rk r n j => exact .dxtO e x rk r n fun b => (i b).trans (j b)
  | .obj _ c vs, _, _, _, h, i => by
    cases h with
    | objF e m s f x r => exact .objF (fun a z => e a ((i a).mp z)) m s f x (Reps.eqv vs _ _ _ r i)
    | objO m e x r n j => exact .objO m e x r n fun b => (i b).trans (j b)
  | .scr ns, _, _, _, h, i => by cases h with | scr e s => exact .scr (fun a z => e a ((i a).mp z)) s
  | .exn c vs, _, _, _, h, i => by
    cases h with
    | exn e x d f r => exact .exn (fun a z => e a ((i a).mp z)) x d f (Reps.eqv vs _ _ _ r i)
    | exv e m s f x l r => exact .exv (fun a z => e a ((i a).mp z)) m s f x l (Reps.eqv vs _ _ _ r i)
  | .fnv vs, _, _, _, h, i => by cases h with | fnv e x f c r => exact .fnv (fun a z => e a ((i a).mp z)) x f c (Reps.eqv vs _ _ _ r i)
theorem Reps.eqv : ∀ (ds : List Dat) (fp fp' : AS) (vs : List V), Reps W F H fp ds vs → (∀ a, fp' a ↔ fp a) → Reps W F H fp' ds vs
  | [], _, _, _, h, i => by cases h with | nil e => exact .nil fun a z => e a ((i a).mp z)
  | d :: ds, _, _, _, h, i => by cases h with | cons r1 r2 n j => exact .cons r1 r2 n fun a => (i a).trans (j a)
end
end
end M
namespace M
open PySem PySem.Spec PyProof.Rows L2
section
variable {W : Wd} {F F' F1 F2 : AS} {H H' H1 H2 : Hp} {fp fp' fp1 fp2 : AS}
mutual
theorem Rep.em : ∀ (d : Dat) (fp : AS) (v : V), Rep W F H fp d v → frz d = d → Em fp
  | .non, _, _, h, _ => by cases h with | non e => exact e
  | .bl _, _, _, h, _ => by cases h with | bl _ e => exact e
  | .int _, _, _, h, _ => by cases h with | int _ e => exact e
  | .str _, _, _, h, _ => by cases h with | str _ e => exact e
  | .tup _ ds, _, _, h, z => by cases h with | tup s _ r => exact Reps.em ds _ _ r (by simpa [frz] using z)
  | .lst o ds, _, _, h, z => by
    cases h with
    | lstF e _ _ _ => exact e
    | lstO _ _ _ _ => simp [frz] at z
  | .dct o ks vs, _, _, h, z => by
    cases h with
    | dctF e _ _ _ _ => exact e
    | dctO _ _ _ _ _ => simp [frz] at z
  | .dtt o ks vs, _, _, h, z => by
    cases h with
    | dttF e _ _ _ _ => exact e
    | dttO _ _ _ _ _ => simp [frz] at z
  | .dxt o ks vs, _, _, h, z => by
    cases h with
    | dxtF e _ _ _ _ _ => exact e
    | dxtO _ _ _ _ _ _ => simp [frz] at z
  | .obj o c vs, _, _, h, z => by
    cases h with
    | objF e _ _ _ _ _ => exact e
    | objO _ _ _ _ _ _ => simp [frz] at z
  | .scr ns, _, _, h, _ => by cases h with | scr e _ => exact e
  | .exn _ _, _, _, h, _ => by
    cases h with
    | exn e _ _ _ _ => exact e
    | exv e _ _ _ _ _ _ => exact e
  | .fnv _, _, _, h, _ => by cases h with | fnv e _ _ _ _ => exact e
theorem Reps.em : ∀ (ds : List Dat) (fp : AS) (vs : List V), Reps W F H fp ds vs → frzs ds = ds → Em fp
  | [], _, _, h, _ => by cases h with | nil e => exact e
  | d :: ds, _, _, h, z => by
    cases h with
    | cons r1 r2 n i =>
      have z' : frz d :: frzs ds = d :: ds := z
      injection z' with z1 z2
      exact fun a q => ((i a).mp q).elim (Rep.em d _ _ r1 z1 a) (Reps.em ds _ _ r2 z2 a)
end
/-- a thing stays; of a table its being one -/
def Kp (o : HO) (x : Option HO) : Prop := x = some o ∨ ((∃ ps, o = .tbl ps) ∧ ∃ ps, x = some (.tbl ps))
theorem Kp.of {o : HO} {x : Option HO} (h : x = some o) : Kp o x := .inl h
theorem Kp.nt {o : HO} {x : Option HO} (h : Kp o x) (n : NT o) : x = some o := h.resolve_right fun z => z.1.elim fun ps e => n ps e
theorem Kp.ne {o : HO} {x : Option HO} (h : Kp o x) : x ≠ none := by
  rcases h with h | ⟨_, _, h⟩ <;> rw [h] <;> intro z <;> cases z
theorem Kp.no {o : HO} {x : Option HO} {P : Prop} (h : Kp o x) (q : x = none) : P := absurd q h.ne
theorem Kp.trans {o : HO} {x y : Option HO} (h : Kp o x) (k : ∀ o', x = some o' → Kp o' y) : Kp o y := by
  rcases h with h | ⟨⟨ps, e⟩, qs, h⟩
  · exact k o h
  · rcases k _ h with z | ⟨_, z⟩
    · exact .inr ⟨⟨ps, e⟩, qs, z⟩
    · exact .inr ⟨⟨ps, e⟩, z⟩
theorem mut_nt {o : HO} (h : Mut (some o)) : NT o := fun ps e => by rw [e] at h; exact h
/-- a code object -/
def Cod (o : HO) : Prop := ∃ c q, o = LamX.CodeO c q
/-- the tables go on: none is new -/
structure Tgo (H H' : Hp) : Prop where
  tb : ∀ T, NdefX.TabsN T H → NdefX.TabsN T H'
  ta : ∀ b ps, H' b = some (.tbl ps) → ∃ qs, H b = some (.tbl qs)
theorem Tgo.trans (x : Tgo H H1) (y : Tgo H1 H2) : Tgo H H2 := ⟨fun T h => y.tb T (x.tb T h), fun b ps e => let ⟨qs, e1⟩ := y.ta b ps e; x.ta b qs e1⟩
/-- the tables of the law, and no others -/
structure TbOk (T : List NdefX.NTab) (H : Hp) : Prop where
  tb : NdefX.TabsN T H
  ta : ∀ b ps, H b = some (.tbl ps) → ∃ nm, (b, nm) ∈ T
theorem TbOk.go {T : List NdefX.NTab} (x : TbOk T H) (y : Tgo H H1) : TbOk T H1 := ⟨y.tb T x.tb, fun b ps e => let ⟨qs, e1⟩ := y.ta b ps e; x.ta b qs e1⟩
theorem Tgo.upd {A : Addr} {o u : HO} (e : H A = some o) (n : NT o) (k : ¬ Cod o) (n2 : NT u) : Tgo H (L2.upd H A u) := by
  refine ⟨fun T t p hp => ?_, fun b ps q => ?_⟩
  · obtain ⟨ps, h1, h2, h3⟩ := t p hp
    refine ⟨ps, ?_, h2, fun pos cv hc => ?_⟩
    · rw [upd_ne]; exact h1
      intro z; rw [z, e] at h1; cases h1; exact n _ rfl
    · obtain ⟨c, e1, e2⟩ := h3 pos cv hc
      refine ⟨c, e1, ?_⟩
      rw [upd_ne]; exact e2
      intro z; rw [z, e] at e2; cases e2; exact k ⟨_, _, rfl⟩
  · by_cases z : b = A
    · rw [z, upd_same] at q; cases q; exact absurd rfl (n2 ps)
    · rw [upd_ne z] at q; exact ⟨ps, q⟩
/-- the owned ones are no frozen ones, and can change; the tables are there -/
structure Ok (W : Wd) (F : AS) (H : Hp) (fp : AS) : Prop where
  nf : ∀ a, fp a → ¬ F a
  own : ∀ a, fp a → Mut (H a)
  lv : ∀ a, F a → H a ≠ none
  tb : TbOk W.tb H
/-- from one state to a later one -/
structure Step (W : Wd) (F : AS) (H : Hp) (fp F' : AS) (H' : Hp) (fp' : AS) : Prop where
  kp : ∀ a o, H a = some o → ¬ fp a → Kp o (H' a)
  fx : ∀ a, F a → F' a
  fb : ∀ a, F' a → F a ∨ fp a ∨ H a = none
  nw : ∀ a, fp' a → fp a ∨ H a = none
  ok : Ok W F' H' fp'
theorem Ok.sub (x : Ok W F H fp) (h : ∀ a, fp' a → fp a) : Ok W F H fp' := ⟨fun a z => x.nf a (h a z), fun a z => x.own a (h a z), x.lv, x.tb⟩
theorem Step.sub (x : Step W F H fp F1 H1 fp1) (h : ∀ a, fp2 a → fp1 a) : Step W F H fp F1 H1 fp2 := ⟨x.kp, x.fx, x.fb, fun a z => x.nw a (h a z), x.ok.sub h⟩
theorem Step.lft (x : Step W F H fp F1 H1 fp1) (i : ∀ a, fp a → fp2 a) : Step W F H fp2 F1 H1 fp1 := ⟨fun a o e n => x.kp a o e fun z => n (i a z), x.fx, fun a z => (x.fb a z).imp_right fun z => z.imp_left (i a), fun a z => (x.nw a z).imp_left (i a), x.ok⟩
theorem Step.trans (x : Step W F H fp F1 H1 fp1) (y : Step W F1 H1 fp1 F2 H2 fp2) : Step W F H fp F2 H2 fp2 where
  kp := fun a o e n => (x.kp a o e n).trans fun o' e' => y.kp a o' e' fun z => (x.nw a z).elim n fun q => by rw [q] at e; cases e
  fx := fun a z => y.fx a (x.fx a z)
  fb := fun a z => by
    rcases y.fb a z with q | q | q
    · exact x.fb a q
    · exact .inr (x.nw a q)
    · cases e : H a with
      | none => exact .inr (.inr rfl)
      | some o =>
        by_cases n : fp a
        · exact .inr (.inl n)
        · exact (x.kp a o e n).no q
  nw := fun a z => by
    rcases y.nw a z with q | q
    · exact x.nw a q
    · cases e : H a with
      | none => exact .inr rfl
      | some o =>
        by_cases n : fp a
        · exact .inl n
        · exact (x.kp a o e n).no q
  ok := y.ok
/-- a step of a part: what else is owned stays owned -/
theorem Step.frame {g : AS} (x : Step W F H fp F1 H1 fp1) (og : Ok W F H g) (dj : ∀ a, fp a → ¬ g a) : Step W F H (fun a => fp a ∨ g a) F1 H1 (fun a => fp1 a ∨ g a) ∧ ∀ a, fp1 a → ¬ g a := by
  have live : ∀ a, g a → ∃ o, H a = some o := fun a z => by
    have := og.own a z
    cases e : H a with
    | none => rw [e] at this; exact this.elim
    | some o => exact ⟨o, rfl⟩
  have keep : ∀ a, g a → H1 a = H a := fun a z => by
    obtain ⟨o, e⟩ := live a z
    have m := og.own a z
    rw [e] at m ⊢
    exact (x.kp a o e fun q => dj a q z).nt (mut_nt m)
  refine ⟨⟨fun a o e n => x.kp a o e fun z => n (.inl z), x.fx, fun a z => ?_, fun a z => ?_, ⟨fun a z => ?_, fun a z => ?_, x.ok.lv, x.ok.tb⟩⟩, fun a z q => ?_⟩
  · rcases x.fb a z with q | q | q
    · exact .inl q
    · exact .inr (.inl (.inl q))
    · exact .inr (.inr q)
  · rcases z with z | z
    · rcases x.nw a z with q | q
      · exact .inl (.inl q)
      · exact .inr q
    · exact .inl (.inr z)
  · rcases z with z | z
    · exact x.ok.nf a z
    · intro q
      rcases x.fb a q with q | q | q
      · exact og.nf a z q
      · exact dj a q z
      · obtain ⟨o, e⟩ := live a z; rw [q] at e; cases e
  · rcases z with z | z
    · exact x.ok.own a z
    · rw [keep a z]; exact og.own a z
  · rcases x.nw a z with r | r
    · exact dj a r q
    · obtain ⟨o, e⟩ := live a q; rw [r] at e; cases e
/-- all stays, of the tables their being tables -/
abbrev Keep (H H' : Hp) : Prop := ∀ a o, H a = some o → Kp o (H' a)
theorem Keep.rfl : Keep H H := fun _ _ e => .of e
theorem Keep.of (h : ∀ a o, H a = some o → H' a = some o) : Keep H H' := fun a o e => .of (h a o e)
theorem Keep.nt (h : Keep H H') : ∀ a o, H a = some o → NT o → H' a = some o := fun a o e n => (h a o e).nt n
theorem Reps.length : ∀ {ds : List Dat} {fp : AS} {vs : List V}, Reps W F H fp ds vs → ds.length = vs.length
  | [], _, _, h => by cases h; rfl
  | d :: ds, _, _, h => by
    cases h with
    | cons r1 r2 n i => show ds.length + 1 = _ + 1; rw [Reps.length r2]
theorem Reps.get : ∀ {ds : List Dat} {fp : AS} {vs : List V} {i : Nat} {d : Dat}, Reps W F H fp ds vs → ds[i]? = some d → ∃ v f, vs[i]? = some v ∧ Rep W F H f d v ∧ ∀ a, f a → fp a
  | [], _, _, _, _, h, e => by simp at e
  | d :: ds, _, _, 0, x, h, e => by
    cases h with
    | cons r1 r2 n i =>
      simp at e; subst e
      exact ⟨_, _, rfl, r1, fun a z => (i a).mpr (.inl z)⟩
  | d :: ds, _, _, k + 1, x, h, e => by
    cases h with
    | cons r1 r2 n i =>
      obtain ⟨v, f, e1, r, s⟩ := Reps.get (i := k) r2 (by simpa using e)
      exact ⟨v, f, by simpa using e1, r, fun a z => (i a).mpr (.inr (s a z))⟩
/-- the parts of something that nobody owns -/
theorem Reps.all {fp : AS} {ds : List Dat} {vs : List V} (h : Reps W F H fp ds vs) (e : Em fp) : ∀ (i : Nat) (d : Dat) (v : V), ds[i]? = some d → vs[i]? = some v → ∀ g, Em g → Rep W F H g d v := fun i d v h1 h2 g eg => by
  obtain ⟨v', f, e1, r, s⟩ := h.get h1
  rw [h2] at e1; cases e1
  exact Rep.eqv _ _ _ _ r fun a => ⟨fun z => absurd z (eg a), fun z => absurd (s a z) (e a)⟩
abbrev Env := List (Option Dat)
inductive Sl (W : Wd) (F : AS) (H : Hp) : AS → Env → L2.St → Prop
  | em {q : AS} : Em q → Sl W F H q [] []
  | no {q : AS} {env : Env} {x : Option V} {σ : L2.St} : Sl W F H q env σ → Sl W F H q (none :: env) (x :: σ)
  | so {q f g : AS} {d : Dat} {v : V} {env : Env} {σ : L2.St} : Rep W F H f d v → Sl W F H g env σ → (∀ a, f a → ¬ g a) → (∀ a, q a ↔ f a ∨ g a) → Sl W F H q (some d :: env) (some v :: σ)
theorem Sl.mono {env : Env} {σ : L2.St} (h : Sl W F H fp env σ) (fx : ∀ a, F a → F' a) (k : ∀ a o, H a = Option.some o → NT o → (fp a ∨ F a ∨ ¬ Mut (Option.some o)) → H' a = Option.some o) : Sl W F' H' fp env σ := by
  induction h with
  | em e => exact .em e
  | no _ ih => exact .no (ih k)
  | so r s n j ih => exact .so (Rep.mono fx _ _ _ r fun a o e t z => k a o e t (z.imp_left fun z => (j a).mpr (.inl z))) (ih fun a o e t z => k a o e t (z.imp_left fun z => (j a).mpr (.inr z))) n j
theorem Sl.length {env : Env} {σ : L2.St} (h : Sl W F H fp env σ) : env.length = σ.length := by
  induction h with
  | em _ => rfl
  | no _ ih => simp [ih]
  | so _ _ _ _ ih => simp [ih]
theorem Sl.own {env : Env} {σ : L2.St} (h : Sl W F H fp env σ) : ∀ a, fp a → Mut (H a) := by
  induction h with
  | em e => exact fun a z => absurd z (e a)
  | no _ ih => exact ih
  | so r s n j ih => exact fun a z => ((j a).mp z).elim (Rep.own _ _ _ r a) (ih a)
/-- a slot: what stands in it, and the environment with other things in it -/
theorem Sl.at_ {env : Env} {σ : L2.St} {i : Nat} {d : Dat} (h : Sl W F H fp env σ) (e : env[i]? = Option.some (Option.some d)) :
    ∃ v f g, σ[i]? = Option.some (Option.some v) ∧ Rep W F H f d v ∧ (∀ a, fp a ↔ f a ∨ g a) ∧ (∀ a, f a → ¬ g a) ∧ Sl W F H g (env.set i none) σ := by
  induction h generalizing i with
  | em _ => simp at e
  | @no fp env x σ s ih =>
    cases i with
    | zero => simp at e
    | succ k =>
      obtain ⟨v, f, g, e1, r, j, n, s'⟩ := ih (by simpa using e)
      exact ⟨v, f, g, by simpa using e1, r, j, n, .no s'⟩
  | @so fp f0 g0 d0 v0 env σ r s n j ih =>
    cases i with
    | zero =>
      simp at e; subst e
      exact ⟨v0, f0, g0, rfl, r, j, n, .no s⟩
    | succ k =>
      obtain ⟨v, f, g, e1, r', j', n', s'⟩ := ih (by simpa using e)
      refine ⟨v, f, fun a => f0 a ∨ g a, by simpa using e1, r', fun a => ?_, fun a z q => ?_,   .so r s' (fun a z q => n a z ((j' a).mpr (.inr q))) fun a => Iff.rfl⟩
      · rw [j a, j' a]
        exact ⟨fun z => by rcases z with z | z | z; exact .inr (.inl z); exact .inl z; exact .inr (.inr z), fun z => by rcases z with z | z | z; exact .inr (.inl z); exact .inl z; exact .inr (.inr z)⟩
      · rcases q with q | q
        · exact n a q ((j' a).mpr (.inl z))
        · exact n' a z q
end
end M
namespace M
open PySem PySem.Spec PyProof.Rows L2
structure Ctx where
  P : Program
  w : World
  K : PySem.W.Frag
  mg : Str → Option Value
  base : Heap
  T : Tb
  N : List Str
  sc : Scope
  k : Nat
  pin : List Nat
  fnc : Str → Bool
  /-- whether no repr is under way around -/
  gd : Bool
  /-- the tables of code objects -/
  tb : List NdefX.NTab
  /-- the code object of the def at work, where it is known, and the def's long name -/
  cq : Option (Addr × Str)
  /-- within an except suite, or called from one -/
  hot : Bool
  exo : Option (Addr × Nat × Option Addr)
  fno : Option (Addr × Addr × Str × List V)
abbrev Ctx.W (C : Ctx) : Wd := ⟨C.K, C.mg, C.T, C.w, C.tb, C.exo, C.fno⟩
abbrev NoA : AS := fun _ => False
/-- behind an expression whose value is only looked at -/
structure Pv (W : Wd) (pr : Bool) (F : AS) (H : Hp) (fp : AS) (σ : L2.St) (env : Env) (F' : AS) (H' : Hp) (fe fd : AS) (d : Dat) (v : V) : Prop where
  sl : Sl W F' H' fe env σ
  rep : Rep W F' H' fd d v
  st : Step W F H fp F' H' fe
  pu : pr = true → Keep H H'
abbrev LE := Env → (Dat → Env → Prop) → Prop
abbrev LT := Env → (Bool → Env → Prop) → Prop
section
variable {C : Ctx} {W : Wd} {pr p1 p2 p3 : Bool} {F F' F1 F2 : AS} {H H' H1 H2 : Hp} {fp fp' fe fe1 fe2 fd fd1 fd2 : AS} {σ : L2.St} {env env1 env2 : Env} {d d1 d2 : Dat} {v v1 v2 : V}
theorem Pv.em (h : Pv W pr F H fp σ env F' H' fe fd d v) (z : Fz d) : Em fd := Rep.em d fd v h.rep z
theorem Keep.trans {H H1 H2 : Hp} (a : Keep H H1) (b : Keep H1 H2) : Keep H H2 := fun x o e => (a x o e).trans fun o' e' => b x o' e'
/-- a constant of the module -/
structure Cn (C : Ctx) (x : Str) (d : Dat) : Prop where
  ex : ∃ v u, C.mg x = some u ∧ RelV v u ∧ ∀ F H, Rep C.W F H NoA d v
def w2 (p2 : Bool) (wa wb : LE) (r : Dat → Dat → (Dat → Prop) → Prop) : LE := fun env Q => wa env fun x env1 => wb env1 fun y env2 => (p2 = true ∨ Fz x) ∧ r x y fun d => Q d env2
end
end M
namespace M
open PySem PySem.Spec PyProof.Rows L2
section
variable {C : Ctx} {W : Wd} {pr p1 p2 p3 : Bool} {F F' F1 F2 : AS} {H H' H1 H2 : Hp} {fp fp' fe fe1 fe2 fd fd1 fd2 : AS} {σ : L2.St} {env env1 env2 : Env} {d d1 d2 : Dat} {v v1 v2 : V}
variable {a b c : Expr} {pos : Pos} {wa wb wc : LE} {ta tb : LT}
theorem Reps.isEmpty {ds : List Dat} {vs : List V} (r : Reps W F H fp ds vs) : vs.isEmpty = ds.isEmpty := by cases r <;> rfl
end
end M
namespace M
open PySem PySem.Spec PyProof.Rows L2
section
variable {C : Ctx} {W : Wd} {pr p1 p2 p3 : Bool} {F F' F1 F2 : AS} {H H' H1 H2 : Hp} {fp fp' fe fe1 fe2 fd fd1 fd2 : AS} {σ : L2.St} {env env1 env2 : Env} {d d1 d2 : Dat} {v v1 v2 : V}
variable {a b c : Expr} {pos p : Pos} {wa wb wc : LE} {ta tb : LT}
def w1 (w : LE) (r : Dat → (Dat → Prop) → Prop) : LE := fun env Q => w env fun x env1 => r x fun d => Q d env1
end
end M
namespace M
open PySem PySem.Spec PyProof.Rows L2
/-- what of the text a class of ours must have -/
structure ClsOk (C : Ctx) (c : Nat) : Prop where
  cls : ∀ A, C.mg (C.T.cn c) = some (.ref A) → Cls C.K A
  no : ∀ A, C.mg (C.T.cn c) = some (.ref A) → ∀ f ∈ C.T.fl c, NoAttr C.K A f
  nd : (C.T.fl c).Nodup
section
variable {C : Ctx} {W : Wd} {pr p1 p2 p3 : Bool} {F F' F1 F2 : AS} {H H' H1 H2 : Hp} {fp fp' fe fe1 fe2 fd fd1 fd2 : AS} {σ : L2.St} {env env1 env2 : Env} {d d1 d2 : Dat} {v v1 v2 : V}
variable {a b c o e : Expr} {pos p : Pos} {wa wb wc : LE} {ta tb : LT}
theorem Reps.take : ∀ (n : Nat) {ds : List Dat} {vs : List V}, Reps W F H NoA ds vs → Reps W F H NoA (ds.take n) (vs.take n)
  | 0, _, _, h => .nil fun _ z => z
  | n + 1, [], _, h => by cases h; exact .nil fun _ z => z
  | n + 1, d :: ds, _, h => by
    cases h with
    | cons r1 r2 m i => exact .cons (f1 := NoA) (f2 := NoA) (Rep.eqv _ _ _ _ r1 fun a => ⟨fun z => z.elim, fun z => (i a).mpr (.inl z)⟩) (Reps.take n (Reps.eqv _ _ _ _ r2 fun a => ⟨fun z => z.elim, fun z => (i a).mpr (.inr z)⟩)) (fun _ z => z.elim) fun a => ⟨fun z => z.elim, fun z => z.elim id id⟩
end
end M
namespace M
open PySem PySem.Spec PyProof.Rows L2
structure SK where
  nx : Env → Prop
  rt : Dat → Env → Prop
  bk : Env → Prop
  ct : Env → Prop
abbrev LS := Env → SK → Prop
/-- behind a statement that goes on -/
structure Sn (C : Ctx) (σ : L2.St) (F : AS) (H : Hp) (fp : AS) (env : Env) (F' : AS) (H' : Hp) (fe : AS) (σ' : L2.St) : Prop where
  sl : Sl C.W F' H' fe env σ'
  st : Step C.W F H fp F' H' fe
  pin : ∀ i ∈ C.pin, σ'[i]? = σ[i]?
  ln : σ'.length = σ.length
section
variable {C : Ctx} {D : Ends} {σ σ1 : L2.St} {F F1 : AS} {H H1 : Hp} {fp fe : AS} {env env1 : Env} {k : SK} {pr p1 p2 : Bool} {pos : Pos} {e a : Expr} {w wa : LE} {w1 w2 : LS} {st : Stmt} {rest : List Stmt} {t : LT}
theorem Sn.trans {env2 : Env} {F2 : AS} {H2 : Hp} {fe2 : AS} {σ2 : L2.St} (x : Sn C σ F H fp env1 F1 H1 fe σ1) (y : Sn C σ1 F1 H1 fe env2 F2 H2 fe2 σ2) : Sn C σ F H fp env2 F2 H2 fe2 σ2 :=
  ⟨y.sl, x.st.trans y.st, fun i h => (y.pin i h).trans (x.pin i h), y.ln.trans x.ln⟩
theorem Reps.cons1 {W : Wd} {d : Dat} {ds : List Dat} {vs : List V} (r : Reps W F H NoA (d :: ds) vs) : ∃ v us, vs = v :: us ∧ Rep W F H NoA d v ∧ Reps W F H NoA ds us := by
  cases r with
  | cons r1 r2 _ i => exact ⟨_, _, rfl, Rep.eqv _ _ _ _ r1 fun a => ⟨fun z => z.elim, fun z => (i a).mpr (.inl z)⟩, Reps.eqv _ _ _ _ r2 fun a => ⟨fun z => z.elim, fun z => (i a).mpr (.inr z)⟩⟩
end
end M
namespace M
open PySem PySem.Spec PyProof.Rows L2
section
variable {C : Ctx} {D : Ends} {W : Wd} {σ σ1 : L2.St} {F F1 : AS} {H H1 : Hp} {fp fe f g fd : AS} {env env1 : Env} {k : SK} {pr p1 p2 : Bool} {pos : Pos} {e a b : Expr} {w wa wb : LE} {w1 w2 : LS} {st : Stmt} {rest : List Stmt} {t : LT} {d : Dat} {v : V}
/-- a container that may be written -/
abbrev Wr (H : Hp) (A : Addr) : Prop := ∃ u, H A = some u ∧ NT u ∧ ¬ Cod u
theorem Wr.go {A : Addr} {o : HO} (x : Wr H A) (n : NT o) : Tgo H (L2.upd H A o) := let ⟨_, h, a, b⟩ := x; Tgo.upd h a b n
theorem Rep.upd {A : Addr} {o : HO} {h : AS} (r : Rep W F H h d v) (hm : Mut (H A)) (nF : ¬ F A) (nh : ¬ h A) : Rep W F (L2.upd H A o) h d v := Rep.mono (fun _ z => z) d _ _ r fun a u e _ z => by
  rw [upd_ne]
  · exact e
  · rintro rfl
    rcases z with z | z | z
    · exact nh z
    · exact nF z
    · exact z (by rw [← e]; exact hm)
theorem Reps.upd {A : Addr} {o : HO} {h : AS} {ds : List Dat} {vs : List V} (r : Reps W F H h ds vs) (hm : Mut (H A)) (nF : ¬ F A) (nh : ¬ h A) : Reps W F (L2.upd H A o) h ds vs := Reps.mono (fun _ z => z) ds _ _ r fun a u e _ z => by
  rw [upd_ne]
  · exact e
  · rintro rfl
    rcases z with z | z | z
    · exact nh z
    · exact nF z
    · exact z (by rw [← e]; exact hm)
theorem Reps.set : ∀ {ds : List Dat} {vs : List V} (j : Nat), Reps W F H NoA ds vs → Rep W F H NoA d v → Reps W F H NoA (ds.set j d) (vs.set j v)
  | [], _, _, h, _ => by cases h; exact .nil fun _ z => z
  | x :: xs, _, 0, h, r => by
    obtain ⟨u, us, rfl, r1, r2⟩ := h.cons1
    exact .cons (f1 := NoA) (f2 := NoA) r r2 (fun _ z => z.elim) fun a => ⟨fun z => z.elim, fun z => z.elim id id⟩
  | x :: xs, _, j + 1, h, r => by
    obtain ⟨u, us, rfl, r1, r2⟩ := h.cons1
    exact .cons (f1 := NoA) (f2 := NoA) r1 (Reps.set j r2 r) (fun _ z => z.elim) fun a => ⟨fun z => z.elim, fun z => z.elim id id⟩
def putAt (vs : List Dat) (j : Nat) (d : Dat) : Option (List Dat) := if j < vs.length then some (vs.set j d) else if j = vs.length then some (vs ++ [d]) else none
end
end M
namespace M
open PySem PySem.Spec PyProof.Rows L2
section
variable {C : Ctx} {D : Ends} {W : Wd} {σ σ1 : L2.St} {F F1 F' : AS} {H H1 H' : Hp} {fp fe f g fd : AS} {env env1 : Env} {k : SK} {pr p1 p2 : Bool} {pos p : Pos} {tg e a b c : Expr} {w wa wb : LE} {w1 w2 : LS} {st : Stmt} {rest body : List Stmt} {t : LT} {d : Dat} {v : V}
theorem Reps.rep {ds : List Dat} {vs : List V} {i : Nat} (r : Reps W F H NoA ds vs) (e : ds[i]? = some d) : ∃ v, vs[i]? = some v ∧ Rep W F H NoA d v := by
  obtain ⟨v, f, e1, r1, s⟩ := r.get e
  exact ⟨v, e1, Rep.eqv _ _ _ _ r1 fun a => ⟨fun z => z.elim, fun z => s a z⟩⟩
end
end M
namespace M
open PySem PySem.Spec PyProof.Rows L2
section
variable {C : Ctx} {D : Ends} {W : Wd} {σ σ1 σ' : L2.St} {F F1 F' : AS} {H H1 H' : Hp} {fp fe f g fd : AS} {env env1 env' : Env} {k : SK} {pr p1 p2 : Bool} {pos p : Pos} {tg e a b c elt iter kx vx : Expr} {w wa wb we wk wv : LE} {w1 w2 : LS} {st : Stmt} {rest body : List Stmt} {t : LT} {d : Dat} {v : V}
def wipeE (env : Env) : List Nat → Env
  | [] => env
  | v :: vs => (wipeE env vs).set v none
structure DS (W : Wd) (F : AS) (H : Hp) (fp : AS) (A : Addr) (u : HO) : Prop where
  at_ : H A = some u
  nD : ¬ fp A
  mu : Mut (some u) ∧ ¬ Cod u
  ok : Ok W F H (fun a => fp a ∨ a = A)
theorem DS.go {A : Addr} {u : HO} (x : DS W F H fp A u) (sub : ∀ a, g a → fp a) (st : Step W F H g F' H' fe) : DS W F' H' fe A u ∧ Step W F H (fun a => fp a ∨ a = A) F' H' (fun a => fe a ∨ a = A) := by
  have fr := st.frame (g := fun a => a = A) (x.ok.sub fun _ => .inr) fun a z q => x.nD (q ▸ sub a z)
  refine ⟨⟨(st.kp A u x.at_ fun z => x.nD (sub A z)).nt (mut_nt x.mu.1), fun z => fr.2 A z rfl, x.mu, fr.1.ok⟩, fr.1.lft fun a z => z.imp_left (sub a)⟩
theorem DS.set {A : Addr} {u u' : HO} (x : DS W F H fp A u) (hm : Mut (some u') ∧ ¬ Cod u') : DS W F (upd H A u') fp A u' ∧ Step W F H (fun a => fp a ∨ a = A) F (upd H A u') (fun a => fp a ∨ a = A) := by
  have nF : ¬ F A := x.ok.nf A (.inr rfl)
  have ok' : Ok W F (upd H A u') (fun a => fp a ∨ a = A) := by
    refine ⟨x.ok.nf, fun a z => ?_, fun a z => ?_, x.ok.tb.go (Tgo.upd x.at_ (mut_nt x.mu.1) x.mu.2 (mut_nt hm.1))⟩
    · by_cases q : a = A
      · subst q; rw [upd_same]; exact hm.1
      · rw [upd_ne q]; exact x.ok.own a z
    · by_cases q : a = A
      · subst q; exact absurd z nF
      · rw [upd_ne q]; exact x.ok.lv a z
  refine ⟨⟨upd_same, x.nD, hm, ok'⟩, ⟨fun a o e z => ?_, fun _ z => z, fun a z => .inl z, fun a z => .inl z, ok'⟩⟩
  refine .of ?_
  rw [upd_ne (fun q => z (.inr q))]; exact e
theorem DS.sl {A : Addr} {u u' : HO} (x : DS W F H fp A u) (s : Sl W F H fp env σ) : Sl W F (upd H A u') fp env σ := s.mono (fun _ z => z) fun a o e _ z => by
  rw [upd_ne]
  · exact e
  · rintro rfl
    rcases z with z | z | z
    · exact x.nD z
    · exact x.ok.nf a (.inr rfl) z
    · rw [x.at_] at e; cases e; exact z x.mu.1
end
end M
namespace PySem
open Sem (wp)
open AutoSeq1 (wpAny_loadPart')
end PySem
namespace M
open PySem PySem.Spec PyProof.Rows L2
section
variable {C : Ctx} {D : Ends} {W : Wd} {σ σ' : L2.St} {F F' : AS} {H H' : Hp} {fp fp' fe f g fd : AS} {env env' : Env} {d : Dat} {v : V} {A : Addr} {u : HO} {od : Obj} {k : SK} {pr : Bool}
/-- a dict of the heap -/
def IsDk (u : HO) : Prop := (∃ kvs, u = .dK kvs) ∨ (∃ kvs, u = .dT kvs) ∨ ∃ φ : {φ : Heap → Prop // ¬ Cod (.ext φ)}, u = .ext φ.1
theorem IsDk.nt {u : HO} (h : IsDk u) : NT u := by
  rcases h with ⟨_, rfl⟩ | ⟨_, rfl⟩ | ⟨_, rfl⟩ <;> exact fun _ z => nomatch z
/-- the same things, the dict at A locked (or not) -/
structure Lk (H H' : Hp) (A : Addr) (u : HO) : Prop where
  h : Rd H A u
  h' : Rd H' A u
  o : ∀ a, a ≠ A → H' a = H a
theorem Lk.at_ {a : Addr} {o : HO} (l : Lk H H' A u) (e : H a = some o) (n : a ≠ A) : H' a = some o := (l.o a n).trans e
end
end M
namespace M
open PySem PySem.Spec PyProof.Rows L2
def valN (kvs : List NKV) (k : NestedKey) : Option V := (kvs.find? fun p => decide (p.1 = k)).map (·.2.2)
def NTk (kvs : List NKV) (xs : List (NestedKey × Addr × Value)) : Prop := Paired (fun (p : NKV) (q : NestedKey × Addr × Value) => p.1 = q.1 ∧ p.2.1 = q.2.1 ∧ RelV p.2.2 q.2.2) kvs xs
theorem NTk.val : ∀ {kvs : List NKV} {xs : List (NestedKey × Addr × Value)} (k : NestedKey), NTk kvs xs → RelO (valN kvs k) ((atKey xs k).map (·.2))
  | _, _, k, .nil => True.intro
  | _, _, k, .cons (a := (j, a, v)) (b := (j', a', u)) r t => by
    obtain ⟨e1, e2, r⟩ := r
    simp only at e1 e2
    subst e1 e2
    have ih := NTk.val k t
    by_cases c : j = k
    · simp only [valN, atKey, List.find?_cons, c, decide_true, Option.map_some]; exact r
    · simp only [valN, atKey, List.find?_cons, c, decide_false] at ih ⊢; exact ih
theorem NTk.map (k : NestedKey) {v : V} {u : Value} (rv : RelV v u) : ∀ {kvs : List NKV} {xs : List (NestedKey × Addr × Value)}, NTk kvs xs → NTk (kvs.map fun p => if p.1 = k then (p.1, p.2.1, v) else p) (xs.map (PySem.putAt k u))
  | _, _, .nil => .nil
  | _, _, .cons (a := (j, a, v)) (b := (j', a', u)) r t => by
    obtain ⟨e1, e2, r⟩ := r
    simp only at e1 e2
    subst e1 e2
    refine .cons ?_ (NTk.map k rv t)
    unfold PySem.putAt
    by_cases c : j = k
    · simp only [c, if_true]; exact ⟨trivial, trivial, rv⟩
    · simp only [c, if_false]; exact ⟨trivial, trivial, r⟩
end M
namespace M
noncomputable section
open PySem PySem.Spec PyProof.Rows L2
/-- a slot, a slot stored: made so that the kernel goes through them quickly -/
def getE (env : Env) : Nat → Option (Option Dat) := List.rec (motive := fun _ => Nat → Option (Option Dat)) (fun _ => none) (fun x _ ih i => Nat.rec (motive := fun _ => Option (Option Dat)) (some x) (fun j _ => ih j) i) env
def setE (env : Env) : Nat → Option Dat → Env := List.rec (motive := fun _ => Nat → Option Dat → Env) (fun _ _ => []) (fun x xs ih i d => Nat.rec (motive := fun _ => Env) (d :: xs) (fun j _ => x :: ih j d) i) env
@[simp] theorem getE_eq : ∀ (env : Env) (i : Nat), getE env i = env[i]?
  | [], _ => rfl
  | _ :: _, 0 => rfl
  | x :: env, i + 1 => by
    rw [List.getElem?_cons_succ, ← getE_eq env i]; rfl
@[simp] theorem setE_eq : ∀ (env : Env) (i : Nat) (d : Option Dat), setE env i d = env.set i d
  | [], _, _ => rfl
  | _ :: _, 0, _ => rfl
  | x :: env, i + 1, d => by
    rw [List.set_cons_succ, ← setE_eq env i d]; rfl
def wipeX (env : Env) (vs : List Nat) : Env := List.rec (motive := fun _ => Env) env (fun v _ ih => setE ih v none) vs
@[simp] theorem wipeX_eq (env : Env) : ∀ vs : List Nat, wipeX env vs = wipeE env vs
  | [] => rfl
  | v :: vs => by
    show setE (wipeX env vs) v none = _
    rw [setE_eq, wipeX_eq env vs]; rfl
end
end M
namespace M
noncomputable section
open PySem PySem.Spec PyProof.Rows L2
instance : ∀ i j, Decidable (CDiv i j) := fun i j => by unfold CDiv; infer_instance
instance : ∀ i j, Decidable (CMul i j) := fun i j => by unfold CMul; infer_instance
instance : ∀ i j, Decidable (CPow i j) := fun i j => by unfold CPow; infer_instance
end
end M
namespace M
noncomputable section
open PySem PySem.Spec PyProof.Rows L2
section
variable {C : Ctx} {a b c o e iter elt kx vx tg tg1 : Expr} {es rest : List Expr} {pos p : Pos}
instance : ∀ i j c n, Decidable (RgC i j c n) := fun i j c n => by unfold RgC; infer_instance
end
end
end M
namespace M
noncomputable section
open PySem PySem.Spec PyProof.Rows L2
/-- a class of the top, with names that it and its bases have not -/
def ClsIn (K : PySem.W.Frag) (x : Str) (A : Addr) : Prop := PySem.W.nsIn K mainGlobals x = some (some (.ref A)) ∧ Cls K A
section
variable {C : Ctx} {h : Heap} {x qual m : Str} {st : Stmt} {ps : List Str} {A : Addr} {c : Nat}
theorem ClsIn.ok (X : C.K.In h) (G : h.Ns mainGlobals C.mg) (k : ClsIn C.K x A) (e : C.T.cn c = x) (nd : (C.T.fl c).Nodup) (no : ∀ f ∈ C.T.fl c, NoAttr C.K A f) : ClsOk C c := by
  have q := PySem.W.mg_of X G k.1
  refine ⟨fun A' z => ?_, fun A' z => ?_, nd⟩ <;> (rw [e, q] at z; cases z)
  · exact k.2
  · exact no
/-- constants -/
theorem Cn.int {i : Int} {t : Tok} (X : C.K.In h) (G : h.Ns mainGlobals C.mg) (a : PySem.W.nsIn C.K mainGlobals x = some (some (.int i t))) : Cn C x (.int i) := ⟨.int i, _, PySem.W.mg_of X G a, ⟨_, rfl⟩, fun F H => .int _ fun _ z => z⟩
theorem Cn.str {i : Str} {t : Tok} (X : C.K.In h) (G : h.Ns mainGlobals C.mg) (a : PySem.W.nsIn C.K mainGlobals x = some (some (.str i t))) : Cn C x (.str i) := ⟨.str i, _, PySem.W.mg_of X G a, ⟨_, rfl⟩, fun F H => .str _ fun _ z => z⟩
end
end
end M
namespace M
noncomputable section
open PySem PySem.Spec PyProof.Rows L2
/-- plain values of a constant tuple, read against their data -/
def flatB : List Value → List Dat → Bool
  | [], [] => true
  | .str x _ :: us, .str y :: ds => x == y && flatB us ds
  | .int x _ :: us, .int y :: ds => x == y && flatB us ds
  | _, _ => false
theorem flat_ok {W : Wd} {F : AS} {H : Hp} : ∀ {us : List Value} {ds : List Dat}, flatB us ds = true → ∃ vs, Vals vs us ∧ Reps W F H NoA ds vs
  | [], [], _ => ⟨[], .nil, .nil fun _ z => z⟩
  | .str x t :: us, .str y :: ds, h => by
    simp only [flatB, Bool.and_eq_true, beq_iff_eq] at h
    obtain ⟨rfl, h⟩ := h
    obtain ⟨vs, a, b⟩ := flat_ok (W := W) (F := F) (H := H) h
    exact ⟨.str x :: vs, .cons ⟨_, rfl⟩ a, .cons (.str _ fun _ z => z) b (fun _ z => z.elim) fun _ => ⟨fun z => z.elim, fun z => z.elim id id⟩⟩
  | .int x t :: us, .int y :: ds, h => by
    simp only [flatB, Bool.and_eq_true, beq_iff_eq] at h
    obtain ⟨rfl, h⟩ := h
    obtain ⟨vs, a, b⟩ := flat_ok (W := W) (F := F) (H := H) h
    exact ⟨.int x :: vs, .cons ⟨_, rfl⟩ a, .cons (.int _ fun _ z => z) b (fun _ z => z.elim) fun _ => ⟨fun z => z.elim, fun z => z.elim id id⟩⟩
/-- a constant tuple as it lies in the written part -/
def TupIn (K : PySem.W.Frag) (x : Str) (ds : List Dat) : Prop := ∃ (a : Addr) (its : Array Value) (n : Nat) (sl : Array (Option Value)), PySem.W.nsIn K mainGlobals x = some (some (.ref a)) ∧ K.lookup a = some ⟨.type "tuple", none, .seq its n, sl⟩ ∧ its.size ≤ sizeLine ∧ flatB its.toList ds = true
section
variable {C : Ctx} {h : Heap} {x : Str} {A : Addr} {c : Nat}
theorem TupIn.cn {ds : List Dat} (X : C.K.In h) (G : h.Ns mainGlobals C.mg) (d : TupIn C.K x ds) : Cn C x (.tup .b ds) := by
  obtain ⟨a, its, n, sl, e, l, z, f⟩ := d
  obtain ⟨vs, r, _⟩ := flat_ok (W := C.W) (F := NoA) (H := fun _ => none) f
  refine ⟨.ref a, _, PySem.W.mg_of X G e, rfl, fun F H => ?_⟩
  obtain ⟨vs, r, q⟩ := flat_ok (W := C.W) (F := F) (H := H) f
  exact .tup (.inr ⟨_, its, n, l, rfl, rfl, z, r⟩) (.inr ⟨_, l, rfl, rfl⟩) q
end
end
end M
namespace PySem
open Sem (wp)
open AutoSeq1 (wpAny_loadPart')
end PySem
namespace PySem
open Sem (wp)
open AutoSeq1 (wpAny_loadPart')
end PySem
namespace M
noncomputable section
open PySem PySem.Spec PyProof.Rows L2
structure SaysM (fa : List He.Fa) (fn : List He.DefD) (ts : List He.Tab) (ex : List (PySem.W.Frag → Bool)) (w : World) (h : Heap) (K : PySem.W.Frag) : Prop where
  kin : K.In h
  t : He.SaysT fa fn ts w K
  x : (ex.all fun f => f K) = true
section
variable {fa : List He.Fa} {fn : List He.DefD} {ts : List He.Tab} {ex : List (PySem.W.Frag → Bool)} {w : World} {h : Heap} {K : PySem.W.Frag}
theorem SaysM.fact (c : SaysM fa fn ts ex w h K) (i : Nat) {f : He.Fa} (e : fa[i]? = some f) : f.ok K = true := He.SaysD.fact c.t.d i e
theorem SaysM.ext (c : SaysM fa fn ts ex w h K) (i : Nat) {f : PySem.W.Frag → Bool} (e : ex[i]? = some f) : f K = true := List.all_eq_true.mp c.x f (List.mem_of_getElem? e)
def dfD (x qual : Str) (st : Stmt) : He.DefD := ⟨(x, none), x, qual, defArgs st, defBody st, defScope st, [], []⟩
theorem SaysM.cls (c : SaysM fa fn ts ex w h K) (i j : Nat) {x : Str} (e : fa[i]? = some (.glo x)) (e2 : fa[j]? = some (.cls x)) : ClsIn K x (He.ga K x) := ⟨He.eqO_ok (c.fact i e), He.cls_ok (c.fact j e2)⟩
theorem SaysM.mkr (c : SaysM fa fn ts ex w h K) (i : Nat) {x : Str} (e : fa[i]? = some (.mkr x)) : PySem.W.makesIn K (He.ga K x) = true := (He.mkr_ok (c.fact i e)).makes
theorem SaysM.kp (c : SaysM fa fn ts ex w h K) (i : Nat) {x : Str} (e : fa[i]? = some (.mkr x)) : PySem.W.keepIn K (.ref (He.ga K x)) = true := (He.mkr_ok (c.fact i e)).kp
theorem SaysM.no (c : SaysM fa fn ts ex w h K) (i : Nat) {x f : Str} (e : fa[i]? = some (.noat x f)) : PySem.W.findIn K (.ref (He.ga K x)) f = some none := He.noat_ok (c.fact i e)
theorem SaysM.free (c : SaysM fa fn ts ex w h K) (i : Nat) {x : Str} (e : fa[i]? = some (.free x)) : PySem.W.nsIn K mainGlobals x = some none := He.eqO_ok (c.fact i e)
theorem SaysM.int (c : SaysM fa fn ts ex w h K) (i : Nat) {x : Str} {n : Int} (e : fa[i]? = some (.int x n)) : ∃ t, PySem.W.nsIn K mainGlobals x = some (some (.int n t)) := by
  have z : (match PySem.W.nsIn K mainGlobals x with
    | some (some (.int y _)) => decide (y = n)
    | _ => false) = true := c.fact i e
  split at z
  · rename_i y t q
    have : y = n := of_decide_eq_true z
    subst this
    exact ⟨t, q⟩
  · cases z
end
abbrev hRunE (r : PySem.W.OpenRow) (M : Nat) (w : World) (os : OsState) : Option PySem.W.SharedT := HandSHeadRun.endF (HandSHeadRun.stepQ (HandSHeadRun.denQ HandSHeadRun.tabQ) r.prog w) M r.prog w os
def RunA (r : PySem.W.OpenRow) (q : Program) (M : Nat) (loose : List PySem.Str) (w : World) : Prop := ∀ os : OsState, (hRunE r M w os).map (fun s => (HandSHeadRun.looksF r.prog (PySem.W.boot_heap w.params) s.abs, HandSHeadRun.seenQ q loose (importedModules r.prog.main.body) (fun s => PySem.W.xlAt q [] s && PySem.W.recOk r.toRowW.records s) s.abs)) = some (true, PySem.W.openGood q loose)
end
end M
set_option maxHeartbeats 2000000
namespace M
noncomputable section
open PySem PySem.Spec PyProof.Rows L2 LamX
def oexB (nw : String) (tl : List Value) (K : PySem.W.Frag) (C : Addr) : Bool := (match K.lookup C with
  | some ⟨.type t, _, .cls cd, sl⟩ => (match cd.mro, sl.toList with
    | .ref C' :: bm, [_, _, _, _, some (.builtin n), _] => decide (t = "type") && (decide (C' = C) && (decide (n = nw) && (!cd.hasDel && (cd.hasDict && PySem.W.excTail tl bm))))
    | _, _ => false)
  | _ => false) && (decide (PySem.W.findIn K (.ref C) "__setattr__" = some (some (.builtin "object.__setattr__"))) && (decide (PySem.W.subIn K (.ref C) (.type "BaseException") = some true) && (decide (PySem.W.typeIn K (.ref C) = some (.type "type")) && PySem.W.keepIn K (.ref C))))
abbrev IniW : Type := Option (Str × Str × Arguments × FuncBody × Scope × Addr × List Str × Addr)
def iniW (K : PySem.W.Frag) (x : Str) : IniW := (He.fnW K (x, some "__init__")).map fun (n, q, p, b, s, g, cl, bn) => (n, q, p, b, s, g, cl.map (·.1), bn)
/-- x, its __init__'s long name, the def -/
structure InD where
  x : Str
  qual : Str
  st : Stmt
  p : Option Str
def InD.val (d : InD) : IniW := match d.p with
  | none => some ("__init__", d.qual, defArgs d.st, .stmts (defBody d.st), defScope d.st, mainGlobals, ["__class__"], builtinsNs)
  | some m => some (m, d.qual, defArgs d.st, .stmts (defBody d.st), defScope d.st, mainGlobals, [], builtinsNs)
/-- the getter of a property of a class -/
def prAd (K : PySem.W.Frag) (x m : Str) : Addr := match PySem.W.recIn K (He.ma K (He.ga K x) m) "property" with
  | some (.ref g :: _) => g
  | _ => 0
def prW (K : PySem.W.Frag) (x m : Str) : IniW := match K.lookup (prAd K x m) with
  | some ⟨_, _, .func fd, _⟩ => some (fd.name, fd.qualname, fd.params, fd.body, fd.scope, fd.globals, fd.closure.map (·.1), fd.builtins)
  | _ => none
def obsI (K : PySem.W.Frag) (d : InD) : IniW := match d.p with
  | none => iniW K d.x
  | some m => prW K d.x m
def nonB : Value → Bool
  | .none => true
  | _ => false
def cloB (K : PySem.W.Frag) (C : Addr) (l : List (Str × Addr)) : Bool := match l with
  | [(_, cc)] => (match K.lookup cc with
    | some ⟨_, _, .cell (some (.ref C')), _⟩ => decide (C' = C)
    | _ => false)
  | _ => false
def filB (K : PySem.W.Frag) (P : Program) (v : Value) : Bool := match v with
  | .ref cda => (match K.lookup cda with
    | some ⟨_, _, .fields vs, _⟩ => (match (vs[2]? : Option Value) with
      | some (.str file _) => ((P.main.file : Str) == file)
      | _ => false)
    | _ => false)
  | _ => false
def funB (K : PySem.W.Frag) (P : Program) (C : Addr) (qual : Str) (o : Option Obj) : Bool := match o with
  | some ⟨_, _, .func fd, _⟩ => nonB fd.defaults && (PySem.W.codeIn K fd.code qual && (cloB K C fd.closure && filB K P fd.code))
  | _ => false
def iniG (B i nw : String) (tl : List Value) (P : Program) (x qual fld : Str) (K : PySem.W.Frag) : Bool :=
  funB K P (He.ga K x) qual (K.lookup (He.fAd K (x, some "__init__"))) && (oexB nw tl K (He.ga K x) && (decide (PySem.W.nsIn K mainGlobals x = some (some (.ref (He.ga K x)))) && (decide (PySem.W.nsIn K mainGlobals "super" = some none) && (decide (PySem.W.ks_superIn K (He.ga K x) (He.ga K x) "__init__" = some (some (.builtin i))) &&
    (decide (PySem.W.subIn K (.ref (He.ga K x)) (.type B) = some true) && (decide (PySem.W.nsIn K cStatics "thirdparty.any" = some none) && (decide (PySem.W.mroIn K (He.ga K x) (.ref (He.ga K x)) = some true) && (decide (PySem.W.findIn K (.ref (He.ga K x)) fld = some none) &&
    (decide (PySem.W.findIn K (.ref (He.ga K x)) "__init__" = some (some (.ref (He.fAd K (x, some "__init__"))))) && decide (PySem.W.typeIn K (.ref (He.fAd K (x, some "__init__"))) = some (.type "function")))))))))))
def tlV : List Value := [.type "ValueError", .type "Exception", .type "BaseException", .type "object"]
def tlL : List Value := [.type "LookupError", .type "Exception", .type "BaseException", .type "object"]
def tlA : List Value := [.type "ArithmeticError", .type "Exception", .type "BaseException", .type "object"]
def iniB : Program → Str → Str → Str → PySem.W.Frag → Bool := iniG "ValueError" "ValueError.__init__" "ValueError.__new__" tlV
def iniBL : Program → Str → Str → Str → PySem.W.Frag → Bool := iniG "LookupError" "LookupError.__init__" "LookupError.__new__" tlL
def iniBA : Program → Str → Str → Str → PySem.W.Frag → Bool := iniG "ArithmeticError" "ArithmeticError.__init__" "ArithmeticError.__new__" tlA
end
end M
namespace M
noncomputable section
open PySem PySem.Spec PyProof.Rows L2 LamX
def gloB (K : PySem.W.Frag) (x : Str) : Bool := decide (PySem.W.nsIn K mainGlobals x = some (some (.ref (He.ga K x))))
def excCB (K : PySem.W.Frag) (C : Addr) : Bool := decide (PySem.W.findIn K (.ref C) "__getattribute__" = some (some (.builtin "BaseException.__getattribute__"))) && (decide (PySem.W.findIn K (.ref C) "__getattr__" = some none) && (decide (PySem.W.subIn K (.ref C) (.type "BaseException") = some true) && (PySem.W.hasDictIn K C &&
  (decide (PySem.W.findIn K (.ref C) "__class__" = some (some (.builtin "object.__class__"))) && (decide (PySem.W.specialIn K (.builtin "object.__class__") "__get__" = some (some (.builtin "getset_descriptor.__get__"))) && (decide (PySem.W.takesIn K (.builtin "object.__class__") = some true) && decide (PySem.W.mroIn K C (.type "object") = some true)))))))
/-- the exception classes, by number -/
def excAll (T : Tb) (ns : List Nat) (K : PySem.W.Frag) : Bool := ns.all fun n => gloB K (T.cn n) && excCB K (He.ga K (T.cn n))
def isxB (T : Tb) (x : Str) (rs : List (Nat × Bool)) (K : PySem.W.Frag) : Bool := gloB K x && rs.all fun r => decide (PySem.W.kitOne K (.ref (He.ga K (T.cn r.1))) (.ref (He.ga K x)) = some r.2)
def isxT (T : Tb) (x : Str) (t : String) (rs : List (Nat × Bool)) (K : PySem.W.Frag) : Bool := decide (PySem.W.nsIn K mainGlobals x = some none) && rs.all fun r => decide (PySem.W.kitOne K (.ref (He.ga K (T.cn r.1))) (.type t) = some r.2)
def xfxB (T : Tb) (n : Str) (rs : List (Nat × Bool)) (K : PySem.W.Frag) : Bool := rs.all fun r => !r.2 || decide (PySem.W.findIn K (.ref (He.ga K (T.cn r.1))) n = some none)
/-- the def x of the top: its code object and its table -/
def tabP (K : PySem.W.Frag) (x : Str) : Addr × Addr := (PySem.W.tabIn K x).getD (0, 0)
def lamB (K : PySem.W.Frag) (g : Addr → Option Obj) (x : Str) : Bool := (PySem.W.tabIn K x).isSome && (PySem.W.codeHdIn K (tabP K x).1 (tabP K x).2 && ((K.lookup (tabP K x).2).isNone && (match g (tabP K x).2 with
  | some ⟨.none, none, .fields vs, sl⟩ => vs.isEmpty && sl.isEmpty
  | _ => false)))
abbrev arBm : List Value := [.type "ArithmeticError", .type "Exception", .type "BaseException", .type "object"]
def excNB (x : Str) (K : PySem.W.Frag) : Bool := (match PySem.W.nsIn K mainGlobals x with
  | some (some (.ref A)) => PySem.W.excIn K A arBm "ArithmeticError.__new__" && PySem.W.keepIn K (.ref A)
  | _ => false)
end
end M
namespace M
noncomputable section
open PySem PySem.Spec PyProof.Rows L2 LamX
def isTabO : Option Obj → Bool
  | some ⟨.none, none, .fields vs, sl⟩ => vs.isEmpty && sl.isEmpty
  | _ => false
/-- what stands behind the top but for the empty tables -/
def frT (g : Addr → Option Obj) (n : Nat) : PySem.W.Frag := He.frG g ((List.range n).filter fun a => !isTabO (g a))
abbrev hKt (s : PySem.W.SharedT) : PySem.W.Frag := frT (HandSHeadRun.getT s) s.n
def RunBt (r : PySem.W.OpenRow) (M : Nat) (fa : List He.Fa) (ts : List He.Tab) (w : World) : Prop := ∀ os : OsState, (hRunE r M w os).map (fun s => (fa.all (fun f => f.ok (hKt s)), ts.map (fun t => He.dicW (hKt s) (t.1 (hKt s))))) = some (true, ts.map (fun t => some (He.keysIn w.params t.2)))
def RunXt (r : PySem.W.OpenRow) (M : Nat) (ex : List (PySem.W.Frag → Bool)) (w : World) : Prop := ∀ os : OsState, (hRunE r M w os).map (fun s => ex.all fun f => f (hKt s)) = some true
def RunCt (r : PySem.W.OpenRow) (M : Nat) (fn : List He.DefD) (w : World) : Prop := ∀ os : OsState, (hRunE r M w os).map (fun s => fn.all fun d => d.ok (hKt s)) = some true
def RunDt (r : PySem.W.OpenRow) (M : Nat) (fn : List He.DefD) (w : World) : Prop := ∀ os : OsState, (hRunE r M w os).map (fun s => fn.map fun d => He.fnW (hKt s) d.at_) = some (fn.map He.DefD.val)
def RunEt (r : PySem.W.OpenRow) (M : Nat) (ini : List InD) (lm : List Str) (w : World) : Prop := ∀ os : OsState, (hRunE r M w os).map (fun s => (ini.map (fun d => obsI (hKt s) d), lm.all (lamB (hKt s) (HandSHeadRun.getT s)))) = some (ini.map InD.val, true)
end
end M
noncomputable section
namespace M
open PySem PySem.Spec PyProof.Rows L2
namespace PP
def topS (i : Nat) : Stmt := PySem.Challenge.pw_leafpackets_k01_constants_and_errors.main.body.getD i (.Pass ⟨0, 0, 0, 0⟩)
abbrev s__law_wrong_values : Stmt := topS 38
abbrev s__law_wrong_rows : Stmt := topS 39
abbrev s__law_kinds : Stmt := topS 40
abbrev s__law_own : Stmt := topS 41
abbrev s_law : Stmt := topS 42
def TB : Tb where
  cn := fun c => match c with
    | 21 => "InvalidText"
    | 22 => "InvalidSection"
    | 23 => "InvalidManner"
    | 24 => "InvalidMoment"
    | 25 => "InvalidPage"
    | 26 => "InvalidWord"
    | 27 => "InvalidMany"
    | 28 => "InvalidKind"
    | 29 => "InvalidNumber"
    | 30 => "InvalidName"
    | 31 => "InvalidClaim"
    | 32 => "InvalidIndex"
    | 33 => "InvalidLine"
    | 34 => "NotAService"
    | 35 => "InvalidSlips"
    | 36 => "InvalidLists"
    | 37 => "InvalidSeen"
    | 38 => "InvalidDeeds"
    | 40 => "UnknownName"
    | 41 => "InUse"
    | 43 => "OtherRound"
    | 44 => "TooMany"
    | 45 => "NothingToUndo"
    | 46 => "Broken"
    | _ => ""
  fl := fun c => match c with
    | 21 => ["given"]
    | 22 => ["given"]
    | 23 => ["given"]
    | 24 => ["given"]
    | 25 => ["given"]
    | 26 => ["given"]
    | 27 => ["given"]
    | 28 => ["given"]
    | 29 => ["given"]
    | 30 => ["given"]
    | 31 => ["given"]
    | 32 => ["given"]
    | 33 => ["given"]
    | 34 => ["given"]
    | 35 => ["index"]
    | 36 => ["index"]
    | 37 => ["index"]
    | 38 => ["index"]
    | 40 => ["given"]
    | 41 => ["index"]
    | 44 => ["number"]
    | 46 => ["index"]
    | _ => []
def nsX : List Nat := [21, 22, 23, 24, 25, 26, 27, 28, 29, 30, 31, 32, 33, 34, 35, 36, 37, 38, 40, 41, 43, 44, 45, 46]
def lmX : List Str := []
abbrev s_InvalidText_init : Stmt := inClass (topS 2) 0
abbrev s_InvalidSection_init : Stmt := inClass (topS 3) 0
abbrev s_InvalidManner_init : Stmt := inClass (topS 4) 0
abbrev s_InvalidMoment_init : Stmt := inClass (topS 5) 0
abbrev s_InvalidPage_init : Stmt := inClass (topS 6) 0
abbrev s_InvalidWord_init : Stmt := inClass (topS 7) 0
abbrev s_InvalidMany_init : Stmt := inClass (topS 8) 0
abbrev s_InvalidKind_init : Stmt := inClass (topS 9) 0
abbrev s_InvalidNumber_init : Stmt := inClass (topS 10) 0
abbrev s_InvalidName_init : Stmt := inClass (topS 11) 0
abbrev s_InvalidClaim_init : Stmt := inClass (topS 12) 0
abbrev s_InvalidIndex_init : Stmt := inClass (topS 13) 0
abbrev s_InvalidLine_init : Stmt := inClass (topS 14) 0
abbrev s_NotAService_init : Stmt := inClass (topS 15) 0
abbrev s_InvalidSlips_init : Stmt := inClass (topS 16) 0
abbrev s_InvalidLists_init : Stmt := inClass (topS 17) 0
abbrev s_InvalidSeen_init : Stmt := inClass (topS 18) 0
abbrev s_InvalidDeeds_init : Stmt := inClass (topS 19) 0
abbrev s_UnknownName_init : Stmt := inClass (topS 21) 0
abbrev s_InUse_init : Stmt := inClass (topS 22) 0
abbrev s_TooMany_init : Stmt := inClass (topS 25) 0
abbrev s_Broken_init : Stmt := inClass (topS 27) 0
def ixf_ArithmeticErrorl : List (Nat × Bool) := [(21, false), (22, false), (23, false), (24, false), (25, false), (26, false), (27, false), (28, false), (29, false), (30, false), (31, false), (32, false), (33, false), (34, false), (35, false), (36, false), (37, false), (38, false), (40, false), (41, false), (43, true), (44, true), (45, true), (46, true)]
def ixf_Brokenl : List (Nat × Bool) := [(21, false), (22, false), (23, false), (24, false), (25, false), (26, false), (27, false), (28, false), (29, false), (30, false), (31, false), (32, false), (33, false), (34, false), (35, false), (36, false), (37, false), (38, false), (40, false), (41, false), (43, false), (44, false), (45, false), (46, true)]
def ixf_InUsel : List (Nat × Bool) := [(21, false), (22, false), (23, false), (24, false), (25, false), (26, false), (27, false), (28, false), (29, false), (30, false), (31, false), (32, false), (33, false), (34, false), (35, false), (36, false), (37, false), (38, false), (40, false), (41, true), (43, false), (44, false), (45, false), (46, false)]
def ixf_InvalidClaiml : List (Nat × Bool) := [(21, false), (22, false), (23, false), (24, false), (25, false), (26, false), (27, false), (28, false), (29, false), (30, false), (31, true), (32, false), (33, false), (34, false), (35, false), (36, false), (37, false), (38, false), (40, false), (41, false), (43, false), (44, false), (45, false), (46, false)]
def ixf_InvalidDeedsl : List (Nat × Bool) := [(21, false), (22, false), (23, false), (24, false), (25, false), (26, false), (27, false), (28, false), (29, false), (30, false), (31, false), (32, false), (33, false), (34, false), (35, false), (36, false), (37, false), (38, true), (40, false), (41, false), (43, false), (44, false), (45, false), (46, false)]
def ixf_InvalidIndexl : List (Nat × Bool) := [(21, false), (22, false), (23, false), (24, false), (25, false), (26, false), (27, false), (28, false), (29, false), (30, false), (31, false), (32, true), (33, false), (34, false), (35, false), (36, false), (37, false), (38, false), (40, false), (41, false), (43, false), (44, false), (45, false), (46, false)]
def ixf_InvalidKindl : List (Nat × Bool) := [(21, false), (22, false), (23, false), (24, false), (25, false), (26, false), (27, false), (28, true), (29, false), (30, false), (31, false), (32, false), (33, false), (34, false), (35, false), (36, false), (37, false), (38, false), (40, false), (41, false), (43, false), (44, false), (45, false), (46, false)]
def ixf_InvalidLinel : List (Nat × Bool) := [(21, false), (22, false), (23, false), (24, false), (25, false), (26, false), (27, false), (28, false), (29, false), (30, false), (31, false), (32, false), (33, true), (34, false), (35, false), (36, false), (37, false), (38, false), (40, false), (41, false), (43, false), (44, false), (45, false), (46, false)]
def ixf_InvalidListsl : List (Nat × Bool) := [(21, false), (22, false), (23, false), (24, false), (25, false), (26, false), (27, false), (28, false), (29, false), (30, false), (31, false), (32, false), (33, false), (34, false), (35, false), (36, true), (37, false), (38, false), (40, false), (41, false), (43, false), (44, false), (45, false), (46, false)]
def ixf_InvalidMannerl : List (Nat × Bool) := [(21, false), (22, false), (23, true), (24, false), (25, false), (26, false), (27, false), (28, false), (29, false), (30, false), (31, false), (32, false), (33, false), (34, false), (35, false), (36, false), (37, false), (38, false), (40, false), (41, false), (43, false), (44, false), (45, false), (46, false)]
def ixf_InvalidManyl : List (Nat × Bool) := [(21, false), (22, false), (23, false), (24, false), (25, false), (26, false), (27, true), (28, false), (29, false), (30, false), (31, false), (32, false), (33, false), (34, false), (35, false), (36, false), (37, false), (38, false), (40, false), (41, false), (43, false), (44, false), (45, false), (46, false)]
def ixf_InvalidMomentl : List (Nat × Bool) := [(21, false), (22, false), (23, false), (24, true), (25, false), (26, false), (27, false), (28, false), (29, false), (30, false), (31, false), (32, false), (33, false), (34, false), (35, false), (36, false), (37, false), (38, false), (40, false), (41, false), (43, false), (44, false), (45, false), (46, false)]
def ixf_InvalidNamel : List (Nat × Bool) := [(21, false), (22, false), (23, false), (24, false), (25, false), (26, false), (27, false), (28, false), (29, false), (30, true), (31, false), (32, false), (33, false), (34, false), (35, false), (36, false), (37, false), (38, false), (40, false), (41, false), (43, false), (44, false), (45, false), (46, false)]
def ixf_InvalidNumberl : List (Nat × Bool) := [(21, false), (22, false), (23, false), (24, false), (25, false), (26, false), (27, false), (28, false), (29, true), (30, false), (31, false), (32, false), (33, false), (34, false), (35, false), (36, false), (37, false), (38, false), (40, false), (41, false), (43, false), (44, false), (45, false), (46, false)]
def ixf_InvalidPagel : List (Nat × Bool) := [(21, false), (22, false), (23, false), (24, false), (25, true), (26, false), (27, false), (28, false), (29, false), (30, false), (31, false), (32, false), (33, false), (34, false), (35, false), (36, false), (37, false), (38, false), (40, false), (41, false), (43, false), (44, false), (45, false), (46, false)]
def ixf_InvalidSectionl : List (Nat × Bool) := [(21, false), (22, true), (23, false), (24, false), (25, false), (26, false), (27, false), (28, false), (29, false), (30, false), (31, false), (32, false), (33, false), (34, false), (35, false), (36, false), (37, false), (38, false), (40, false), (41, false), (43, false), (44, false), (45, false), (46, false)]
def ixf_InvalidSeenl : List (Nat × Bool) := [(21, false), (22, false), (23, false), (24, false), (25, false), (26, false), (27, false), (28, false), (29, false), (30, false), (31, false), (32, false), (33, false), (34, false), (35, false), (36, false), (37, true), (38, false), (40, false), (41, false), (43, false), (44, false), (45, false), (46, false)]
def ixf_InvalidSlipsl : List (Nat × Bool) := [(21, false), (22, false), (23, false), (24, false), (25, false), (26, false), (27, false), (28, false), (29, false), (30, false), (31, false), (32, false), (33, false), (34, false), (35, true), (36, false), (37, false), (38, false), (40, false), (41, false), (43, false), (44, false), (45, false), (46, false)]
def ixf_InvalidTextl : List (Nat × Bool) := [(21, true), (22, false), (23, false), (24, false), (25, false), (26, false), (27, false), (28, false), (29, false), (30, false), (31, false), (32, false), (33, false), (34, false), (35, false), (36, false), (37, false), (38, false), (40, false), (41, false), (43, false), (44, false), (45, false), (46, false)]
def ixf_InvalidWordl : List (Nat × Bool) := [(21, false), (22, false), (23, false), (24, false), (25, false), (26, true), (27, false), (28, false), (29, false), (30, false), (31, false), (32, false), (33, false), (34, false), (35, false), (36, false), (37, false), (38, false), (40, false), (41, false), (43, false), (44, false), (45, false), (46, false)]
def ixf_LookupErrorl : List (Nat × Bool) := [(21, false), (22, false), (23, false), (24, false), (25, false), (26, false), (27, false), (28, false), (29, false), (30, false), (31, false), (32, false), (33, false), (34, false), (35, false), (36, false), (37, false), (38, false), (40, true), (41, true), (43, false), (44, false), (45, false), (46, false)]
def ixf_NoAnswerl : List (Nat × Bool) := [(21, false), (22, false), (23, false), (24, false), (25, false), (26, false), (27, false), (28, false), (29, false), (30, false), (31, false), (32, false), (33, false), (34, false), (35, false), (36, false), (37, false), (38, false), (40, false), (41, false), (43, true), (44, true), (45, true), (46, true)]
def ixf_NotAServicel : List (Nat × Bool) := [(21, false), (22, false), (23, false), (24, false), (25, false), (26, false), (27, false), (28, false), (29, false), (30, false), (31, false), (32, false), (33, false), (34, true), (35, false), (36, false), (37, false), (38, false), (40, false), (41, false), (43, false), (44, false), (45, false), (46, false)]
def ixf_NothingToUndol : List (Nat × Bool) := [(21, false), (22, false), (23, false), (24, false), (25, false), (26, false), (27, false), (28, false), (29, false), (30, false), (31, false), (32, false), (33, false), (34, false), (35, false), (36, false), (37, false), (38, false), (40, false), (41, false), (43, false), (44, false), (45, true), (46, false)]
def ixf_OtherRoundl : List (Nat × Bool) := [(21, false), (22, false), (23, false), (24, false), (25, false), (26, false), (27, false), (28, false), (29, false), (30, false), (31, false), (32, false), (33, false), (34, false), (35, false), (36, false), (37, false), (38, false), (40, false), (41, false), (43, true), (44, false), (45, false), (46, false)]
def ixf_TooManyl : List (Nat × Bool) := [(21, false), (22, false), (23, false), (24, false), (25, false), (26, false), (27, false), (28, false), (29, false), (30, false), (31, false), (32, false), (33, false), (34, false), (35, false), (36, false), (37, false), (38, false), (40, false), (41, false), (43, false), (44, true), (45, false), (46, false)]
def ixf_UnknownNamel : List (Nat × Bool) := [(21, false), (22, false), (23, false), (24, false), (25, false), (26, false), (27, false), (28, false), (29, false), (30, false), (31, false), (32, false), (33, false), (34, false), (35, false), (36, false), (37, false), (38, false), (40, true), (41, false), (43, false), (44, false), (45, false), (46, false)]
def ixf_ValueErrorl : List (Nat × Bool) := [(21, true), (22, true), (23, true), (24, true), (25, true), (26, true), (27, true), (28, true), (29, true), (30, true), (31, true), (32, true), (33, true), (34, true), (35, true), (36, true), (37, true), (38, true), (40, false), (41, false), (43, false), (44, false), (45, false), (46, false)]
def ixf_WrongNamel : List (Nat × Bool) := [(21, false), (22, false), (23, false), (24, false), (25, false), (26, false), (27, false), (28, false), (29, false), (30, false), (31, false), (32, false), (33, false), (34, false), (35, false), (36, false), (37, false), (38, false), (40, true), (41, true), (43, false), (44, false), (45, false), (46, false)]
def ixf_WrongValuel : List (Nat × Bool) := [(21, true), (22, true), (23, true), (24, true), (25, true), (26, true), (27, true), (28, true), (29, true), (30, true), (31, true), (32, true), (33, true), (34, true), (35, true), (36, true), (37, true), (38, true), (40, false), (41, false), (43, false), (44, false), (45, false), (46, false)]
def xff_givenl : List (Nat × Bool) := [(21, true), (22, true), (23, true), (24, true), (25, true), (26, true), (27, true), (28, true), (29, true), (30, true), (31, true), (32, true), (33, true), (34, true), (35, false), (36, false), (37, false), (38, false), (40, true), (41, false), (43, false), (44, false), (45, false), (46, false)]
def xff_indexl : List (Nat × Bool) := [(21, false), (22, false), (23, false), (24, false), (25, false), (26, false), (27, false), (28, false), (29, false), (30, false), (31, false), (32, false), (33, false), (34, false), (35, true), (36, true), (37, true), (38, true), (40, false), (41, true), (43, false), (44, false), (45, false), (46, true)]
def xff_numberl : List (Nat × Bool) := [(21, false), (22, false), (23, false), (24, false), (25, false), (26, false), (27, false), (28, false), (29, false), (30, false), (31, false), (32, false), (33, false), (34, false), (35, false), (36, false), (37, false), (38, false), (40, false), (41, false), (43, false), (44, true), (45, false), (46, false)]
abbrev zh_hR : PySem.W.OpenRow := PySem.W.OpenLaw.row PySem.Challenge.rw_leafpackets_k01_constants_and_errors
abbrev zh_hV : Program := PySem.W.view zh_hR.prog [42]
def zh_hNm0 : List PySem.Str := [("WrongValue" : PySem.Str), ("InvalidText" : PySem.Str), ("InvalidSection" : PySem.Str), ("InvalidManner" : PySem.Str), ("InvalidMoment" : PySem.Str), ("InvalidPage" : PySem.Str), ("InvalidWord" : PySem.Str), ("InvalidMany" : PySem.Str), ("InvalidKind" : PySem.Str), ("InvalidNumber" : PySem.Str), ("InvalidName" : PySem.Str), ("InvalidClaim" : PySem.Str)]
def zh_hNm1 : List PySem.Str := [("InvalidIndex" : PySem.Str), ("InvalidLine" : PySem.Str), ("NotAService" : PySem.Str), ("InvalidSlips" : PySem.Str), ("InvalidLists" : PySem.Str), ("InvalidSeen" : PySem.Str), ("InvalidDeeds" : PySem.Str), ("WrongName" : PySem.Str), ("UnknownName" : PySem.Str), ("InUse" : PySem.Str), ("NoAnswer" : PySem.Str), ("OtherRound" : PySem.Str)]
def zh_hNm2 : List PySem.Str := [("TooMany" : PySem.Str), ("NothingToUndo" : PySem.Str), ("Broken" : PySem.Str), ("MOST_LABEL" : PySem.Str), ("MOST_LEAVES" : PySem.Str), ("MOST_PACKETS" : PySem.Str), ("MOST_SLIPS" : PySem.Str), ("MOST_STANDINGS" : PySem.Str), ("MOST_SEEN" : PySem.Str), ("MOST_TOLD" : PySem.Str), ("MOST_STEPS" : PySem.Str), ("GREATEST" : PySem.Str)]
def zh_hNm3 : List PySem.Str := [("_law_wrong_values" : PySem.Str), ("_law_wrong_rows" : PySem.Str), ("_law_kinds" : PySem.Str), ("_law_own" : PySem.Str)]
def zh_hNm : List PySem.Str := (zh_hNm0 ++ (zh_hNm1 ++ (zh_hNm2 ++ (zh_hNm3))))
def zh_hFa0 : List He.Fa := [.free ("isinstance" : PySem.Str), .free ("range" : PySem.Str), .free ("repr" : PySem.Str), .glo ("_law_kinds" : PySem.Str), .glo ("_law_own" : PySem.Str), .glo ("_law_wrong_rows" : PySem.Str), .glo ("_law_wrong_values" : PySem.Str), .glo ("law" : PySem.Str), .int ("GREATEST" : PySem.Str) 1000000000000000000000000000000, .int ("MOST_LABEL" : PySem.Str) 9, .int ("MOST_LEAVES" : PySem.Str) 8, .int ("MOST_PACKETS" : PySem.Str) 6]
def zh_hFa1 : List He.Fa := [.int ("MOST_SEEN" : PySem.Str) 12, .int ("MOST_SLIPS" : PySem.Str) 3, .int ("MOST_STANDINGS" : PySem.Str) 20000, .int ("MOST_STEPS" : PySem.Str) 1000, .int ("MOST_TOLD" : PySem.Str) 24]
def zh_hFa : List He.Fa := (zh_hFa0 ++ (zh_hFa1))
def zh_hFnXa0 : List He.DefD := [dfD ("_law_kinds" : PySem.Str) ("_law_kinds" : PySem.Str) s__law_kinds]
def zh_hFnXa : List He.DefD := (zh_hFnXa0)
def zh_hFnXb0 : List He.DefD := [dfD ("_law_own" : PySem.Str) ("_law_own" : PySem.Str) s__law_own]
def zh_hFnXb : List He.DefD := (zh_hFnXb0)
def zh_hFnX : List He.DefD := zh_hFnXa ++ zh_hFnXb
def zh_hFnY0 : List He.DefD := [dfD ("_law_wrong_rows" : PySem.Str) ("_law_wrong_rows" : PySem.Str) s__law_wrong_rows, dfD ("_law_wrong_values" : PySem.Str) ("_law_wrong_values" : PySem.Str) s__law_wrong_values, dfD ("law" : PySem.Str) ("law" : PySem.Str) s_law]
def zh_hFnY : List He.DefD := (zh_hFnY0)
def zh_hTs : List He.Tab := []
def zh_hEx1 : List (PySem.W.Frag → Bool) := []
def zh_hEx2 : List (PySem.W.Frag → Bool) := [(fun K => excAll TB nsX K), (fun K => isxT TB "ArithmeticError" "ArithmeticError" ixf_ArithmeticErrorl K), (fun K => isxB TB "Broken" ixf_Brokenl K), (fun K => isxB TB "InUse" ixf_InUsel K), (fun K => isxB TB "InvalidClaim" ixf_InvalidClaiml K), (fun K => isxB TB "InvalidDeeds" ixf_InvalidDeedsl K), (fun K => isxB TB "InvalidIndex" ixf_InvalidIndexl K), (fun K => isxB TB "InvalidKind" ixf_InvalidKindl K), (fun K => isxB TB "InvalidLine" ixf_InvalidLinel K), (fun K => isxB TB "InvalidLists" ixf_InvalidListsl K), (fun K => isxB TB "InvalidManner" ixf_InvalidMannerl K), (fun K => isxB TB "InvalidMany" ixf_InvalidManyl K), (fun K => isxB TB "InvalidMoment" ixf_InvalidMomentl K), (fun K => isxB TB "InvalidName" ixf_InvalidNamel K), (fun K => isxB TB "InvalidNumber" ixf_InvalidNumberl K), (fun K => isxB TB "InvalidPage" ixf_InvalidPagel K), (fun K => isxB TB "InvalidSection" ixf_InvalidSectionl K), (fun K => isxB TB "InvalidSeen" ixf_InvalidSeenl K), (fun K => isxB TB "InvalidSlips" ixf_InvalidSlipsl K), (fun K => isxB TB "InvalidText" ixf_InvalidTextl K), (fun K => isxB TB "InvalidWord" ixf_InvalidWordl K), (fun K => isxT TB "LookupError" "LookupError" ixf_LookupErrorl K), (fun K => isxB TB "NoAnswer" ixf_NoAnswerl K), (fun K => isxB TB "NotAService" ixf_NotAServicel K), (fun K => isxB TB "NothingToUndo" ixf_NothingToUndol K), (fun K => isxB TB "OtherRound" ixf_OtherRoundl K), (fun K => isxB TB "TooMany" ixf_TooManyl K), (fun K => isxB TB "UnknownName" ixf_UnknownNamel K), (fun K => isxT TB "ValueError" "ValueError" ixf_ValueErrorl K)]
def zh_hEx3 : List (PySem.W.Frag → Bool) := [(fun K => isxB TB "WrongName" ixf_WrongNamel K), (fun K => isxB TB "WrongValue" ixf_WrongValuel K), (fun K => iniBA PySem.Challenge.rw_leafpackets_k01_constants_and_errors.prog "Broken" "Broken.__init__" "index" K), (fun K => iniBL PySem.Challenge.rw_leafpackets_k01_constants_and_errors.prog "InUse" "InUse.__init__" "index" K), (fun K => iniB PySem.Challenge.rw_leafpackets_k01_constants_and_errors.prog "InvalidClaim" "InvalidClaim.__init__" "given" K), (fun K => iniB PySem.Challenge.rw_leafpackets_k01_constants_and_errors.prog "InvalidDeeds" "InvalidDeeds.__init__" "index" K), (fun K => iniB PySem.Challenge.rw_leafpackets_k01_constants_and_errors.prog "InvalidIndex" "InvalidIndex.__init__" "given" K), (fun K => iniB PySem.Challenge.rw_leafpackets_k01_constants_and_errors.prog "InvalidKind" "InvalidKind.__init__" "given" K), (fun K => iniB PySem.Challenge.rw_leafpackets_k01_constants_and_errors.prog "InvalidLine" "InvalidLine.__init__" "given" K), (fun K => iniB PySem.Challenge.rw_leafpackets_k01_constants_and_errors.prog "InvalidLists" "InvalidLists.__init__" "index" K), (fun K => iniB PySem.Challenge.rw_leafpackets_k01_constants_and_errors.prog "InvalidManner" "InvalidManner.__init__" "given" K), (fun K => iniB PySem.Challenge.rw_leafpackets_k01_constants_and_errors.prog "InvalidMany" "InvalidMany.__init__" "given" K), (fun K => iniB PySem.Challenge.rw_leafpackets_k01_constants_and_errors.prog "InvalidMoment" "InvalidMoment.__init__" "given" K), (fun K => iniB PySem.Challenge.rw_leafpackets_k01_constants_and_errors.prog "InvalidName" "InvalidName.__init__" "given" K), (fun K => iniB PySem.Challenge.rw_leafpackets_k01_constants_and_errors.prog "InvalidNumber" "InvalidNumber.__init__" "given" K), (fun K => iniB PySem.Challenge.rw_leafpackets_k01_constants_and_errors.prog "InvalidPage" "InvalidPage.__init__" "given" K), (fun K => iniB PySem.Challenge.rw_leafpackets_k01_constants_and_errors.prog "InvalidSection" "InvalidSection.__init__" "given" K), (fun K => iniB PySem.Challenge.rw_leafpackets_k01_constants_and_errors.prog "InvalidSeen" "InvalidSeen.__init__" "index" K), (fun K => iniB PySem.Challenge.rw_leafpackets_k01_constants_and_errors.prog "InvalidSlips" "InvalidSlips.__init__" "index" K), (fun K => iniB PySem.Challenge.rw_leafpackets_k01_constants_and_errors.prog "InvalidText" "InvalidText.__init__" "given" K), (fun K => iniB PySem.Challenge.rw_leafpackets_k01_constants_and_errors.prog "InvalidWord" "InvalidWord.__init__" "given" K), (fun K => iniB PySem.Challenge.rw_leafpackets_k01_constants_and_errors.prog "NotAService" "NotAService.__init__" "given" K), (fun K => iniBA PySem.Challenge.rw_leafpackets_k01_constants_and_errors.prog "TooMany" "TooMany.__init__" "number" K), (fun K => iniBL PySem.Challenge.rw_leafpackets_k01_constants_and_errors.prog "UnknownName" "UnknownName.__init__" "given" K), (fun K => xfxB TB "given" xff_givenl K), (fun K => xfxB TB "index" xff_indexl K), (fun K => xfxB TB "number" xff_numberl K), (fun K => excNB "NothingToUndo" K), (fun K => excNB "OtherRound" K)]
def zh_hIn : List InD := [InD.mk ("Broken" : PySem.Str) ("Broken.__init__" : PySem.Str) s_Broken_init none, InD.mk ("InUse" : PySem.Str) ("InUse.__init__" : PySem.Str) s_InUse_init none, InD.mk ("InvalidClaim" : PySem.Str) ("InvalidClaim.__init__" : PySem.Str) s_InvalidClaim_init none, InD.mk ("InvalidDeeds" : PySem.Str) ("InvalidDeeds.__init__" : PySem.Str) s_InvalidDeeds_init none, InD.mk ("InvalidIndex" : PySem.Str) ("InvalidIndex.__init__" : PySem.Str) s_InvalidIndex_init none, InD.mk ("InvalidKind" : PySem.Str) ("InvalidKind.__init__" : PySem.Str) s_InvalidKind_init none, InD.mk ("InvalidLine" : PySem.Str) ("InvalidLine.__init__" : PySem.Str) s_InvalidLine_init none, InD.mk ("InvalidLists" : PySem.Str) ("InvalidLists.__init__" : PySem.Str) s_InvalidLists_init none, InD.mk ("InvalidManner" : PySem.Str) ("InvalidManner.__init__" : PySem.Str) s_InvalidManner_init none, InD.mk ("InvalidMany" : PySem.Str) ("InvalidMany.__init__" : PySem.Str) s_InvalidMany_init none, InD.mk ("InvalidMoment" : PySem.Str) ("InvalidMoment.__init__" : PySem.Str) s_InvalidMoment_init none, InD.mk ("InvalidName" : PySem.Str) ("InvalidName.__init__" : PySem.Str) s_InvalidName_init none, InD.mk ("InvalidNumber" : PySem.Str) ("InvalidNumber.__init__" : PySem.Str) s_InvalidNumber_init none, InD.mk ("InvalidPage" : PySem.Str) ("InvalidPage.__init__" : PySem.Str) s_InvalidPage_init none, InD.mk ("InvalidSection" : PySem.Str) ("InvalidSection.__init__" : PySem.Str) s_InvalidSection_init none, InD.mk ("InvalidSeen" : PySem.Str) ("InvalidSeen.__init__" : PySem.Str) s_InvalidSeen_init none, InD.mk ("InvalidSlips" : PySem.Str) ("InvalidSlips.__init__" : PySem.Str) s_InvalidSlips_init none, InD.mk ("InvalidText" : PySem.Str) ("InvalidText.__init__" : PySem.Str) s_InvalidText_init none, InD.mk ("InvalidWord" : PySem.Str) ("InvalidWord.__init__" : PySem.Str) s_InvalidWord_init none, InD.mk ("NotAService" : PySem.Str) ("NotAService.__init__" : PySem.Str) s_NotAService_init none, InD.mk ("TooMany" : PySem.Str) ("TooMany.__init__" : PySem.Str) s_TooMany_init none, InD.mk ("UnknownName" : PySem.Str) ("UnknownName.__init__" : PySem.Str) s_UnknownName_init none]
theorem zh_hPick {α β γ : Type} {o : Option α} {F : α → β} {v : β} (h : o.map F = some v) (p : β → γ) : o.map (fun s => p (F s)) = some (p v) := by
  cases o with
  | none => cases h
  | some s =>
    simp only [Option.map_some, Option.some.injEq] at h ⊢
    rw [h]
abbrev zh_hManyA (r : PySem.W.OpenRow) (M : Nat) (ex1 ex2 : List (PySem.W.Frag → Bool)) (w : World) : Prop :=
  ∀ os : OsState, (hRunE r M w os).map (fun s => ((ex1.all fun f => f (hKt s)), (ex2.all fun f => f (hKt s)))) = some (true, true)
abbrev zh_hManyB (r : PySem.W.OpenRow) (M : Nat) (ex3 : List (PySem.W.Frag → Bool)) (ini : List InD) (lm : List Str) (w : World) : Prop :=
  ∀ os : OsState, (hRunE r M w os).map (fun s => ((ex3.all fun f => f (hKt s)), (ini.map (fun d => obsI (hKt s) d), lm.all (lamB (hKt s) (HandSHeadRun.getT s))))) = some (true, (ini.map InD.val, true))
theorem zh_hCapp {r : PySem.W.OpenRow} {M : Nat} {fa fb : List He.DefD} {w : World} (h1 : RunCt r M fa w) (h2 : RunCt r M fb w) : RunCt r M (fa ++ fb) w := fun os => by
  have a := h1 os
  have b := h2 os
  cases e : hRunE r M w os with
  | none => rw [e] at a; cases a
  | some s =>
    rw [e] at a b
    simp only [Option.map_some, Option.some.injEq, List.all_append] at a b ⊢
    rw [a, b]; rfl
set_option maxHeartbeats 0 in
theorem zh_hRunA_f (w : World) : RunA zh_hR zh_hV 20000 zh_hNm (w.withFollow "special-get-raises" false) := fun os => by kernel_rfl
set_option maxHeartbeats 0 in
theorem zh_hRunA_t (w : World) : RunA zh_hR zh_hV 20000 zh_hNm (w.withFollow "special-get-raises" true) := fun os => by kernel_rfl
set_option maxHeartbeats 0 in
theorem zh_hRunB_f (w : World) : RunBt zh_hR 20000 zh_hFa zh_hTs (w.withFollow "special-get-raises" false) := fun os => by kernel_rfl
set_option maxHeartbeats 0 in
theorem zh_hRunB_t (w : World) : RunBt zh_hR 20000 zh_hFa zh_hTs (w.withFollow "special-get-raises" true) := fun os => by kernel_rfl
set_option maxHeartbeats 0 in
theorem zh_hRunMA_f (w : World) : zh_hManyA zh_hR 20000 zh_hEx1 zh_hEx2 (w.withFollow "special-get-raises" false) := fun os => by kernel_rfl
set_option maxHeartbeats 0 in
theorem zh_hRunMA_t (w : World) : zh_hManyA zh_hR 20000 zh_hEx1 zh_hEx2 (w.withFollow "special-get-raises" true) := fun os => by kernel_rfl
set_option maxHeartbeats 0 in
theorem zh_hRunMB_f (w : World) : zh_hManyB zh_hR 20000 zh_hEx3 zh_hIn lmX (w.withFollow "special-get-raises" false) := fun os => by kernel_rfl
set_option maxHeartbeats 0 in
theorem zh_hRunMB_t (w : World) : zh_hManyB zh_hR 20000 zh_hEx3 zh_hIn lmX (w.withFollow "special-get-raises" true) := fun os => by kernel_rfl
set_option maxHeartbeats 0 in
theorem zh_hRunC1a_f (w : World) : RunCt zh_hR 20000 zh_hFnXa (w.withFollow "special-get-raises" false) := fun os => by kernel_rfl
set_option maxHeartbeats 0 in
theorem zh_hRunC1a_t (w : World) : RunCt zh_hR 20000 zh_hFnXa (w.withFollow "special-get-raises" true) := fun os => by kernel_rfl
set_option maxHeartbeats 0 in
theorem zh_hRunC1b_f (w : World) : RunCt zh_hR 20000 zh_hFnXb (w.withFollow "special-get-raises" false) := fun os => by kernel_rfl
set_option maxHeartbeats 0 in
theorem zh_hRunC1b_t (w : World) : RunCt zh_hR 20000 zh_hFnXb (w.withFollow "special-get-raises" true) := fun os => by kernel_rfl
set_option maxHeartbeats 0 in
theorem zh_hRunC2_f (w : World) : RunCt zh_hR 20000 zh_hFnY (w.withFollow "special-get-raises" false) := fun os => by kernel_rfl
set_option maxHeartbeats 0 in
theorem zh_hRunC2_t (w : World) : RunCt zh_hR 20000 zh_hFnY (w.withFollow "special-get-raises" true) := fun os => by kernel_rfl
set_option maxHeartbeats 0 in
theorem zh_hRunD1_f (w : World) : RunDt zh_hR 20000 zh_hFnX (w.withFollow "special-get-raises" false) := fun os => by kernel_rfl
set_option maxHeartbeats 0 in
theorem zh_hRunD1_t (w : World) : RunDt zh_hR 20000 zh_hFnX (w.withFollow "special-get-raises" true) := fun os => by kernel_rfl
set_option maxHeartbeats 0 in
theorem zh_hRunD2_f (w : World) : RunDt zh_hR 20000 zh_hFnY (w.withFollow "special-get-raises" false) := fun os => by kernel_rfl
set_option maxHeartbeats 0 in
theorem zh_hRunD2_t (w : World) : RunDt zh_hR 20000 zh_hFnY (w.withFollow "special-get-raises" true) := fun os => by kernel_rfl
theorem zh_hRunC1_f (w : World) : RunCt zh_hR 20000 zh_hFnX (w.withFollow "special-get-raises" false) := zh_hCapp (zh_hRunC1a_f w) (zh_hRunC1b_f w)
theorem zh_hRunC1_t (w : World) : RunCt zh_hR 20000 zh_hFnX (w.withFollow "special-get-raises" true) := zh_hCapp (zh_hRunC1a_t w) (zh_hRunC1b_t w)
theorem zh_hRunX1_f (w : World) : RunXt zh_hR 20000 zh_hEx1 (w.withFollow "special-get-raises" false) := fun os => zh_hPick (zh_hRunMA_f w os) (·.1)
theorem zh_hRunX1_t (w : World) : RunXt zh_hR 20000 zh_hEx1 (w.withFollow "special-get-raises" true) := fun os => zh_hPick (zh_hRunMA_t w os) (·.1)
theorem zh_hRunX2_f (w : World) : RunXt zh_hR 20000 zh_hEx2 (w.withFollow "special-get-raises" false) := fun os => zh_hPick (zh_hRunMA_f w os) (·.2)
theorem zh_hRunX2_t (w : World) : RunXt zh_hR 20000 zh_hEx2 (w.withFollow "special-get-raises" true) := fun os => zh_hPick (zh_hRunMA_t w os) (·.2)
theorem zh_hRunX3_f (w : World) : RunXt zh_hR 20000 zh_hEx3 (w.withFollow "special-get-raises" false) := fun os => zh_hPick (zh_hRunMB_f w os) (·.1)
theorem zh_hRunX3_t (w : World) : RunXt zh_hR 20000 zh_hEx3 (w.withFollow "special-get-raises" true) := fun os => zh_hPick (zh_hRunMB_t w os) (·.1)
theorem zh_hRunE_f (w : World) : RunEt zh_hR 20000 zh_hIn lmX (w.withFollow "special-get-raises" false) := fun os => zh_hPick (zh_hRunMB_f w os) (·.2)
theorem zh_hRunE_t (w : World) : RunEt zh_hR 20000 zh_hIn lmX (w.withFollow "special-get-raises" true) := fun os => zh_hPick (zh_hRunMB_t w os) (·.2)
end PP
end M
end
open PySem PySem.W PySem.Calls PyProof.Rows
end
set_option Elab.async false
set_option linter.all false
set_option maxRecDepth 100000
namespace M
open PySem PySem.Spec PyProof.Rows L2
/-- a list's things when it is walked -/
def frzI : Bool → List Dat → List Dat
  | true, xs => frzs xs
  | false, xs => xs
theorem frz_lst (o : Bool) (xs : List Dat) : frz (.lst o xs) = .lst false (frzI o xs) := by cases o <;> rfl
theorem Scr.sq {K : PySem.W.Frag} {H : Hp} {a : Addr} {xs : List V} (h : Scr K H a xs) : SqL K H a xs := h.imp .inr id
section
variable {W : Wd} {F F' : AS} {H H' : Hp}
mutual
/-- freezing: the footprint becomes part of the frozen ones -/
theorem Rep.freeze (fx : ∀ a, F a → F' a) : ∀ (d : Dat) (fp : AS) (v : V), Rep W F H fp d v → (∀ a, fp a → F' a) → Rep W F' H (fun _ => False) (frz d) v
  | .non, _, _, h, _ => by cases h with | non e => exact .non fun _ z => z
  | .bl _, _, _, h, _ => by cases h with | bl _ e => exact .bl _ fun _ z => z
  | .int _, _, _, h, _ => by cases h with | int _ e => exact .int _ fun _ z => z
  | .str _, _, _, h, _ => by cases h with | str _ e => exact .str _ fun _ z => z
  | .tup _ ds, _, _, h, k => by cases h with | tup s z r => exact .tup s z (Reps.freeze fx ds _ _ r k)
  | .lst _ ds, _, _, h, k => by
    cases h with
    | lstF e s f r => exact .lstF (fun _ z => z) s (fx _ f) (Reps.eqv _ _ _ _ (Reps.mono fx ds _ _ r fun _ _ e _ _ => e) fun a => ⟨fun z => z.elim, fun z => e a z⟩)
    | lstO e r n i => exact .lstF (fun _ z => z) (.inl e) (k _ ((i _).mpr (.inl rfl))) (Reps.freeze fx ds _ _ r fun a z => k a ((i a).mpr (.inr z)))
  | .dct _ ks vs, _, _, h, k => by
    cases h with
    | dctF e s f x r => exact .dctF (fun _ z => z) s (fx _ f) x (Reps.eqv _ _ _ _ (Reps.mono fx vs _ _ r fun _ _ e _ _ => e) fun a => ⟨fun z => z.elim, fun z => e a z⟩)
    | dctO e x r n i => exact .dctF (fun _ z => z) (.inl e) (k _ ((i _).mpr (.inl rfl))) x (Reps.freeze fx vs _ _ r fun a z => k a ((i a).mpr (.inr z)))
  | .dtt _ ks vs, _, _, h, k => by
    cases h with
    | dttF e s f x r => exact .dttF (fun _ z => z) s (fx _ f) x (Reps.eqv _ _ _ _ (Reps.mono fx vs _ _ r fun _ _ e _ _ => e) fun a => ⟨fun z => z.elim, fun z => e a z⟩)
    | dttO e x r n i => exact .dttF (fun _ z => z) (.inl e) (k _ ((i _).mpr (.inl rfl))) x (Reps.freeze fx vs _ _ r fun a z => k a ((i a).mpr (.inr z)))
  | .dxt _ ks vs, _, _, h, k => by
    cases h with
    | dxtF e s f x rk r => exact .dxtF (fun _ z => z) s (fx _ f) x (Reps.mono fx ks _ _ rk fun _ _ e _ _ => e) (Reps.eqv _ _ _ _ (Reps.mono fx vs _ _ r fun _ _ e _ _ => e) fun a => ⟨fun z => z.elim, fun z => e a z⟩)
    | dxtO e x rk r n i => exact .dxtF (fun _ z => z) (.inl e) (k _ ((i _).mpr (.inl rfl))) x (Reps.mono fx ks _ _ rk fun _ _ e _ _ => e) (Reps.freeze fx vs _ _ r fun a z => k a ((i a).mpr (.inr z)))
  | .obj _ c vs, _, _, h, k => by
    cases h with
    | objF e m s f x r => exact .objF (fun _ z => z) m s (fx _ f) x (Reps.eqv _ _ _ _ (Reps.mono fx vs _ _ r fun _ _ e _ _ => e) fun a => ⟨fun z => z.elim, fun z => e a z⟩)
    | objO m e x r n i => exact .objF (fun _ z => z) m e (k _ ((i _).mpr (.inl rfl))) (by rw [frzs_length]; exact x) (Reps.freeze fx vs _ _ r fun a z => k a ((i a).mpr (.inr z)))
  | .scr ns, _, _, h, k => by cases h with | scr e s => exact .scr (fun _ z => z) s
  | .exn c vs, _, _, h, k => by
    cases h with
    | exn e x d f r => exact .exn (fun _ z => z) x d f (Reps.eqv _ _ _ _ (Reps.mono fx vs _ _ r fun _ _ e _ _ => e) fun a => ⟨fun z => z.elim, fun z => e a z⟩)
    | exv e m s f x l r => exact .exv (fun _ z => z) m s (fx _ f) (x.imp_right fun ⟨da, e1, e2, e3⟩ => ⟨da, e1, e2, fx _ e3⟩) l (Reps.eqv _ _ _ _ (Reps.mono fx vs _ _ r fun _ _ e _ _ => e) fun a => ⟨fun z => z.elim, fun z => e a z⟩)
  | .fnv vs, _, _, h, k => by cases h with | fnv e x f c r => exact .fnv (fun _ z => z) x (fx _ f) c (Reps.eqv _ _ _ _ (Reps.mono fx vs _ _ r fun _ _ e _ _ => e) fun a => ⟨fun z => z.elim, fun z => e a z⟩)
theorem Reps.freeze (fx : ∀ a, F a → F' a) : ∀ (ds : List Dat) (fp : AS) (vs : List V), Reps W F H fp ds vs → (∀ a, fp a → F' a) → Reps W F' H (fun _ => False) (frzs ds) vs
  | [], _, _, h, _ => by cases h with | nil e => exact .nil fun _ z => z
  | d :: ds, _, _, h, k => by
    cases h with
    | cons r1 r2 n i => exact .cons (Rep.freeze fx d _ _ r1 fun a z => k a ((i a).mpr (.inl z))) (Reps.freeze fx ds _ _ r2 fun a z => k a ((i a).mpr (.inr z))) (fun _ z => z.elim) fun a => ⟨fun z => z.elim, fun z => z.elim id id⟩
theorem frzs_length : ∀ ds : List Dat, (frzs ds).length = ds.length
  | [] => rfl
  | d :: ds => by show (frzs ds).length + 1 = ds.length + 1; rw [frzs_length ds]
end
end
end M
namespace M
open PySem PySem.Spec PyProof.Rows L2
section
variable {W : Wd} {F F' F1 F2 : AS} {H H' H1 H2 : Hp} {fp fp' fp1 fp2 : AS}
theorem Tgo.refl : Tgo H H := ⟨fun _ h => h, fun _ ps e => ⟨ps, e⟩⟩
theorem Tgo.new {A : Addr} {u : HO} (e : H A = none) (n2 : NT u) : Tgo H (L2.upd H A u) := by
  refine ⟨fun T t => t.ext fun b o q => ?_, fun b ps q => ?_⟩
  · rw [upd_ne]; exact q
    intro z; rw [z, e] at q; cases q
  · by_cases z : b = A
    · rw [z, upd_same] at q; cases q; exact absurd rfl (n2 ps)
    · rw [upd_ne z] at q; exact ⟨ps, q⟩
theorem Step.refl (x : Ok W F H fp) : Step W F H fp F H fp := ⟨fun _ _ e _ => .of e, fun _ z => z, fun _ z => .inl z, fun _ z => .inl z, x⟩
theorem not_mut_fp (x : Ok W F H fp) {a : Addr} {o : HO} (e : H a = some o) (n : ¬ Mut (some o)) : ¬ fp a := fun z => n (by rw [← e]; exact x.own a z)
theorem Step.keepR (x : Step W F H fp F1 H1 fp1) (ok : Ok W F H fp) {g : AS} (dj : ∀ a, g a → ¬ fp a) : ∀ a o, H a = some o → NT o → (g a ∨ F a ∨ ¬ Mut (some o)) → H1 a = some o := fun a o e t z => by
  refine (x.kp a o e ?_).nt t
  rcases z with z | z | z
  · exact dj a z
  · exact fun q => ok.nf a q z
  · exact not_mut_fp ok e z
/-- what is told of another thing stays told -/
theorem Rep.step {g : AS} {d : Dat} {v : V} (r : Rep W F H g d v) (x : Step W F H fp F1 H1 fp1) (ok : Ok W F H fp) (dj : ∀ a, g a → ¬ fp a) : Rep W F1 H1 g d v := Rep.mono x.fx d _ _ r (x.keepR ok dj)
theorem Reps.step {g : AS} {ds : List Dat} {vs : List V} (r : Reps W F H g ds vs) (x : Step W F H fp F1 H1 fp1) (ok : Ok W F H fp) (dj : ∀ a, g a → ¬ fp a) : Reps W F1 H1 g ds vs := Reps.mono x.fx ds _ _ r (x.keepR ok dj)
/-- where nothing old was written -/
theorem Rep.kept {g : AS} {d : Dat} {v : V} (r : Rep W F H g d v) (fx : ∀ a, F a → F1 a) (k : Keep H H1) : Rep W F1 H1 g d v := Rep.mono fx d _ _ r fun a o e t _ => (k a o e).nt t
theorem Reps.kept {g : AS} {ds : List Dat} {vs : List V} (r : Reps W F H g ds vs) (fx : ∀ a, F a → F1 a) (k : Keep H H1) : Reps W F1 H1 g ds vs := Reps.mono fx ds _ _ r fun a o e t _ => (k a o e).nt t
theorem Reps.append : ∀ {ds es : List Dat} {f g : AS} {vs us : List V}, Reps W F H f ds vs → Reps W F H g es us → (∀ a, f a → ¬ g a) → Reps W F H (fun a => f a ∨ g a) (ds ++ es) (vs ++ us)
  | [], _, _, _, _, _, h, k, _ => by
    cases h with
    | nil e => exact Reps.eqv _ _ _ _ k fun a => ⟨fun z => z.elim (fun z => absurd z (e a)) id, .inr⟩
  | d :: ds, es, _, _, _, _, h, k, n => by
    cases h with
    | cons r1 r2 m i =>
      refine .cons r1 (Reps.append r2 k fun a z => n a ((i a).mpr (.inr z))) (fun a z q => ?_) fun a => ⟨fun z => ?_, fun z => ?_⟩
      · rcases q with q | q
        · exact m a z q
        · exact n a ((i a).mpr (.inl z)) q
      · rcases z with z | z
        · exact ((i a).mp z).imp_right .inl
        · exact .inr (.inr z)
      · rcases z with z | z | z
        · exact .inl ((i a).mpr (.inl z))
        · exact .inl ((i a).mpr (.inr z))
        · exact .inr z
theorem Sl.eqv {env : Env} {σ : L2.St} (h : Sl W F H fp env σ) (i : ∀ a, fp' a ↔ fp a) : Sl W F H fp' env σ := by
  induction h generalizing fp' with
  | em e => exact .em fun a z => e a ((i a).mp z)
  | no _ ih => exact .no (ih i)
  | so r s n j _ => exact .so r s n fun a => (i a).trans (j a)
theorem Sl.kept {env : Env} {σ : L2.St} (h : Sl W F H fp env σ) (fx : ∀ a, F a → F' a) (k : Keep H H') : Sl W F' H' fp env σ := h.mono fx fun a o e t _ => (k a o e).nt t
/-- a slot is forgotten -/
theorem Sl.drop {env : Env} {σ : L2.St} (i : Nat) (h : Sl W F H fp env σ) : ∃ g, (∀ a, g a → fp a) ∧ Sl W F H g (env.set i none) σ := by
  induction h generalizing i with
  | em e => exact ⟨_, fun _ z => z, .em e⟩
  | @no fp env x σ s ih =>
    cases i with
    | zero => exact ⟨fp, fun _ z => z, .no s⟩
    | succ k =>
      obtain ⟨g, j, s'⟩ := ih k
      exact ⟨g, j, .no s'⟩
  | @so fp f0 g0 d0 v0 env σ r s n j ih =>
    cases i with
    | zero => exact ⟨g0, fun a z => (j a).mpr (.inr z), .no s⟩
    | succ k =>
      obtain ⟨g, j', s'⟩ := ih k
      exact ⟨fun a => f0 a ∨ g a, fun a z => (j a).mpr (z.imp_right (j' a)),   .so r s' (fun a z q => n a z (j' a q)) fun a => Iff.rfl⟩
/-- a thing is laid into a slot that holds nothing -/
theorem Sl.put {env : Env} {σ : L2.St} {i : Nat} {f : AS} {d : Dat} {v : V} (h : Sl W F H fp env σ) (e : env[i]? = Option.some none) (r : Rep W F H f d v) (n : ∀ a, f a → ¬ fp a) :
    Sl W F H (fun a => f a ∨ fp a) (env.set i (Option.some d)) (σ.set i (Option.some v)) := by
  induction h generalizing i with
  | em _ => simp at e
  | @no fp env x σ s ih =>
    cases i with
    | zero => exact .so r s n fun a => Iff.rfl
    | succ k => exact .no (ih (by simpa using e) n)
  | @so fp f0 g0 d0 v0 env σ r0 s n0 j ih =>
    cases i with
    | zero => simp at e
    | succ k =>
      refine   .so r0 (ih (i := k) (by simpa using e) fun a z q => n a z ((j a).mpr (.inr q))) (fun a z q => ?_) fun a => ?_
      · rcases q with q | q
        · exact n a q ((j a).mpr (.inl z))
        · exact n0 a z q
      · rw [j a]
        exact ⟨fun z => by rcases z with z | z | z; exact .inr (.inl z); exact .inl z; exact .inr (.inr z), fun z => by rcases z with z | z | z; exact .inr (.inl z); exact .inl z; exact .inr (.inr z)⟩
theorem set_self {α : Type} : ∀ {l : List α} {i : Nat} {x : α}, l[i]? = some x → l.set i x = l
  | [], _, _, h => by simp at h
  | _ :: _, 0, _, h => by simp at h; subst h; rfl
  | _ :: l, i + 1, _, h => by show _ :: l.set i _ = _; rw [set_self (by simpa using h)]
end
end M
namespace M
open PySem PySem.Spec PyProof.Rows L2
structure Gd (C : Ctx) (X : Cx) : Prop where
  prog : X.prog = C.P
  w : X.w = C.w
  K : X.K = C.K
  mg : X.mg = C.mg
  base : X.base = C.base
  N : X.N = C.N
  nd : C.N.Nodup
  sc : X.env.scope = C.sc
  calm' : C.hot = false → X.calm = true
  room : L2H.RoomH C.k X.A
  hd : C.hot = false → X.A.handled = none
  fn : ∀ x, C.fnc x = true → X.fn x = true
  po : PassesOwn (model X.prog X.w) X.A X.env X.xe
  gu : C.gd = true → X.A.guards = some []
  cq : ∀ c q, C.cq = some (c, q) → X.env.code = .ref c ∧ X.env.qual = q
  exo : C.hot = true → ∀ a c d, C.exo = some (a, c, d) → ∃ (A : Addr) (oe : Obj), C.mg (C.T.cn c) = some (.ref A) ∧ (a, oe) ∈ X.pn ∧ Zc (.ref A) d oe ∧ ∃ vs, oe.data = .fields vs
theorem Gd.roomM {C : Ctx} {X : Cx} (g : Gd C X) (hh : C.hot = false) {j : Nat} (h : j ≤ C.k) : Room j X.A := ⟨g.hd hh, (g.room.mono h).dp, (g.room.mono h).un⟩
theorem PE_imp {X : Cx} {e : Expr} {t t' : TE} (h : PE X e t) (i : ∀ σ H Q, t' σ H Q → t σ H Q) : PE X e t' := ⟨fun pins s σ H Q I q => h.run pins s σ H Q I (i σ H Q q)⟩
theorem PT_imp {X : Cx} {e : Expr} {t t' : TT} (h : PT X e t) (i : ∀ σ H Q, t' σ H Q → t σ H Q) : PT X e t' := ⟨fun pins s σ H Q I q => h.run pins s σ H Q I (i σ H Q q)⟩
theorem PW_imp {X : Cx} {e : Expr} {t t' : TT} (h : PW X e t) (i : ∀ σ H Q, t' σ H Q → t σ H Q) : PW X e t' := ⟨fun wh pins s σ H Q I q => h.run wh pins s σ H Q I (i σ H Q q)⟩
theorem PA_imp {X : Cx} {es : List Expr} {t t' : TA} (h : PA X es t) (i : ∀ σ H Q, t' σ H Q → t σ H Q) : PA X es t' := ⟨fun pos pins s σ H Q I q => h.run pos pins s σ H Q I (i σ H Q q)⟩
theorem PSs_imp {X : Cx} {e : List Stmt} {t t' : TS} (h : PSs X e t) (i : ∀ D σ H, t' D σ H → t D σ H) : PSs X e t' := ⟨fun pins s σ H D I q => h.run pins s σ H D I (i D σ H q)⟩
theorem PS_imp {X : Cx} {e : Stmt} {t t' : TS} (h : PS X e t) (i : ∀ D σ H, t' D σ H → t D σ H) : PS X e t' := ⟨fun pins s σ H D I q => h.run pins s σ H D I (i D σ H q)⟩
/-- behind an expression whose value may be kept -/
structure Po (W : Wd) (pr : Bool) (F : AS) (H : Hp) (fp : AS) (σ : L2.St) (env : Env) (F' : AS) (H' : Hp) (fe fd : AS) (d : Dat) (v : V) : Prop where
  sl : Sl W F' H' fe env σ
  rep : Rep W F' H' fd d v
  dj : ∀ a, fe a → ¬ fd a
  st : Step W F H fp F' H' (fun a => fe a ∨ fd a)
  pu : pr = true → Keep H H'
/-- behind a test, a store -/
structure Pt (W : Wd) (pr : Bool) (F : AS) (H : Hp) (fp : AS) (σ : L2.St) (env : Env) (F' : AS) (H' : Hp) (fe : AS) : Prop where
  sl : Sl W F' H' fe env σ
  st : Step W F H fp F' H' fe
  pu : pr = true → Keep H H'
/-- behind an argument list -/
structure Pa (W : Wd) (pr : Bool) (F : AS) (H : Hp) (fp : AS) (σ : L2.St) (env : Env) (F' : AS) (H' : Hp) (fe fd : AS) (ds : List Dat) (vs : List V) : Prop where
  sl : Sl W F' H' fe env σ
  rep : Reps W F' H' fd ds vs
  dj : ∀ a, fe a → ¬ fd a
  st : Step W F H fp F' H' (fun a => fe a ∨ fd a)
  pu : pr = true → Keep H H'
abbrev LA := Env → (List Dat → Env → Prop) → Prop
def lift (W : Wd) (pr : Bool) (w : LE) : TE := fun σ H Q => ∃ F fp env Qd, Sl W F H fp env σ ∧ Ok W F H fp ∧ w env Qd ∧ ∀ d env' F' H' fe fd v, Qd d env' → Po W pr F H fp σ env' F' H' fe fd d v → Q v H'
def liftV (W : Wd) (pr : Bool) (w : LE) : TE := fun σ H Q => ∃ F fp env Qd, Sl W F H fp env σ ∧ Ok W F H fp ∧ w env Qd ∧ ∀ d env' F' H' fe fd v, Qd d env' → Pv W pr F H fp σ env' F' H' fe fd d v → Q v H'
def liftT (W : Wd) (pr : Bool) (w : LT) : TT := fun σ H Q => ∃ F fp env Qd, Sl W F H fp env σ ∧ Ok W F H fp ∧ w env Qd ∧ ∀ b env' F' H' fe, Qd b env' → Pt W pr F H fp σ env' F' H' fe → Q b H'
def liftA (W : Wd) (pr : Bool) (w : LA) : TA := fun σ H Q => ∃ F fp env Qd, Sl W F H fp env σ ∧ Ok W F H fp ∧ w env Qd ∧ ∀ ds env' F' H' fe fd vs, Qd ds env' → Pa W pr F H fp σ env' F' H' fe fd ds vs → Q vs H'
def JE (C : Ctx) (pr : Bool) (e : Expr) (w : LE) : Prop := ∀ X, Gd C X → PE X e (lift C.W pr w)
def JV (C : Ctx) (pr : Bool) (e : Expr) (w : LE) : Prop := ∀ X, Gd C X → PE X e (liftV C.W pr w)
def JT (C : Ctx) (pr : Bool) (e : Expr) (w : LT) : Prop := ∀ X, Gd C X → PT X e (liftT C.W pr w)
def JW (C : Ctx) (pr : Bool) (e : Expr) (w : LT) : Prop := ∀ X, Gd C X → PW X e (liftT C.W pr w)
def JA (C : Ctx) (pr : Bool) (es : List Expr) (w : LA) : Prop := ∀ X, Gd C X → PA X es (liftA C.W pr w)
section
variable {C : Ctx} {W : Wd} {pr p1 p2 p3 : Bool} {F F' F1 F2 : AS} {H H' H1 H2 : Hp} {fp fp' fe fe1 fe2 fd fd1 fd2 : AS} {σ : L2.St} {env env1 env2 : Env} {d d1 d2 : Dat} {v v1 v2 : V}
theorem Po.pv (h : Po W pr F H fp σ env F' H' fe fd d v) : Pv W pr F H fp σ env F' H' fe fd d v := ⟨h.sl, h.rep, h.st.sub fun _ => .inl, h.pu⟩
theorem Pv.po (h : Pv W pr F H fp σ env F' H' fe fd d v) (z : Fz d) : Po W pr F H fp σ env F' H' fe fd d v := by
  have e := Rep.em d fd v h.rep z
  exact ⟨h.sl, h.rep, fun a _ => e a, ⟨h.st.kp, h.st.fx, h.st.fb, fun a q => h.st.nw a (q.resolve_right (e a)), h.st.ok.sub fun a q => q.resolve_right (e a)⟩, h.pu⟩
theorem jv_of {e : Expr} {w : LE} (h : JE C pr e w) : JV C pr e w := fun X g => PE_imp (h X g) fun σ H Q ⟨F, fp, env, Qd, sl, ok, hw, q⟩ => ⟨F, fp, env, Qd, sl, ok, hw, fun d env' F' H' fe fd v hd po => q d env' F' H' fe fd v hd po.pv⟩
/-- what nobody owns may be kept -/
def wFz (w : LE) : LE := fun env Q => w env fun d env' => Fz d ∧ Q d env'
theorem je_of {e : Expr} {w : LE} (h : JV C pr e w) : JE C pr e (wFz w) := fun X g => PE_imp (h X g) fun σ H Q ⟨F, fp, env, Qd, sl, ok, hw, q⟩ => ⟨F, fp, env, _, sl, ok, hw, fun d env' F' H' fe fd v hd po => q d env' F' H' fe fd v hd.2 (po.po hd.1)⟩
theorem and_pure {p q : Bool} {A B : Prop} (h1 : p = true → A) (h2 : q = true → B) : (p && q) = true → A ∧ B := fun h => by
  rw [Bool.and_eq_true] at h; exact ⟨h1 h.1, h2 h.2⟩
def wVar (i : Nat) : LE := fun env Q => ∃ d, env[i]? = some (some d) ∧ Q d env
/-- a name taken: what was owned is frozen -/
def wTake (i : Nat) : LE := fun env Q => ∃ d, env[i]? = some (some d) ∧ ((Fz d ∧ Q d env) ∨ Q (frz d) (env.set i (some (frz d))))
def wC (d : Dat) : LE := fun env Q => Q d env
theorem pe_slot {X : Cx} {i : Nat} {x : Str} {pos : Pos} (g : Gd C X) (hN : C.N[i]? = some x) (hv : Vis C.sc x) (hd : (x == ("__debug__" : Str)) = false) (hc : (x == ("__classdict__" : Str)) = false) : PE X (.Name x pos) (tVar i) :=
  pe_var (by rw [g.N]; exact hN) (by rw [g.sc]; exact hv) hd hc
theorem jv_var {i : Nat} {x : Str} {pos : Pos} (hN : C.N[i]? = some x) (hv : Vis C.sc x) (hd : (x == ("__debug__" : Str)) = false) (hc : (x == ("__classdict__" : Str)) = false) : JV C true (.Name x pos) (wVar i) := fun X g =>
  PE_imp (pe_slot g hN hv hd hc) fun σ H Q ⟨F, fp, env, Qd, sl, ok, ⟨d, e, hw⟩, q⟩ => by
    obtain ⟨v, f, g', e1, r, j, n, s⟩ := sl.at_ e
    exact ⟨v, e1, q d env F H fp f v hw ⟨sl, r, Step.refl ok, fun _ => Keep.rfl⟩⟩
theorem je_var {i : Nat} {x : Str} {pos : Pos} (hN : C.N[i]? = some x) (hv : Vis C.sc x) (hd : (x == ("__debug__" : Str)) = false) (hc : (x == ("__classdict__" : Str)) = false) : JE C true (.Name x pos) (wTake i) := fun X g =>
  PE_imp (pe_slot g hN hv hd hc) fun σ H Q ⟨F, fp, env, Qd, sl, ok, ⟨d, e, hw⟩, q⟩ => by
    obtain ⟨v, f, g', e1, r, j, n, s⟩ := sl.at_ e
    refine ⟨v, e1, ?_⟩
    rcases hw with ⟨z, hw⟩ | hw
    · exact q d env F H fp f v hw (Pv.po ⟨sl, r, Step.refl ok, fun _ => Keep.rfl⟩ z)
    · have fx : ∀ a, F a → (fun a => F a ∨ f a) a := fun _ z => .inl z
      have r' : Rep C.W (fun a => F a ∨ f a) H NoA (frz d) v := Rep.freeze fx d f v r fun _ z => .inr z
      have s' := (s.kept fx Keep.rfl).put (i := i) (by
        have hi : i < env.length := (List.getElem?_eq_some_iff.mp e).1
        rw [List.getElem?_set_self hi]) r' fun _ z => z.elim
      rw [List.set_set, set_self e1] at s'
      refine q _ _ _ H g' NoA v hw ⟨s'.eqv fun a => ⟨.inr, fun z => z.elim False.elim id⟩, r', fun _ _ z => z, ⟨fun _ _ e _ => .of e, fx, fun a z => ?_, fun a z => ?_, ⟨fun a z q => ?_, fun a z => ?_, fun a z => ?_, ok.tb⟩⟩, fun _ => Keep.rfl⟩
      · exact z.imp_right fun z => .inl ((j a).mpr (.inl z))
      · exact .inl ((j a).mpr (.inr (z.resolve_right id)))
      · have z := z.resolve_right id
        rcases q with q | q
        · exact ok.nf a ((j a).mpr (.inr z)) q
        · exact n a q z
      · exact ok.own a ((j a).mpr (.inr (z.resolve_right id)))
      · rcases z with z | z
        · exact ok.lv a z
        · intro w
          have := ok.own a ((j a).mpr (.inl z))
          rw [w] at this; exact this
theorem jc {e : Expr} {d : Dat} {v : V} (he : ∀ X : Cx, PE X e (tC v)) (hr : ∀ W F H, Rep W F H NoA d v) : JE C true e (wC d) := fun X g =>
  PE_imp (he X) fun σ H Q ⟨F, fp, env, Qd, sl, ok, hw, q⟩ => q d env F H fp NoA v hw ⟨sl, hr _ _ _, fun _ _ z => z, (Step.refl ok).sub fun a z => z.resolve_right id, fun _ => Keep.rfl⟩
theorem je_int {i : Int} {j : Nat} {pos : Pos} : JE C true (.Constant (.int i) j pos) (wC (.int i)) := jc (fun _ => pe_int) fun _ _ _ => .int _ fun _ z => z
theorem je_bl {i : Bool} {j : Nat} {pos : Pos} : JE C true (.Constant (.bool i) j pos) (wC (.bl i)) := jc (fun _ => pe_bl) fun _ _ _ => .bl _ fun _ z => z
theorem je_str {i : Str} {j : Nat} {pos : Pos} : JE C true (.Constant (.str i) j pos) (wC (.str i)) := jc (fun _ => pe_str) fun _ _ _ => .str _ fun _ z => z
theorem je_non {j : Nat} {pos : Pos} : JE C true (.Constant .none j pos) (wC .non) := jc (fun _ => pe_non) fun _ _ _ => .non fun _ z => z
theorem je_glb {x : Str} {d : Dat} {pos : Pos} (c : Cn C x d) (hg : C.sc.names.lookup x = some .globalImplicit) (hd : (x == ("__debug__" : Str)) = false) : JE C true (.Name x pos) (wC d) := fun X g => by
  obtain ⟨v, u, hm, r, hr⟩ := c.ex
  have hg' : Gl X x := by
    show X.env.scope.names.lookup x = _
    rw [g.sc]; exact hg
  exact PE_imp (pe_glob hg' (by rw [g.mg]; exact hm) r hd) fun σ H Q ⟨F, fp, env, Qd, sl, ok, hw, q⟩ => q d env F H fp NoA v hw ⟨sl, hr _ _, fun _ _ z => z, (Step.refl ok).sub fun a z => z.resolve_right id, fun _ => Keep.rfl⟩
/-- something new came, nothing old was written -/
structure Fresh (F : AS) (H : Hp) (F' : AS) (H' : Hp) (fd : AS) : Prop where
  kp : Keep H H'
  tg : Tgo H H'
  fx : ∀ a, F a → F' a
  fb : ∀ a, F' a → F a ∨ (H a = none ∧ H' a ≠ none)
  nw : ∀ a, fd a → H a = none
  nf : ∀ a, fd a → ¬ F' a
theorem Fresh.refl : Fresh F H F H NoA := ⟨Keep.rfl, Tgo.refl, fun _ z => z, fun _ z => .inl z, fun _ z => z.elim, fun _ z => z.elim⟩
theorem Ok.live (x : Ok W F H fp) {a : Addr} (z : fp a) : ∃ o, H a = some o := by
  have := x.own a z
  cases e : H a with
  | none => rw [e] at this; exact this.elim
  | some o => exact ⟨o, rfl⟩
theorem Fresh.step (x : Fresh F H F' H' fd) (ok : Ok W F H fp) (own : ∀ a, fd a → Mut (H' a)) : Step W F H fp F' H' (fun a => fp a ∨ fd a) ∧ ∀ a, fp a → ¬ fd a := by
  have dj : ∀ a, fp a → ¬ fd a := fun a z q => by
    obtain ⟨o, e⟩ := ok.live z
    rw [x.nw a q] at e; cases e
  refine ⟨⟨fun a o e _ => x.kp a o e, x.fx, fun a z => (x.fb a z).imp_right fun z => .inr z.1, fun a z => z.imp_right (x.nw a), ⟨fun a z q => ?_, fun a z => ?_, fun a z => ?_, ok.tb.go x.tg⟩⟩, dj⟩
  · rcases z with z | z
    · rcases x.fb a q with q | q
      · exact ok.nf a z q
      · obtain ⟨o, e⟩ := ok.live z
        rw [q.1] at e; cases e
    · exact x.nf a z q
  · rcases z with z | z
    · obtain ⟨o, e⟩ := ok.live z
      have m := ok.own a z
      rw [e] at m
      rw [(x.kp a o e).nt (mut_nt m)]; exact m
    · exact own a z
  · rcases x.fb a z with q | q
    · intro w
      cases e : H a with
      | none => exact ok.lv a q e
      | some o => exact (x.kp a o e).no w
    · exact q.2
/-- behind e the value d, new or nobody's, in a state that was (F, H, fp, env) -/
theorem Fresh.po (x : Fresh F H F' H' fd) (ok : Ok W F H fp) (sl : Sl W F H fp env σ) (r : Rep W F' H' fd d v) : Po W true F H fp σ env F' H' fp fd d v :=
  have q := x.step ok (Rep.own d fd v r)
  ⟨sl.kept x.fx x.kp, r, q.2, q.1, fun _ => x.kp⟩
/-- one state behind another -/
theorem Po.after {g2 : AS} (st : Step W F H fp F1 H1 fe1) (pu : p1 = true → Keep H H1) (h : Po W p2 F1 H1 fe1 σ env2 F2 H2 fe2 g2 d v) : Po W (p1 && p2) F H fp σ env2 F2 H2 fe2 g2 d v :=
  ⟨h.sl, h.rep, h.dj, st.trans h.st, fun z => have q := and_pure pu h.pu z; Keep.trans q.1 q.2⟩
theorem Pv.after {g2 : AS} (st : Step W F H fp F1 H1 fe1) (pu : p1 = true → Keep H H1) (h : Pv W p2 F1 H1 fe1 σ env2 F2 H2 fe2 g2 d v) : Pv W (p1 && p2) F H fp σ env2 F2 H2 fe2 g2 d v :=
  ⟨h.sl, h.rep, st.trans h.st, fun z => have q := and_pure pu h.pu z; Keep.trans q.1 q.2⟩
theorem Pt.after (st : Step W F H fp F1 H1 fe1) (pu : p1 = true → Keep H H1) (h : Pt W p2 F1 H1 fe1 σ env2 F2 H2 fe2) : Pt W (p1 && p2) F H fp σ env2 F2 H2 fe2 :=
  ⟨h.sl, st.trans h.st, fun z => have q := and_pure pu h.pu z; Keep.trans q.1 q.2⟩
theorem Po.cast {p q : Bool} (h : Po W p F H fp σ env F' H' fe fd d v) (e : q = true → p = true) : Po W q F H fp σ env F' H' fe fd d v := ⟨h.sl, h.rep, h.dj, h.st, fun z => h.pu (e z)⟩
theorem Pv.cast {p q : Bool} (h : Pv W p F H fp σ env F' H' fe fd d v) (e : q = true → p = true) : Pv W q F H fp σ env F' H' fe fd d v := ⟨h.sl, h.rep, h.st, fun z => h.pu (e z)⟩
theorem Pt.cast {p q : Bool} (h : Pt W p F H fp σ env F' H' fe) (e : q = true → p = true) : Pt W q F H fp σ env F' H' fe := ⟨h.sl, h.st, fun z => h.pu (e z)⟩
/-- a thing that was looked at is still so behind the next expression: nothing was written, or nobody owns it -/
theorem Pv.stay {g1 g2 : AS} (h1 : Pv W p1 F H fp σ env1 F1 H1 fe1 g1 d1 v1) (h2 : Pv W p2 F1 H1 fe1 σ env2 F2 H2 fe2 g2 d2 v2) (c : p2 = true ∨ Fz d1) : Rep W F2 H2 g1 d1 v1 := by
  rcases c with c | c
  · exact h1.rep.kept h2.st.fx (h2.pu c)
  · exact h1.rep.step h2.st h1.st.ok fun a z => absurd z (h1.em c a)
/-- the frozen ones are there -/
def FL (F : AS) (H : Hp) : Prop := ∀ a, F a → H a ≠ none
/-- an operation over two things, told over data: r; what it gives is new, or nobody's -/
def Op2 (W : Wd) (r2 : R2) (r : Dat → Dat → (Dat → Prop) → Prop) : Prop :=
  ∀ F H f1 f2 x y vx vy Qd (Q : VK), FL F H → Rep W F H f1 x vx → Rep W F H f2 y vy → r x y Qd → (∀ d v F' H' fd, Qd d → Rep W F' H' fd d v → Fresh F H F' H' fd → Q v H') → r2 vx vy H Q
theorem lift2 {wa wb : LE} {r2 : R2} {r : Dat → Dat → (Dat → Prop) → Prop} (o : Op2 W r2 r) : ∀ σ H Q, lift W (p1 && p2) (w2 p2 wa wb r) σ H Q → tOp r2 (liftV W p1 wa) (liftV W p2 wb) σ H Q := fun σ H Q ⟨F, fp, env, Qd, sl, ok, hw, q⟩ => by
  refine ⟨F, fp, env, _, sl, ok, hw, fun x env1 F1 H1 fe1 g1 v1 hb P1 => ?_⟩
  refine ⟨F1, fe1, env1, _, P1.sl, P1.st.ok, hb, fun y env2 F2 H2 fe2 g2 v2 hc P2 => ?_⟩
  have r1 := P1.stay P2 hc.1
  refine o F2 H2 g1 g2 x y v1 v2 _ Q P2.st.ok.lv r1 P2.rep hc.2 fun d v F3 H3 g3 hd r3 fr => ?_
  have P3 := fr.po P2.st.ok P2.sl r3
  exact q d env2 F3 H3 fe2 g3 v hd ((P3.after (P1.st.trans P2.st) (p1 := p1 && p2) fun z => have k := and_pure P1.pu P2.pu z; Keep.trans k.1 k.2).cast fun z => by rw [z]; rfl)
theorem je_bin {a b : Expr} {op : Operator} {pos : Pos} {wa wb : LE} {r2 : PySem.W.Frag → R2} {r : Dat → Dat → (Dat → Prop) → Prop} (ha : JV C p1 a wa) (hb : JV C p2 b wb) (hr : ∀ X, OpR X (binaryOp op) (r2 X.K)) (o : Op2 C.W (r2 C.K) r) :
    JE C (p1 && p2) (.BinOp a op b pos) (w2 p2 wa wb r) := fun X g =>
  PE_imp (pe_op (hr X) (ha X g) (hb X g)) fun σ H Q h => by rw [g.K]; exact lift2 o σ H Q h
theorem je_cmp {a b : Expr} {op : CmpOp} {pos : Pos} {wa wb : LE} {r2 : PySem.W.Frag → R2} {r : Dat → Dat → (Dat → Prop) → Prop} (ha : JV C p1 a wa) (hb : JV C p2 b wb) (hr : ∀ X, X.w = C.w → X.A.units + 65 < cLine → OpR X (compareOp op) (r2 X.K)) (o : Op2 C.W (r2 C.K) r) (hm : behindInMarks op b = false) :
    JE C (p1 && p2) (.Compare a [op] [b] pos) (w2 p2 wa wb r) := fun X g =>
  PE_imp (pe_cmpR (hr X g.w (by have := g.room.un; omega)) (ha X g) (hb X g) hm) fun σ H Q h => by rw [g.K]; exact lift2 o σ H Q h
end
end M
namespace M
open PySem PySem.Spec PyProof.Rows L2
section
variable {C : Ctx} {W : Wd} {F F' : AS} {H H' : Hp} {fp fd : AS}
theorem Rep.flat {d : Dat} {v : V} (r : Rep W F H fp d v) (e : Em fp) : Rep W F H NoA d v := Rep.eqv _ _ _ _ r fun a => ⟨fun z => z.elim, fun z => e a z⟩
theorem Rep.fz {d : Dat} {v : V} (r : Rep W F H fp d v) (z : Fz d) : Rep W F H NoA d v := r.flat (Rep.em _ _ _ r z)
theorem Reps.fz {ds : List Dat} {vs : List V} (r : Reps W F H fp ds vs) (z : frzs ds = ds) : Reps W F H NoA ds vs := Reps.eqv _ _ _ _ r fun a => ⟨fun q => q.elim, fun q => Reps.em _ _ _ r z a q⟩
theorem keep_upd {p : Addr} {o : HO} (h : H p = none) : Keep H (upd H p o) := fun a u e => .of (by
  rw [upd_ne (ne_of_none e h)]; exact e)
/-- a new tuple of things that nobody owns -/
theorem fresh_tup {ds : List Dat} {vs : List V} {p : Addr} (h : H p = none) (r : Reps W F H NoA ds vs) : Rep W F (upd H p (.tup vs)) NoA (.tup .u ds) (.ref p) ∧ Fresh F H F (upd H p (.tup vs)) NoA :=
  ⟨.tup (.inl (.inl upd_same)) True.intro (r.kept (fun _ z => z) (keep_upd h)), ⟨keep_upd h, Tgo.new h (fun _ z => nomatch z), fun _ z => z, fun _ z => .inl z, fun _ z => z.elim, fun _ z => z.elim⟩⟩
/-- a new list, owned -/
theorem fresh_lst {ds : List Dat} {vs : List V} {p : Addr} (h : H p = none) (hF : ¬ F p) (r : Reps W F H NoA ds vs) : Rep W F (upd H p (.lst vs)) (fun a => a = p) (.lst true ds) (.ref p) ∧ Fresh F H F (upd H p (.lst vs)) (fun a => a = p) :=
  ⟨.lstO upd_same (r.kept (fun _ z => z) (keep_upd h)) (fun z => z) fun b => ⟨.inl, fun z => z.elim id fun z => z.elim⟩, ⟨keep_upd h, Tgo.new h (fun _ z => nomatch z), fun _ z => z, fun _ z => .inl z, fun a z => by rw [z]; exact h, fun a z => by rw [z]; exact hF⟩⟩
def rCatR : R2 := fun x y H Q => ∃ l b xs zs, x = .ref l ∧ y = .ref b ∧ Rd H l (.lst xs) ∧ Rd H b (.lst zs) ∧ xs.length + zs.length ≤ sizeLine ∧ ∀ p, H p = none → Q (.ref p) (upd H p (.lst (xs ++ zs)))
theorem rd_lst {X : Cx} {pins : List (Addr × Obj)} {s : Shared} {σ : L2.St} {l : Addr} {xs : List V} (I : Inv X pins σ H s) (hH : Rd H l (.lst xs)) :
    xs.length ≤ sizeLine ∧ ∃ (its : List Value) (n : Nat), Vals xs its ∧ xs.length = its.length ∧ s.heap.get? l = some { cls := .type "list", data := .seq its.toArray n } := by
  obtain ⟨z, its, n, r, e⟩ : ObjOk X.prog X.w H s.heap l (.lst xs) := hH.ok I.hok
  exact ⟨z, its, n, r, r.length, e⟩
theorem op_catR {X : Cx} : OpR X (binaryOp .Add) rCatR := by
  intro pins s σ H x y v u Q I rx ry h
  obtain ⟨l, b, xs, zs, rfl, rfl, hH, hB, hz, q⟩ := h
  cases rx
  cases ry
  obtain ⟨z, its, n, r, hl, e⟩ := rd_lst I hH
  obtain ⟨z2, its2, n2, r2, hl2, e2⟩ := rd_lst I hB
  refine PySem.P.add_list e e2 ?_ (by rw [List.size_toArray, List.size_toArray]; omega)
  have ea : its.toArray ++ its2.toArray = (its ++ its2).toArray := by simp
  rw [ea]
  exact ⟨.ref _, _, I.lnew (t' := s.toks) (r.append r2) (by rw [List.length_append]; omega), rfl, q _ I.fresh⟩
def r2Add (K : PySem.W.Frag) : R2 := fun x y H Q => (rI0 (fun i j => .int (i + j)) x y H Q) ∨ ((∃ i j, x = .str i ∧ y = .str j ∧ i.length + j.length ≤ sizeLine ∧ Q (.str (i ++ j)) H) ∨ (rCatA K x y H Q ∨ rCatR x y H Q))
theorem or_add (X : Cx) : OpR X (binaryOp .Add) (r2Add X.K) := OpR.or op_add (OpR.or op_add_str (OpR.or op_catA op_catR))
def rAdd : Dat → Dat → (Dat → Prop) → Prop
  | .int i, .int j, Q => Q (.int (i + j))
  | .str a, .str b, Q => a.length + b.length ≤ sizeLine ∧ Q (.str (a ++ b))
  | .tup _ xs, .tup _ ys, Q => frzs xs = xs ∧ frzs ys = ys ∧ xs.length + ys.length ≤ sizeLine ∧ Q (.tup .u (xs ++ ys))
  | .lst _ xs, .lst _ ys, Q => frzs xs = xs ∧ frzs ys = ys ∧ xs.length + ys.length ≤ sizeLine ∧ Q (.lst true (xs ++ ys))
  | _, _, _ => False
theorem Reps.app {xs ys : List Dat} {us vs : List V} (h : Reps W F H NoA xs us) (k : Reps W F H NoA ys vs) : Reps W F H NoA (xs ++ ys) (us ++ vs) := Reps.eqv _ _ _ _ (Reps.append h k fun _ z => z.elim) fun a => ⟨fun z => z.elim, fun z => z.elim id id⟩
theorem o_add : Op2 W (r2Add W.K) rAdd := by
  intro F H f1 f2 x y vx vy Qd Q fl rx ry h q
  cases x with
  | int i =>
    cases y with
    | int j => cases rx; cases ry; exact .inl ⟨i, j, rfl, rfl, q _ _ F H NoA h (.int _ fun _ z => z) .refl⟩
    | _ => exact (show False from h).elim
  | str a =>
    cases y with
    | str b => cases rx; cases ry; exact .inr (.inl ⟨a, b, rfl, rfl, h.1, q _ _ F H NoA h.2 (.str _ fun _ z => z) .refl⟩)
    | _ => exact (show False from h).elim
  | tup _ xs =>
    cases y with
    | tup _ ys =>
      obtain ⟨z1, z2, hl, h⟩ := h
      cases rx with
      | @tup _ a us _ _ s1 _ r1 =>
        cases ry with
        | @tup _ b vs _ _ s2 _ r2 =>
          have r1 := r1.fz z1
          have r2 := r2.fz z2
          refine .inr (.inr (.inl ⟨a, b, us, vs, rfl, rfl, s1, s2, by rw [← r1.length, ← r2.length]; exact hl, fun e => ?_, fun _ e => ?_, fun _ _ p hp => ?_⟩))
          · subst e
            have : xs = [] := by cases r1; rfl
            subst this
            exact q _ _ F H NoA h (.tup s2 True.intro r2) .refl
          · subst e
            have : ys = [] := by cases r2; rfl
            subst this
            rw [List.append_nil] at h
            exact q _ _ F H NoA h (.tup s1 True.intro r1) .refl
          · have z := fresh_tup hp (r1.app r2)
            exact q _ _ F _ NoA h z.1 z.2
    | _ => exact (show False from h).elim
  | lst o xs =>
    cases y with
    | lst o' ys =>
      obtain ⟨z1, z2, hl, h⟩ := h
      have k1 : ∃ a us, vx = .ref a ∧ Rd H a (.lst us) ∧ Reps W F H NoA xs us := by
        cases rx with
        | lstF _ s _ r => exact ⟨_, _, rfl, s, r.fz z1⟩
        | lstO s r _ _ => exact ⟨_, _, rfl, .inl s, r.fz z1⟩
      have k2 : ∃ a us, vy = .ref a ∧ Rd H a (.lst us) ∧ Reps W F H NoA ys us := by
        cases ry with
        | lstF _ s _ r => exact ⟨_, _, rfl, s, r.fz z2⟩
        | lstO s r _ _ => exact ⟨_, _, rfl, .inl s, r.fz z2⟩
      obtain ⟨a, us, rfl, s1, r1⟩ := k1
      obtain ⟨b, vs, rfl, s2, r2⟩ := k2
      refine .inr (.inr (.inr ⟨a, b, us, vs, rfl, rfl, s1, s2, by rw [← r1.length, ← r2.length]; exact hl, fun p hp => ?_⟩))
      have z := fresh_lst hp (fun z => fl p z hp) (r1.app r2)
      exact q _ _ F _ _ h z.1 z.2
    | _ => exact (show False from h).elim
  | _ => cases y <;> exact (show False from h).elim
/-- ints, under a condition -/
def rInt (cnd : Int → Int → Prop) (f : Int → Int → Dat) : Dat → Dat → (Dat → Prop) → Prop
  | .int i, .int j, Q => cnd i j ∧ Q (f i j)
  | _, _, _ => False
theorem o_int {cnd : Int → Int → Prop} {f : Int → Int → Dat} {g : Int → Int → V} (hg : ∀ i j F H, Rep W F H NoA (f i j) (g i j)) : Op2 W (rI cnd g) (rInt cnd f) := by
  intro F H f1 f2 x y vx vy Qd Q fl rx ry h q
  cases x with
  | int i =>
    cases y with
    | int j => cases rx; cases ry; exact ⟨i, j, rfl, rfl, h.1, q _ _ F H NoA h.2 (hg _ _ _ _) .refl⟩
    | _ => exact (show False from h).elim
  | _ => cases y <;> exact (show False from h).elim
def rPow := rInt CPow fun i j => .int (i ^ j.toNat)
theorem rep_int {i : Int} : Rep W F H NoA (.int i) (.int i) := .int _ fun _ z => z
theorem rep_bl {i : Bool} : Rep W F H NoA (.bl i) (.bl i) := .bl _ fun _ z => z
theorem rep_str {i : Str} : Rep W F H NoA (.str i) (.str i) := .str _ fun _ z => z
theorem rep_non : Rep W F H NoA .non .non := .non fun _ z => z
variable {p1 p2 : Bool} {a b : Expr} {pos : Pos} {wa wb : LE}
theorem je_add (ha : JV C p1 a wa) (hb : JV C p2 b wb) : JE C (p1 && p2) (.BinOp a .Add b pos) (w2 p2 wa wb rAdd) := je_bin (r2 := r2Add) ha hb or_add o_add
theorem je_pow (ha : JV C p1 a wa) (hb : JV C p2 b wb) : JE C (p1 && p2) (.BinOp a .Pow b pos) (w2 p2 wa wb rPow) := je_bin (r2 := fun _ => _) ha hb (fun _ => op_pow) (o_int fun _ _ _ _ => rep_int)
def rMul : Dat → Dat → (Dat → Prop) → Prop
  | .int i, .int j, Q => CMul i j ∧ Q (.int (i * j))
  | .lst true xs, .int k, Q => frzs xs = xs ∧ -(2 ^ 63) ≤ k ∧ k < 2 ^ 63 ∧ xs.length * k.toNat ≤ sizeLine ∧ Q (.lst true (List.replicate k.toNat xs).flatten)
  | _, _, _ => False
theorem Reps.times {xs : List Dat} {us : List V} (h : Reps W F H NoA xs us) : ∀ n : Nat, Reps W F H NoA (List.replicate n xs).flatten (List.replicate n us).flatten
  | 0 => .nil fun _ z => z
  | n + 1 => by
    show Reps W F H NoA (xs ++ (List.replicate n xs).flatten) (us ++ (List.replicate n us).flatten)
    exact h.app (Reps.times h n)
theorem o_mul : Op2 W (fun x y H Q => rI CMul (fun i j => .int (i * j)) x y H Q ∨ rRep x y H Q) rMul := by
  intro F H f1 f2 x y vx vy Qd Q fl rx ry h q
  cases x with
  | int i =>
    cases y with
    | int j => cases rx; cases ry; exact .inl ⟨i, j, rfl, rfl, h.1, q _ _ F H NoA h.2 rep_int .refl⟩
    | _ => exact (show False from h).elim
  | lst o xs =>
    cases o with
    | false => cases y <;> exact (show False from h).elim
    | true =>
      cases y with
      | int k =>
        obtain ⟨z, k1, k2, hl, h⟩ := h
        cases ry
        cases rx with
        | @lstO _ _ a us _ s r _ _ =>
          have r := r.fz z
          refine .inr ⟨a, k, us, rfl, rfl, s, k1, k2, by rw [← r.length]; exact hl, fun p hp => ?_⟩
          have z := fresh_lst hp (fun z => fl p z hp) (r.times k.toNat)
          exact q _ _ F _ _ h z.1 z.2
      | _ => exact (show False from h).elim
  | _ => cases y <;> exact (show False from h).elim
theorem je_mul (ha : JV C p1 a wa) (hb : JV C p2 b wb) : JE C (p1 && p2) (.BinOp a .Mult b pos) (w2 p2 wa wb rMul) := je_bin (r2 := fun _ => _) ha hb (fun _ => OpR.or op_mul op_rep) o_mul
end
end M
namespace M
open PySem PySem.Spec PyProof.Rows L2
mutual
def isPy : Dat → Bool
  | .non => true | .bl _ => true | .int _ => true | .str _ => true
  | .tup _ xs => isPys xs
  | .lst _ xs => isPys xs
  | .dct _ _ _ => false
  | .dtt _ _ _ => false
  | .dxt _ _ _ => false
  | .obj _ _ _ => false
  | .scr _ => false
  | .exn _ _ => false
  | .fnv _ => false
def isPys : List Dat → Bool
  | [] => true
  | d :: ds => isPy d && isPys ds
end
mutual
def toPy : Dat → PyData
  | .non => .none | .bl b => .bool b | .int i => .int i | .str x => .str x
  | .tup _ xs => .tuple (toPys xs)
  | .lst _ xs => .list (toPys xs)
  | .dct _ _ _ => .none
  | .dtt _ _ _ => .none
  | .dxt _ _ _ => .none
  | .obj _ _ _ => .none
  | .scr _ => .none
  | .exn _ _ => .none
  | .fnv _ => .none
def toPys : List Dat → List PyData
  | [] => []
  | d :: ds => toPy d :: toPys ds
end
def toV : Dat → V
  | .bl b => .bl b | .int i => .int i | .str x => .str x
  | _ => .non
def flatD : Dat → Bool
  | .non => true | .bl _ => true | .int _ => true | .str _ => true
  | _ => false
section
variable {C : Ctx} {W : Wd} {F F' : AS} {H H' : Hp} {fp fd : AS} {p1 p2 p3 : Bool} {a b c : Expr} {pos : Pos} {wa wb wc : LE}
mutual
theorem Rep.dp : ∀ (d : Dat) (fp : AS) (v : V), Rep W F H fp d v → isPy d = true → Dp W.K H v (toPy d)
  | .non, _, _, h, _ => by cases h; exact .non
  | .bl _, _, _, h, _ => by cases h; exact .bl _
  | .int _, _, _, h, _ => by cases h; exact .int _
  | .str _, _, _, h, _ => by cases h; exact .str _
  | .tup _ ds, _, _, h, z => by cases h with | tup s _ r => exact .tup s (Reps.dp ds _ _ r z)
  | .lst _ ds, _, _, h, z => by
    cases h with
    | lstF _ s _ r => exact .lst (.inl s) (Reps.dp ds _ _ r z)
    | lstO s r _ _ => exact .lst (.inl (.inl s)) (Reps.dp ds _ _ r z)
  | .dct _ _ _, _, _, _, z => by cases z
  | .dtt _ _ _, _, _, _, z => by cases z
  | .dxt _ _ _, _, _, _, z => by cases z
  | .obj _ _ _, _, _, _, z => by cases z
  | .scr _, _, _, _, z => by cases z
  | .exn _ _, _, _, _, z => by cases z
  | .fnv _, _, _, _, z => by cases z
theorem Reps.dp : ∀ (ds : List Dat) (fp : AS) (vs : List V), Reps W F H fp ds vs → isPys ds = true → DpAll W.K H vs (toPys ds)
  | [], _, _, h, _ => by cases h; exact .nil
  | d :: ds, _, _, h, z => by
    cases h with
    | cons r1 r2 _ _ =>
      have z' : (isPy d && isPys ds) = true := z
      rw [Bool.and_eq_true] at z'
      exact .cons (Rep.dp d _ _ r1 z'.1) (Reps.dp ds _ _ r2 z'.2)
end
theorem Rep.toV {d : Dat} {v : V} (r : Rep W F H fp d v) (z : flatD d = true) : v = toV d ∧ flatV v = true := by
  cases r <;> first | exact ⟨rfl, rfl⟩ | cases z
theorem Reps.toV : ∀ {ds : List Dat} {fp : AS} {vs : List V}, Reps W F H fp ds vs → ds.all flatD = true → vs = ds.map M.toV ∧ vs.all flatV = true
  | [], _, _, h, _ => by cases h; exact ⟨rfl, rfl⟩
  | d :: ds, _, _, h, z => by
    cases h with
    | cons r1 r2 _ _ =>
      rw [List.all_cons, Bool.and_eq_true] at z
      have q1 := r1.toV z.1
      have q2 := Reps.toV r2 z.2
      rw [q1.1, q2.1, List.all_cons, Bool.and_eq_true]
      refine ⟨rfl, ?_, ?_⟩
      · rw [← q1.1]; exact q1.2
      · rw [← q2.1]; exact q2.2
def eqDat (x y : Dat) (Q : Bool → Prop) : Prop := isPy x = true ∧ isPy y = true ∧ SeqAt.shaped (toPy x) = true ∧ SeqAt.shaped (toPy y) = true ∧ Q (PyData.eqv (toPy x) (toPy y))
def eqSome (x y : Dat) (Q : Bool → Prop) : Prop := match x, y with
  | .int i, .int j => Q (decide (i = j))
  | .str i, .str j => Q (decide (i = j))
  | .bl i, .bl j => Q (decide (i = j))
  | .non, .str _ => Q false
  | .str _, .non => Q false
  | .non, .int _ => Q false
  | .int _, .non => Q false
  | .int _, .str _ => Q false
  | .str _, .int _ => Q false
  | x, y => eqDat x y Q
def rEqq (x y : Dat) (Q : Dat → Prop) : Prop := eqSome x y fun b => Q (.bl b)
def rNee (x y : Dat) (Q : Dat → Prop) : Prop := eqSome x y fun b => Q (.bl (!b))
theorem eqSome_ok {f1 f2 : AS} {x y : Dat} {vx vy : V} {Qb : Bool → Prop} (rx : Rep W F H f1 x vx) (ry : Rep W F H f2 y vy) (h : eqSome x y Qb) :
    (scal vx vy = true ∧ Qb (decide (vx = vy))) ∨ (∃ d e, Dp W.K H vx d ∧ Dp W.K H vy e ∧ SeqAt.shaped d = true ∧ SeqAt.shaped e = true ∧ Qb (PyData.eqv d e)) := by
  have data : eqDat x y Qb → (scal vx vy = true ∧ Qb (decide (vx = vy))) ∨ (∃ d e, Dp W.K H vx d ∧ Dp W.K H vy e ∧ SeqAt.shaped d = true ∧ SeqAt.shaped e = true ∧ Qb (PyData.eqv d e)) := fun ⟨z1, z2, s1, s2, q⟩ => Or.inr ⟨_, _, Rep.dp x _ _ rx z1, Rep.dp y _ _ ry z2, s1, s2, q⟩
  unfold eqSome at h
  split at h
  · cases rx; cases ry; exact .inl ⟨rfl, by simpa using h⟩
  · cases rx; cases ry; exact .inl ⟨rfl, by simpa using h⟩
  · cases rx; cases ry; exact .inl ⟨rfl, by simpa using h⟩
  · cases rx; cases ry; exact .inl ⟨rfl, by simpa using h⟩
  · cases rx; cases ry; exact .inl ⟨rfl, by simpa using h⟩
  · cases rx; cases ry; exact .inl ⟨rfl, by simpa using h⟩
  · cases rx; cases ry; exact .inl ⟨rfl, by simpa using h⟩
  · cases rx; cases ry; exact .inl ⟨rfl, by simpa using h⟩
  · cases rx; cases ry; exact .inl ⟨rfl, by simpa using h⟩
  · exact data h
theorem o_eq : Op2 W (fun x y H Q => rEq x y H Q ∨ rEqD W.K x y H Q) rEqq := by
  intro F H f1 f2 x y vx vy Qd Q fl rx ry h q
  rcases eqSome_ok rx ry h with ⟨s, k⟩ | ⟨d, e, h1, h2, s1, s2, k⟩
  · exact .inl ⟨s, q _ _ F H NoA k rep_bl .refl⟩
  · exact .inr ⟨d, e, h1, h2, s1, s2, q _ _ F H NoA k rep_bl .refl⟩
theorem o_ne : Op2 W (fun x y H Q => rNe x y H Q ∨ rNeD W.K x y H Q) rNee := by
  intro F H f1 f2 x y vx vy Qd Q fl rx ry h q
  rcases eqSome_ok rx ry h with ⟨s, k⟩ | ⟨d, e, h1, h2, s1, s2, k⟩
  · exact .inl ⟨s, q _ _ F H NoA k rep_bl .refl⟩
  · exact .inr ⟨d, e, h1, h2, s1, s2, q _ _ F H NoA k rep_bl .refl⟩
structure Cp (C : Ctx) (op : CmpOp) (r2 : PySem.W.Frag → R2) (r : Dat → Dat → (Dat → Prop) → Prop) : Prop where
  hr : ∀ X, X.w = C.w → X.A.units + 65 < cLine → OpR X (compareOp op) (r2 X.K)
  o : Op2 C.W (r2 C.K) r
theorem cp_eq : Cp C .Eq (fun K x y H Q => rEq x y H Q ∨ rEqD K x y H Q) rEqq := ⟨fun X _ h => OpR.or op_eq (op_eqD (by omega)), o_eq⟩
theorem cp_ne : Cp C .NotEq (fun K x y H Q => rNe x y H Q ∨ rNeD K x y H Q) rNee := ⟨fun X _ h => OpR.or op_ne (op_neD (by omega)), o_ne⟩
def eqF (x y : Dat) : Bool := eqV (toV x) (toV y)
def keyIs (k : Dat) : Option Key := match k with
  | .int i => some (.inl i)
  | .str x => some (.inr x)
  | _ => none
theorem keyIs_k {x : Dat} {k : Key} {v : V} (e : keyIs x = some k) (r : Rep W F H fp x v) : v = kV k ∧ x = kD k := by
  cases x with
  | int i => cases e; cases r; exact ⟨rfl, rfl⟩
  | str i => cases e; cases r; exact ⟨rfl, rfl⟩
  | _ => cases e
theorem eqF_k (k j : Key) : eqF (kD j) (kD k) = decide (j = k) := by
  cases k <;> cases j <;> simp [eqF, kD, M.toV, eqV] <;> rfl
end
end M
namespace M
open PySem PySem.Spec PyProof.Rows L2
section
variable {C : Ctx} {W : Wd} {pr p1 p2 p3 : Bool} {F F' F1 F2 : AS} {H H' H1 H2 : Hp} {fp fp' fe fe1 fe2 fd fd1 fd2 : AS} {σ : L2.St} {env env1 env2 : Env} {d d1 d2 : Dat} {v v1 v2 : V}
variable {a b c : Expr} {pos : Pos} {wa wb wc : LE} {ta tb : LT}
theorem Fresh.step' {F0 : AS} {H0 : Hp} {fe : AS} (x : Fresh F H F' H' fd) (ok : Ok W F H fe) : Step W F H fe F' H' fe := by
  have q := Fresh.step (fd := NoA) ⟨x.kp, x.tg, x.fx, x.fb, fun _ z => z.elim, fun _ z => z.elim⟩ ok fun _ z => z.elim
  exact q.1.sub fun _ => .inl
/-- a bool's own end -/
theorem Pt.fresh {F0 : AS} {H0 : Hp} {fp0 : AS} (st : Step W F0 H0 fp0 F H fe) (pu : pr = true → Keep H0 H) (sl : Sl W F H fe env σ) (x : Fresh F H F' H' fd) : Pt W pr F0 H0 fp0 σ env F' H' fe :=
  ⟨sl.kept x.fx x.kp, st.trans (x.step' (F0 := F) (H0 := H) st.ok), fun z => Keep.trans (pu z) x.kp⟩
def wTest (w : LE) : LT := fun env Q => w env fun d env' => ∃ k, d = .bl k ∧ Q k env'
theorem lift_test {w : LE} {σ : L2.St} {H : Hp} {Q : Bool → Hp → Prop} (h : liftT W pr (wTest w) σ H Q) : lift W pr w σ H fun x H' => ∃ k, x = .bl k ∧ Q k H' := by
  obtain ⟨F, fp, env, Qd, sl, ok, hw, q⟩ := h
  refine ⟨F, fp, env, _, sl, ok, hw, fun d env' F' H' fe fd v hd P => ?_⟩
  obtain ⟨k, rfl, hd⟩ := hd
  have e := P.rep
  cases e
  exact ⟨k, rfl, q k env' F' H' fe hd ⟨P.sl, P.st.sub fun _ => .inl, P.pu⟩⟩
theorem jt_cmp {op : CmpOp} {r2 : PySem.W.Frag → R2} {r : Dat → Dat → (Dat → Prop) → Prop} (ha : JV C p1 a wa) (hb : JV C p2 b wb) (o : Cp C op r2 r) (hm : behindInMarks op b = false) :
    JT C (p1 && p2) (.Compare a [op] [b] pos) (wTest (w2 p2 wa wb r)) := fun X g =>
  PT_imp (pt_cmpR (o.hr X g.w (by have := g.room.un; omega)) (ha X g) (hb X g) hm) fun σ H Q h => by rw [g.K]; exact lift2 o.o σ H _ (lift_test h)
theorem je_cm {op : CmpOp} {r2 : PySem.W.Frag → R2} {r : Dat → Dat → (Dat → Prop) → Prop} (ha : JV C p1 a wa) (hb : JV C p2 b wb) (o : Cp C op r2 r) (hm : behindInMarks op b = false) :
    JE C (p1 && p2) (.Compare a [op] [b] pos) (w2 p2 wa wb r) := je_cmp ha hb o.hr o.o hm
/-- a thing's truth -/
def truD (d : Dat) (Q : Bool → Prop) : Prop := match d with
  | .non => Q false
  | .bl b => Q b
  | .int i => Q (i != 0)
  | .str x => x.length ≤ sizeLine ∧ Q ((x.length : Int) != 0)
  | .tup _ xs => Q (!xs.isEmpty)
  | .lst _ xs => Q (!xs.isEmpty)
  | _ => False
theorem truD_ok {Q : Bool → Prop} (r : Rep W F H fp d v) (h : truD d Q) : ∃ k, TruV W.K v H k ∧ Q k := by
  cases r with
  | non _ => exact ⟨_, rfl, h⟩
  | bl _ _ => exact ⟨_, rfl, h⟩
  | int _ _ => exact ⟨_, rfl, h⟩
  | str _ _ => exact ⟨_, ⟨h.1, rfl⟩, h.2⟩
  | tup s _ r => exact ⟨_, .inr (.inl ⟨_, s, rfl⟩), by rw [r.isEmpty]; exact h⟩
  | lstF _ s _ r => exact ⟨_, .inl ⟨_, .inl s, rfl⟩, by rw [r.isEmpty]; exact h⟩
  | lstO s r _ _ => exact ⟨_, .inl ⟨_, .inl (.inl s), rfl⟩, by rw [r.isEmpty]; exact h⟩
  | _ => exact (show False from h).elim
def wTru (w : LE) : LT := fun env Q => w env fun d env' => truD d fun k => Q k env'
theorem jt_tru {e : Expr} {w : LE} (h : JV C pr e w) (he : ∀ env whole, isTrue e env whole = (do let v ← whole; standAt e.pos; holding [v] (truthy v))) : JT C pr e (wTru w) := fun X g =>
  PT_imp (pt_truth (h X g) (he _)) fun σ H Q ⟨F, fp, env, Qd, sl, ok, hw, q⟩ => by
    refine ⟨F, fp, env, _, sl, ok, hw, fun d env' F' H' fe fd v hd P => ?_⟩
    obtain ⟨k, hk, hq⟩ := truD_ok P.rep hd
    rw [g.K]
    exact ⟨k, hk, q k env' F' H' fe hq ⟨P.sl, P.st, P.pu⟩⟩
def wOr (ta tb : LT) : LT := fun env Q => ta env fun c env1 => if c = true then Q true env1 else tb env1 Q
theorem lift_or {σ : L2.St} {H : Hp} {Q : Bool → Hp → Prop} (h : liftT W (p1 && p2) (wOr ta tb) σ H Q) : tOr (liftT W p1 ta) (liftT W p2 tb) σ H Q := by
  obtain ⟨F, fp, env, Qd, sl, ok, hw, q⟩ := h
  refine ⟨F, fp, env, _, sl, ok, hw, fun c env1 F1 H1 fe1 hc P1 => ?_⟩
  cases c with
  | false => exact ⟨F1, fe1, env1, Qd, P1.sl, P1.st.ok, hc, fun b env2 F2 H2 fe2 hd P2 => q b env2 F2 H2 fe2 hd (P2.after P1.st P1.pu)⟩
  | true => exact q true env1 F1 H1 fe1 hc (P1.cast fun z => (Bool.and_eq_true _ _ ▸ z : p1 = true ∧ p2 = true).1)
theorem jw_or1 (ha : JT C p1 a ta) : JW C p1 (.BoolOp .Or [a] pos) ta := fun X g => pw_or1 (ha X g)
theorem jw_or {rest : List Expr} (ha : JT C p1 a ta) (hb : JW C p2 (.BoolOp .Or (b :: rest) pos) tb) : JW C (p1 && p2) (.BoolOp .Or (a :: b :: rest) pos) (wOr ta tb) := fun X g => PW_imp (pw_or (ha X g) (hb X g)) fun σ H Q h => lift_or h
theorem jt_w {e : Expr} (h : JW C pr e ta) : JT C pr e ta := fun X g => (h X g).pt
theorem po_bl {k : Bool} (P : Pv W pr F H fp σ env F' H' fe fd d v) : Po W pr F H fp σ env F' H' fe NoA (.bl k) (.bl k) := ⟨P.sl, rep_bl, fun _ _ z => z, P.st.sub fun a z => z.resolve_right id, P.pu⟩
def wNil : LA := fun env Q => Q [] env
def wCons (w : LE) (ws : LA) : LA := fun env Q => w env fun d e1 => ws e1 fun ds e2 => Q (d :: ds) e2
theorem ja_nil : JA C true [] wNil := fun X g => PA_imp pa_nil fun σ H Q ⟨F, fp, env, Qd, sl, ok, hw, q⟩ =>
  q [] env F H fp NoA [] hw ⟨sl, .nil fun _ z => z, fun _ _ z => z, (Step.refl ok).sub fun a z => z.resolve_right id, fun _ => Keep.rfl⟩
theorem ja_cons {e : Expr} {es : List Expr} {w : LE} {ws : LA} (he : JE C p1 e w) (hr : JA C p2 es ws) (hs : ∀ env, starEach (e :: es) env = (false, eval e env) :: starEach es env) : JA C (p1 && p2) (e :: es) (wCons w ws) := fun X g =>
  PA_imp (pa_cons (he X g) (hr X g) (hs _)) fun σ H Q ⟨F, fp, env, Qd, sl, ok, hw, q⟩ => by
    refine ⟨F, fp, env, _, sl, ok, hw, fun x env1 F1 H1 fe1 g1 v1 hb P1 => ?_⟩
    have ok1 : Ok C.W F1 H1 fe1 := P1.st.ok.sub fun _ => .inl
    refine ⟨F1, fe1, env1, _, P1.sl, ok1, hb, fun ds env2 F2 H2 fe2 g2 vs hd P2 => ?_⟩
    have fr := P2.st.frame (g := g1) (P1.st.ok.sub fun _ => .inr) P1.dj
    have r1 := P1.rep.step P2.st ok1 fun a z q => P1.dj a q z
    refine q (x :: ds) env2 F2 H2 fe2 (fun a => g1 a ∨ g2 a) (v1 :: vs) hd ⟨P2.sl, .cons r1 P2.rep (fun a z k => fr.2 a (.inr k) z) fun a => Iff.rfl, fun a z k => ?_, (P1.st.trans fr.1).sub fun a z => ?_, fun z => ?_⟩
    · rcases k with k | k
      · exact fr.2 a (.inl z) k
      · exact P2.dj a z k
    · rcases z with z | z | z
      · exact .inl (.inl z)
      · exact .inr z
      · exact .inl (.inr z)
    · have k := and_pure P1.pu P2.pu z
      exact Keep.trans k.1 k.2
/-- what came as arguments is frozen -/
theorem Pa.freeze {ds : List Dat} {vs : List V} (P : Pa W pr F H fp σ env F' H' fe fd ds vs) :
    Sl W (fun a => F' a ∨ fd a) H' fe env σ ∧ Reps W (fun a => F' a ∨ fd a) H' NoA (frzs ds) vs ∧ Step W F H fp (fun a => F' a ∨ fd a) H' fe := by
  refine ⟨P.sl.kept (fun _ => .inl) Keep.rfl, Reps.freeze (fun _ => .inl) ds _ _ P.rep fun _ => .inr, ⟨P.st.kp, fun a z => .inl (P.st.fx a z), fun a z => ?_, fun a z => P.st.nw a (.inl z), ⟨fun a z q => ?_, fun a z => P.st.ok.own a (.inl z), fun a z => ?_, P.st.ok.tb⟩⟩⟩
  · rcases z with z | z
    · exact P.st.fb a z
    · exact .inr (P.st.nw a (.inr z))
  · rcases q with q | q
    · exact P.st.ok.nf a (.inl z) q
    · exact P.dj a z q
  · rcases z with z | z
    · exact P.st.ok.lv a z
    · intro w
      have := P.st.ok.own a (.inr z)
      rw [w] at this; exact this
theorem Po.freeze (P : Po W pr F H fp σ env F' H' fe fd d v) : Po W pr F H fp σ env (fun a => F' a ∨ fd a) H' fe NoA (frz d) v := by
  have q : Pa W pr F H fp σ env F' H' fe fd [d] [v] := ⟨P.sl, .cons P.rep (.nil (fp := NoA) fun _ z => z) (fun _ _ z => z) (fun a => ⟨.inl, fun z => z.resolve_right id⟩), P.dj, P.st, P.pu⟩
  have k := q.freeze
  exact ⟨k.1, Rep.freeze (fun _ => .inl) d _ _ P.rep fun _ => .inr, fun _ _ z => z, k.2.2.sub fun a z => z.resolve_right id, P.pu⟩
/-- the value frozen -/
def wFrz (w : LE) : LE := fun env Q => w env fun d env' => Q (frz d) env'
theorem je_frz {e : Expr} {w : LE} (h : JE C pr e w) : JE C pr e (wFrz w) := fun X g => PE_imp (h X g) fun σ H Q ⟨F, fp, env, Qd, sl, ok, hw, q⟩ =>
  ⟨F, fp, env, _, sl, ok, hw, fun d env' F' H' fe fd v hd P => q _ env' _ H' fe NoA v hd P.freeze⟩
def wLst (ws : LA) : LE := fun env Q => ws env fun ds env' => ds.length ≤ sizeLine ∧ Q (.lst true (frzs ds)) env'
theorem je_lst {es : List Expr} {ws : LA} (h : JA C pr es ws) : JE C pr (.List es pos) (wLst ws) := fun X g => PE_imp (pe_lst (h X g)) fun σ H Q ⟨F, fp, env, Qd, sl, ok, hw, q⟩ => by
  refine ⟨F, fp, env, _, sl, ok, hw, fun ds env' F' H' fe fd vs hd P => ⟨by rw [← P.rep.length]; exact hd.1, fun p hp => ?_⟩⟩
  have k := P.freeze
  have z := fresh_lst hp (fun z => k.2.2.ok.lv p z hp) k.2.1
  exact q _ env' _ _ fe _ _ hd.2 ((z.2.po k.2.2.ok k.1 z.1).after k.2.2 P.pu |>.cast fun w => by rw [w]; rfl)
end
end M
namespace M
open PySem PySem.Spec PyProof.Rows L2
section
variable {C : Ctx} {W : Wd} {pr p1 p2 p3 : Bool} {F F' F1 F2 : AS} {H H' H1 H2 : Hp} {fp fp' fe fe1 fe2 fd fd1 fd2 : AS} {σ : L2.St} {env env1 env2 : Env} {d d1 d2 : Dat} {v v1 v2 : V}
variable {a b c : Expr} {pos p : Pos} {wa wb wc : LE} {ta tb : LT}
/-- an operation over one thing, told over data -/
def Op1 (W : Wd) (r1 : V → Hp → VK → Prop) (r : Dat → (Dat → Prop) → Prop) : Prop :=
  ∀ F H f x vx Qd (Q : VK), FL F H → Rep W F H f x vx → r x Qd → (∀ d v F' H' fd, Qd d → Rep W F' H' fd d v → Fresh F H F' H' fd → Q v H') → r1 vx H Q
theorem lift1 {w : LE} {r1 : V → Hp → VK → Prop} {r : Dat → (Dat → Prop) → Prop} (o : Op1 W r1 r) {σ : L2.St} {H : Hp} {Q : VK} (h : lift W pr (w1 w r) σ H Q) : liftV W pr w σ H fun x H1 => r1 x H1 Q := by
  obtain ⟨F, fp, env, Qd, sl, ok, hw, q⟩ := h
  refine ⟨F, fp, env, _, sl, ok, hw, fun x env1 F1 H1 fe1 g1 v1 hb P1 => ?_⟩
  refine o F1 H1 g1 x v1 _ Q P1.st.ok.lv P1.rep hb fun d v F2 H2 g2 hd r2 fr => ?_
  exact q d env1 F2 H2 fe1 g2 v hd ((fr.po P1.st.ok P1.sl r2).after P1.st P1.pu |>.cast fun z => by rw [z]; rfl)
/-- a call rule for one argument -/
def Cl1 (C : Ctx) (f : Value) (r : Dat → (Dat → Prop) → Prop) : Prop := ∃ r1 : PySem.W.Frag → V → Hp → VK → Prop, (∀ X, X.calm = true → CallR X f (fun vs H Q => ∃ x, vs = [x] ∧ r1 X.K x H Q)) ∧ Op1 C.W (r1 C.K) r
theorem gl_of {X : Cx} {x : Str} (g : Gd C X) (hg : C.sc.names.lookup x = some .globalImplicit) : Gl X x := by
  show X.env.scope.names.lookup x = _
  rw [g.sc]; exact hg
theorem sp1 {X : Cx} {r1 : V → Hp → VK → Prop} {w : LE} {σ : L2.St} {H : Hp} {Q : VK} (h : liftV W pr w σ H fun x H1 => r1 x H1 Q) : tCB (fun vs H Q => ∃ x, vs = [x] ∧ r1 x H Q) (tCons (liftV W pr w) tNil) σ H Q := by
  obtain ⟨F, fp, env, Qd, sl, ok, hw, q⟩ := h
  exact ⟨F, fp, env, Qd, sl, ok, hw, fun d env' F' H' fe fd v hd P => ⟨v, rfl, q d env' F' H' fe fd v hd P⟩⟩
theorem seq_of {xs : List Dat} {o : Bool} {f : AS} {vx : V} (r : Rep W F H f (.lst o xs) vx) : ∃ a vs g, vx = .ref a ∧ Rd H a (.lst vs) ∧ Reps W F H g xs vs := by
  cases r with
  | lstF _ s _ r => exact ⟨_, _, _, rfl, s, r⟩
  | lstO s r _ _ => exact ⟨_, _, _, rfl, .inl s, r⟩
theorem dct_of {ks xs : List Dat} {o : Bool} {f : AS} {vx : V} (r : Rep W F H f (.dct o ks xs) vx) : ∃ a kvs g, vx = .ref a ∧ Rd H a (.dK kvs) ∧ ks = kvs.map (fun p => kD p.1) ∧ Reps W F H g xs (kvs.map (·.2)) := by
  cases r with
  | dctF _ s _ e r => exact ⟨_, _, _, rfl, s, e, r⟩
  | dctO s e r _ _ => exact ⟨_, _, _, rfl, .inl s, e, r⟩
theorem reps_ints (ns : List Int) : Reps W F H NoA (ns.map Dat.int) (ns.map V.int) := by
  induction ns with
  | nil => exact .nil fun _ z => z
  | cons p ps ih => exact .cons (f1 := NoA) (f2 := NoA) rep_int ih (fun _ z => z.elim) fun a => ⟨fun z => z.elim, fun z => z.elim id id⟩
end
end M
namespace M
open PySem PySem.Spec PyProof.Rows L2
/-- a field's place in each class -/
structure Fld (C : Ctx) (f : Str) (g : Nat → Option Nat) : Prop where
  ok : ∀ c i, g c = some i → (C.T.fl c)[i]? = some f ∧ ClsOk C c
section
variable {C : Ctx} {W : Wd} {pr p1 p2 p3 : Bool} {F F' F1 F2 : AS} {H H' H1 H2 : Hp} {fp fp' fe fe1 fe2 fd fd1 fd2 : AS} {σ : L2.St} {env env1 env2 : Env} {d d1 d2 : Dat} {v v1 v2 : V}
variable {a b c o e : Expr} {pos p : Pos} {wa wb wc : LE} {ta tb : LT}
def Op2v (W : Wd) (r2 : R2) (r : Dat → Dat → (Dat → Prop) → Prop) : Prop :=
  ∀ F H f1 f2 x y vx vy Qd (Q : VK), FL F H → Rep W F H f1 x vx → Rep W F H f2 y vy → r x y Qd → (∀ d v g, Qd d → Rep W F H g d v → Q v H) → r2 vx vy H Q
theorem lift2v {r2 : R2} {r : Dat → Dat → (Dat → Prop) → Prop} (o : Op2v W r2 r) {σ : L2.St} {H : Hp} {Q : VK} (h : liftV W (p1 && p2) (w2 p2 wa wb r) σ H Q) : tOp r2 (liftV W p1 wa) (liftV W p2 wb) σ H Q := by
  obtain ⟨F, fp, env, Qd, sl, ok, hw, q⟩ := h
  refine ⟨F, fp, env, _, sl, ok, hw, fun x env1 F1 H1 fe1 g1 v1 hb P1 => ?_⟩
  refine ⟨F1, fe1, env1, _, P1.sl, P1.st.ok, hb, fun y env2 F2 H2 fe2 g2 v2 hc P2 => ?_⟩
  refine o F2 H2 g1 g2 x y v1 v2 _ Q P2.st.ok.lv (P1.stay P2 hc.1) P2.rep hc.2 fun d v g hd r3 => ?_
  exact q d env2 F2 H2 fe2 g v hd (Pv.after P1.st P1.pu ⟨P2.sl, r3, P2.st, P2.pu⟩)
def lookD : List Dat → List Dat → Dat → Option Dat
  | k :: ks, v :: vs, x => if eqF k x = true then some v else lookD ks vs x
  | _, _, _ => none
theorem lookD_val (k : Key) : ∀ {kvs : List (Key × V)} {ds : List Dat} {f : AS} {d : Dat}, Reps W F H f ds (kvs.map (·.2)) → lookD (kvs.map fun p => kD p.1) ds (kD k) = some d → ∃ v g, valV kvs k = some v ∧ Rep W F H g d v
  | [], _, _, _, h, e => by cases h; cases e
  | (j, x) :: kvs, [], _, _, h, e => by cases h
  | (j, x) :: kvs, y :: ds, _, d, h, e => by
    cases h with
    | cons r1 r2 _ _ =>
      rw [List.map_cons] at e
      show ∃ v g, valV ((j, x) :: kvs) k = some v ∧ _
      by_cases hk : j = k
      · rw [show lookD (kD j :: kvs.map fun p => kD p.1) (y :: ds) (kD k) = some y by unfold lookD; rw [eqF_k, decide_eq_true hk]; rfl] at e
        cases e
        exact ⟨_, _, valV_pos hk, r1⟩
      · rw [show lookD (kD j :: kvs.map fun p => kD p.1) (y :: ds) (kD k) = lookD (kvs.map fun p => kD p.1) ds (kD k) by
          conv => lhs; unfold lookD
          rw [eqF_k, decide_eq_false hk]; rfl] at e
        rw [valV_neg hk]
        exact lookD_val k r2 e
def rIdx (x y : Dat) (Q : Dat → Prop) : Prop := match x with
  | .tup _ xs => ∃ i d, y = .int i ∧ atI xs i = some d ∧ Q d
  | .lst _ xs => ∃ i d, y = .int i ∧ atI xs i = some d ∧ Q d
  | .str z => ∃ i c, y = .int i ∧ z.length ≤ sizeLine ∧ atI z.cps.toList i = some c ∧ Q (.str ⟨#[c]⟩)
  | .dct _ ks vs => ∃ k d, keyIs y = some k ∧ lookD ks vs y = some d ∧ Q d
  | .scr ns => ∃ i n, y = .int i ∧ atI ns i = some n ∧ Q (.int n)
  | _ => False
theorem Reps.atI {xs : List Dat} {vs : List V} {i : Int} {d : Dat} (r : Reps W F H fp xs vs) (h : L2.atI xs i = some d) : ∃ v g, L2.atI vs i = some v ∧ Rep W F H g d v := by
  unfold L2.atI at h ⊢
  rw [← r.length]
  cases e : ixN xs.length i with
  | none => rw [e] at h; cases h
  | some j =>
    rw [e] at h
    obtain ⟨v, g, e1, r1, _⟩ := r.get (i := j) h
    exact ⟨v, g, e1, r1⟩
def rDgX : R2 := fun x y H Q => ∃ a v, x = .ref a ∧ DGet H a y (some v) ∧ Q v H
theorem ix_dct {X : Cx} (hu : X.A.units + 1 < cLine) : IxR X rDgX := by
  intro value slice pins s σ H x y v u Q I rx ry ⟨a, z, ex, g, q⟩ hs
  subst ex
  cases rx
  have hT := dict_typeIs I g
  unfold subscriptTail
  refine wpAny_bind ?_
  rw [getitemInPython_of_ne hT.not_modules]
  refine wpAny_bind (wpAny_specialOf hT PySem.F.slot_dict_getitem.lookup ?_)
  have fin : wpAny (model X.prog X.w) X.A (subscripted slice false (.ref a) u) (fun r s₃ => wpAny (model X.prog X.w) X.A (letTemporaryGo value (.ref a) r >>= fun _ => pure r) (EP X pins σ Q) X.xe s₃) X.xe s := by
    rw [hs]
    exact wpAny_operating (wpAny_mono (d_getItem hu I g ry fun w' s3 I3 rw' => (⟨z, H, I3, rw', q⟩ : EP X pins σ Q w' s3)) (fun r s₃ h₃ => wpAny_bind (wpAny_letTemporaryGo (wpAny_pure h₃))) fun _ _ x => x)
  first
    | exact wpAny_pure (wpAny_bind fin)
    | exact wpAny_bind (wpAny_pure (wpAny_bind fin))
    | exact wpAny_bind fin
def r2Ix (K : PySem.W.Frag) : R2 := fun x y H Q => rIx K x y H Q ∨ rDgX x y H Q
theorem o_idx : Op2v W (r2Ix W.K) rIdx := by
  intro F H f1 f2 x y vx vy Qd Q fl rx ry h q
  cases x with
  | tup _ xs =>
    obtain ⟨i, d, rfl, h1, h⟩ := h
    cases ry
    cases rx with
    | tup s _ r =>
      obtain ⟨v, g, e, r1⟩ := r.atI h1
      exact .inl (.inr (.inl ⟨_, _, i, v, rfl, rfl, s, e, q _ _ g h r1⟩))
  | lst o xs =>
    obtain ⟨i, d, rfl, h1, h⟩ := h
    cases ry
    obtain ⟨a, vs, g0, rfl, s, r⟩ := seq_of rx
    obtain ⟨v, g, e, r1⟩ := r.atI h1
    exact .inl (.inl ⟨_, _, i, v, rfl, rfl, .inl s, e, q _ _ g h r1⟩)
  | str z =>
    obtain ⟨i, c, rfl, hz, h1, h⟩ := h
    cases ry
    cases rx
    exact .inl (.inr (.inr ⟨z, i, c, rfl, rfl, hz, h1, q _ _ NoA h rep_str⟩))
  | dct o ks vs =>
    obtain ⟨k, d, ek, h1, h⟩ := h
    obtain ⟨rfl, rfl⟩ := keyIs_k ek ry
    obtain ⟨a, kvs, g, rfl, s, rfl, r⟩ := dct_of rx
    obtain ⟨v, g2, e, r1⟩ := lookD_val k r h1
    exact .inr ⟨a, v, rfl, .inl ⟨kvs, k, s, rfl, e.symm⟩, q _ _ g2 h r1⟩
  | scr ns =>
    obtain ⟨i, n, rfl, h1, h⟩ := h
    cases ry
    cases rx with
    | scr _ s =>
      have e : atI (ns.map V.int) i = some (.int n) := by
        unfold L2.atI at h1 ⊢
        rw [List.length_map]
        cases z : ixN ns.length i with
        | none => rw [z] at h1; cases h1
        | some j =>
          rw [z] at h1
          show (ns.map V.int)[j]? = _
          rw [List.getElem?_map]
          rw [show ns[j]? = some n from h1]; rfl
      exact .inl (.inl ⟨_, _, i, _, rfl, rfl, s.sq, e, q _ _ NoA h rep_int⟩)
  | _ => exact (show False from h).elim
theorem jv_idx (ha : JV C p1 a wa) (hb : JV C p2 b wb) (hs : PlainIx b) : JV C (p1 && p2) (.Subscript a b pos) (w2 p2 wa wb rIdx) := fun X g =>
  PE_imp (pe_ix (IxR.or ix_seq (ix_dct (by have := g.room.un; omega))) (ha X g) (hb X g) hs) fun σ H Q h => by
    rw [g.K]
    exact lift2v (r2 := r2Ix C.K) (W := C.W) o_idx h
abbrev LO := Env → (Option Int → Env → Prop) → Prop
/-- a part of a slice: nothing, or an int -/
def JO (C : Ctx) (pr : Bool) (e : Option Expr) (w : LO) : Prop := ∀ X, Gd C X → PO X e (fun σ H Q => ∃ F fp env Qd, Sl C.W F H fp env σ ∧ Ok C.W F H fp ∧ w env Qd ∧ ∀ i env' F' H' fe, Qd i env' → Pt C.W pr F H fp σ env' F' H' fe → Q i H')
def wNoPart : LO := fun env Q => Q none env
def wPart (w : LE) : LO := fun env Q => w env fun d env' => ∃ i, d = .int i ∧ Q (some i) env'
theorem PO_imp {X : Cx} {e : Option Expr} {t t' : TO} (h : PO X e t) (i : ∀ σ H Q, t' σ H Q → t σ H Q) : PO X e t' := ⟨fun pins s σ H Q I q => h.run pins s σ H Q I (i σ H Q q)⟩
theorem jo_none : JO C true none wNoPart := fun X g => PO_imp po_none fun σ H Q ⟨F, fp, env, Qd, sl, ok, hw, q⟩ => q none env F H fp hw ⟨sl, Step.refl ok, fun _ => Keep.rfl⟩
theorem jo_some (h : JV C pr e wa) : JO C pr (some e) (wPart wa) := fun X g => PO_imp (po_some (h X g)) fun σ H Q ⟨F, fp, env, Qd, sl, ok, hw, q⟩ => by
  refine ⟨F, fp, env, _, sl, ok, hw, fun d env' F' H' fe fd v hd P => ?_⟩
  obtain ⟨i, rfl, hd⟩ := hd
  have r := P.rep
  cases r
  exact ⟨i, rfl, q _ env' F' H' fe hd ⟨P.sl, P.st, P.pu⟩⟩
/-- the items of xs[lo:hi] -/
def cutD (xs : List Dat) (lo hi : Option Int) : List Dat := (xs.drop (HT.sIx xs.length 0 lo)).take (HT.sIx xs.length xs.length hi - HT.sIx xs.length 0 lo)
def rSl (x : Dat) (lo hi : Option Int) (Q : Dat → Prop) : Prop := match x with
  | .tup _ xs => frzs xs = xs ∧ Q (.tup .u (cutD xs lo hi))
  | .lst _ xs => frzs xs = xs ∧ Q (.lst true (cutD xs lo hi))
  | .scr ns => Q (.lst true (cutD (ns.map .int) lo hi))
  | _ => False
theorem Reps.drop : ∀ (n : Nat) {ds : List Dat} {vs : List V}, Reps W F H NoA ds vs → Reps W F H NoA (ds.drop n) (vs.drop n)
  | 0, _, _, h => h
  | n + 1, [], _, h => by cases h; exact .nil fun _ z => z
  | n + 1, d :: ds, _, h => by
    cases h with
    | cons r1 r2 m i => exact Reps.drop n (Reps.eqv _ _ _ _ r2 fun a => ⟨fun z => z.elim, fun z => (i a).mpr (.inr z)⟩)
theorem Reps.cut {xs : List Dat} {vs : List V} (r : Reps W F H NoA xs vs) (lo hi : Option Int) : Reps W F H NoA (cutD xs lo hi) (cutV vs lo hi) := by
  unfold cutD cutV
  rw [r.length]
  exact (r.drop _).take _
def wSl (ph : Bool) (wa : LE) (wl wh : LO) : LE := fun env Q => wa env fun x e1 => wl e1 fun l e2 => wh e2 fun h e3 => (ph = true ∨ Fz x) ∧ rSl x l h fun d => Q d e3
theorem je_slice {lo hi : Option Expr} {pp : Pos} {wl wh : LO} (ha : JV C p1 a wa) (hl : JO C p2 lo wl) (hh : JO C p3 hi wh) : JE C (p1 && (p2 && p3)) (.Subscript a (.Slice lo hi none pp) pos) (wSl (p2 && p3) wa wl wh) := fun X g =>
  PE_imp (pe_slice (SlR.or sl_tupA sl_list) (ha X g) (hl X g) (hh X g)) fun σ H Q ⟨F, fp, env, Qd, sl, ok, hw, q⟩ => by
    refine ⟨F, fp, env, _, sl, ok, hw, fun x env1 F1 H1 fe1 g1 v1 h1 P1 => ?_⟩
    refine ⟨F1, fe1, env1, _, P1.sl, P1.st.ok, h1, fun l env2 F2 H2 fe2 h2 P2 => ?_⟩
    refine ⟨F2, fe2, env2, _, P2.sl, P2.st.ok, h2, fun h env3 F3 H3 fe3 h3 P3 => ?_⟩
    obtain ⟨cnd, h3⟩ := h3
    have P23 : Pt C.W (p2 && p3) F1 H1 fe1 σ env3 F3 H3 fe3 := P3.after P2.st P2.pu
    have rx : Rep C.W F3 H3 g1 x v1 := by
      rcases cnd with c | c
      · exact P1.rep.kept P23.st.fx (P23.pu c)
      · exact P1.rep.step P23.st P1.st.ok fun a z => absurd z (P1.em c a)
    have fin : ∀ d v F4 H4 g4, Qd d env3 → Rep C.W F4 H4 g4 d v → Fresh F3 H3 F4 H4 g4 → Q v H4 := fun d v F4 H4 g4 hd r4 fr => by
      have P4 := fr.po P23.st.ok P23.sl r4
      exact q d env3 F4 H4 fe3 g4 v hd ((P4.after (P1.st.trans P23.st) (p1 := p1 && (p2 && p3)) fun z => have k := and_pure P1.pu P23.pu z; Keep.trans k.1 k.2).cast fun z => by rw [z]; rfl)
    unfold rSl at h3
    rw [g.K]
    split at h3
    · rename_i k xs
      cases rx with
      | @tup _ a vs _ _ s _ r =>
        have r := r.fz h3.1
        refine .inl ⟨a, vs, rfl, s, fun w => ?_, fun w p hp => ?_⟩
        · have e : cutD xs l h = xs := by
            unfold cutD
            rw [r.length, w.1, w.2, ← r.length]
            simp
          rw [e] at h3
          exact fin _ _ F3 H3 NoA h3.2 (.tup s True.intro r) .refl
        · have z := fresh_tup hp (r.cut l h)
          exact fin _ _ F3 _ _ h3.2 z.1 z.2
    · rename_i o xs
      obtain ⟨a, vs, g0, rfl, s, r⟩ := seq_of rx
      have r := r.fz h3.1
      refine .inr ⟨a, vs, rfl, .inl s, fun p hp => ?_⟩
      have z := fresh_lst hp (fun z => P23.st.ok.lv p z hp) (r.cut l h)
      exact fin _ _ F3 _ _ h3.2 z.1 z.2
    · rename_i ns
      cases rx with
      | @scr _ a _ _ s =>
        refine .inr ⟨a, _, rfl, s.sq, fun p hp => ?_⟩
        have z := fresh_lst hp (fun z => P23.st.ok.lv p z hp) ((reps_ints (W := C.W) (F := F3) (H := H3) ns).cut l h)
        exact fin _ _ F3 _ _ h3 z.1 z.2
    · exact h3.elim
end
end M
namespace M
open PySem PySem.Spec PyProof.Rows L2
section
variable {C : Ctx} {W : Wd} {pr p1 p2 p3 : Bool} {F F' F1 F2 : AS} {H H' H1 H2 : Hp} {fp fp' fe fe1 fe2 fd fd1 fd2 : AS} {σ : L2.St} {env env1 env2 : Env} {d d1 d2 : Dat} {v v1 v2 : V}
variable {a b c o e : Expr} {pos p : Pos} {wa wb wc : LE} {ta tb : LT}
/-- isinstance(_, u) answered by f -/
structure Isi (C : Ctx) (u : Value) (f : Dat → Option Bool) : Prop where
  ok : ∀ F H fp d v b, Rep C.W F H fp d v → f d = some b → ∃ t, TyX C.K H v t ∧ PySem.W.kitOne C.K t u = some b
end
end M
namespace M
open PySem PySem.Spec PyProof.Rows L2
/-- a def that changes nothing of what it is given: its arguments, its answer -/
abbrev SpF := List Dat → (Dat → Prop) → Prop
/-- a def whose first argument is changed: that, the others; its answer, the first one behind -/
abbrev SpM := Dat → List Dat → (Dat → Dat → Prop) → Prop
def spF (W : Wd) (sp : SpF) : Sp := fun vs H Q _ => ∃ F ds Qd, Reps W F H NoA ds vs ∧ (FL F H ∧ TbOk W.tb H) ∧ sp ds Qd ∧ ∀ r F' H' fr v, Qd r → Rep W F' H' fr r v → Step W F H NoA F' H' fr → Q v H'
def spM (W : Wd) (sp : SpM) : Sp := fun vs H Q _ => ∃ F f d ds v0 us Qd, vs = v0 :: us ∧ Rep W F H f d v0 ∧ Reps W F H NoA ds us ∧ Ok W F H f ∧ sp d ds Qd ∧
  ∀ r d' F' H' f' fr v, Qd r d' → Rep W F' H' f' d' v0 → Rep W F' H' fr r v → (∀ a, f' a → ¬ fr a) → Step W F H f F' H' (fun a => f' a ∨ fr a) → Q v H'
structure FnF (C : Ctx) (x : Str) (j : Nat) (sp : SpF) : Prop where
  ex : ∃ f fd ps, C.mg x = some (.ref f) ∧ PySem.W.keepIn C.K (.ref f) = true ∧ Binds C.K fd ps [] ∧ FnOk C.P C.w C.K C.mg C.base CX0 j f fd ps (spF C.W sp)
structure FnM (C : Ctx) (x : Str) (j : Nat) (sp : SpM) : Prop where
  ex : ∃ f fd ps, C.mg x = some (.ref f) ∧ PySem.W.keepIn C.K (.ref f) = true ∧ Binds C.K fd ps [] ∧ FnOk C.P C.w C.K C.mg C.base CX0 j f fd ps (spM C.W sp)
/-- a method that changes nothing of the object (first of the list) -/
structure MeF (C : Ctx) (c : Nat) (m : Str) (j : Nat) (sp : SpF) : Prop where
  ex : ∃ A f fd ps, C.mg (C.T.cn c) = some (.ref A) ∧ Cls C.K A ∧ Meth C.K A m f ∧ m ∉ C.T.fl c ∧ Binds C.K fd ps [] ∧ FnOk C.P C.w C.K C.mg C.base CX0 j f fd ps (spF C.W sp)
structure MeM (C : Ctx) (c : Nat) (m : Str) (j : Nat) (sp : SpM) : Prop where
  ex : ∃ A f fd ps, C.mg (C.T.cn c) = some (.ref A) ∧ Cls C.K A ∧ Meth C.K A m f ∧ m ∉ C.T.fl c ∧ Binds C.K fd ps [] ∧ FnOk C.P C.w C.K C.mg C.base CX0 j f fd ps (spM C.W sp)
/-- a class that is made by its __init__ -/
structure MkM (C : Ctx) (x : Str) (c : Nat) (j : Nat) (sp : SpM) : Prop where
  ex : ∃ A f fd ps, C.mg x = some (.ref A) ∧ C.mg (C.T.cn c) = some (.ref A) ∧ Mk C.K A f ∧ Binds C.K fd ps [] ∧ FnOk C.P C.w C.K C.mg C.base CX0 j f fd ps (spM C.W sp)
section
variable {C : Ctx} {W : Wd} {pr p1 p2 p3 : Bool} {F F' F1 F2 : AS} {H H' H1 H2 : Hp} {fp fp' fe fe1 fe2 fd fd1 fd2 : AS} {σ : L2.St} {env env1 env2 : Env} {d d1 d2 : Dat} {v v1 v2 : V}
variable {a b c o e : Expr} {es : List Expr} {pos p : Pos} {wa wb wc : LE} {ta tb : LT} {ws : LA}
theorem Gd.fnok {X : Cx} (g : Gd C X) {j : Nat} {f : Addr} {fd : FuncData} {ps : List Str} {sp : Sp} (F : FnOk C.P C.w C.K C.mg C.base CX0 j f fd ps sp) : FnOk X.prog X.w X.K X.mg X.base CX0 j f fd ps sp := by
  rw [g.prog, g.w, g.K, g.mg, g.base]; exact F
def wCall (ws : LA) (sp : SpF) : LE := fun env Q => ws env fun ds env' => sp (frzs ds) fun r => Q r env'
theorem call_post {sp : SpF} {Q : VK} {Qd : Dat → Env → Prop} {ds : List Dat} {vs : List V}
    (q : ∀ d env' F' H' fe fd v, Qd d env' → Po W pr F H fp σ env' F' H' fe fd d v → Q v H') (P : Pa W pr F H fp σ env F' H' fe fd ds vs) (h : sp (frzs ds) fun r => Qd r env) : spF W sp vs H' Q E0 := by
  have k := P.freeze
  refine ⟨_, _, _, k.2.1, ⟨k.2.2.ok.lv, k.2.2.ok.tb⟩, h, fun r F2 H2 fr v hr rr st => ?_⟩
  have fr2 := st.frame (g := fe) k.2.2.ok fun _ z => z.elim
  exact q r env F2 H2 fe fr v hr ⟨k.1.kept st.fx fun a o e => st.kp a o e fun z => z, rr, fun a z q => fr2.2 a q z, (k.2.2.trans (fr2.1.lft fun a z => z.resolve_left id)).sub fun a z => z.symm, fun z => Keep.trans (P.pu z) fun a o e => st.kp a o e fun z => z⟩
theorem je_call {x : Str} {j : Nat} {sp : SpF} (f : FnF C x j sp) (hj : j ≤ C.k) (hg : C.sc.names.lookup x = some .globalImplicit) (hdb : (x == ("__debug__" : Str)) = false) (ha : JA C pr (e :: es) ws)
    (he : ∀ env, starEach (e :: es) env = (false, eval e env) :: starEach es env) (hpl : ∀ env, (backTo pos (starEach es env)).any (·.1) = false) (hh : C.hot = false := by rfl) : JE C pr (.Call (.Name x p) (e :: es) [] pos) (wCall ws sp) := fun X g => by
  obtain ⟨f, fd, ps, hm, hk, hb, F⟩ := f.ex
  refine PE_imp (pe_call (g.fnok F) (g.roomM hh hj) (gl_of g hg) (by rw [g.mg]; exact hm) (by rw [g.K]; exact hk) (by rw [g.K]; exact hb) .nil pass0 (ha X g) hdb (he _) (hpl _)) fun σ H Q ⟨F, fp, env, Qd, sl, ok, hw, q⟩ => ?_
  refine ⟨F, fp, env, _, sl, ok, hw, fun ds env' F' H' fe fd vs hd P => ?_⟩
  show spF C.W sp (vs ++ []) H' Q E0
  rw [List.append_nil]
  exact call_post q P hd
theorem je_call0 {x : Str} {j : Nat} {sp : SpF} (f : FnF C x j sp) (hj : j ≤ C.k) (hg : C.sc.names.lookup x = some .globalImplicit) (hdb : (x == ("__debug__" : Str)) = false) (hh : C.hot = false := by rfl) : JE C true (.Call (.Name x p) [] [] pos) (wCall wNil sp) := fun X g => by
  obtain ⟨f, fd, ps, hm, hk, hb, F⟩ := f.ex
  refine PE_imp (pe_call0 (g.fnok F) (g.roomM hh hj) (gl_of g hg) (by rw [g.mg]; exact hm) (by rw [g.K]; exact hk) (by rw [g.K]; exact hb) .nil pass0 hdb) fun σ H Q ⟨F, fp, env, Qd, sl, ok, hw, q⟩ => ?_
  show spF C.W sp [] H Q E0
  exact call_post (ds := []) (vs := []) (fe := fp) (fd := NoA) (pr := true) q ⟨sl, .nil fun _ z => z, fun _ _ z => z, (Step.refl ok).sub fun a z => z.resolve_right id, fun _ => Keep.rfl⟩ hw
end
end M
namespace M
open PySem PySem.Spec PyProof.Rows L2
/-- behind a return -/
structure Sr (C : Ctx) (σ : L2.St) (F : AS) (H : Hp) (fp : AS) (env : Env) (F' : AS) (H' : Hp) (fe fd : AS) (d : Dat) (v : V) (σ' : L2.St) : Prop where
  sl : Sl C.W F' H' fe env σ'
  rep : Rep C.W F' H' fd d v
  dj : ∀ a, fe a → ¬ fd a
  st : Step C.W F H fp F' H' (fun a => fe a ∨ fd a)
  pin : ∀ i ∈ C.pin, σ'[i]? = σ[i]?
/-- what is wanted of the data leads to what is wanted of the values -/
structure Ko (C : Ctx) (D : Ends) (σ : L2.St) (F : AS) (H : Hp) (fp : AS) (k : SK) : Prop where
  nx : ∀ env F' H' fe σ', k.nx env → Sn C σ F H fp env F' H' fe σ' → D.nx σ' H'
  rt : ∀ d env F' H' fe fd v σ', k.rt d env → Sr C σ F H fp env F' H' fe fd d v σ' → D.rt v H'
  bk : ∀ env F' H' fe σ', k.bk env → Sn C σ F H fp env F' H' fe σ' → D.bk σ' H'
  ct : ∀ env F' H' fe σ', k.ct env → Sn C σ F H fp env F' H' fe σ' → D.ct σ' H'
def liftS (C : Ctx) (w : LS) : TS := fun D σ H => ∃ F fp env k, Sl C.W F H fp env σ ∧ Ok C.W F H fp ∧ w env k ∧ Ko C D σ F H fp k
def JS (C : Ctx) (st : Stmt) (w : LS) : Prop := ∀ X, Gd C X → PS X st (liftS C w)
def JSs (C : Ctx) (sts : List Stmt) (w : LS) : Prop := ∀ X, Gd C X → PSs X sts (liftS C w)
section
variable {C : Ctx} {D : Ends} {σ σ1 : L2.St} {F F1 : AS} {H H1 : Hp} {fp fe : AS} {env env1 : Env} {k : SK} {pr p1 p2 : Bool} {pos : Pos} {e a : Expr} {w wa : LE} {w1 w2 : LS} {st : Stmt} {rest : List Stmt} {t : LT}
theorem Sr.after {env2 : Env} {F2 : AS} {H2 : Hp} {fe2 fd : AS} {d : Dat} {v : V} {σ2 : L2.St} (x : Sn C σ F H fp env1 F1 H1 fe σ1) (y : Sr C σ1 F1 H1 fe env2 F2 H2 fe2 fd d v σ2) : Sr C σ F H fp env2 F2 H2 fe2 fd d v σ2 :=
  ⟨y.sl, y.rep, y.dj, x.st.trans y.st, fun i h => (y.pin i h).trans (x.pin i h)⟩
/-- from a later state -/
theorem Ko.later (h : Ko C D σ F H fp k) (x : Sn C σ F H fp env1 F1 H1 fe σ1) : Ko C D σ1 F1 H1 fe k where
  nx := fun env F' H' fe' σ' hk y => h.nx env F' H' fe' σ' hk (x.trans y)
  rt := fun d env F' H' fe' fd v σ' hk y => h.rt d env F' H' fe' fd v σ' hk (y.after x)
  bk := fun env F' H' fe' σ' hk y => h.bk env F' H' fe' σ' hk (x.trans y)
  ct := fun env F' H' fe' σ' hk y => h.ct env F' H' fe' σ' hk (x.trans y)
theorem Pt.sn (P : Pt C.W pr F H fp σ env1 F1 H1 fe) : Sn C σ F H fp env1 F1 H1 fe σ := ⟨P.sl, P.st, fun _ _ => rfl, rfl⟩
theorem Pv.sn {fd : AS} {d : Dat} {v : V} (P : Pv C.W pr F H fp σ env1 F1 H1 fe fd d v) : Sn C σ F H fp env1 F1 H1 fe σ := ⟨P.sl, P.st, fun _ _ => rfl, rfl⟩
def wNext : LS := fun env k => k.nx env
def wSeq (w1 w2 : LS) : LS := fun env k => w1 env { k with nx := fun e => w2 e k }
theorem js_nil : JSs C [] wNext := fun X g => PSs_imp pss_nil fun D σ H ⟨F, fp, env, k, sl, ok, hw, q⟩ => q.nx env F H fp σ hw ⟨sl, Step.refl ok, fun _ _ => rfl, rfl⟩
theorem js_cons (h1 : JS C st w1) (h2 : JSs C rest w2) : JSs C (st :: rest) (wSeq w1 w2) := fun X g => PSs_imp (pss_cons (h1 X g) (h2 X g)) fun D σ H ⟨F, fp, env, k, sl, ok, hw, q⟩ =>
  ⟨F, fp, env, _, sl, ok, hw, ⟨fun env' F' H' fe σ' hk x => ⟨F', fe, env', k, x.sl, x.st.ok, hk, q.later x⟩, q.rt, q.bk, q.ct⟩⟩
theorem js_one (h1 : JS C st w1) : JSs C [st] w1 := fun X g => PSs_imp (pss_one (h1 X g)) fun _ _ _ h => h
def wRet (w : LE) : LS := fun env k => w env k.rt
theorem js_ret (h : JE C pr e w) : JS C (.Return (some e) pos) (wRet w) := fun X g => PS_imp (ps_ret (h X g)) fun D σ H ⟨F, fp, env, k, sl, ok, hw, q⟩ =>
  ⟨F, fp, env, _, sl, ok, hw, fun d env' F' H' fe fd v hd P => q.rt d env' F' H' fe fd v σ hd ⟨P.sl, P.rep, P.dj, P.st, fun _ _ => rfl⟩⟩
def wIfS (t : LT) (w1 w2 : LS) : LS := fun env k => t env fun b e => if b = true then w1 e k else w2 e k
theorem js_if {c : Expr} {x y : List Stmt} (hc : JT C pr c t) (h1 : JSs C x w1) (h2 : JSs C y w2) : JS C (.If c x y pos) (wIfS t w1 w2) := fun X g => PS_imp (ps_if (hc X g) (h1 X g) (h2 X g)) fun D σ H ⟨F, fp, env, k, sl, ok, hw, q⟩ => by
  refine ⟨F, fp, env, _, sl, ok, hw, fun b env' F' H' fe hd P => ?_⟩
  cases b with
  | true => exact ⟨F', fe, env', k, P.sl, P.st.ok, hd, q.later P.sn⟩
  | false => exact ⟨F', fe, env', k, P.sl, P.st.ok, hd, q.later P.sn⟩
/-- a thing comes into a slot -/
theorem Sl.into {W : Wd} {fd : AS} {d : Dat} {v : V} {i : Nat} (sl : Sl W F H fe env σ) (r : Rep W F H fd d v) (dj : ∀ a, fe a → ¬ fd a) (hi : i < env.length) :
    ∃ g, Sl W F H g (env.set i (some d)) (σ.set i (some v)) ∧ (∀ a, g a → fe a ∨ fd a) := by
  obtain ⟨g, hg, s⟩ := sl.drop i
  have s2 := s.put (i := i) (by rw [List.getElem?_set_self hi]) r fun a z q => dj a (hg a q) z
  rw [List.set_set] at s2
  exact ⟨_, s2, fun a z => z.elim .inr fun z => .inl (hg a z)⟩
theorem Po.into {fd : AS} {d : Dat} {v : V} {i : Nat} (P : Po C.W pr F H fp σ env1 F1 H1 fe fd d v) (hi : i < C.N.length) (hl : σ.length = C.N.length) (hp : i ∉ C.pin) : ∃ g, Sn C σ F H fp (env1.set i (some d)) F1 H1 g (σ.set i (some v)) := by
  obtain ⟨g, s, hg⟩ := Sl.into (i := i) P.sl P.rep P.dj (by rw [P.sl.length, hl]; exact hi)
  refine ⟨g, s, P.st.sub hg, fun j hj => ?_, List.length_set⟩
  rw [List.getElem?_set_ne]
  rintro rfl
  exact hp hj
structure Nm (C : Ctx) (i : Nat) (x : Str) : Prop where
  hN : C.N[i]? = some x
  loc : Loc C.sc x
  fc : C.sc.names.lookup x = some .local ∨ C.fnc x = true
  pin : i ∉ C.pin
theorem Nm.lt {i : Nat} {x : Str} (n : Nm C i x) : i < C.N.length := (List.getElem?_eq_some_iff.mp n.hN).1
theorem Gd.fnx {X : Cx} {i : Nat} {x : Str} (g : Gd C X) (n : Nm C i x) : X.fn x = true ∨ X.env.scope.names.lookup x = some .local := by
  rcases n.fc with l | l
  · exact .inr (by rw [g.sc]; exact l)
  · exact .inl (g.fn x l)
/-- σ is as long as the names are many -/
theorem PS_len {X : Cx} {st : Stmt} {t t' : TS} (h : PS X st t) (i : ∀ D σ H, σ.length = X.N.length → t' D σ H → t D σ H) : PS X st t' := ⟨fun pins s σ H D I q => h.run pins s σ H D I (i D σ H I.len q)⟩
def wSet (i : Nat) (w : LE) : LS := fun env k => w env fun d e => k.nx (e.set i (some d))
theorem js_set {i : Nat} {x : Str} {pos' : Pos} (n : Nm C i x) (h : JE C pr e w) (hs : ∀ env, env.scope = C.sc → swapsWith e (some (.Name x pos')) pos.line env = pure false) : JS C (.Assign [.Name x pos'] e pos) (wSet i w) := fun X g =>
  PS_len (ps_set (i := i) (by rw [g.N]; exact g.nd) (by rw [g.N]; exact n.hN) (by rw [g.sc]; exact n.loc) (h X g) (hs _ g.sc) (g.fnx n)) fun D σ H hl ⟨F, fp, env, k, sl, ok, hw, q⟩ => by
    refine ⟨F, fp, env, _, sl, ok, hw, fun d env' F' H' fe fd v hd P => ?_⟩
    obtain ⟨g', s⟩ := P.into n.lt (by rw [hl, g.N]) n.pin
    exact q.nx _ F' H' g' _ hd s
abbrev LG := Dat → Env → (Env → Prop) → Prop
abbrev LGs := List Dat → Env → (Env → Prop) → Prop
/-- a thing that nobody owns comes to a target -/
def JG (C : Ctx) (tg : Expr) (w : LG) : Prop := ∀ X, Gd C X → PG X tg fun v σ H Q => ∃ F fp env d Qd, Sl C.W F H fp env σ ∧ Ok C.W F H fp ∧ σ.length = C.N.length ∧ Rep C.W F H NoA d v ∧ w d env Qd ∧ ∀ env' F' H' fe σ', Qd env' → Sn C σ F H fp env' F' H' fe σ' → Q σ' H'
def JGs (C : Ctx) (tg : List Expr) (w : LGs) : Prop := ∀ X, Gd C X → PGs X tg fun vs σ H Q => ∃ F fp env ds Qd, Sl C.W F H fp env σ ∧ Ok C.W F H fp ∧ σ.length = C.N.length ∧ Reps C.W F H NoA ds vs ∧ w ds env Qd ∧ ∀ env' F' H' fe σ', Qd env' → Sn C σ F H fp env' F' H' fe σ' → Q σ' H'
theorem PG_imp {X : Cx} {tg : Expr} {t t' : TG} (h : PG X tg t) (i : ∀ v σ H Q, t' v σ H Q → t v σ H Q) : PG X tg t' := ⟨fun pins s σ H v u Q I r q => h.run pins s σ H v u Q I r (i v σ H Q q)⟩
theorem PGs_imp {X : Cx} {tg : List Expr} {t t' : TGs} (h : PGs X tg t) (i : ∀ v σ H Q, t' v σ H Q → t v σ H Q) : PGs X tg t' := ⟨fun pins s σ H v u Q I r q => h.run pins s σ H v u Q I r (i v σ H Q q)⟩
def gNm (i : Nat) : LG := fun d env Q => Q (env.set i (some d))
theorem jg_name {i : Nat} {x : Str} (n : Nm C i x) : JG C (.Name x pos) (gNm i) := fun X g => PG_imp (pg_name (i := i) (by rw [g.N]; exact g.nd) (by rw [g.N]; exact n.hN) (by rw [g.sc]; exact n.loc) (g.fnx n)) fun v σ H Q ⟨F, fp, env, d, Qd, sl, ok, hl, r, hw, q⟩ => by
  obtain ⟨g', s, hg⟩ := Sl.into (i := i) sl r (fun _ _ z => z) (by rw [sl.length, hl]; exact n.lt)
  refine q _ F H g' _ hw ⟨s, (Step.refl ok).sub fun a z => (hg a z).resolve_right id, fun j hj => ?_, List.length_set⟩
  rw [List.getElem?_set_ne]
  rintro rfl
  exact n.pin hj
end
end M
namespace M
open PySem PySem.Spec PyProof.Rows L2
section
variable {C : Ctx} {D : Ends} {W : Wd} {σ σ1 : L2.St} {F F1 : AS} {H H1 : Hp} {fp fe f g fd : AS} {env env1 : Env} {k : SK} {pr p1 p2 : Bool} {pos : Pos} {e a b : Expr} {w wa wb : LE} {w1 w2 : LS} {st : Stmt} {rest : List Stmt} {t : LT} {d : Dat} {v : V}
theorem not_cod {o : HO} (h : ∀ f, o ≠ .ext f) : ¬ Cod o := fun ⟨_, _, e⟩ => h _ e
/-- the container in the slot i is changed at its address; what else there is stays -/
theorem Sl.write {i : Nat} {A : Addr} {o : HO} {f' : AS} {d' : Dat} (sl : Sl W F H fe env σ) (ok : Ok W F H fe) (hσ : σ[i]? = some (some (.ref A))) (j : ∀ a, fe a ↔ f a ∨ g a) (n : ∀ a, f a → ¬ g a) (s : Sl W F H g (env.set i none) σ) (hi : i < env.length)
    (hA : f A) (hw : Wr H A) (no : NT o) (r : Rep W F (upd H A o) f' d' (.ref A)) (sub : ∀ a, f' a → f a) : Sl W F (upd H A o) (fun a => f' a ∨ g a) (env.set i (some d')) σ ∧ Step W F H fe F (upd H A o) (fun a => f' a ∨ g a) := by
  have ne : ∀ a, g a → a ≠ A := fun a z e => n A hA (e ▸ z)
  have hm : Mut (H A) := ok.own A ((j A).mpr (.inl hA))
  have nF : ¬ F A := ok.nf A ((j A).mpr (.inl hA))
  have sg : Sl W F (upd H A o) g (env.set i none) σ := s.mono (fun _ z => z) fun a u e _ z => by
    rw [upd_ne]
    · exact e
    · rintro rfl
      rcases z with z | z | z
      · exact ne a z rfl
      · exact nF z
      · exact z (by rw [← e]; exact hm)
  have s2 := sg.put (i := i) (by rw [List.getElem?_set_self hi]) r fun a z q => n a (sub a z) q
  rw [List.set_set, set_self hσ] at s2
  refine ⟨s2, ⟨fun a u e z => ?_, fun _ z => z, fun a z => .inl z, fun a z => .inl ((j a).mpr (z.imp_left (sub a))), ⟨fun a z q => ok.nf a ((j a).mpr (z.imp_left (sub a))) q, fun a z => s2.own a z, fun a z w => ?_, ok.tb.go (hw.go no)⟩⟩⟩
  · refine .of ?_
    rw [upd_ne]
    · exact e
    · rintro rfl
      exact z ((j a).mpr (.inl hA))
  · by_cases q : a = A
    · subst q; exact nF z
    · rw [upd_ne q] at w; exact ok.lv a z w
/-- the same where a new thing d came into it -/
theorem Po.write {i : Nat} {A : Addr} {o : HO} {f' : AS} {d' : Dat} (P : Po C.W pr F H fp σ env F1 H1 fe fd d v) (hσ : σ[i]? = some (some (.ref A))) (j : ∀ a, fe a ↔ f a ∨ g a) (n : ∀ a, f a → ¬ g a) (s : Sl C.W F1 H1 g (env.set i none) σ) (hi : i < env.length)
    (hA : f A) (hw : Wr H1 A) (no : NT o) (r : Rep C.W F1 (upd H1 A o) f' d' (.ref A)) (sub : ∀ a, f' a → f a ∨ fd a) : Sn C σ F H fp (env.set i (some d')) F1 (upd H1 A o) (fun a => f' a ∨ g a) σ := by
  have ok := P.st.ok
  have ne : ∀ a, g a → a ≠ A := fun a z e => n A hA (e ▸ z)
  have hm : Mut (H1 A) := ok.own A (.inl ((j A).mpr (.inl hA)))
  have nF : ¬ F1 A := ok.nf A (.inl ((j A).mpr (.inl hA)))
  have sg : Sl C.W F1 (upd H1 A o) g (env.set i none) σ := s.mono (fun _ z => z) fun a u e _ z => by
    rw [upd_ne]
    · exact e
    · rintro rfl
      rcases z with z | z | z
      · exact ne a z rfl
      · exact nF z
      · exact z (by rw [← e]; exact hm)
  have s2 := sg.put (i := i) (by rw [List.getElem?_set_self hi]) r fun a z q => by
    rcases sub a z with z | z
    · exact n a z q
    · exact P.dj a ((j a).mpr (.inr q)) z
  rw [List.set_set, set_self hσ] at s2
  have all : ∀ a, f' a ∨ g a → fe a ∨ fd a := fun a z => by
    rcases z with z | z
    · exact (sub a z).imp_left fun z => (j a).mpr (.inl z)
    · exact .inl ((j a).mpr (.inr z))
  have st2 : Step C.W F1 H1 (fun a => fe a ∨ fd a) F1 (upd H1 A o) (fun a => f' a ∨ g a) := ⟨fun a u e z => .of (by
      rw [upd_ne]
      · exact e
      · rintro rfl
        exact z (.inl ((j a).mpr (.inl hA)))), fun _ z => z, fun a z => .inl z, fun a z => .inl (all a z), ⟨fun a z q => ok.nf a (all a z) q, fun a z => s2.own a z, fun a z w => by
      by_cases q : a = A
      · subst q; exact nF z
      · rw [upd_ne q] at w; exact ok.lv a z w, ok.tb.go (hw.go no)⟩⟩
  exact ⟨s2, P.st.trans st2, fun _ _ => rfl, rfl⟩
theorem Reps.one {h : AS} (r : Rep W F H h d v) : Reps W F H h [d] [v] := .cons r (.nil (fp := NoA) fun _ z => z) (fun _ _ z => z) fun a => ⟨.inl, fun z => z.resolve_right id⟩
end
end M
namespace M
open PySem PySem.Spec PyProof.Rows L2
/-- what a loop walks, told over data -/
structure ItOk (W : Wd) (F : AS) (H : Hp) (J : It) (ds : List Dat) : Prop where
  go : ∀ (F' : AS) (H' : Hp), (∀ a, F a → F' a) → (∀ a o, H a = some o → NT o → F a ∨ ¬ Mut (some o) → H' a = some o) → FL F' H' → ∀ i d, ds[i]? = some d → J.go i H' ∧ ∀ x H'', J.yld i H' x H'' → ∃ F'', Rep W F'' H'' NoA d x ∧ Fresh F' H' F'' H'' NoA
  stop : ∀ (F' : AS) (H' : Hp), (∀ a, F a → F' a) → (∀ a o, H a = some o → NT o → F a ∨ ¬ Mut (some o) → H' a = some o) → J.stop ds.length H'
abbrev LI := Env → (List Dat → Env → Prop) → Prop
def liftI (W : Wd) (w : LI) : TI := fun σ H R => ∃ F fp env Qd, Sl W F H fp env σ ∧ Ok W F H fp ∧ w env Qd ∧ ∀ ds env' F' H' fe J, Qd ds env' → Pt W false F H fp σ env' F' H' fe → ItOk W F' H' J ds → R J H'
def JI (C : Ctx) (tg iter : Expr) (w : LI) : Prop := ∀ X, Gd C X → PI X tg iter (liftI C.W w)
theorem PI_imp {X : Cx} {tg e : Expr} {t t' : TI} (h : PI X tg e t) (i : ∀ σ H R, t' σ H R → t σ H R) : PI X tg e t' := ⟨fun pins s σ H R I q => h.run pins s σ H R I (i σ H R q)⟩
section
variable {C : Ctx} {D : Ends} {W : Wd} {σ σ1 : L2.St} {F F1 F' : AS} {H H1 H' : Hp} {fp fe f g fd : AS} {env env1 : Env} {k : SK} {pr p1 p2 : Bool} {pos p : Pos} {tg e a b c : Expr} {w wa wb : LE} {w1 w2 : LS} {st : Stmt} {rest body : List Stmt} {t : LT} {d : Dat} {v : V}
theorem Step.stable (st : Step W F H fp F' H' fe) (ok : Ok W F H fp) : ∀ a o, H a = some o → NT o → F a ∨ ¬ Mut (some o) → H' a = some o := fun a o e t z => st.keepR (g := NoA) ok (fun _ z => z.elim) a o e t (.inr z)
theorem itl_ok {A : Addr} {ds : List Dat} {vs : List V} (hF : F A) (hR : Rd H A (.lst vs)) (r : Reps W F H NoA ds vs) : ItOk W F H (Itl W.K A) ds where
  go := fun F' H' fx kp fl i d hd => by
    have hR' : SqL W.K H' A vs := .inl (Rd.keep (fun _ z => nomatch z) hR fun o e t => kp A o e t (.inl hF))
    have r' : Reps W F' H' NoA ds vs := Reps.mono fx _ _ _ r fun a o e t z => kp a o e t (z.resolve_left id)
    obtain ⟨v, e1, r1⟩ := r'.rep hd
    refine ⟨⟨vs, v, hR', e1⟩, fun x H'' ⟨eq, hx⟩ => ?_⟩
    have := hx vs hR'
    rw [e1] at this; cases this; subst eq
    exact ⟨F', r1, .refl⟩
  stop := fun F' H' fx kp => ⟨vs, .inl (Rd.keep (fun _ z => nomatch z) hR fun o e t => kp A o e t (.inl hF)), Nat.le_of_eq r.length.symm⟩
def rngD (lo : Int) (n : Nat) : List Dat := (List.range n).map fun (i : Nat) => .int (lo + (i : Int))
theorem itr_ok {lo : Int} {n : Nat} : ItOk W F H (Itr lo n) (rngD lo n) where
  go := fun F' H' fx kp fl i d hd => by
    simp only [rngD, List.getElem?_map, Option.map_eq_some_iff] at hd
    obtain ⟨j, hj, rfl⟩ := hd
    obtain ⟨h1, h2⟩ := List.getElem?_eq_some_iff.mp hj
    simp at h1 h2; subst h2
    refine ⟨h1, fun x H'' ⟨eq, ex⟩ => ?_⟩
    subst eq ex
    exact ⟨F', .int _ fun _ z => z, .refl⟩
  stop := fun F' H' fx kp => (by simp [rngD] : n ≤ (rngD lo n).length)
def wInL (w : LE) : LI := fun env Q => w env fun d e => ∃ o xs, d = .lst o xs ∧ Q (frzI o xs) e
theorem Po.pt {fd : AS} {d : Dat} {v : V} (P : Po W pr F H fp σ env1 F1 H1 fe fd d v) : Pt W false F H fp σ env1 F1 H1 fe := ⟨P.sl, P.st.sub fun _ => .inl, fun z => nomatch z⟩
theorem ji_lst (h : JE C pr e w) : JI C tg e (wInL w) := fun X g0 => PI_imp (pi_list (h X g0)) fun σ H R ⟨F, fp, env, Qd, sl, ok, hw, q⟩ =>
  ⟨F, fp, env, _, sl, ok, hw, fun d env' F' H' fe fd v hd P => by
    obtain ⟨o, xs, rfl, hd⟩ := hd
    have Pf := P.freeze
    have r := Pf.rep
    rw [frz_lst] at r
    cases r with
    | @lstF _ A vs _ em hR hF r =>
      refine ⟨A, rfl, ⟨vs, .inl hR⟩, q (frzI o xs) env' _ H' fe _ hd Pf.pt ?_⟩
      rw [g0.K]
      exact itl_ok (W := C.W) hF hR r⟩
def wRng1 (w : LA) : LI := fun env Q => w env fun ds e => ∃ j : Int, ds = [.int j] ∧ (-(2 ^ 62) ≤ j ∧ j < 2 ^ 62) ∧ Q (rngD 0 j.toNat) e
theorem Rep.int' {fp : AS} {i : Int} {v : V} (r : Rep W F H fp (.int i) v) : v = .int i := by cases r; rfl
theorem Pa.pt {fd : AS} {ds : List Dat} {vs : List V} (P : Pa W pr F H fp σ env1 F1 H1 fe fd ds vs) : Pt W false F H fp σ env1 F1 H1 fe := ⟨P.sl, P.st.sub fun _ => .inl, fun z => nomatch z⟩
theorem Reps.un1 {fp : AS} {x : Dat} {vs : List V} (r : Reps W F H fp [x] vs) : ∃ v f, vs = [v] ∧ Rep W F H f x v := by
  cases r with
  | cons r1 r2 _ _ => cases r2; exact ⟨_, _, rfl, r1⟩
theorem ji_rng1 {ws : LA} (hg : C.sc.names.lookup ("range" : Str) = some .globalImplicit) (hm : C.mg "range" = none) (ha : JA C pr [a] ws) (hs : ∀ env, starEach [a] env = [(false, eval a env)]) : JI C tg (.Call (.Name "range" p) [a] [] pos) (wRng1 ws) := fun X g0 =>
  PI_imp (pi_range1 (gl_of g0 hg) (by rw [g0.mg]; exact hm) (ha X g0) (hs _)) fun σ H R ⟨F, fp, env, Qd, sl, ok, hw, q⟩ =>
  ⟨F, fp, env, _, sl, ok, hw, fun ds env' F' H' fe fd vs hd P => by
    obtain ⟨j, rfl, hb, hd⟩ := hd
    obtain ⟨v, f, rfl, r⟩ := P.rep.un1
    cases r.int'
    exact ⟨j, rfl, hb.1, hb.2, q _ env' F' H' fe _ hd P.pt itr_ok⟩⟩
end
end M
namespace M
open PySem PySem.Spec PyProof.Rows L2
section
variable {C : Ctx} {D : Ends} {W : Wd} {σ σ1 σ' : L2.St} {F F1 F' : AS} {H H1 H' : Hp} {fp fe f g fd : AS} {env env1 env' : Env} {k : SK} {pr p1 p2 : Bool} {pos p : Pos} {tg e a b c elt iter kx vx : Expr} {w wa wb we wk wv : LE} {w1 w2 : LS} {st : Stmt} {rest body : List Stmt} {t : LT} {d : Dat} {v : V}
theorem PE_len {X : Cx} {e : Expr} {t t' : TE} (h : PE X e t) (i : ∀ σ H Q, σ.length = X.N.length → t' σ H Q → t σ H Q) : PE X e t' := ⟨fun pins s σ H Q I q => h.run pins s σ H Q I (i σ H Q I.len q)⟩
theorem wipeE_some {i : Nat} {x : Dat} : ∀ {vs : List Nat}, (wipeE env vs)[i]? = some (some x) → env[i]? = some (some x) ∧ i ∉ vs
  | [], h => ⟨h, by simp⟩
  | v :: vs, h => by
    unfold wipeE at h
    by_cases hi : v = i
    · subst hi
      by_cases hv : v < (wipeE env vs).length
      · rw [List.getElem?_set_self hv] at h; cases h
      · rw [List.getElem?_eq_none (by simpa using hv)] at h; cases h
    · rw [List.getElem?_set_ne hi] at h
      obtain ⟨h1, h2⟩ := wipeE_some h
      exact ⟨h1, by simp only [List.mem_cons, not_or]; exact ⟨fun e => hi e.symm, h2⟩⟩
theorem Sl.agree (h : Sl W F H fp env σ) : ∀ {σ' : L2.St}, σ'.length = σ.length → (∀ (i : Nat) (d : Dat), env[i]? = some (some d) → σ'[i]? = σ[i]?) → Sl W F H fp env σ' := by
  induction h with
  | em e =>
    intro σ' hl _
    have : σ' = [] := List.eq_nil_of_length_eq_zero hl
    subst this
    exact .em e
  | no s ih =>
    intro σ' hl hi
    cases σ' with
    | nil => simp at hl
    | cons y σ' => exact .no (ih (by simpa using hl) fun i d e => by have := hi (i + 1) d (by simpa using e); simpa using this)
  | so r s n j ih =>
    intro σ' hl hi
    cases σ' with
    | nil => simp at hl
    | cons y σ' =>
      have h0 := hi 0 _ (by simp; rfl)
      simp at h0
      subst h0
      exact .so r (ih (by simpa using hl) fun i d e => by have := hi (i + 1) d (by simpa using e); simpa using this) n j
theorem Sl.dropE (s : Sl W F H fp env σ) : ∀ vs : List Nat, ∃ g, (∀ a, g a → fp a) ∧ Sl W F H g (wipeE env vs) σ
  | [] => ⟨fp, fun _ z => z, s⟩
  | v :: vs => by
    obtain ⟨g, hg, s1⟩ := Sl.dropE s vs
    obtain ⟨g2, hg2, s2⟩ := s1.drop v
    exact ⟨g2, fun a z => hg a (hg2 a z), s2⟩
theorem Sl.wipe (s : Sl W F H fp env σ) (vs : List Nat) : ∃ g, (∀ a, g a → fp a) ∧ Sl W F H g (wipeE env vs) (L2.wipe σ vs) := by
  obtain ⟨g, hg, s1⟩ := s.dropE vs
  exact ⟨g, hg, s1.agree (wipe_length _ _) fun i d e => wipe_out (wipeE_some e).2⟩
/-- back in the frame around -/
theorem Sl.unwipe {vs : List Nat} (s : Sl W F H fp env σ') (hw : L2.wipe σ' vs = L2.wipe σ vs) : ∃ g, (∀ a, g a → fp a) ∧ Sl W F H g (wipeE env vs) σ := by
  obtain ⟨g, hg, s1⟩ := s.dropE vs
  refine ⟨g, hg, s1.agree ?_ fun i d e => ?_⟩
  · have := congrArg List.length hw
    rw [wipe_length, wipe_length] at this
    exact this.symm
  · have n := (wipeE_some e).2
    rw [← wipe_out n, ← wipe_out (σ := σ') n, hw]
theorem wipe_ext {vs : List Nat} (hl : σ'.length = σ.length) (h : ∀ i, i < σ.length → i ∉ vs → σ'[i]? = σ[i]?) : L2.wipe σ' vs = L2.wipe σ vs := by
  refine List.ext_getElem? fun i => ?_
  by_cases hi : i ∈ vs
  · by_cases hb : i < σ.length
    · have key : ∀ (τ : L2.St), i < τ.length → (L2.wipe τ vs)[i]? = some none := fun τ hτ => by
        cases e : (L2.wipe τ vs)[i]? with
        | none => rw [List.getElem?_eq_none_iff, wipe_length] at e; omega
        | some o =>
          cases o with
          | none => rfl
          | some x => exact absurd hi (wipe_some e).2
      rw [key σ hb, key σ' (by omega)]
    · rw [List.getElem?_eq_none (by rw [wipe_length]; omega), List.getElem?_eq_none (by rw [wipe_length]; omega)]
  · rw [wipe_out hi, wipe_out hi]
    by_cases hb : i < σ.length
    · exact h i hb hi
    · rw [List.getElem?_eq_none (by omega), List.getElem?_eq_none (by omega)]
theorem wipe_wipe {vs : List Nat} : L2.wipe (L2.wipe σ vs) vs = L2.wipe σ vs := wipe_ext (wipe_length _ _) fun i _ n => wipe_out n
def Ctx.blk (C : Ctx) (scope : Scope) (own : List (Str × Nat)) : Ctx := { C with sc := relS scope C.sc, pin := (List.range C.N.length).filter fun i => !(own.map (·.2)).contains i, fnc := fun x => scope.names.lookup x == some .cell }
theorem Gd.blk {X : Cx} {scope : Scope} (hh : C.hot = false) (own : List (Str × Nat)) (g : Gd C X) {s : Shared} {H : Hp} {A : Addr} {cl : List (Str × Addr)} {fp : List Addr} : Gd (C.blk scope own) (X.blk s H scope (compEnvC scope cl A X.env) fp) where
  prog := g.prog
  w := g.w
  K := g.K
  mg := g.mg
  base := g.base
  N := g.N
  nd := g.nd
  sc := by show relS scope X.env.scope = _; rw [g.sc]; rfl
  calm' := g.calm'
  room := g.room
  hd := g.hd
  fn := fun x h => h
  po := PassesOwn.never
  gu := g.gu
  cq := g.cq
  exo := fun z => by
    have z' : C.hot = true := z
    rw [hh] at z'; cases z'
theorem blk_wipe {scope : Scope} {own : List (Str × Nat)} (hl : σ.length = C.N.length) (S : Sn (C.blk scope own) (L2.wipe σ (own.map (·.2))) F H fp env F' H' fe σ') : L2.wipe σ' (own.map (·.2)) = L2.wipe σ (own.map (·.2)) := by
  refine (wipe_ext (σ := L2.wipe σ (own.map (·.2))) S.ln fun i hi n => S.pin i ?_).trans wipe_wipe
  rw [wipe_length] at hi
  show i ∈ (List.range C.N.length).filter _
  rw [List.mem_filter]
  exact ⟨List.mem_range.mpr (by omega), by simpa using n⟩
theorem mu_lst {vs : List V} : Mut (some (HO.lst vs)) ∧ ¬ Cod (.lst vs) := ⟨True.intro, not_cod fun _ z => nomatch z⟩
theorem DS.reps {A : Addr} {u u' : HO} {ds : List Dat} {vs : List V} (x : DS W F H fp A u) (s : Reps W F H NoA ds vs) : Reps W F (upd H A u') NoA ds vs :=
  s.upd (by rw [x.at_]; exact x.mu.1) (x.ok.nf A (.inr rfl)) fun z => z
def JTs (C : Ctx) (pr : Bool) (es : List Expr) (t : LT) : Prop := ∀ X, Gd C X → PTs X es (liftT C.W pr t)
def wYes : LT := fun env Q => Q true env
theorem PTs_imp {X : Cx} {e : List Expr} {t t' : TT} (h : PTs X e t) (i : ∀ σ H Q, t' σ H Q → t σ H Q) : PTs X e t' := ⟨fun pins s σ H Q I q => h.run pins s σ H Q I (i σ H Q q)⟩
theorem jts_nil : JTs C true [] wYes := fun X g => PTs_imp pts_nil fun σ H Q ⟨F, fp, env, Qd, sl, ok, hw, q⟩ => q true env F H fp hw ⟨sl, Step.refl ok, fun _ => Keep.rfl⟩
theorem jts_one (h : JT C pr c t) : JTs C pr [c] t := fun X g => pts_one (h X g)
def lcD (vs : List Nat) (gl : LG) (t : LT) (w : LE) : List Dat → List Dat → Env → (List Dat → Env → Prop) → Prop
  | [], acc, e, Q => Q acc e
  | d :: ds, acc, e, Q => gl d (wipeE e vs) fun e1 => t e1 fun b e2 => if b = true then w e2 fun y e3 => lcD vs gl t w ds (acc ++ [frz y]) (wipeE e3 vs) Q else lcD vs gl t w ds acc (wipeE e2 vs) Q
def wLc (i : LI) (gl : LG) (t : LT) (w : LE) (vs : List Nat) : LE := fun env Q => i env fun ds e => ds.length < sizeLine ∧ lcD vs gl t w ds [] e fun acc e' => Q (.lst true acc) e'
/-- one turn's target and tests: the state behind them -/
structure LcSt (C : Ctx) (σ : L2.St) (F : AS) (H : Hp) (fp : AS) (A : Addr) (acc : List Dat) (vs : List V) (env : Env) : Prop where
  sl : Sl C.W F H fp env σ
  ds : DS C.W F H fp A (.lst vs)
  reps : Reps C.W F H NoA acc vs
theorem lcW_of {gl : LG} {scope : Scope} {own : List (Str × Nat)} {te : TE} {tt : TT} {tg' : TG} {J : It} {ds : List Dat} {F1 : AS} {H1 : Hp} {fe1 : AS} {env1 : Env}
    (Tg : ∀ v σ H Q, (∃ F fp env d Qd, Sl C.W F H fp env σ ∧ Ok C.W F H fp ∧ σ.length = C.N.length ∧ Rep C.W F H NoA d v ∧ gl d env Qd ∧ ∀ env' F' H' fe σ', Qd env' → Sn (C.blk scope own) σ F H fp env' F' H' fe σ' → Q σ' H') → tg' v σ H Q)
    (Tt : ∀ σ H Q, liftT C.W p1 t σ H Q → tt σ H Q) (Te : ∀ σ H Q, lift C.W p2 we σ H Q → te σ H Q) {Q : VK} (hl : σ.length = C.N.length) {Qd : List Dat → Env → Prop}
    (sl : Sl C.W F1 H1 fe1 env1 σ) (ok : Ok C.W F1 H1 fe1) (it : ItOk C.W F1 H1 J ds) (hz : ds.length < sizeLine) (hd : lcD (own.map (·.2)) gl t we ds [] env1 Qd)
    (q : ∀ acc e F' H' fe fd v, Qd acc e → Po C.W false F1 H1 fe1 σ e F' H' fe fd (.lst true acc) v → Q v H') :
    ∀ A, H1 A = none → ∃ W : Nat → Nat → Hp → Prop, (∃ m, W 0 m (upd H1 A (.lst []))) ∧ ∀ i m H, W i m H →
      (J.stop i H ∧ Q (.ref A) H) ∨ (J.go i H ∧ ∃ Nx : Hp → Prop, (∀ H', Nx H' → ∃ m', m' < m ∧ W (i + 1) m' H') ∧ ∀ x H', J.yld i H x H' → tg' x (L2.wipe σ (own.map (·.2))) H' fun σ2 H2 => L2.wipe σ2 (own.map (·.2)) = L2.wipe σ (own.map (·.2)) ∧ tt σ2 H2 fun b H3 =>
        if b = true then te σ2 H3 fun y H4 => ∃ acc, H4 A = some (.lst acc) ∧ acc.length < sizeLine ∧ Nx (upd H4 A (.lst (acc ++ [y]))) else Nx H3) := by
  intro A hA
  have fr0 : Fresh F1 H1 F1 (upd H1 A (.lst [])) (fun a => a = A) := ⟨keep_upd hA, Tgo.new hA (fun _ z => nomatch z), fun _ z => z, fun _ z => .inl z, fun a z => by rw [z]; exact hA, fun a z q => ok.lv a q (by rw [z]; exact hA)⟩
  have fs0 := fr0.step ok fun a z => by rw [z, upd_same]; exact True.intro
  have nA : ¬ fe1 A := fun z => fs0.2 A z rfl
  have D0 : DS C.W F1 (upd H1 A (.lst [])) fe1 A (.lst []) := ⟨upd_same, nA, mu_lst, fs0.1.ok⟩
  refine ⟨fun i m H2 => m = ds.length - i ∧ i ≤ ds.length ∧ ∃ F2 f2 e2 acc vs, LcSt C σ F2 H2 f2 A acc vs e2 ∧ acc.length ≤ i ∧ Step C.W F1 H1 fe1 F2 H2 (fun a => f2 a ∨ a = A) ∧ lcD (own.map (·.2)) gl t we (ds.drop i) acc e2 Qd,
    ⟨ds.length, by simp, Nat.zero_le _, F1, fe1, env1, [], [], ⟨sl.kept (fun _ z => z) (keep_upd hA), D0, .nil fun _ z => z⟩, Nat.le_refl _, fs0.1, hd⟩, ?_⟩
  rintro i m H2 ⟨rfl, hi, F2, f2, e2, acc, vs, S, ha, st, hf⟩
  have stb := st.stable ok
  by_cases hlt : i < ds.length
  · refine .inr ⟨(it.go F2 H2 st.fx stb st.ok.lv i ds[i] (by simp [hlt])).1, fun H' => ∃ F2 f2 e2 acc vs, LcSt C σ F2 H' f2 A acc vs e2 ∧ acc.length ≤ i + 1 ∧ Step C.W F1 H1 fe1 F2 H' (fun a => f2 a ∨ a = A) ∧ lcD (own.map (·.2)) gl t we (ds.drop (i + 1)) acc e2 Qd, fun H' z => ⟨ds.length - (i + 1), by omega, rfl, hlt, z⟩, fun x H3 hy => ?_⟩
    obtain ⟨F3, rx, fr⟩ := (it.go F2 H2 st.fx stb st.ok.lv i ds[i] (by simp [hlt])).2 x H3 hy
    have fs := fr.step S.ds.ok fun _ z => z.elim
    have ok3 : Ok C.W F3 H3 (fun a => f2 a ∨ a = A) := fs.1.ok.sub fun _ => .inl
    have st3 : Step C.W F1 H1 fe1 F3 H3 (fun a => f2 a ∨ a = A) := (st.trans fs.1).sub fun _ => .inl
    have D3 : DS C.W F3 H3 f2 A (.lst vs) := ⟨(fr.kp _ _ S.ds.at_).nt (mut_nt S.ds.mu.1), S.ds.nD, mu_lst, ok3⟩
    obtain ⟨g3, sub3, sl3⟩ := (S.sl.kept fr.fx fr.kp).wipe (own.map (·.2))
    have r3 : Reps C.W F3 H3 NoA acc vs := S.reps.kept fr.fx fr.kp
    have okg : Ok C.W F3 H3 g3 := ok3.sub fun a z => .inl (sub3 a z)
    rw [List.drop_eq_getElem_cons hlt] at hf
    refine Tg _ _ _ _ ⟨F3, g3, _, ds[i], _, sl3, okg, by rw [wipe_length]; exact hl, rx, hf, fun e4 F4 H4 f4 σ4 hd4 S4 => ⟨blk_wipe hl S4, ?_⟩⟩
    refine Tt _ _ _ ⟨F4, f4, e4, _, S4.sl, S4.st.ok, hd4, fun bb e5 F5 H5 f5 hd5 P5 => ?_⟩
    have st35 := S4.st.trans P5.st
    have fin : ∀ {F6 : AS} {H6 : Hp} {f6 : AS} {e6 : Env}, Step C.W F3 H3 g3 F6 H6 f6 → Sl C.W F6 H6 f6 e6 σ4 → LcSt C σ F6 H6 f6 A acc vs e6 → True := fun _ _ _ => trivial
    cases bb with
    | false =>
      have D5 := D3.go sub3 st35
      obtain ⟨g5, sub5, sl5⟩ := P5.sl.unwipe (blk_wipe hl S4)
      refine ⟨F5, g5, _, acc, vs, ⟨sl5, ⟨D5.1.at_, fun z => D5.1.nD (sub5 A z), mu_lst, D5.1.ok.sub fun a z => z.imp_left (sub5 a)⟩, r3.step st35 okg fun _ z => z.elim⟩, by omega, (st3.trans D5.2).sub fun a z => z.imp_left (sub5 a), hd5⟩
    | true =>
      refine (show te σ4 H5 _ from ?_)
      refine Te _ _ _ ⟨F5, f5, e5, _, P5.sl, P5.st.ok, hd5, fun y e6 F6 H6 f6 fy vy hd6 P6 => ?_⟩
      have Pf := P6.freeze
      have st36 := st35.trans (Pf.st.sub fun _ => .inl)
      have D6 := D3.go sub3 st36
      obtain ⟨g6, sub6, sl6⟩ := Pf.sl.unwipe (blk_wipe hl S4)
      have D6' : DS C.W (fun a => F6 a ∨ fy a) H6 g6 A (.lst vs) := ⟨D6.1.at_, fun z => D6.1.nD (sub6 A z), mu_lst, D6.1.ok.sub fun a z => z.imp_left (sub6 a)⟩
      have D7 := D6'.set (u' := .lst (vs ++ [vy])) mu_lst
      have r6 : Reps C.W (fun a => F6 a ∨ fy a) H6 NoA acc vs := r3.step st36 okg fun _ z => z.elim
      have r7 : Reps C.W (fun a => F6 a ∨ fy a) H6 NoA (acc ++ [frz y]) (vs ++ [vy]) := Reps.eqv _ _ _ _ (Reps.append r6 (Reps.one Pf.rep) fun _ z => z.elim) fun a => ⟨fun z => z.elim, fun z => z.elim id id⟩
      refine ⟨vs, D6.1.at_, by rw [← r3.length]; omega, ?_⟩
      refine ⟨fun a => F6 a ∨ fy a, g6, _, acc ++ [frz y], vs ++ [vy], ⟨D6'.sl sl6, D7.1, D6'.reps r7⟩, by simp; omega, (st3.trans (D6.2.sub fun a z => z.imp_left (sub6 a))).trans D7.2, hd6⟩
  · have e : i = ds.length := by omega
    subst e
    rw [List.drop_length] at hf
    refine .inl ⟨it.stop F2 H2 st.fx stb, q _ e2 F2 H2 f2 (fun a => a = A) _ hf ⟨S.sl, .lstO S.ds.at_ S.reps (fun z => z) fun b => ⟨.inl, fun z => z.elim id False.elim⟩, fun a z q => S.ds.nD (q ▸ z), st, fun z => nomatch z⟩⟩
theorem tLc_of {wi : LI} {gl : LG} {scope : Scope} {own : List (Str × Nat)} {te : TE} {tt : TT} {tg' : TG}
    (Tg : ∀ v σ H Q, (∃ F fp env d Qd, Sl C.W F H fp env σ ∧ Ok C.W F H fp ∧ σ.length = C.N.length ∧ Rep C.W F H NoA d v ∧ gl d env Qd ∧ ∀ env' F' H' fe σ', Qd env' → Sn (C.blk scope own) σ F H fp env' F' H' fe σ' → Q σ' H') → tg' v σ H Q)
    (Tt : ∀ σ H Q, liftT C.W p1 t σ H Q → tt σ H Q) (Te : ∀ σ H Q, lift C.W p2 we σ H Q → te σ H Q) (Q : VK) (hl : σ.length = C.N.length)
    (h : lift C.W false (wLc wi gl t we (own.map (·.2))) σ H Q) : tLc (liftI C.W wi) tg' tt te (own.map (·.2)) σ H Q := by
  obtain ⟨F, fp, env, Qd, sl, ok, hw, q⟩ := h
  refine ⟨F, fp, env, _, sl, ok, hw, fun ds env1 F1 H1 fe1 J hd P it => ?_⟩
  obtain ⟨hz, hd⟩ := hd
  exact lcW_of Tg Tt Te hl P.sl P.st.ok it hz hd fun acc e F' H' fe fd v hq P2 => q _ e F' H' fe fd v hq ⟨P2.sl, P2.rep, P2.dj, P.st.trans P2.st, fun z => nomatch z⟩
theorem je_lc {wi : LI} {gl : LG} {scope : Scope} {own : List (Str × Nat)} {ifs : List Expr} (hi : JI C tg iter wi) (okb : BlkOk C.N C.sc scope own) (hg : JG (C.blk scope own) tg gl) (ht : JTs (C.blk scope own) p1 ifs t) (he : JE (C.blk scope own) p2 elt we) (hs : ∀ env x, foldedSetIterable iter env x = pure x) (hh : C.hot = false := by rfl) :
    JE C false (.ListComp elt [⟨tg, iter, ifs, 0⟩] scope pos) (wLc wi gl t we (own.map (·.2))) := fun X g0 =>
  PE_len (pe_lc (g0.calm' hh) (by rw [g0.N]; exact g0.nd) (hi X g0) (by rw [g0.N, g0.sc]; exact okb) (fun _ _ _ _ _ => hg _ (g0.blk hh own)) (fun _ _ _ _ _ => ht _ (g0.blk hh own)) (fun _ _ _ _ _ => he _ (g0.blk hh own)) (hs _)) fun σ H Q hl h =>
    tLc_of (C := C) (fun _ _ _ _ z => z) (fun _ _ _ z => z) (fun _ _ _ z => z) Q (by rw [hl, g0.N]) h
end
end M
namespace M
open PySem PySem.Spec PyProof.Rows L2
/-- the context of a def's body -/
def Ctx.fn (C : Ctx) (N : List Str) (sc : Scope) (k : Nat) (pin : List Nat) : Ctx := { C with N := N, sc := sc, k := k, pin := pin, fnc := fun _ => true, cq := none, hot := false }
/-- the same without, with the knowledge that no repr is under way -/
def Ctx.ng (C : Ctx) : Ctx := { C with gd := false }
def startE (n : Nat) (ds : List Dat) : Env := ds.map some ++ List.replicate (n - ds.length) none
/-- what the body's term promises -/
def spOf (np n : Nat) (w : LS) : SpF := fun ds Q => ds.length = np ∧ w (startE n ds) ⟨fun _ => Q .non, fun d _ => Q d, fun _ => False, fun _ => False⟩
section
variable {C : Ctx} {W : Wd} {σ : L2.St} {F F' : AS} {H H' : Hp} {fp fe f g fd : AS} {env : Env} {d : Dat} {v : V} {w : LS}
theorem sl_nones : ∀ n : Nat, Sl W F H NoA (List.replicate n none) (List.replicate n none)
  | 0 => .em fun _ z => z
  | n + 1 => .no (sl_nones n)
theorem sl_start : ∀ {ds : List Dat} {vs : List V} {fp : AS} (n : Nat), Reps W F H fp ds vs → Sl W F H fp (ds.map some ++ List.replicate n none) (vs.map some ++ List.replicate n none)
  | [], _, _, n, r => by cases r with | nil e => exact (sl_nones n).eqv fun a => ⟨fun z => absurd z (e a), fun z => z.elim⟩
  | d :: ds, _, _, n, r => by
    cases r with
    | cons r1 r2 dj i => exact .so r1 (sl_start n r2) dj i
theorem start_eq (N : List Str) (vs : List V) : L2.start N vs = vs.map some ++ List.replicate (N.length - vs.length) none := rfl
theorem ok_no (fl : FL F H ∧ TbOk W.tb H) : Ok W F H NoA := ⟨fun _ z => z.elim, fun _ z => z.elim, fl.1, fl.2⟩
theorem gd_def {N ps : List Str} {st : Stmt} {qual : Str} {f : Addr} {k : Nat} {cdv : Value} {A : Around} {outer : List PySem.Env} {s : Shared} {H : Hp} {E : XK} (pin : List Nat) (hG : C.gd = true → A.guards = some []) (S : FnScope N ps (defScope st)) (hr : Room k (A.deeper (envOfC qual (defScope st) s.heap.objs.size f cdv))) :
    Gd (C.fn N (defScope st) k pin) (cxOf CX0 C.P C.w C.K C.mg C.base N qual (defScope st) f cdv A outer s H E).nox where
  prog := rfl
  w := rfl
  K := rfl
  mg := rfl
  base := rfl
  N := rfl
  nd := S.nd
  sc := rfl
  calm' := fun _ => rfl
  room := ⟨hr.dp, hr.un⟩
  hd := fun _ => hr.hd
  fn := fun _ _ => rfl
  po := PassesOwn.never
  gu := hG
  cq := fun _ _ e => nomatch e
  exo := fun z => Bool.noConfusion z
/-- a def that changes nothing of what it is given -/
theorem fnOkF (hz : C.gd = false) {x qual : Str} {st : Stmt} {f : Addr} {fd : FuncData} {N ps : List Str} {k : Nat} (F : Fun C.K x qual st f fd) (S : FnScope N ps (defScope st)) (h : JSs (C.fn N (defScope st) k []) (defBody st) w) :
    FnOk C.P C.w C.K C.mg C.base CX0 (k + 1) f fd ps (spF C.W (spOf ps.length N.length w)) := by
  refine F.ok S (fun vs H Q E ⟨F', ds, Qd, r, fl, sp, q⟩ => ?_) (fun cdv A outer s H vs Q E hr ⟨F', ds, Qd, r, fl, sp, q⟩ => ?_)
  · rw [← r.length]; exact sp.1
  · refine ⟨_, h _ (gd_def [] (fun e => by rw [hz] at e; cases e) S hr), F', NoA, _, _, ?_, ok_no fl, sp.2, ⟨?_, ?_, ?_, ?_⟩⟩
    · rw [start_eq, ← r.length]; exact sl_start _ r
    · exact fun env F2 H2 fe σ' hk s => q .non F2 H2 NoA .non hk rep_non (s.st.sub fun _ z => z.elim)
    · exact fun d env F2 H2 fe fd v σ' hk s => q d F2 H2 fd v hk s.rep (s.st.sub fun _ => .inr)
    · exact fun _ _ _ _ _ hk => hk.elim
    · exact fun _ _ _ _ _ hk => hk.elim
theorem FnOk.imp {P : Program} {w : World} {K : PySem.W.Frag} {mg : Str → Option Value} {base : Heap} {CX : CXT} {k : Nat} {f : Addr} {fd : FuncData} {ps : List Str} {sp sp' : Sp} (h : FnOk P w K mg base CX k f fd ps sp) (i : ∀ vs H Q E, sp' vs H Q E → sp vs H Q E) : FnOk P w K mg base CX k f fd ps sp' :=
  ⟨fun vs H Q E z => h.len vs H Q E (i vs H Q E z), fun A outer s H args us vs Q E r e b v z => h.run A outer s H args us vs Q E r e b v (i vs H Q E z)⟩
theorem spF_imp {sp sp' : SpF} (i : ∀ ds Q, sp' ds Q → sp ds Q) : ∀ vs H Q E, spF W sp' vs H Q E → spF W sp vs H Q E := fun vs H Q E ⟨F, ds, Qd, a, b, c, q⟩ => ⟨F, ds, Qd, a, b, i ds Qd c, q⟩
theorem spM_imp {sp sp' : SpM} (i : ∀ d ds Q, sp' d ds Q → sp d ds Q) : ∀ vs H Q E, spM W sp' vs H Q E → spM W sp vs H Q E := fun vs H Q E ⟨F, f, d, ds, v0, us, Qd, a, b, c, o, x, q⟩ => ⟨F, f, d, ds, v0, us, Qd, a, b, c, o, i d ds Qd x, q⟩
theorem FnF.imp {x : Str} {j : Nat} {sp sp' : SpF} (h : FnF C x j sp) (i : ∀ ds Q, sp' ds Q → sp ds Q) : FnF C x j sp' := let ⟨f, fd, ps, a, b, c, o⟩ := h.ex; ⟨f, fd, ps, a, b, c, FnOk.imp o (spF_imp i)⟩
theorem FnM.imp {x : Str} {j : Nat} {sp sp' : SpM} (h : FnM C x j sp) (i : ∀ d ds Q, sp' d ds Q → sp d ds Q) : FnM C x j sp' := let ⟨f, fd, ps, a, b, c, o⟩ := h.ex; ⟨f, fd, ps, a, b, c, FnOk.imp o (spM_imp i)⟩
theorem MeF.imp {x : Str} {c j : Nat} {sp sp' : SpF} (h : MeF C c x j sp) (i : ∀ ds Q, sp' ds Q → sp ds Q) : MeF C c x j sp' := let ⟨A, f, fd, ps, a, b, c, e, g, o⟩ := h.ex; ⟨A, f, fd, ps, a, b, c, e, g, FnOk.imp o (spF_imp i)⟩
theorem MeM.imp {x : Str} {c j : Nat} {sp sp' : SpM} (h : MeM C c x j sp) (i : ∀ d ds Q, sp' d ds Q → sp d ds Q) : MeM C c x j sp' := let ⟨A, f, fd, ps, a, b, c, e, g, o⟩ := h.ex; ⟨A, f, fd, ps, a, b, c, e, g, FnOk.imp o (spM_imp i)⟩
theorem MkM.imp {x : Str} {c j : Nat} {sp sp' : SpM} (h : MkM C x c j sp) (i : ∀ d ds Q, sp' d ds Q → sp d ds Q) : MkM C x c j sp' := let ⟨A, f, fd, ps, a, b, e, g, o⟩ := h.ex; ⟨A, f, fd, ps, a, b, e, g, FnOk.imp o (spM_imp i)⟩
theorem FnF.fn {x : Str} {j k : Nat} {sp : SpF} {N : List Str} {sc : Scope} {pin : List Nat} (h : FnF C x j sp) : FnF (C.fn N sc k pin) x j sp := ⟨h.ex⟩
theorem FnF.blk {x : Str} {j : Nat} {sp : SpF} {sc : Scope} {own : List (Str × Nat)} (h : FnF C x j sp) : FnF (C.blk sc own) x j sp := ⟨h.ex⟩
theorem FnM.fn {x : Str} {j k : Nat} {sp : SpM} {N : List Str} {sc : Scope} {pin : List Nat} (h : FnM C x j sp) : FnM (C.fn N sc k pin) x j sp := ⟨h.ex⟩
theorem FnM.blk {x : Str} {j : Nat} {sp : SpM} {sc : Scope} {own : List (Str × Nat)} (h : FnM C x j sp) : FnM (C.blk sc own) x j sp := ⟨h.ex⟩
theorem MeF.fn {x : Str} {c j k : Nat} {sp : SpF} {N : List Str} {sc : Scope} {pin : List Nat} (h : MeF C c x j sp) : MeF (C.fn N sc k pin) c x j sp := ⟨h.ex⟩
theorem MeF.blk {x : Str} {c j : Nat} {sp : SpF} {sc : Scope} {own : List (Str × Nat)} (h : MeF C c x j sp) : MeF (C.blk sc own) c x j sp := ⟨h.ex⟩
theorem MeM.fn {x : Str} {c j k : Nat} {sp : SpM} {N : List Str} {sc : Scope} {pin : List Nat} (h : MeM C c x j sp) : MeM (C.fn N sc k pin) c x j sp := ⟨h.ex⟩
theorem MkM.fn {x : Str} {c j k : Nat} {sp : SpM} {N : List Str} {sc : Scope} {pin : List Nat} (h : MkM C x c j sp) : MkM (C.fn N sc k pin) x c j sp := ⟨h.ex⟩
theorem MkM.blk {x : Str} {c j : Nat} {sp : SpM} {sc : Scope} {own : List (Str × Nat)} (h : MkM C x c j sp) : MkM (C.blk sc own) x c j sp := ⟨h.ex⟩
end
end M
namespace PySem
open Sem (wp)
open AutoSeq1 (wpAny_loadPart')
end PySem
namespace M
open PySem PySem.Spec PyProof.Rows L2
section
variable {C : Ctx} {D : Ends} {W : Wd} {σ σ' : L2.St} {F F' : AS} {H H' : Hp} {fp fp' fe f g fd : AS} {env env' : Env} {d : Dat} {v : V} {A : Addr} {u : HO} {od : Obj} {k : SK} {pr : Bool}
end
end M
namespace M
open PySem PySem.Spec PyProof.Rows L2
def putN (kvs : List NKV) (k : NestedKey) (a : Addr) (v : V) : List NKV := if (valN kvs k).isSome = true then kvs.map (fun p => if p.1 = k then (p.1, p.2.1, v) else p) else kvs ++ [(k, a, v)]
theorem NTk.append : ∀ {xs ys : List NKV} {us ws : List (NestedKey × Addr × Value)}, NTk xs us → NTk ys ws → NTk (xs ++ ys) (us ++ ws)
  | _, _, _, _, .nil, s => s
  | _, _, _, _, .cons r t, s => .cons r (NTk.append t s)
theorem RelO.isS {o : Option V} {o' : Option Value} (h : RelO o o') : o.isSome = o'.isSome := by
  cases o <;> cases o' <;> first | rfl | exact h.elim
theorem NTk.put {kvs : List NKV} {xs : List (NestedKey × Addr × Value)} {k : NestedKey} {a : Addr} {v : V} {u : Value} (h : NTk kvs xs) (rv : RelV v u) : NTk (putN kvs k a v) (storedH xs k a u) := by
  have q := RelO.isS (NTk.val k h)
  rw [Option.isSome_map] at q
  unfold putN storedH
  rw [q]
  split
  · exact NTk.map k rv h
  · exact NTk.append h (.cons ⟨rfl, rfl, rv⟩ .nil)
end M
namespace M
noncomputable section
open PySem PySem.Spec PyProof.Rows L2
abbrev XE := Env → Option (Dat × Env)
abbrev XT := Env → Option (Bool × Env)
abbrev XA := Env → Option (List Dat × Env)
abbrev XO := Env → Option (Option Int × Env)
/-- what is wanted of an x's answer -/
def xw {α : Type} (x : Env → Option (α × Env)) : Env → (α → Env → Prop) → Prop := fun env Q => ∃ d e, x env = some (d, e) ∧ Q d e
inductive Out where
  | nx (e : Env)
  | rt (d : Dat) (e : Env)
  | bk (e : Env)
  | ct (e : Env)
abbrev XS := Env → Option Out
def Out.fits : Out → SK → Prop
  | .nx e, k => k.nx e
  | .rt d e, k => k.rt d e
  | .bk e, k => k.bk e
  | .ct e, k => k.ct e
def xwS (x : XS) : LS := fun env k => ∃ o, x env = some o ∧ o.fits k
abbrev XG := Dat → Env → Option Env
def xwG (x : XG) : LG := fun d env Q => ∃ e, x d env = some e ∧ Q e
structure DE (C : Ctx) (e : Expr) where
  pr : Bool
  x : XE
  ok : JE C pr e (xw x)
structure DV (C : Ctx) (e : Expr) where
  pr : Bool
  x : XE
  ok : JV C pr e (xw x)
structure DT (C : Ctx) (e : Expr) where
  pr : Bool
  x : XT
  ok : JT C pr e (xw x)
structure DW (C : Ctx) (e : Expr) where
  pr : Bool
  x : XT
  ok : JW C pr e (xw x)
structure DA (C : Ctx) (es : List Expr) where
  pr : Bool
  x : XA
  ok : JA C pr es (xw x)
structure DO (C : Ctx) (e : Option Expr) where
  pr : Bool
  x : XO
  ok : JO C pr e (xw x)
structure DI (C : Ctx) (tg e : Expr) where
  x : XA
  ok : JI C tg e (xw x)
structure DG (C : Ctx) (e : Expr) where
  x : XG
  ok : JG C e (xwG x)
structure DS_ (C : Ctx) (s : Stmt) where
  x : XS
  ok : JS C s (xwS x)
structure DSs (C : Ctx) (ss : List Stmt) where
  x : XS
  ok : JSs C ss (xwS x)
section
variable {C : Ctx} {pr : Bool} {e : Expr} {es : List Expr} {w w' : LE} {t t' : LT}
theorem JE.imp (h : JE C pr e w) (i : ∀ env Q, w' env Q → w env Q) : JE C pr e w' := fun X g => PE_imp (h X g) fun σ H Q ⟨F, fp, env, Qd, sl, ok, hw, q⟩ => ⟨F, fp, env, Qd, sl, ok, i _ _ hw, q⟩
theorem JV.imp (h : JV C pr e w) (i : ∀ env Q, w' env Q → w env Q) : JV C pr e w' := fun X g => PE_imp (h X g) fun σ H Q ⟨F, fp, env, Qd, sl, ok, hw, q⟩ => ⟨F, fp, env, Qd, sl, ok, i _ _ hw, q⟩
theorem JT.imp (h : JT C pr e t) (i : ∀ env Q, t' env Q → t env Q) : JT C pr e t' := fun X g => PT_imp (h X g) fun σ H Q ⟨F, fp, env, Qd, sl, ok, hw, q⟩ => ⟨F, fp, env, Qd, sl, ok, i _ _ hw, q⟩
theorem JW.imp (h : JW C pr e t) (i : ∀ env Q, t' env Q → t env Q) : JW C pr e t' := fun X g => PW_imp (h X g) fun σ H Q ⟨F, fp, env, Qd, sl, ok, hw, q⟩ => ⟨F, fp, env, Qd, sl, ok, i _ _ hw, q⟩
theorem JA.imp {w w' : LA} (h : JA C pr es w) (i : ∀ env Q, w' env Q → w env Q) : JA C pr es w' := fun X g => PA_imp (h X g) fun σ H Q ⟨F, fp, env, Qd, sl, ok, hw, q⟩ => ⟨F, fp, env, Qd, sl, ok, i _ _ hw, q⟩
theorem JI.imp {tg : Expr} {w w' : LI} (h : JI C tg e w) (i : ∀ env Q, w' env Q → w env Q) : JI C tg e w' := fun X g => PI_imp (h X g) fun σ H Q ⟨F, fp, env, Qd, sl, ok, hw, q⟩ => ⟨F, fp, env, Qd, sl, ok, i _ _ hw, q⟩
theorem JO.imp {e : Option Expr} {w w' : LO} (h : JO C pr e w) (i : ∀ env Q, w' env Q → w env Q) : JO C pr e w' := fun X g => PO_imp (h X g) fun σ H Q ⟨F, fp, env, Qd, sl, ok, hw, q⟩ => ⟨F, fp, env, Qd, sl, ok, i _ _ hw, q⟩
theorem JG.imp {w w' : LG} (h : JG C e w) (i : ∀ d env Q, w' d env Q → w d env Q) : JG C e w' := fun X g => PG_imp (h X g) fun v σ H Q ⟨F, fp, env, d, Qd, sl, ok, hl, r, hw, q⟩ => ⟨F, fp, env, d, Qd, sl, ok, hl, r, i _ _ _ hw, q⟩
theorem JGs.imp {w w' : LGs} (h : JGs C es w) (i : ∀ d env Q, w' d env Q → w d env Q) : JGs C es w' := fun X g => PGs_imp (h X g) fun v σ H Q ⟨F, fp, env, d, Qd, sl, ok, hl, r, hw, q⟩ => ⟨F, fp, env, d, Qd, sl, ok, hl, r, i _ _ _ hw, q⟩
theorem JS.imp {s : Stmt} {w w' : LS} (h : JS C s w) (i : ∀ env k, w' env k → w env k) : JS C s w' := fun X g => PS_imp (h X g) fun D σ H ⟨F, fp, env, k, sl, ok, hw, q⟩ => ⟨F, fp, env, k, sl, ok, i _ _ hw, q⟩
theorem JSs.imp {s : List Stmt} {w w' : LS} (h : JSs C s w) (i : ∀ env k, w' env k → w env k) : JSs C s w' := fun X g => PSs_imp (h X g) fun D σ H ⟨F, fp, env, k, sl, ok, hw, q⟩ => ⟨F, fp, env, k, sl, ok, i _ _ hw, q⟩
end
mutual
def isFz : Dat → Bool
  | .non => true
  | .bl _ => true
  | .int _ => true
  | .str _ => true
  | .tup _ xs => isFzs xs
  | .lst o xs => !o
  | .dct o _ vs => !o
  | .dtt o _ vs => !o
  | .dxt o _ vs => !o
  | .obj o _ vs => !o
  | .scr _ => true
  | .exn _ _ => true
  | .fnv _ => true
def isFzs : List Dat → Bool
  | [] => true
  | d :: ds => isFz d && isFzs ds
end
mutual
theorem isFz_ok : ∀ d : Dat, isFz d = true → frz d = d
  | .non, _ => rfl
  | .bl _, _ => rfl
  | .int _, _ => rfl
  | .str _, _ => rfl
  | .tup k xs, h => by simp only [frz]; rw [isFzs_ok xs h]
  | .lst o xs, h => by simp only [isFz, Bool.not_eq_true'] at h; subst h; rfl
  | .dct o _ xs, h => by simp only [isFz, Bool.not_eq_true'] at h; subst h; rfl
  | .dxt o _ xs, h => by simp only [isFz, Bool.not_eq_true'] at h; subst h; rfl
  | .dtt o _ xs, h => by simp only [isFz, Bool.not_eq_true'] at h; subst h; rfl
  | .obj o _ xs, h => by simp only [isFz, Bool.not_eq_true'] at h; subst h; rfl
  | .scr _, _ => rfl
  | .exn _ _, _ => rfl
  | .fnv _, _ => rfl
theorem isFzs_ok : ∀ ds : List Dat, isFzs ds = true → frzs ds = ds
  | [], _ => rfl
  | d :: ds, h => by simp only [isFzs, Bool.and_eq_true] at h; simp only [frzs]; rw [isFz_ok d h.1, isFzs_ok ds h.2]
end
end
end M
namespace M
noncomputable section
open PySem PySem.Spec PyProof.Rows L2
abbrev X2 := Dat → Dat → Option Dat
abbrev X1 := Dat → Option Dat
abbrev R2D := Dat → Dat → (Dat → Prop) → Prop
abbrev R1D := Dat → (Dat → Prop) → Prop
def Ok2 (f : X2) (r : R2D) : Prop := ∀ x y d Q, f x y = some d → Q d → r x y Q
def Ok1 (f : X1) (r : R1D) : Prop := ∀ x d Q, f x = some d → Q d → r x Q
theorem bind_ok {α β : Type} {o : Option α} {f : α → Option β} {y : β} (h : o.bind f = some y) : ∃ a, o = some a ∧ f a = some y := Option.bind_eq_some_iff.mp h
theorem ite_ok {β : Type} {c : Prop} [Decidable c] {o : Option β} {y : β} (h : (if c then o else none) = some y) : c ∧ o = some y := by
  by_cases z : c
  · rw [if_pos z] at h; exact ⟨z, h⟩
  · rw [if_neg z] at h; cases h
def xAdd : X2
  | .int i, .int j => some (.int (i + j))
  | .str a, .str b => if a.length + b.length ≤ sizeLine then some (.str (a ++ b)) else none
  | .tup _ xs, .tup _ ys => if isFzs xs = true ∧ isFzs ys = true ∧ xs.length + ys.length ≤ sizeLine then some (.tup .u (xs ++ ys)) else none
  | .lst _ xs, .lst _ ys => if isFzs xs = true ∧ isFzs ys = true ∧ xs.length + ys.length ≤ sizeLine then some (.lst true (xs ++ ys)) else none
  | _, _ => none
theorem xAdd_ok : Ok2 xAdd rAdd := by
  intro x y d Q h q
  unfold xAdd at h
  split at h
  · cases h; exact q
  · obtain ⟨c, h⟩ := ite_ok h; cases h; exact ⟨c, q⟩
  · obtain ⟨c, h⟩ := ite_ok h; cases h; exact ⟨isFzs_ok _ c.1, isFzs_ok _ c.2.1, c.2.2, q⟩
  · obtain ⟨c, h⟩ := ite_ok h; cases h; exact ⟨isFzs_ok _ c.1, isFzs_ok _ c.2.1, c.2.2, q⟩
  · cases h
def xInt (c : Int → Int → Bool) (f : Int → Int → Dat) : X2
  | .int i, .int j => if c i j = true then some (f i j) else none
  | _, _ => none
theorem xInt_ok {c : Int → Int → Bool} {cnd : Int → Int → Prop} {f : Int → Int → Dat} (hc : ∀ i j, c i j = true → cnd i j) : Ok2 (xInt c f) (rInt cnd f) := by
  intro x y d Q h q
  unfold xInt at h
  split at h
  · obtain ⟨z, h⟩ := ite_ok h; cases h; exact ⟨hc _ _ z, q⟩
  · cases h
def xPow := xInt (fun i j => decide (CPow i j)) fun i j => .int (i ^ j.toNat)
theorem xPow_ok : Ok2 xPow rPow := xInt_ok fun _ _ h => of_decide_eq_true h
def xMul : X2
  | .int i, .int j => if CMul i j then some (.int (i * j)) else none
  | .lst true xs, .int k => if isFzs xs = true ∧ -(2 ^ 63) ≤ k ∧ k < 2 ^ 63 ∧ xs.length * k.toNat ≤ sizeLine then some (.lst true (List.replicate k.toNat xs).flatten) else none
  | _, _ => none
theorem xMul_ok : Ok2 xMul rMul := by
  intro x y d Q h q
  unfold xMul at h
  split at h
  · obtain ⟨c, h⟩ := ite_ok h; cases h; exact ⟨c, q⟩
  · obtain ⟨c, h⟩ := ite_ok h; cases h; exact ⟨isFzs_ok _ c.1, c.2.1, c.2.2.1, c.2.2.2, q⟩
  · cases h
def eqB (x y : Dat) : Option Bool := match x, y with
  | .int i, .int j => some (decide (i = j))
  | .str i, .str j => some (decide (i = j))
  | .bl i, .bl j => some (decide (i = j))
  | .non, .str _ => some false
  | .str _, .non => some false
  | .non, .int _ => some false
  | .int _, .non => some false
  | .int _, .str _ => some false
  | .str _, .int _ => some false
  | x, y => if isPy x = true ∧ isPy y = true ∧ SeqAt.shaped (toPy x) = true ∧ SeqAt.shaped (toPy y) = true then some (PyData.eqv (toPy x) (toPy y)) else none
theorem eqB_ok {x y : Dat} {b : Bool} {Q : Bool → Prop} (h : eqB x y = some b) (q : Q b) : eqSome x y Q := by
  cases x <;> cases y <;> simp only [eqB, eqSome] at h ⊢ <;> first
    | (cases h; exact q)
    | (obtain ⟨c, h⟩ := ite_ok h; cases h; exact ⟨c.1, c.2.1, c.2.2.1, c.2.2.2, q⟩)
def xEq : X2 := fun x y => (eqB x y).map .bl
def xNe : X2 := fun x y => (eqB x y).map fun b => .bl (!b)
theorem map_ok {α β : Type} {o : Option α} {f : α → β} {y : β} (h : o.map f = some y) : ∃ a, o = some a ∧ f a = y := Option.map_eq_some_iff.mp h
theorem xEq_ok : Ok2 xEq rEqq := fun x y d Q h q => by
  obtain ⟨b, e, rfl⟩ := map_ok h
  exact eqB_ok (Q := fun b => Q (.bl b)) e q
theorem xNe_ok : Ok2 xNe rNee := fun x y d Q h q => by
  obtain ⟨b, e, rfl⟩ := map_ok h
  exact eqB_ok (Q := fun b => Q (.bl (!b))) e q
structure XC (C : Ctx) (op : CmpOp) where
  r2 : PySem.W.Frag → R2
  r : R2D
  cp : Cp C op r2 r
  x : X2
  ok : Ok2 x r
def c_eq {C : Ctx} : XC C .Eq := ⟨_, _, cp_eq, xEq, xEq_ok⟩
def c_ne {C : Ctx} : XC C .NotEq := ⟨_, _, cp_ne, xNe, xNe_ok⟩
def xVar (i : Nat) : XE := fun env => (getE env i).bind fun o => o.map fun d => (d, env)
def xTake (i : Nat) : XE := fun env => (getE env i).bind fun o => o.map fun d => if isFz d = true then (d, env) else (frz d, setE env i (some (frz d)))
def xC (d : Dat) : XE := fun env => some (d, env)
def x2 (p2 : Bool) (xa xb : XE) (f : X2) : XE := fun env => (xa env).bind fun p => (xb p.2).bind fun q => if p2 = true ∨ isFz p.1 = true then (f p.1 q.1).map fun d => (d, q.2) else none
theorem x2_ok {p2 : Bool} {xa xb : XE} {f : X2} {r : R2D} (h : Ok2 f r) : ∀ env Q, xw (x2 p2 xa xb f) env Q → w2 p2 (xw xa) (xw xb) r env Q := by
  rintro env Q ⟨d, e, h1, q⟩
  obtain ⟨⟨a, e1⟩, ha, h1⟩ := bind_ok h1
  obtain ⟨⟨b, e2⟩, hb, h1⟩ := bind_ok h1
  obtain ⟨c, h1⟩ := ite_ok h1
  obtain ⟨z, hz, h1⟩ := map_ok h1
  cases h1
  exact ⟨a, e1, ha, b, e2, hb, c.imp_right fun z => isFz_ok _ z, h _ _ _ _ hz q⟩
def x1 (xa : XE) (f : X1) : XE := fun env => (xa env).bind fun p => (f p.1).map fun d => (d, p.2)
theorem x1_ok {xa : XE} {f : X1} {r : R1D} (h : Ok1 f r) : ∀ env Q, xw (x1 xa f) env Q → w1 (xw xa) r env Q := by
  rintro env Q ⟨d, e, h1, q⟩
  obtain ⟨⟨a, e1⟩, ha, h1⟩ := bind_ok h1
  obtain ⟨z, hz, h1⟩ := map_ok h1
  cases h1
  exact ⟨a, e1, ha, h _ _ _ hz q⟩
def xTest (xa : XE) : XT := fun env => (xa env).bind fun p => match p.1 with | .bl k => some (k, p.2) | _ => none
theorem xTest_ok {xa : XE} {w : LE} (h : ∀ env Q, xw xa env Q → w env Q) : ∀ env Q, xw (xTest xa) env Q → wTest w env Q := by
  rintro env Q ⟨d, e, h1, q⟩
  obtain ⟨⟨a, e1⟩, ha, h1⟩ := bind_ok h1
  refine h _ _ ⟨a, e1, ha, ?_⟩
  split at h1
  · cases h1; exact ⟨_, by assumption, q⟩
  · cases h1
def truB (d : Dat) : Option Bool := match d with
  | .non => some false
  | .bl b => some b
  | .int i => some (i != 0)
  | .str x => if x.length ≤ sizeLine then some ((x.length : Int) != 0) else none
  | .tup _ xs => some (!xs.isEmpty)
  | .lst _ xs => some (!xs.isEmpty)
  | _ => none
theorem truB_ok {d : Dat} {b : Bool} {Q : Bool → Prop} (h : truB d = some b) (q : Q b) : truD d Q := by
  cases d <;> simp only [truB] at h <;> first | (cases h; exact q) | (cases h; done) | (obtain ⟨c, h⟩ := ite_ok h; cases h; exact ⟨c, q⟩)
def xTru (xa : XE) : XT := fun env => (xa env).bind fun p => (truB p.1).map fun b => (b, p.2)
def xOr (a b : XT) : XT := fun env => (a env).bind fun p => if p.1 = true then some (true, p.2) else b p.2
def xNil : XA := fun env => some ([], env)
def xCons (a : XE) (b : XA) : XA := fun env => (a env).bind fun p => (b p.2).map fun q => (p.1 :: q.1, q.2)
def xLst (a : XA) : XE := fun env => (a env).bind fun p => if p.1.length ≤ sizeLine then some (.lst true (frzs p.1), p.2) else none
def xFrz (a : XE) : XE := fun env => (a env).map fun p => (frz p.1, p.2)
section
variable {C : Ctx} {a b c o e iter elt kx vx tg : Expr} {es rest : List Expr} {pos p : Pos}
def de_of (a : DV C e) : DE C e := ⟨a.pr, fun env => (a.x env).bind fun p => if isFz p.1 = true then some p else none, (je_of a.ok).imp fun env Q ⟨d, e1, h, q⟩ => by
  obtain ⟨p, h1, h⟩ := bind_ok h
  obtain ⟨c, h⟩ := ite_ok h
  cases h
  exact ⟨d, e1, h1, isFz_ok _ c, q⟩⟩
def dv (a : DE C e) : DV C e := ⟨a.pr, a.x, jv_of a.ok⟩
def de_frz (a : DE C e) : DE C e := ⟨a.pr, xFrz a.x, (je_frz a.ok).imp fun env Q ⟨d, e1, h, q⟩ => by
  obtain ⟨p, h1, h⟩ := map_ok h
  cases h
  exact ⟨_, _, h1, q⟩⟩
def dv_var (i : Nat) {x : Str} (hN : C.N[i]? = some x := by rfl) (hv : Vis C.sc x := by first | exact Or.inl rfl | exact Or.inr (Or.inl rfl) | exact Or.inr (Or.inr rfl)) (hd : (x == ("__debug__" : Str)) = false := by rfl) (hc : (x == ("__classdict__" : Str)) = false := by rfl) : DV C (.Name x pos) :=
  ⟨true, xVar i, (jv_var hN hv hd hc).imp fun env Q ⟨d, e1, h, q⟩ => by
    obtain ⟨o, h1, h⟩ := bind_ok h
    rw [getE_eq] at h1
    obtain ⟨z, rfl, h⟩ := map_ok h
    cases h
    exact ⟨_, h1, q⟩⟩
def de_var (i : Nat) {x : Str} (hN : C.N[i]? = some x := by rfl) (hv : Vis C.sc x := by first | exact Or.inl rfl | exact Or.inr (Or.inl rfl) | exact Or.inr (Or.inr rfl)) (hd : (x == ("__debug__" : Str)) = false := by rfl) (hc : (x == ("__classdict__" : Str)) = false := by rfl) : DE C (.Name x pos) :=
  ⟨true, xTake i, (je_var hN hv hd hc).imp fun env Q ⟨d, e1, h, q⟩ => by
    obtain ⟨o, ho, h⟩ := bind_ok h
    rw [getE_eq] at ho
    obtain ⟨z, rfl, h⟩ := map_ok h
    by_cases c : isFz z = true
    · rw [Option.map_some, if_pos c] at h
      cases h
      exact ⟨_, ho, .inl ⟨isFz_ok _ c, q⟩⟩
    · rw [Option.map_some, if_neg c] at h
      cases h
      rw [setE_eq] at q
      exact ⟨_, ho, .inr q⟩⟩
theorem xC_ok {d : Dat} : ∀ env Q, xw (xC d) env Q → wC d env Q := fun env Q ⟨z, e1, h, q⟩ => by cases h; exact q
def de_int {i : Int} {j : Nat} : DE C (.Constant (.int i) j pos) := ⟨true, xC (.int i), je_int.imp xC_ok⟩
def de_bl {i : Bool} {j : Nat} : DE C (.Constant (.bool i) j pos) := ⟨true, xC (.bl i), je_bl.imp xC_ok⟩
def de_non {j : Nat} : DE C (.Constant .none j pos) := ⟨true, xC .non, je_non.imp xC_ok⟩
def de_glb {x : Str} {d : Dat} (c : Cn C x d) (hg : C.sc.names.lookup x = some .globalImplicit := by rfl) (hd : (x == ("__debug__" : Str)) = false := by rfl) : DE C (.Name x pos) := ⟨true, xC d, (je_glb c hg hd).imp xC_ok⟩
def de_add (a' : DV C a) (b' : DV C b) : DE C (.BinOp a .Add b pos) := ⟨_, x2 b'.pr a'.x b'.x xAdd, (je_add a'.ok b'.ok).imp (x2_ok xAdd_ok)⟩
def de_mul (a' : DV C a) (b' : DV C b) : DE C (.BinOp a .Mult b pos) := ⟨_, x2 b'.pr a'.x b'.x xMul, (je_mul a'.ok b'.ok).imp (x2_ok xMul_ok)⟩
def de_pow (a' : DV C a) (b' : DV C b) : DE C (.BinOp a .Pow b pos) := ⟨_, x2 b'.pr a'.x b'.x xPow, (je_pow a'.ok b'.ok).imp (x2_ok xPow_ok)⟩
def de_cmp {op : CmpOp} (o : XC C op) (a' : DV C a) (b' : DV C b) (hm : behindInMarks op b = false := by rfl) : DE C (.Compare a [op] [b] pos) := ⟨_, x2 b'.pr a'.x b'.x o.x, (je_cm a'.ok b'.ok o.cp hm).imp (x2_ok o.ok)⟩
def dt_cmp {op : CmpOp} (o : XC C op) (a' : DV C a) (b' : DV C b) (hm : behindInMarks op b = false := by rfl) : DT C (.Compare a [op] [b] pos) := ⟨_, xTest (x2 b'.pr a'.x b'.x o.x), (jt_cmp a'.ok b'.ok o.cp hm).imp (xTest_ok (x2_ok o.ok))⟩
def dt_tru (a' : DV C e) (he : ∀ env whole, isTrue e env whole = (do let v ← whole; standAt e.pos; holding [v] (truthy v)) := by intro _ _; rfl) : DT C e := ⟨_, xTru a'.x, (jt_tru a'.ok he).imp fun env Q ⟨d, e1, h, q⟩ => by
  obtain ⟨⟨a, e1⟩, ha, h⟩ := bind_ok h
  obtain ⟨z, hz, h⟩ := map_ok h
  cases h
  exact ⟨a, e1, ha, truB_ok (Q := fun k => Q k e1) hz q⟩⟩
def dw_or1 (a' : DT C a) : DW C (.BoolOp .Or [a] pos) := ⟨_, a'.x, jw_or1 a'.ok⟩
def dw_or (a' : DT C a) (b' : DW C (.BoolOp .Or (b :: rest) pos)) : DW C (.BoolOp .Or (a :: b :: rest) pos) := ⟨_, xOr a'.x b'.x, (jw_or a'.ok b'.ok).imp fun env Q ⟨d, e1, h, q⟩ => by
  obtain ⟨⟨u, e2⟩, ha, h⟩ := bind_ok h
  refine ⟨u, e2, ha, ?_⟩
  cases u with
  | false => exact ⟨d, e1, h, q⟩
  | true => cases h; exact q⟩
def dt_w (a' : DW C e) : DT C e := ⟨_, a'.x, jt_w a'.ok⟩
def da_nil : DA C [] := ⟨true, xNil, ja_nil.imp fun env Q ⟨d, e1, h, q⟩ => by cases h; exact q⟩
def da_cons (a' : DE C e) (b' : DA C es) (hs : ∀ env, starEach (e :: es) env = (false, eval e env) :: starEach es env := by intro _; rfl) : DA C (e :: es) := ⟨_, xCons a'.x b'.x, (ja_cons a'.ok b'.ok hs).imp fun env Q ⟨d, e1, h, q⟩ => by
  obtain ⟨⟨u, e2⟩, ha, h⟩ := bind_ok h
  obtain ⟨⟨v, e3⟩, hb, h⟩ := map_ok h
  cases h
  exact ⟨u, e2, ha, v, e3, hb, q⟩⟩
def de_lst (a' : DA C es) : DE C (.List es pos) := ⟨_, xLst a'.x, (je_lst a'.ok).imp fun env Q ⟨d, e1, h, q⟩ => by
  obtain ⟨⟨u, e2⟩, ha, h⟩ := bind_ok h
  obtain ⟨c, h⟩ := ite_ok h
  cases h
  exact ⟨u, e2, ha, c, q⟩⟩
end
end
end M
namespace M
noncomputable section
open PySem PySem.Spec PyProof.Rows L2
section
variable {C : Ctx} {a b c o e iter elt kx vx tg : Expr} {es rest : List Expr} {pos p : Pos}
def xIdx : X2 := fun x y => match x with
  | .tup _ xs => match y with | .int i => atI xs i | _ => none
  | .lst _ xs => match y with | .int i => atI xs i | _ => none
  | .str z => match y with | .int i => if z.length ≤ sizeLine then (atI z.cps.toList i).map fun c => .str ⟨#[c]⟩ else none | _ => none
  | .dct _ ks vs => if (keyIs y).isSome = true then lookD ks vs y else none
  | .scr ns => match y with | .int i => (atI ns i).map .int | _ => none
  | _ => none
theorem xIdx_ok : Ok2 xIdx rIdx := by
  intro x y d Q h q
  unfold xIdx at h
  unfold rIdx
  split at h
  · split at h
    · exact ⟨_, _, rfl, h, q⟩
    · cases h
  · split at h
    · exact ⟨_, _, rfl, h, q⟩
    · cases h
  · split at h
    · obtain ⟨c, h⟩ := ite_ok h
      obtain ⟨z, hz, rfl⟩ := map_ok h
      exact ⟨_, _, rfl, c, hz, q⟩
    · cases h
  · obtain ⟨c, h⟩ := ite_ok h
    obtain ⟨k, hk⟩ := Option.isSome_iff_exists.mp c
    exact ⟨k, _, hk, h, q⟩
  · split at h
    · obtain ⟨z, hz, rfl⟩ := map_ok h
      exact ⟨_, _, rfl, hz, q⟩
    · cases h
  · cases h
def dv_idx (a' : DV C a) (b' : DV C b) (hs : PlainIx b := by intro _ _; rfl) : DV C (.Subscript a b pos) := ⟨_, x2 b'.pr a'.x b'.x xIdx, (jv_idx a'.ok b'.ok hs).imp (x2_ok xIdx_ok)⟩
def xNoPart : XO := fun env => some (none, env)
def xPart (xa : XE) : XO := fun env => (xa env).bind fun p => match p.1 with | .int i => some (some i, p.2) | _ => none
def do_none : DO C none := ⟨true, xNoPart, jo_none.imp fun env Q ⟨d, e1, h, q⟩ => by cases h; exact q⟩
def do_some (a' : DV C e) : DO C (some e) := ⟨_, xPart a'.x, (jo_some a'.ok).imp fun env Q ⟨d, e1, h, q⟩ => by
  obtain ⟨⟨u, e2⟩, ha, h⟩ := bind_ok h
  refine ⟨u, e2, ha, ?_⟩
  split at h
  · rename_i i hi; cases h; exact ⟨i, hi, q⟩
  · cases h⟩
def slD (x : Dat) (lo hi : Option Int) : Option Dat := match x with
  | .tup _ xs => if isFzs xs = true then some (.tup .u (cutD xs lo hi)) else none
  | .lst _ xs => if isFzs xs = true then some (.lst true (cutD xs lo hi)) else none
  | .scr ns => some (.lst true (cutD (ns.map .int) lo hi))
  | _ => none
def xSl (ph : Bool) (xa : XE) (xl xh : XO) : XE := fun env => (xa env).bind fun p => (xl p.2).bind fun l => (xh l.2).bind fun h => if ph = true ∨ isFz p.1 = true then (slD p.1 l.1 h.1).map fun d => (d, h.2) else none
def de_slice {lo hi : Option Expr} {pp : Pos} (a' : DV C a) (l' : DO C lo) (h' : DO C hi) : DE C (.Subscript a (.Slice lo hi none pp) pos) := ⟨_, xSl (l'.pr && h'.pr) a'.x l'.x h'.x, (je_slice a'.ok l'.ok h'.ok).imp fun env Q ⟨d, e1, h, q⟩ => by
  obtain ⟨⟨u, e2⟩, ha, h⟩ := bind_ok h
  obtain ⟨⟨l, e3⟩, hl, h⟩ := bind_ok h
  obtain ⟨⟨k, e4⟩, hk, h⟩ := bind_ok h
  obtain ⟨c, h⟩ := ite_ok h
  obtain ⟨z, hz, h⟩ := map_ok h
  cases h
  refine ⟨u, e2, ha, l, e3, hl, k, e4, hk, c.imp_right fun z => isFz_ok _ z, ?_⟩
  cases u <;> simp only [slD] at hz <;> first
    | (obtain ⟨c, hz⟩ := ite_ok hz; cases hz; exact ⟨isFzs_ok _ c, q⟩)
    | (cases hz; done)
    | (cases hz; exact q)⟩
end
end
end M
namespace M
noncomputable section
open PySem PySem.Spec PyProof.Rows L2
section
variable {C : Ctx} {a b c o e iter elt kx vx tg : Expr} {es rest : List Expr} {pos p : Pos} {st : Stmt} {ss body : List Stmt}
def xgNm (i : Nat) : XG := fun d env => some (setE env i (some d))
def dg_name (i : Nat) {x : Str} (n : Nm C i x) : DG C (.Name x pos) := ⟨xgNm i, (jg_name n).imp fun d env Q ⟨e, h, q⟩ => by cases h; rw [setE_eq] at q; exact q⟩
def xInL (a : XE) : XA := fun env => (a env).bind fun p => match p.1 with | .lst o xs => some (frzI o xs, p.2) | _ => none
def di_lst (a' : DE C e) : DI C tg e := ⟨xInL a'.x, (ji_lst a'.ok).imp fun env Q ⟨d, e1, h, q⟩ => by
  obtain ⟨⟨u, e2⟩, ha, h⟩ := bind_ok h
  refine ⟨u, e2, ha, ?_⟩
  simp only at h
  split at h
  · cases h; exact ⟨_, _, rfl, q⟩
  · cases h⟩
def xRng1 (a : XA) : XA := fun env => (a env).bind fun p => match p.1 with | [.int j] => if -(2 ^ 62) ≤ j ∧ j < 2 ^ 62 then some (rngD 0 j.toNat, p.2) else none | _ => none
def di_rng1 (hm : C.mg "range" = none) (a' : DA C [a]) (hg : C.sc.names.lookup ("range" : Str) = some .globalImplicit := by rfl) (hs : ∀ env, starEach [a] env = [(false, eval a env)] := by intro _; rfl) : DI C tg (.Call (.Name "range" p) [a] [] pos) := ⟨xRng1 a'.x, (ji_rng1 hg hm a'.ok hs).imp fun env Q ⟨d, e1, h, q⟩ => by
  obtain ⟨⟨u, e2⟩, ha, h⟩ := bind_ok h
  refine ⟨u, e2, ha, ?_⟩
  simp only at h
  split at h
  · obtain ⟨c, h⟩ := ite_ok h; cases h; exact ⟨_, rfl, c, q⟩
  · cases h⟩
structure DTs (C : Ctx) (es : List Expr) where
  pr : Bool
  x : XT
  ok : JTs C pr es (xw x)
theorem JTs.imp {pr : Bool} {t t' : LT} (h : JTs C pr es t) (i : ∀ env Q, t' env Q → t env Q) : JTs C pr es t' := fun X g => PTs_imp (h X g) fun σ H Q ⟨F, fp, env, Qd, sl, ok, hw, q⟩ => ⟨F, fp, env, Qd, sl, ok, i _ _ hw, q⟩
def dts_nil : DTs C [] := ⟨_, fun env => some (true, env), jts_nil.imp fun env Q ⟨d, e1, h, q⟩ => by cases h; exact q⟩
def dts_one (a' : DT C a) : DTs C [a] := ⟨_, a'.x, jts_one a'.ok⟩
def xLcL (vs : List Nat) (g : XG) (t : XT) (w : XE) (ds : List Dat) : List Dat → Env → Option (List Dat × Env) :=
  List.rec (motive := fun _ => List Dat → Env → Option (List Dat × Env)) (fun acc e => some (acc, e))
    (fun d _ ih acc e => (g d (wipeX e vs)).bind fun e1 => (t e1).bind fun p => if p.1 = true then (w p.2).bind fun q => ih (acc ++ [frz q.1]) (wipeX q.2 vs) else ih acc (wipeX p.2 vs)) ds
theorem xLcL_cons {vs : List Nat} {g : XG} {t : XT} {w : XE} {d : Dat} {ds acc : List Dat} {e : Env} : xLcL vs g t w (d :: ds) acc e = (g d (wipeX e vs)).bind fun e1 => (t e1).bind fun p => if p.1 = true then (w p.2).bind fun q => xLcL vs g t w ds (acc ++ [frz q.1]) (wipeX q.2 vs) else xLcL vs g t w ds acc (wipeX p.2 vs) := rfl
def xLc (i : XA) (g : XG) (t : XT) (w : XE) (vs : List Nat) : XE := fun env => (i env).bind fun p => if p.1.length < sizeLine then (xLcL vs g t w p.1 [] p.2).map fun q => (.lst true q.1, q.2) else none
theorem xLcL_ok {vs : List Nat} {g : XG} {t : XT} {w : XE} : ∀ {ds acc : List Dat} {e : Env} {r : List Dat} {e' : Env} {Q : List Dat → Env → Prop}, xLcL vs g t w ds acc e = some (r, e') → Q r e' → lcD vs (xwG g) (xw t) (xw w) ds acc e Q
  | [], acc, e, r, e', Q, h, q => by cases h; exact q
  | d :: ds, acc, e, r, e', Q, h, q => by
    rw [xLcL_cons] at h
    simp only [wipeX_eq] at h
    obtain ⟨e1, h1, h⟩ := bind_ok h
    obtain ⟨⟨k, e2⟩, h2, h⟩ := bind_ok h
    refine ⟨e1, h1, k, e2, h2, ?_⟩
    cases k with
    | true =>
      obtain ⟨⟨y, e3⟩, h3, h⟩ := bind_ok h
      exact ⟨y, e3, h3, xLcL_ok h q⟩
    | false => exact xLcL_ok h q
theorem xLc_ok {i : XA} {vs : List Nat} {g : XG} {t : XT} {w : XE} : ∀ env Q, xw (xLc i g t w vs) env Q → wLc (xw i) (xwG g) (xw t) (xw w) vs env Q := by
  rintro env Q ⟨d, e1, h, q⟩
  obtain ⟨⟨u, e2⟩, ha, h⟩ := bind_ok h
  obtain ⟨c, h⟩ := ite_ok h
  obtain ⟨⟨r, e3⟩, hr, h⟩ := map_ok h
  cases h
  exact ⟨u, e2, ha, c, xLcL_ok hr q⟩
def de_lc {scope : Scope} (own : List (Str × Nat)) {ifs : List Expr} (i' : DI C tg iter) (g' : DG (C.blk scope own) tg) (t' : DTs (C.blk scope own) ifs) (e' : DE (C.blk scope own) elt) (okb : BlkOk C.N C.sc scope own := by exact blkOk_by rfl) (hs : ∀ env x, foldedSetIterable iter env x = pure x := by intro _ _; rfl) (hh : C.hot = false := by rfl) :
    DE C (.ListComp elt [⟨tg, iter, ifs, 0⟩] scope pos) := ⟨false, xLc i'.x g'.x t'.x e'.x (own.map (·.2)), (je_lc (hh := hh) i'.ok okb g'.ok t'.ok e'.ok hs).imp xLc_ok⟩
abbrev spX (f : List Dat → Option Dat) : SpF := fun ds Q => ∃ r, f ds = some r ∧ Q r
def xCall (a : XA) (f : List Dat → Option Dat) : XE := fun env => (a env).bind fun p => (f (frzs p.1)).map fun r => (r, p.2)
theorem xCall_ok {a : XA} {f : List Dat → Option Dat} : ∀ env Q, xw (xCall a f) env Q → wCall (xw a) (spX f) env Q := by
  rintro env Q ⟨d, e1, h, q⟩
  obtain ⟨⟨u, e2⟩, ha, h⟩ := bind_ok h
  obtain ⟨r, hr, h⟩ := map_ok h
  cases h
  exact ⟨u, e2, ha, _, hr, q⟩
def de_call {x : Str} {j : Nat} {f : List Dat → Option Dat} (F : FnF C x j (spX f)) (a' : DA C (e :: es)) (hj : j ≤ C.k := by exact Nat.le_of_ble_eq_true rfl) (hg : C.sc.names.lookup x = some .globalImplicit := by rfl) (hdb : (x == ("__debug__" : Str)) = false := by rfl)
    (he : ∀ env, starEach (e :: es) env = (false, eval e env) :: starEach es env := by intro _; rfl) (hpl : ∀ env, (backTo pos (starEach es env)).any (·.1) = false := by intro _; rfl) (hh : C.hot = false := by rfl) : DE C (.Call (.Name x p) (e :: es) [] pos) := ⟨_, xCall a'.x f, (je_call (hh := hh) F hj hg hdb a'.ok he hpl).imp xCall_ok⟩
def de_call0 {x : Str} {j : Nat} {f : List Dat → Option Dat} (F : FnF C x j (spX f)) (hj : j ≤ C.k := by exact Nat.le_of_ble_eq_true rfl) (hg : C.sc.names.lookup x = some .globalImplicit := by rfl) (hdb : (x == ("__debug__" : Str)) = false := by rfl) (hh : C.hot = false := by rfl) : DE C (.Call (.Name x p) [] [] pos) := ⟨_, xCall xNil f, (je_call0 (hh := hh) F hj hg hdb).imp fun env Q h => by
  obtain ⟨d, e1, h, q⟩ := h
  obtain ⟨⟨u, e2⟩, ha, h⟩ := bind_ok h
  obtain ⟨r, hr, h⟩ := map_ok h
  cases ha; cases h
  exact ⟨_, hr, q⟩⟩
end
end
end M
namespace M
noncomputable section
open PySem PySem.Spec PyProof.Rows L2
section
variable {C : Ctx} {a b c o e iter elt kx vx tg : Expr} {es rest : List Expr} {pos p : Pos} {st : Stmt} {ss body : List Stmt}
def xSkip : XS := fun env => some (.nx env)
def xSeq (a b : XS) : XS := fun env => (a env).bind fun o => match o with | .nx e => b e | .rt d e => some (.rt d e) | .bk e => some (.bk e) | .ct e => some (.ct e)
theorem xSeq_ok {a b : XS} : ∀ env k, xwS (xSeq a b) env k → wSeq (xwS a) (xwS b) env k := by
  rintro env k ⟨o, h, q⟩
  obtain ⟨o1, h1, h⟩ := bind_ok h
  refine ⟨o1, h1, ?_⟩
  cases o1 with
  | nx e => exact ⟨o, h, q⟩
  | rt d e => cases h; exact q
  | bk e => cases h; exact q
  | ct e => cases h; exact q
theorem xSkip_ok : ∀ env k, xwS xSkip env k → wNext env k := fun env k ⟨o, h, q⟩ => by cases h; exact q
def dss_nil : DSs C [] := ⟨xSkip, js_nil.imp xSkip_ok⟩
def dss_cons (a' : DS_ C st) (b' : DSs C ss) : DSs C (st :: ss) := ⟨xSeq a'.x b'.x, (js_cons a'.ok b'.ok).imp xSeq_ok⟩
def dss_one (a' : DS_ C st) : DSs C [st] := ⟨a'.x, js_one a'.ok⟩
def xRet (a : XE) : XS := fun env => (a env).map fun p => .rt p.1 p.2
def ds_ret (a' : DE C e) : DS_ C (.Return (some e) pos) := ⟨xRet a'.x, (js_ret a'.ok).imp fun env k ⟨o, h, q⟩ => by
  obtain ⟨⟨u, e2⟩, ha, h⟩ := map_ok h
  cases h
  exact ⟨u, e2, ha, q⟩⟩
def xIfS (t : XT) (a b : XS) : XS := fun env => (t env).bind fun p => if p.1 = true then a p.2 else b p.2
def ds_if {x y : List Stmt} (t' : DT C c) (a' : DSs C x) (b' : DSs C y) : DS_ C (.If c x y pos) := ⟨xIfS t'.x a'.x b'.x, (js_if t'.ok a'.ok b'.ok).imp fun env k ⟨o, h, q⟩ => by
  obtain ⟨⟨u, e2⟩, ha, h⟩ := bind_ok h
  refine ⟨u, e2, ha, ?_⟩
  cases u with
  | true => exact ⟨o, h, q⟩
  | false => exact ⟨o, h, q⟩⟩
def xSet (i : Nat) (a : XE) : XS := fun env => (a env).map fun p => .nx (setE p.2 i (some p.1))
theorem xSet_ok {i : Nat} {a : XE} : ∀ env k, xwS (xSet i a) env k → wSet i (xw a) env k := fun env k ⟨o, h, q⟩ => by
  obtain ⟨⟨u, e2⟩, ha, h⟩ := map_ok h
  cases h
  rw [setE_eq] at q
  exact ⟨u, e2, ha, q⟩
def ds_set (i : Nat) {x : Str} {pos' : Pos} (n : Nm C i x) (a' : DE C e) (hs : ∀ env, env.scope = C.sc → swapsWith e (some (.Name x pos')) pos.line env = pure false := by intro _ _; rfl) : DS_ C (.Assign [.Name x pos'] e pos) := ⟨xSet i a'.x, (js_set n a'.ok hs).imp xSet_ok⟩
def runF (np n : Nat) (x : XS) : List Dat → Option Dat := fun ds => if ds.length = np then (x (startE n ds)).bind fun o => match o with | .nx _ => some .non | .rt d _ => some d | _ => none else none
theorem runF_ok {np n : Nat} {x : XS} : ∀ ds Q, spX (runF np n x) ds Q → spOf np n (xwS x) ds Q := by
  rintro ds Q ⟨r, h, q⟩
  obtain ⟨c, h⟩ := ite_ok h
  obtain ⟨o, ho, h⟩ := bind_ok h
  refine ⟨c, o, ho, ?_⟩
  cases o with
  | nx e => cases h; exact q
  | rt d e => cases h; exact q
  | bk e => cases h
  | ct e => cases h
/-- a def of the top -/
structure FunAt (C : Ctx) (x qual : Str) (st : Stmt) (ps : List Str) : Prop where
  ex : ∃ f fd, Fun C.K x qual st f fd ∧ C.mg x = some (.ref f) ∧ Binds C.K fd ps []
/-- a method -/
structure MethAt (C : Ctx) (c : Nat) (m qual : Str) (st : Stmt) (ps : List Str) : Prop where
  ex : ∃ A f fd, C.mg (C.T.cn c) = some (.ref A) ∧ Cls C.K A ∧ Meth C.K A m f ∧ m ∉ C.T.fl c ∧ Fun C.K m qual st f fd ∧ Binds C.K fd ps []
structure MakeAt (C : Ctx) (x : Str) (c : Nat) (qual : Str) (st : Stmt) (ps : List Str) : Prop where
  ex : ∃ A f fd, C.mg x = some (.ref A) ∧ C.mg (C.T.cn c) = some (.ref A) ∧ Mk C.K A f ∧ Fun C.K "__init__" qual st f fd ∧ Binds C.K fd ps []
variable {x qual m : Str} {N ps : List Str} {cl : Nat}
theorem mk_fn (hz : C.gd = false) (k : Nat) (h : FunAt C x qual st ps) (S : FnScope N ps (defScope st)) (D : DSs (C.fn N (defScope st) k []) (defBody st)) : FnF C x (k + 1) (spX (runF ps.length N.length D.x)) := by
  obtain ⟨f, fd, F, hm, hb⟩ := h.ex
  exact ⟨f, fd, ps, hm, F.kp, hb, FnOk.imp (fnOkF hz F S D.ok) (spF_imp runF_ok)⟩
end
end
end M
namespace M
noncomputable section
open PySem PySem.Spec PyProof.Rows L2
section
variable {C : Ctx} {a b c o e iter elt kx vx tg : Expr} {es rest : List Expr} {pos p : Pos} {st : Stmt} {ss body : List Stmt} {x : Str} {i k : Nat} {N : List Str} {sc scope : Scope} {own : List (Str × Nat)}
theorem nmF (hN : N[i]? = some x := by rfl) (hl : Loc sc x := by first | exact Or.inl rfl | exact Or.inr rfl) : Nm (C.fn N sc k []) i x := ⟨hN, hl, .inr rfl, by simp [Ctx.fn]⟩
theorem nmB (hN : C.N[i]? = some x := by rfl) (hl : Loc (relS scope C.sc) x := by first | exact Or.inl rfl | exact Or.inr rfl) (hf : (relS scope C.sc).names.lookup x = some .local ∨ (scope.names.lookup x == some .cell) = true := by first | exact Or.inl rfl | exact Or.inr rfl) (hi : (own.map (·.2)).contains i = true := by rfl) : Nm (C.blk scope own) i x :=
  ⟨hN, hl, hf, by
    intro z
    have z : i ∈ (List.range C.N.length).filter fun i => !(own.map (·.2)).contains i := z
    rw [List.mem_filter, hi] at z
    exact nomatch z.2⟩
def xOf (a : XE) : XE := fun env => (a env).bind fun p => if isFz p.1 = true then some p else none
def xYes : XT := fun env => some (true, env)
theorem Fld.fn {f : Str} {g : Nat → Option Nat} {pin : List Nat} (h : Fld C f g) : Fld (C.fn N sc k pin) f g := ⟨fun c i e => let ⟨a, b⟩ := h.ok c i e; ⟨a, ⟨b.cls, b.no, b.nd⟩⟩⟩
theorem Fld.blk {f : Str} {g : Nat → Option Nat} (h : Fld C f g) : Fld (C.blk scope own) f g := ⟨fun c i e => let ⟨a, b⟩ := h.ok c i e; ⟨a, ⟨b.cls, b.no, b.nd⟩⟩⟩
theorem Cn.fn {d : Dat} {pin : List Nat} (h : Cn C x d) : Cn (C.fn N sc k pin) x d := ⟨h.ex⟩
theorem Cn.blk {d : Dat} (h : Cn C x d) : Cn (C.blk scope own) x d := ⟨h.ex⟩
theorem Isi.fn {u : Value} {f : Dat → Option Bool} {pin : List Nat} (h : Isi C u f) : Isi (C.fn N sc k pin) u f := ⟨h.ok⟩
theorem Isi.blk {u : Value} {f : Dat → Option Bool} (h : Isi C u f) : Isi (C.blk scope own) u f := ⟨h.ok⟩
variable {qual m : Str} {ps : List Str} {cl : Nat} {xs : XS}
theorem mk_fn' (hz : C.gd = false) (k : Nat) (h : FunAt C x qual st ps) (S : FnScope N ps (defScope st)) (D : JSs (C.fn N (defScope st) k []) (defBody st) (xwS xs)) : FnF C x (k + 1) (spX (runF ps.length N.length xs)) := mk_fn hz k h S ⟨xs, D⟩
end
end
end M
namespace M
noncomputable section
open PySem PySem.Spec PyProof.Rows L2
structure IsiO (C : Ctx) (x : Str) (f : Dat → Option Bool) : Prop where
  ex : ∃ A, C.mg x = some (.ref A) ∧ Isi C (.ref A) f
section
variable {C : Ctx} {a e : Expr} {pos p : Pos} {scope sc : Scope} {own : List (Str × Nat)} {N : List Str} {k : Nat} {pin vs1 : List Nat} {x m : Str} {j c i : Nat}
theorem IsiO.fn {f : Dat → Option Bool} (h : IsiO C x f) : IsiO (C.fn N sc k pin) x f := let ⟨A, a, b⟩ := h.ex; ⟨A, a, b.fn⟩
theorem IsiO.blk {f : Dat → Option Bool} (h : IsiO C x f) : IsiO (C.blk scope own) x f := let ⟨A, a, b⟩ := h.ex; ⟨A, a, b.blk⟩
end
end
end M
namespace M
noncomputable section
open PySem PySem.Spec PyProof.Rows L2
section
variable {C : Ctx} {a b c o e iter elt kx vx tg tg1 : Expr} {es rest : List Expr} {pos p : Pos}
end
end
end M
namespace M
noncomputable section
open PySem PySem.Spec PyProof.Rows L2
/-- a def of the top as it lies in the written part -/
def DefIn (K : PySem.W.Frag) (x qual : Str) (st : Stmt) : Prop := ∃ (f : Addr) (fd : FuncData), Fun K x qual st f fd ∧ PySem.W.nsIn K mainGlobals x = some (some (.ref f))
section
variable {C : Ctx} {h : Heap} {x qual m : Str} {st : Stmt} {ps : List Str} {A : Addr} {c : Nat}
theorem DefIn.funAt (X : C.K.In h) (G : h.Ns mainGlobals C.mg) (d : DefIn C.K x qual st) (hb : ∀ (kV doc pm : Value) (an : Option Addr) (cdv ct : Value) (us : List Value), us.length = ps.length → bindArgs (PySem.W.fnOf x qual (defArgs st) (defBody st) (defScope st) .none kV doc pm an cdv ct) ⟨us, []⟩ = pure (ps.zip us)) : FunAt C x qual st ps :=
  let ⟨f, fd, F, a⟩ := d
  ⟨f, fd, F, PySem.W.mg_of X G a, F.binds hb⟩
end
end
end M
namespace M
noncomputable section
open PySem PySem.Spec PyProof.Rows L2
section
variable {C : Ctx} {h : Heap} {x : Str} {A : Addr} {c : Nat}
end
end
end M
namespace M
noncomputable section
open PySem PySem.Spec PyProof.Rows L2
/-- a text, written as its signs -/
def de_strE {C : Ctx} {pos : Pos} {i j : Str} {n : Nat} (h : i = j) : DE C (.Constant (.str i) n pos) := ⟨true, xC (.str j), by subst h; exact je_str.imp xC_ok⟩
/-- the law's promise, the tables tb being there -/
def spLawT (K : PySem.W.Frag) (tb : List NdefX.NTab) : Sp := fun vs H Q _ => ∃ (a : Addr) (ns : List Int), vs = [.ref a] ∧ Scr K H a (ns.map V.int) ∧ (ns.length ≤ 63 ∧ TbOk tb H) ∧ ∀ H', Q (.bl true) H'
end
end M
namespace M
open PySem PySem.Spec PyProof.Rows L2
/-- a def's promise where no repr is under way -/
structure FnG (P : Program) (w : World) (K : PySem.W.Frag) (mg : Str → Option Value) (base : Heap) (k : Nat) (f : Addr) (fd : FuncData) (ps : List Str) (sp : Sp) : Prop where
  ln : ∀ vs H Q E, sp vs H Q E → vs.length = ps.length
  go : ∀ (A : Around) (out : List PySem.Env) (s : Shared) (H : Hp) (us : List Value) (vs : List V) (Q : VK) (E : XK), A.guards = some [] → Room k A → Env0 P w K mg base A out s H →
    BindsTo s fd ⟨us, []⟩ (ps.zip us) → Vals vs us → sp vs H Q E → codeAny (model P w) A (.call (.ref f) ⟨us, []⟩) (CR CX0 out P w H s Q E) s
section
variable {P : Program} {w : World} {K : PySem.W.Frag} {mg : Str → Option Value} {base : Heap} {k : Nat} {f : Addr} {fd : FuncData} {ps N : List Str} {sp : Sp} {x qual : Str} {st : Stmt}
/-- by its body -/
theorem fnG_ofc (F : Fun K x qual st f fd) (S : FnScope N ps (defScope st)) (len : ∀ vs H Q E, sp vs H Q E → vs.length = ps.length)
    (hb : ∀ (cdv : Value), fd.code = cdv → ∀ (A : Around) (out : List PySem.Env) (s : Shared) (H : Hp) (vs : List V) (Q : VK) (E : XK), A.guards = some [] → Room k (A.deeper (envOfC qual (defScope st) s.heap.objs.size f cdv)) → sp vs H Q E →
      ∃ t, PSs (cxOf CX0 P w K mg base N qual (defScope st) f cdv A out s H E).nox (defBody st) t ∧ t { nx := fun _ H' => Q .non H', rt := Q } (L2.start N vs) H) :
    FnG P w K mg base (k + 1) f fd ps sp := by
  obtain ⟨oc, od, kV, doc, pm, an, cdv, ct, osl, efd, lk, hcd⟩ := F.ex
  subst efd
  refine ⟨len, fun A out s H us vs Q E hg hr e0 bi rv hsp => ?_⟩
  have kin : K.In s.heap := e0.mod.kin.keeps fun b o e => (e0.bs b o e).1
  have nol : s.heap.NoLimit := e0.mod.nolimit.keeps fun b o e => (e0.bs b o e).1
  refine codeAny_call_function hr.depth (kin _ _ lk) rfl S.co S.gen rfl (PySem.W.codeRec_of kin hcd) (bi _ _ _ _ ?_)
  have kinds : ∀ y ∈ ps.zip us, (defScope st).names.lookup y.1 = some .local ∨ ((defScope st).names.lookup y.1 = some .cell ∧ ((cellsFrom (s.heap.objs.size + 1) (defScope st).names []).lookup y.1).isSome = true) := by
    intro y hy
    obtain ⟨n, v⟩ := y
    exact (S.par n (List.of_mem_zip hy).1).imp id fun q => ⟨q, PySem.W.cellsFrom_some _ _ _ (.inl q)⟩
  refine wpAny_newFunctionEnv_cells S.kind kinds fun env en s1 ic => ?_
  subst en
  refine ⟨nol.keeps ic.toInCall.keep, codeAny_func ?_⟩
  obtain ⟨t, ht, hq⟩ := hb cdv rfl A out s H vs Q E hg (hr.deeper _) hsp
  have I0 : Inv (cxOf CX0 P w K mg base N qual (defScope st) f cdv A out s H E) [] (L2.start N vs) H s1 := inv_start S hr.hd e0 (len _ _ _ _ hsp) rv ic
  have ht2 : PSs (cxOf CX0 P w K mg base N qual (defScope st) f cdv A out s H E) (defBody st) t := ht.nox
  refine wpAny_mono (ht2.run [] s1 (L2.start N vs) H _ I0 hq) (fun fl s' hs => ?_) fun e s' hs => hs
  cases fl with
  | ret u =>
    obtain ⟨v, σ', H', J, rv', q⟩ := hs
    exact ⟨v, H', J.os, J.bare, J.base, J.hok, rv', q⟩
  | next =>
    obtain ⟨σ', H', J, q⟩ := hs
    exact ⟨.non, H', J.os, J.bare, J.base, J.hok, rfl, q⟩
  | brk => obtain ⟨_, _, _, q⟩ := hs; exact q.elim
  | cont => obtain ⟨_, _, _, q⟩ := hs; exact q.elim
theorem fnG_of (F : Fun K x qual st f fd) (S : FnScope N ps (defScope st)) (len : ∀ vs H Q E, sp vs H Q E → vs.length = ps.length)
    (hb : ∀ (cdv : Value) (A : Around) (out : List PySem.Env) (s : Shared) (H : Hp) (vs : List V) (Q : VK) (E : XK), A.guards = some [] → Room k (A.deeper (envOfC qual (defScope st) s.heap.objs.size f cdv)) → sp vs H Q E →
      ∃ t, PSs (cxOf CX0 P w K mg base N qual (defScope st) f cdv A out s H E).nox (defBody st) t ∧ t { nx := fun _ H' => Q .non H', rt := Q } (L2.start N vs) H) :
    FnG P w K mg base (k + 1) f fd ps sp := fnG_ofc F S len fun cdv _ => hb cdv
end
end M
namespace M
open PySem PySem.Spec PyProof.Rows L2
structure FnGF (C : Ctx) (x : Str) (j : Nat) (sp : SpF) : Prop where
  ex : ∃ f fd ps, C.mg x = some (.ref f) ∧ PySem.W.keepIn C.K (.ref f) = true ∧ Binds C.K fd ps [] ∧ FnG C.P C.w C.K C.mg C.base j f fd ps (spF C.W sp)
structure FnGM (C : Ctx) (x : Str) (j : Nat) (sp : SpM) : Prop where
  ex : ∃ f fd ps, C.mg x = some (.ref f) ∧ PySem.W.keepIn C.K (.ref f) = true ∧ Binds C.K fd ps [] ∧ FnG C.P C.w C.K C.mg C.base j f fd ps (spM C.W sp)
section
variable {C : Ctx} {W : Wd} {pr p1 p2 p3 : Bool} {F F' F1 F2 : AS} {H H' H1 H2 : Hp} {fp fp' fe fe1 fe2 fd fd1 fd2 : AS} {σ : L2.St} {env env1 env2 : Env} {d d1 d2 : Dat} {v v1 v2 : V}
variable {a b c o e : Expr} {es : List Expr} {pos p : Pos} {wa wb wc : LE} {ta tb : LT} {ws : LA} {w : LS}
theorem FnF.ofNg {x : Str} {j : Nat} {sp : SpF} (h : FnF C.ng x j sp) : FnF C x j sp := ⟨h.ex⟩
theorem FnGF.fn {x : Str} {j k : Nat} {sp : SpF} {N : List Str} {sc : Scope} {pin : List Nat} (h : FnGF C x j sp) : FnGF (C.fn N sc k pin) x j sp := ⟨h.ex⟩
theorem FnGF.blk {x : Str} {j : Nat} {sp : SpF} {sc : Scope} {own : List (Str × Nat)} (h : FnGF C x j sp) : FnGF (C.blk sc own) x j sp := ⟨h.ex⟩
theorem FnGM.fn {x : Str} {j k : Nat} {sp : SpM} {N : List Str} {sc : Scope} {pin : List Nat} (h : FnGM C x j sp) : FnGM (C.fn N sc k pin) x j sp := ⟨h.ex⟩
theorem FnGM.blk {x : Str} {j : Nat} {sp : SpM} {sc : Scope} {own : List (Str × Nat)} (h : FnGM C x j sp) : FnGM (C.blk sc own) x j sp := ⟨h.ex⟩
theorem fnGF {x qual : Str} {st : Stmt} {f : Addr} {fd : FuncData} {N ps : List Str} {k : Nat} (F : Fun C.K x qual st f fd) (S : FnScope N ps (defScope st)) (h : JSs (C.fn N (defScope st) k []) (defBody st) w) :
    FnG C.P C.w C.K C.mg C.base (k + 1) f fd ps (spF C.W (spOf ps.length N.length w)) := by
  refine fnG_of F S ?_ ?_
  · rintro vs H Q E ⟨F', ds, Qd, r, fl, sp, q⟩
    rw [← r.length]; exact sp.1
  · rintro cdv A out s H vs Q E hg hr ⟨F', ds, Qd, r, fl, sp, q⟩
    refine ⟨_, h _ (gd_def [] (fun _ => hg) S hr), F', NoA, _, _, ?_, ok_no fl, sp.2, ⟨?_, ?_, ?_, ?_⟩⟩
    · rw [start_eq, ← r.length]; exact sl_start _ r
    · exact fun env F2 H2 fe σ' hk s => q .non F2 H2 NoA .non hk rep_non (s.st.sub fun _ z => z.elim)
    · exact fun d env F2 H2 fe fd v σ' hk s => q d F2 H2 fd v hk s.rep (s.st.sub fun _ => .inr)
    · exact fun _ _ _ _ _ hk => hk.elim
    · exact fun _ _ _ _ _ hk => hk.elim
end
end M
namespace M
open PySem PySem.Spec PyProof.Rows L2
mutual
theorem noDict : ∀ d : Dat, isPy d = true → (toPy d).hasDict = false
  | .non, _ => rfl
  | .bl _, _ => rfl
  | .int _, _ => rfl
  | .str _, _ => rfl
  | .tup _ xs, h => by
    simp only [toPy, PyData.hasDict]
    exact noDicts xs h
  | .lst _ xs, h => by
    simp only [toPy, PyData.hasDict]
    exact noDicts xs h
  | .dct _ _ _, h => nomatch h
  | .dtt _ _ _, h => nomatch h
  | .dxt _ _ _, h => nomatch h
  | .obj _ _ _, h => nomatch h
  | .scr _, h => nomatch h
  | .exn _ _, h => nomatch h
  | .fnv _, h => nomatch h
theorem noDicts : ∀ ds : List Dat, isPys ds = true → PyData.hasDictAll (toPys ds) = false
  | [], _ => rfl
  | d :: ds, h => by
    have h' : (isPy d && isPys ds) = true := h
    rw [Bool.and_eq_true] at h'
    simp only [toPys, PyData.hasDictAll, noDict d h'.1, noDicts ds h'.2, Bool.or_false]
end
theorem shaped_depth {d : PyData} (h : SeqAt.shaped d = true) : d.depth ≤ 64 := by
  have h' : (d.canLay0 && decide (d.depth ≤ 64)) = true := h
  rw [Bool.and_eq_true] at h'
  exact of_decide_eq_true h'.2
section
variable {X : Cx}
theorem call_reprD (hA : X.A.guards = some []) (hu : X.A.units + 70 < cLine) : CallR X (.builtin "repr") (fun vs H Q => ∃ x d, vs = [x] ∧ Dp X.K H x d ∧ d.depth ≤ 64 ∧ d.showable = true ∧ d.hasDict = false ∧ d.shown.length ≤ sizeLine ∧ Q (.str d.shown) H) := by
  intro pins s σ H xs us Q I r h
  obtain ⟨x, d, rfl, hd, sh, sw, nd, hz, q⟩ := h
  obtain ⟨u, rfl, rv⟩ := vals1 r
  obtain ⟨as, rd⟩ := Dp.reads I d x u hd rv
  have ref : ∀ a, u = .ref a → wpAny (model X.prog X.w) X.A (call (.builtin "repr") [u]) (EP X pins σ Q) X.xe s := by
    rintro a rfl
    exact repr_of_reads' rd sw (fun e => by rw [nd] at e; cases e) hA (by omega) (fun _ _ e => e) (fun h' t tk k => ⟨.str _, H, I.kept (t' := tk) k, ⟨_, rfl⟩, q⟩) hz
  cases hd with
  | non =>
    obtain rfl : u = .none := rv
    exact PySem.P.repr_of_none ⟨.str _, H, I.tok _, ⟨_, rfl⟩, q⟩
  | bl b =>
    obtain rfl : u = .bool b := rv
    exact PySem.P.repr_of_bool ⟨.str _, H, I.tok _, ⟨_, rfl⟩, q⟩
  | int i =>
    obtain ⟨t, rfl⟩ := rv
    exact PySem.P.repr_of_int (of_decide_eq_true sw) ⟨.str _, H, I.tok _, ⟨_, rfl⟩, q⟩
  | str i =>
    obtain ⟨t, rfl⟩ := rv
    exact PySem.P.repr_of_str ⟨.str _, H, I.tok _, ⟨_, rfl⟩, q⟩ hz
  | lst s r => exact ref _ rv
  | tup s r => exact ref _ rv
end
section
variable {C : Ctx} {W : Wd} {pr p1 p2 p3 : Bool} {F F' F1 F2 : AS} {H H' H1 H2 : Hp} {fp fp' fe fe1 fe2 fd fd1 fd2 : AS} {σ : L2.St} {env env1 env2 : Env} {d d1 d2 : Dat} {v v1 v2 : V}
variable {a b c o e : Expr} {es : List Expr} {pos p : Pos} {wa wb wc : LE}
/-- a call rule for one argument, with what is known around -/
def Cl1r (C : Ctx) (f : Value) (r : Dat → (Dat → Prop) → Prop) : Prop := ∃ r1 : PySem.W.Frag → V → Hp → VK → Prop, (∀ X, Gd C X → CallR X f (fun vs H Q => ∃ x, vs = [x] ∧ r1 X.K x H Q)) ∧ Op1 C.W (r1 C.K) r
theorem je_b1r {x : Str} {id : String} {w : LE} {r : Dat → (Dat → Prop) → Prop} (o : Cl1r C (.builtin id) r) (hm : C.mg x = none) (hv : bootBuiltins x = some (.builtin id)) (hg : C.sc.names.lookup x = some .globalImplicit) (ha : JV C pr a w)
    (hn : x ≠ "__name__") (hdb : (x == ("__debug__" : Str)) = false) (hs : ∀ env, starEach [a] env = (false, eval a env) :: starEach [] env) (hpl : ∀ env, (backTo pos (starEach [] env)).any (·.1) = false) : JE C pr (.Call (.Name x p) [a] [] pos) (w1 w r) := fun X g => by
  obtain ⟨r1, hc, ho⟩ := o
  refine PE_imp (pe_callB (hc X g) (gl_of g hg) (by rw [g.mg]; exact hm) hv (pa_cons (ha X g) pa_nil (hs _)) hn hdb (hs _) (hpl _)) fun σ H Q h => ?_
  rw [g.K]
  exact sp1 (X := X) (lift1 ho h)
def rRepr (x : Dat) (Q : Dat → Prop) : Prop := isPy x = true ∧ SeqAt.shaped (toPy x) = true ∧ (toPy x).showable = true ∧ (toPy x).shown.length ≤ sizeLine ∧ Q (.str (toPy x).shown)
theorem cl_repr (hq : C.gd = true) : Cl1r C (.builtin "repr") rRepr := by
  refine ⟨fun K x H Q => ∃ d, Dp K H x d ∧ d.depth ≤ 64 ∧ d.showable = true ∧ d.hasDict = false ∧ d.shown.length ≤ sizeLine ∧ Q (.str d.shown) H, fun X g => ?_, ?_⟩
  · intro pins s σ H xs us Q I r h
    obtain ⟨x, rfl, d, h⟩ := h
    exact call_reprD (g.gu hq) (by have := g.room.un; omega) pins s σ H _ us Q I r ⟨x, d, rfl, h⟩
  · intro F H f x vx Qd Q fl r h q
    obtain ⟨h1, h2, h3, h4, h5⟩ := h
    exact ⟨toPy x, Rep.dp x _ _ r h1, shaped_depth h2, h3, noDict x h1, h4, q _ _ F H NoA h5 rep_str .refl⟩
end
end M
namespace M
noncomputable section
open PySem PySem.Spec PyProof.Rows L2
def xRepr : X1 := fun x => if isPy x = true ∧ SeqAt.shaped (toPy x) = true ∧ (toPy x).showable = true ∧ (toPy x).shown.length ≤ sizeLine then some (.str (toPy x).shown) else none
theorem xRepr_ok : Ok1 xRepr rRepr := fun x d Q h q => by
  obtain ⟨c, h⟩ := ite_ok h
  cases h
  exact ⟨c.1, c.2.1, c.2.2.1, c.2.2.2, q⟩
section
variable {C : Ctx} {a b o e : Expr} {es : List Expr} {pos p : Pos} {N : List Str} {sc : Scope} {k : Nat} {st : Stmt} {qual x : Str} {ps : List Str} {xs : XS}
structure XL1r (C : Ctx) (f : Value) where
  r : R1D
  cl : Cl1r C f r
  x : X1
  ok : Ok1 x r
def de_b1r {x : Str} {id : String} (l : XL1r C (.builtin id)) (hm : C.mg x = none) (a' : DV C a) (hv : bootBuiltins x = some (.builtin id) := by rfl) (hg : C.sc.names.lookup x = some .globalImplicit := by rfl)
    (hn : x ≠ "__name__" := by decide) (hdb : (x == ("__debug__" : Str)) = false := by rfl) (hs : ∀ env, starEach [a] env = (false, eval a env) :: starEach [] env := by intro _; rfl) (hpl : ∀ env, (backTo pos (starEach [] env)).any (·.1) = false := by intro _; rfl) : DE C (.Call (.Name x p) [a] [] pos) :=
  ⟨_, x1 a'.x l.x, (je_b1r l.cl hm hv hg a'.ok hn hdb hs hpl).imp (x1_ok l.ok)⟩
theorem FnG.imp {P : Program} {w : World} {K : PySem.W.Frag} {mg : Str → Option Value} {base : Heap} {f : Addr} {fd : FuncData} {sp sp' : Sp} (h : FnG P w K mg base k f fd ps sp) (i : ∀ vs H Q E, sp' vs H Q E → sp vs H Q E) : FnG P w K mg base k f fd ps sp' :=
  ⟨fun vs H Q E z => h.ln vs H Q E (i vs H Q E z), fun A out s H us vs Q E g r e b v z => h.go A out s H us vs Q E g r e b v (i vs H Q E z)⟩
theorem FunAt.ng (h : FunAt C x qual st ps) : FunAt C.ng x qual st ps := ⟨h.ex⟩
theorem MethAt.ng {c : Nat} (h : MethAt C c x qual st ps) : MethAt C.ng c x qual st ps := ⟨h.ex⟩
theorem MakeAt.ng {c : Nat} (h : MakeAt C x c qual st ps) : MakeAt C.ng x c qual st ps := ⟨h.ex⟩
theorem Cn.ng {d : Dat} (h : Cn C x d) : Cn C.ng x d := ⟨h.ex⟩
theorem Isi.ng {u : Value} {f : Dat → Option Bool} (h : Isi C u f) : Isi C.ng u f := ⟨h.ok⟩
theorem IsiO.ng {f : Dat → Option Bool} (h : IsiO C x f) : IsiO C.ng x f := let ⟨A, a, b⟩ := h.ex; ⟨A, a, b.ng⟩
theorem Fld.ng {f : Str} {g : Nat → Option Nat} (h : Fld C f g) : Fld C.ng f g := ⟨fun c i e => let ⟨a, b⟩ := h.ok c i e; ⟨a, ⟨b.cls, b.no, b.nd⟩⟩⟩
end
end
end M
namespace M
open PySem PySem.Spec PyProof.Rows L2
section
variable {P : Program} {w : World} {K : PySem.W.Frag} {mg mb : Str → Option Value} {a fa : Addr} {s1 : Shared} {vs : List Value} {ns : List Int} {k : Nat} {fd : FuncData} {sp : Sp} {x : Str}
def scrO (vs : List Value) : Obj := { cls := .type "list", data := .seq vs.toArray }
end
end M
namespace M
open PySem PySem.Spec PyProof.Rows L2
/-- the values in the order of the parameters -/
def permL {α : Type} (d : α) (π : List Nat) (ws : List α) : List α := π.map fun i => ws.getD i d
theorem getD_rel : ∀ {zs : List V} {ws : List Value}, Vals zs ws → ∀ i, RelV (zs.getD i .non) (ws.getD i .none)
  | _, _, .nil, _ => rfl
  | _, _, .cons r _, 0 => r
  | _, _, .cons _ h, i + 1 => getD_rel h i
theorem perm_vals {zs : List V} {ws : List Value} (h : Vals zs ws) : ∀ π : List Nat, Vals (permL .non π zs) (permL .none π ws)
  | [] => .nil
  | i :: π => .cons (getD_rel h i) (perm_vals h π)
section
variable {X : Cx} {k : Nat} {f : Addr} {fd : FuncData} {ps ks : List Str} {sp : Sp} {x : Str} {p pos kpos : Pos} {e : Expr} {kws : List Keyword} {tk tk' : TA} {π : List Nat} {nm : Option Str}
theorem PK_imp (h : PK X kws tk) (i : ∀ σ H Q, tk' σ H Q → tk σ H Q) : PK X kws tk' := ⟨fun pos pins s σ H Q I q => h.run pos pins s σ H Q I (i σ H Q q)⟩
/-- how names alone bind -/
def KwB (K : PySem.W.Frag) (fd : FuncData) (ps ks : List Str) (π : List Nat) : Prop := ∀ (s : Shared) (ws : List Value), K.In s.heap → ws.length = ks.length → BindsTo s fd ⟨[], ks.zip ws⟩ (ps.zip (permL .none π ws))
end
section
variable {C : Ctx} {W : Wd} {pr p1 p2 : Bool} {F F' F1 F2 : AS} {H H' H1 H2 : Hp} {fp fp' fe fe1 fe2 fd fd1 fd2 : AS} {σ : L2.St} {env env1 env2 : Env}
variable {e : Expr} {kws : List Keyword} {pos p kpos : Pos} {ws : LA} {nm : Option Str} {π : List Nat} {ks : List Str}
def JK (C : Ctx) (pr : Bool) (kws : List Keyword) (w : LA) : Prop := ∀ X, Gd C X → PK X kws (liftA C.W pr w)
theorem jk_nil : JK C true [] wNil := fun X g => PK_imp pk_nil fun σ H Q ⟨F, fp, env, Qd, sl, ok, hw, q⟩ =>
  q [] env F H fp NoA [] hw ⟨sl, .nil fun _ z => z, fun _ _ z => z, (Step.refl ok).sub fun a z => z.resolve_right id, fun _ => Keep.rfl⟩
theorem jk_cons {w : LE} (he : JE C p1 e w) (hr : JK C p2 kws ws) : JK C (p1 && p2) (⟨nm, e, kpos⟩ :: kws) (wCons w ws) := fun X g =>
  PK_imp (pk_cons (he X g) (hr X g)) fun σ H Q ⟨F, fp, env, Qd, sl, ok, hw, q⟩ => by
    refine ⟨F, fp, env, _, sl, ok, hw, fun x env1 F1 H1 fe1 g1 v1 hb P1 => ?_⟩
    have ok1 : Ok C.W F1 H1 fe1 := P1.st.ok.sub fun _ => .inl
    refine ⟨F1, fe1, env1, _, P1.sl, ok1, hb, fun ds env2 F2 H2 fe2 g2 vs hd P2 => ?_⟩
    have fr := P2.st.frame (g := g1) (P1.st.ok.sub fun _ => .inr) P1.dj
    have r1 := P1.rep.step P2.st ok1 fun a z q => P1.dj a q z
    refine q (x :: ds) env2 F2 H2 fe2 (fun a => g1 a ∨ g2 a) (v1 :: vs) hd ⟨P2.sl, .cons r1 P2.rep (fun a z k => fr.2 a (.inr k) z) fun a => Iff.rfl, fun a z k => ?_, (P1.st.trans fr.1).sub fun a z => ?_, fun z => ?_⟩
    · rcases k with k | k
      · exact fr.2 a (.inl z) k
      · exact P2.dj a z k
    · rcases z with z | z | z
      · exact .inl (.inl z)
      · exact .inr z
      · exact .inl (.inr z)
    · have k := and_pure P1.pu P2.pu z
      exact Keep.trans k.1 k.2
structure FnKF (C : Ctx) (x : Str) (j : Nat) (ks : List Str) (π : List Nat) (sp : SpF) : Prop where
  ex : ∃ f fd ps, C.mg x = some (.ref f) ∧ PySem.W.keepIn C.K (.ref f) = true ∧ KwB C.K fd ps ks π ∧ FnOk C.P C.w C.K C.mg C.base CX0 j f fd ps (spF C.W sp)
theorem FnKF.fn {x : Str} {j k : Nat} {sp : SpF} {N : List Str} {sc : Scope} {pin : List Nat} (h : FnKF C x j ks π sp) : FnKF (C.fn N sc k pin) x j ks π sp := ⟨h.ex⟩
theorem FnKF.blk {x : Str} {j : Nat} {sp : SpF} {sc : Scope} {own : List (Str × Nat)} (h : FnKF C x j ks π sp) : FnKF (C.blk sc own) x j ks π sp := ⟨h.ex⟩
end
noncomputable section
variable {C : Ctx} {e : Expr} {kws : List Keyword} {pos p kpos : Pos} {nm : Option Str} {π : List Nat} {ks ps : List Str} {N : List Str} {qual x : Str} {st : Stmt} {xs : XS}
structure DK (C : Ctx) (kws : List Keyword) where
  pr : Bool
  x : XA
  ok : JK C pr kws (xw x)
theorem JK.imp {pr : Bool} {w w' : LA} (h : JK C pr kws w) (i : ∀ env Q, w' env Q → w env Q) : JK C pr kws w' := fun X g => PK_imp (h X g) fun σ H Q ⟨F, fp, env, Qd, sl, ok, hw, q⟩ => ⟨F, fp, env, Qd, sl, ok, i _ _ hw, q⟩
def dk_nil : DK C [] := ⟨true, xNil, jk_nil.imp fun env Q ⟨d, e1, h, q⟩ => by cases h; exact q⟩
def dk_cons (a' : DE C e) (b' : DK C kws) : DK C (⟨nm, e, kpos⟩ :: kws) := ⟨_, xCons a'.x b'.x, (jk_cons a'.ok b'.ok).imp fun env Q ⟨d, e1, h, q⟩ => by
  obtain ⟨⟨u, e2⟩, ha, h⟩ := bind_ok h
  obtain ⟨⟨v, e3⟩, hb, h⟩ := map_ok h
  cases h
  exact ⟨u, e2, ha, v, e3, hb, q⟩⟩
end
end M
namespace M
noncomputable section
open PySem PySem.Spec PyProof.Rows L2
/-- the entries of a dict of the module, read against their data -/
def entB : List DictEntry → List Str → List Int → Bool
  | [], [], [] => true
  | e :: es, k :: ks, n :: ns => (match e.key, e.val with | .str x _, .int i _ => x == k && i == n | _, _ => false) && entB es ks ns
  | _, _, _ => false
section
variable {C : Ctx} {x t : Str} {ks : List Str} {ns : List Int} {pos p p2 : Pos} {e : Expr}
/-- a dict of the module -/
structure KDg (C : Ctx) (x : Str) (ks : List Str) (ns : List Int) : Prop where
  ex : ∃ a es n, C.mg x = some (.ref a) ∧ KDict C.K C.w a es n ∧ es.size ≤ sizeLine ∧ entB es.toList ks ns = true
theorem KDg.ng (h : KDg C x ks ns) : KDg C.ng x ks ns := ⟨h.ex⟩
theorem KDg.fn {pin : List Nat} {N : List Str} {sc : Scope} {k : Nat} (h : KDg C x ks ns) : KDg (C.fn N sc k pin) x ks ns := ⟨h.ex⟩
end
end
end M
namespace M
noncomputable section
open PySem PySem.Spec PyProof.Rows L2
section
variable {C : Ctx} {W : Wd} {pr p1 p2 : Bool} {F F' : AS} {H H' : Hp} {fp fe fd : AS} {σ : L2.St} {env : Env} {a b o e : Expr} {wa wb : LE} {pos p : Pos} {c j : Nat} {sp : SpF}
/-- the class has the plain != -/
structure NeO (C : Ctx) (c : Nat) : Prop where
  ok : ∀ A, C.mg (C.T.cn c) = some (.ref A) → PySem.W.findIn C.K (.ref A) "__ne__" = some (some (.builtin "object.__ne__")) ∧ PySem.W.mroIn C.K A (.type "object") = some true
theorem NeO.ng (h : NeO C c) : NeO C.ng c := ⟨h.ok⟩
theorem NeO.fn {pin : List Nat} {N : List Str} {sc : Scope} {k : Nat} (h : NeO C c) : NeO (C.fn N sc k pin) c := ⟨h.ok⟩
end
end
end M
namespace M
noncomputable section
open PySem PySem.Spec PyProof.Rows L2
/-- how names alone bind behind a first one -/
def KwBM (K : PySem.W.Frag) (fd : FuncData) (ps ks : List Str) (π : List Nat) : Prop := ∀ (s : Shared) (u : Value) (ws : List Value), K.In s.heap → ws.length = ks.length → BindsTo s fd ⟨[u], ks.zip ws⟩ (ps.zip (u :: permL .none π ws))
section
variable {C : Ctx} {W : Wd} {pr p1 p2 : Bool} {F F' : AS} {H H' : Hp} {fp fe fd : AS} {σ : L2.St} {env : Env} {o : Expr} {wa : LE} {ws : LA} {pos p apos : Pos} {c j : Nat} {kws : List Keyword} {ks : List Str} {π : List Nat} {m x : Str}
structure MeKF (C : Ctx) (c : Nat) (m : Str) (j : Nat) (ks : List Str) (π : List Nat) (sp : SpF) : Prop where
  ex : ∃ A f fd ps, C.mg (C.T.cn c) = some (.ref A) ∧ Cls C.K A ∧ Meth C.K A m f ∧ m ∉ C.T.fl c ∧ KwBM C.K fd ps ks π ∧ FnOk C.P C.w C.K C.mg C.base CX0 j f fd ps (spF C.W sp)
theorem MeKF.fn {sp : SpF} {k : Nat} {N : List Str} {sc : Scope} {pin : List Nat} (h : MeKF C c m j ks π sp) : MeKF (C.fn N sc k pin) c m j ks π sp := ⟨h.ex⟩
theorem MeKF.blk {sp : SpF} {sc : Scope} {own : List (Str × Nat)} (h : MeKF C c m j ks π sp) : MeKF (C.blk sc own) c m j ks π sp := ⟨h.ex⟩
structure MkKM (C : Ctx) (x : Str) (c : Nat) (j : Nat) (ks : List Str) (π : List Nat) (sp : SpM) : Prop where
  ex : ∃ A f fd ps, C.mg x = some (.ref A) ∧ C.mg (C.T.cn c) = some (.ref A) ∧ Mk C.K A f ∧ KwBM C.K fd ps ks π ∧ FnOk C.P C.w C.K C.mg C.base CX0 j f fd ps (spM C.W sp)
theorem MkKM.fn {sp : SpM} {k : Nat} {N : List Str} {sc : Scope} {pin : List Nat} (h : MkKM C x c j ks π sp) : MkKM (C.fn N sc k pin) x c j ks π sp := ⟨h.ex⟩
theorem MkKM.blk {sp : SpM} {sc : Scope} {own : List (Str × Nat)} (h : MkKM C x c j ks π sp) : MkKM (C.blk sc own) x c j ks π sp := ⟨h.ex⟩
end
end
end M
namespace M
open PySem PySem.Spec PyProof.Rows L2
section
variable {C : Ctx} {W : Wd} {pr p1 p2 p3 : Bool} {F F' F1 F2 : AS} {H H' H1 H2 : Hp} {fp fp' fe fe1 fe2 fd fd1 fd2 : AS} {σ : L2.St} {env env1 env2 : Env} {d d1 d2 : Dat} {v v1 v2 : V}
variable {a b c o e : Expr} {es : List Expr} {pos p : Pos} {wa wb wc : LE} {ta tb : LT} {ws : LA} {w : LS}
structure MePF (C : Ctx) (c : Nat) (m : Str) (j : Nat) (sp : SpF) : Prop where
  ex : ∃ A q f fd ps, C.mg (C.T.cn c) = some (.ref A) ∧ Cls C.K A ∧ PropOf C.K A m q f ∧ Binds C.K fd ps [] ∧ FnOk C.P C.w C.K C.mg C.base CX0 j f fd ps (spF C.W sp)
theorem MePF.fn {c j k : Nat} {m : Str} {sp : SpF} {N : List Str} {sc : Scope} {pin : List Nat} (h : MePF C c m j sp) : MePF (C.fn N sc k pin) c m j sp := ⟨h.ex⟩
theorem MePF.blk {c j : Nat} {m : Str} {sp : SpF} {sc : Scope} {own : List (Str × Nat)} (h : MePF C c m j sp) : MePF (C.blk sc own) c m j sp := ⟨h.ex⟩
/-- a method, the object changed, whose last parameter has the default None: called without it -/
structure MeMD (C : Ctx) (c : Nat) (m : Str) (j : Nat) (sp : SpM) : Prop where
  ex : ∃ A f fd ps ds, C.mg (C.T.cn c) = some (.ref A) ∧ Cls C.K A ∧ Meth C.K A m f ∧ m ∉ C.T.fl c ∧ Vals [V.non] ds ∧ Binds C.K fd ps ds ∧ FnOk C.P C.w C.K C.mg C.base CX0 j f fd ps (spM C.W sp)
theorem MeMD.fn {c j k : Nat} {m : Str} {sp : SpM} {N : List Str} {sc : Scope} {pin : List Nat} (h : MeMD C c m j sp) : MeMD (C.fn N sc k pin) c m j sp := ⟨h.ex⟩
theorem MeM.blk {c j : Nat} {m : Str} {sp : SpM} {sc : Scope} {own : List (Str × Nat)} (h : MeM C c m j sp) : MeM (C.blk sc own) c m j sp := ⟨h.ex⟩
end
section
variable {C : Ctx} {a b o e : Expr} {es : List Expr} {pos p : Pos} {N : List Str} {sc : Scope} {k : Nat} {st : Stmt} {qual x m : Str} {ps : List Str} {xs : XS} {cl : Nat}
noncomputable section
structure PropAt (C : Ctx) (c : Nat) (m qual : Str) (st : Stmt) (ps : List Str) : Prop where
  ex : ∃ A q f fd, C.mg (C.T.cn c) = some (.ref A) ∧ Cls C.K A ∧ PropOf C.K A m q f ∧ Fun C.K m qual st f fd ∧ Binds C.K fd ps []
structure MethAtD (C : Ctx) (c : Nat) (m qual : Str) (st : Stmt) (ps : List Str) : Prop where
  ex : ∃ A f fd ds, C.mg (C.T.cn c) = some (.ref A) ∧ Cls C.K A ∧ Meth C.K A m f ∧ m ∉ C.T.fl c ∧ FunD C.K m qual (defArgs st) (defBody st) (defScope st) [V.non] [] f fd ∧ Binds C.K fd ps [] ∧ Vals [V.non] ds ∧ Binds C.K fd ps ds
theorem PropAt.ng {c : Nat} (h : PropAt C c m qual st ps) : PropAt C.ng c m qual st ps := ⟨h.ex⟩
theorem MethAtD.ng {c : Nat} (h : MethAtD C c m qual st ps) : MethAtD C.ng c m qual st ps := ⟨h.ex⟩
end
end
end M
namespace M
open PySem PySem.Spec PyProof.Rows L2
noncomputable section
def SqB (K : PySem.W.Frag) (H : Hp) (a : Addr) (xs : List V) : Bool → Prop
  | true => SqL K H a xs
  | false => SqT K H a xs
def ItB (h : Heap) (it a : Addr) (i : Nat) : Bool → Prop
  | true => h.IsListIter it a i
  | false => h.IsTupleIter it a i
theorem ItB.cut {h : Heap} {it a : Addr} {i : Nat} : ∀ {b : Bool}, ItB h it a i b → ∃ o : Obj, h.get? it = some o ∧ (∀ v : Option Value, ¬ o.data = Data.cell v) ∧ ∀ h' : Heap, h'.get? it = some o → ItB h' it a i b
  | true, h => by
    obtain ⟨o, e, c, d⟩ := h
    refine ⟨o, e, ?_, fun h' e' => ⟨o, e', c, d⟩⟩
    intro v q
    rw [d] at q; cases q
  | false, h => by
    obtain ⟨o, e, c, d⟩ := h
    refine ⟨o, e, ?_, fun h' e' => ⟨o, e', c, d⟩⟩
    intro v q
    rw [d] at q; cases q
theorem ItB.at {h h' : Heap} {it a : Addr} {i : Nat} {b : Bool} (s : ItB h it a i b) (k : ∀ o, h.get? it = some o → h'.get? it = some o) : ItB h' it a i b := by
  obtain ⟨o, e, _, f⟩ := s.cut
  exact f h' (k o e)
section
variable {C : Ctx} {W : Wd} {pr : Bool} {F : AS} {H : Hp} {e e2 tg : Expr} {es : List Expr} {ws : LA} {p pos tpos : Pos} {kk : Nat}
/-- where a thing that is walked stays as it is -/
def StB (W : Wd) (F : AS) (H : Hp) (a : Addr) (vs : List V) : Bool → Prop
  | true => F a ∧ Rd H a (.lst vs)
  | false => SqT W.K H a vs
theorem StB.sq {a : Addr} {vs : List V} : ∀ {k : Bool}, StB W F H a vs k → SqB W.K H a vs k
  | true, h => .inl h.2
  | false, h => h
theorem StB.keep {H' : Hp} {a : Addr} {vs : List V} (kp : ∀ b o, H b = some o → NT o → F b ∨ ¬ Mut (some o) → H' b = some o) : ∀ {k : Bool}, StB W F H a vs k → SqB W.K H' a vs k
  | true, h => .inl (Rd.keep (fun _ z => nomatch z) h.2 fun o e t => kp a o e t (.inl h.1))
  | false, h => SqT.keep h fun o e t n => kp a o e t (.inr n)
end
end
end M
namespace PySem
open Sem (wp)
open AutoSeq1 (wpAny_loadPart')
end PySem
namespace M
open PySem PySem.Spec PyProof.Rows L2
abbrev KX := Dat × TK × Dat
end M
namespace M
noncomputable section
open PySem PySem.Spec PyProof.Rows L2
variable {C : Ctx}
theorem Cl1.or {f : Value} {r r' : Dat → (Dat → Prop) → Prop} (h : Cl1 C f r) (h' : Cl1 C f r') (t : Dat → Bool) : Cl1 C f (fun x Q => if t x = true then r x Q else r' x Q) := by
  obtain ⟨a, a1, a2⟩ := h
  obtain ⟨b, b1, b2⟩ := h'
  refine ⟨fun K x H Q => a K x H Q ∨ b K x H Q, fun X hc => ?_, ?_⟩
  · intro pins s σ H xs us Q I r z
    obtain ⟨x, rfl, z | z⟩ := z
    · exact a1 X hc pins s σ H _ us Q I r ⟨x, rfl, z⟩
    · exact b1 X hc pins s σ H _ us Q I r ⟨x, rfl, z⟩
  · intro F H fp x vx Qd Q fl r z q
    by_cases c : t x = true
    · rw [if_pos c] at z
      exact .inl (a2 F H fp x vx Qd Q fl r z q)
    · rw [if_neg c] at z
      exact .inr (b2 F H fp x vx Qd Q fl r z q)
end
end M
namespace PySem
open Sem (wp)
open AutoSeq1 (wpAny_loadPart')
end PySem
namespace M
noncomputable section
open PySem PySem.Spec PyProof.Rows L2
section
variable {fa : List He.Fa} {fn : List He.DefD} {ts : List He.Tab} {ex : List (PySem.W.Frag → Bool)} {w : World} {h : Heap} {K : PySem.W.Frag}
theorem SaysM.tab (c : SaysM fa fn ts ex w h K) (i : Nat) {t : He.Tab} (h : ts[i]? = some t) : He.dicW K (t.1 K) = some (He.keysIn w.params t.2) := by
  have e : ts.map (fun t => He.dicW K (t.1 K)) = ts.map fun t => some (He.keysIn w.params t.2) := congrArg (fun z : He.AlT => z.2) c.t
  have e2 : (ts.map fun t => He.dicW K (t.1 K))[i]? = (ts.map fun t => some (He.keysIn w.params t.2))[i]? := by rw [e]
  rw [List.getElem?_map, List.getElem?_map, h] at e2
  exact Option.some.inj e2
theorem fun_of {x qual : Str} {st : Stmt} {f : Addr} {fd : FuncData} (F : FunD K x qual (defArgs st) (defBody st) (defScope st) [] [] f fd) : Fun K x qual st f fd := by
  obtain ⟨⟨oc, od, dV, kV, doc, pm, an, cdv, ct, osl, rfl, l, c, d, _⟩, kp⟩ := F
  rcases d with ⟨_, rfl⟩ | ⟨z, _⟩
  · exact ⟨⟨oc, od, kV, doc, pm, an, cdv, ct, osl, rfl, l, c⟩, kp⟩
  · exact absurd rfl z
theorem SaysM.def_ (c : SaysM fa fn ts ex w h K) (i j : Nat) {x qual : Str} {st : Stmt} (e : fn[i]? = some (dfD x qual st)) (e2 : fa[j]? = some (.glo x)) : DefIn K x qual st := by
  obtain ⟨fd, F⟩ := He.SaysD.def_ c.t.d i e
  exact ⟨_, fd, fun_of F, He.eqO_ok (c.fact j e2)⟩
end
end
end M
namespace M
open PySem PySem.Spec PyProof.Rows L2 NdefX
/-- the class of the language below own exceptions: its __init__, its __new__, its line -/
inductive BaseI : String → String → String → List Value → Prop
  | val : BaseI "ValueError" "ValueError.__init__" "ValueError.__new__" [.type "ValueError", .type "Exception", .type "BaseException", .type "object"]
  | loo : BaseI "LookupError" "LookupError.__init__" "LookupError.__new__" [.type "LookupError", .type "Exception", .type "BaseException", .type "object"]
  | ari : BaseI "ArithmeticError" "ArithmeticError.__init__" "ArithmeticError.__new__" [.type "ArithmeticError", .type "Exception", .type "BaseException", .type "object"]
section
variable {B i nw : String} {tl : List Value}
theorem BaseI.kx (h : BaseI B i nw tl) : PySem.W.KxsFacts B i := by
  cases h
  · exact PySem.W.kxs_ValueError
  · exact PySem.W.kxs_LookupError
  · exact PySem.W.kxs_ArithmeticError
theorem BaseI.eb (h : BaseI B i nw tl) : PySem.ExcBaseFacts B nw i tl := by
  cases h
  · exact PySem.F.excBase_ValueError
  · exact PySem.F.excBase_LookupError
  · exact PySem.F.excBase_ArithmeticError
theorem BaseI.sf (h : BaseI B i nw tl) : PySem.StoreFacts B tl "object.__setattr__" "object" := by
  cases h
  · exact PySem.F.store_ValueError
  · exact PySem.F.store_LookupError
  · exact PySem.F.store_ArithmeticError
end
/-- what the written part says of such a class -/
structure OexG (K : PySem.W.Frag) (C : Addr) (nw : String) (tl : List Value) : Prop where
  cls : ∃ nm q N bs bm sn sub ab col dd k0 k1 k2 k3 k5, K.lookup C = some (excClassObj nm q C N bs bm true sn sub ab col dd k0 k1 k2 k3 k5 nw) ∧ PySem.W.excTail tl bm = true
  sa : PySem.W.findIn K (.ref C) "__setattr__" = some (some (.builtin "object.__setattr__"))
  exC : PySem.W.subIn K (.ref C) (.type "BaseException") = some true
  tyC : PySem.W.typeIn K (.ref C) = some (.type "type")
  kC : PySem.W.keepIn K (.ref C) = true
section
variable {X : Cx} {pins : List (Addr × Obj)} {σ : L2.St} {H : Hp} {s : Shared} {a C : Addr} {f : Str} {y : V} {u : Value} {Q : Unit → Shared → Prop} {E : Value → Shared → Prop} {A : Around} {B i nw : String} {tl : List Value}
theorem upd_twice {H : Hp} {a dx : Addr} {o p q : HO} (h : dx ≠ a) : upd (upd (upd H dx o) a p) dx q = upd (upd H dx q) a p := by
  funext b
  by_cases e1 : b = dx
  · subst e1
    rw [upd_same, upd_ne h, upd_same]
  · rw [upd_ne e1]
    by_cases e2 : b = a
    · subst e2
      rw [upd_same, upd_same]
    · rw [upd_ne e2, upd_ne e2, upd_ne e1, upd_ne e1]
/-- self.f = y, the first one -/
theorem fld_new (hB : BaseI B i nw tl) (T : OexG X.K C nw tl) (I : Inv X pins σ H s) (e : H a = some (exo a C none)) (hno : PySem.W.findIn X.K (.ref C) f = some none) (ry : RelV y u)
    (h : ∀ dx s', H dx = none → dx ≠ a → Inv X pins σ (upd (upd H dx (exd dx [(f, y)])) a (exo a C (some dx))) s' → Q () s') : wpAny (model X.prog X.w) A (setAttr (.ref a) f u) Q E s := by
  obtain ⟨nm, q, N, bs, bm, sn, sub, ab, col, dd, k0, k1, k2, k3, k5, hC, hbm⟩ := T.cls
  have hcl : PySem.W.clsIn X.K C = some { name := nm, bases := bs, mro := .ref C :: bm, ns := N, qualname := q, hasDict := true, slotNames := sn, subclasses := sub, abstract := ab, collection := col, hasDel := false } := by unfold PySem.W.clsIn; rw [hC] <;> rfl
  obtain ⟨t1, ho⟩ := exo_at I.hok e
  obtain ⟨hp, g, d, t, os⟩ := s
  have hov : PySem.W.excOver X.K C tl = true := by
    unfold PySem.W.excOver
    rw [hcl]
    show ((C == C) && PySem.W.excTail tl bm) = true
    rw [hbm, beq_self_eq_true]; rfl
  have htk : PySem.W.takerIn X.K C f = some none := by
    unfold PySem.W.takerIn
    rw [hno]; rfl
  refine PySem.W.set_plain I.kIn (ox := { cls := .ref C, dict := none, data := .fields #[.ref t1, .none, .none, .none, .bool false, .none] }) (od := none) ⟨ho, rfl, rfl, trivial⟩ T.sa ?_
  refine PySem.W.osa_openX (ox := { cls := .ref C, dict := none, data := .fields #[.ref t1, .none, .none, .none, .bool false, .none] }) (od := none) hB.sf I.kIn ⟨ho, rfl, rfl, trivial⟩ hov htk fun b => ?_
  refine wpAny_bind (wpAny_pure (wpAny_bind (PySem.W.instanceDict_exc (t := t1) (c2 := .none) ho (PySem.W.looks_clsIn I.kIn hcl) rfl ?_)))
  have hn : H hp.objs.size = none := I.hok.fresh (Nat.le_refl _)
  have hda : hp.objs.size ≠ a := fun z => by rw [z, e] at hn; cases hn
  have ho1 : (hp.push (PySem.W.dictOf [] 0)).get? a = some { cls := .ref C, dict := none, data := .fields #[.ref t1, .none, .none, .none, .bool false, .none] } := Heap.get?_push_of_some _ ho
  have hd1 : (hp.push (PySem.W.dictOf [] 0)).get? hp.objs.size = some (PySem.W.dictOf [] 0) := Heap.get?_push_at rfl rfl
  have hN0 : (hp.push (PySem.W.dictOf [] 0)).Ns hp.objs.size (fun _ => none) := ⟨_, #[], _, hd1, rfl, fun e he => absurd he (by simp), fun _ => rfl⟩
  have I1 : Inv X pins σ (upd H hp.objs.size (exd hp.objs.size [])) ⟨hp.push (PySem.W.dictOf [] 0), g, d, t, os⟩ :=
    I.laid (t' := t) (a := hp.objs.size) (h' := hp.push (PySem.W.dictOf [] 0)) (fun b o z => Heap.get?_push_of_some _ z) (Nat.le_refl _) (exd_ok (Heap.Ns1.of_empty hN0) fun _ => True.intro)
  have ea1 : upd H hp.objs.size (exd hp.objs.size []) a = some (exo a C none) := by rw [upd_ne hda.symm, e]
  have ho2 : ((hp.push (PySem.W.dictOf [] 0)).update a fun o => { o with dict := some hp.objs.size }).get? a = some { cls := .ref C, dict := some hp.objs.size, data := .fields #[.ref t1, .none, .none, .none, .bool false, .none] } := Heap.get?_update_self _ ho1 rfl
  have I2 : Inv X pins σ (upd (upd H hp.objs.size (exd hp.objs.size [])) a (exo a C (some hp.objs.size))) ⟨(hp.push (PySem.W.dictOf [] 0)).update a fun o => { o with dict := some hp.objs.size }, g, d, t, os⟩ :=
    I1.write (t' := t) (x := a) (e := a) (by rw [ea1]; exact True.intro) (.inl rfl) (fun b o hb z => (Heap.get?_update_ne _ _ _ _ hb).trans z) ⟨_, ho2⟩ (exo_ok ho2)
  have ed2 : upd (upd H hp.objs.size (exd hp.objs.size [])) a (exo a C (some hp.objs.size)) hp.objs.size = some (exd hp.objs.size []) := by rw [upd_ne hda, upd_same]
  have hN2 : ((hp.push (PySem.W.dictOf [] 0)).update a fun o => { o with dict := some hp.objs.size }).Ns hp.objs.size (fun _ => none) := ⟨_, #[], _, (Heap.get?_update_ne _ _ _ _ hda).trans hd1, rfl, fun e he => absurd he (by simp), fun _ => rfl⟩
  show wpAny _ _ (Builtin.ObjectAttr.storeInDict hp.objs.size (.str f _) f u) _ _ _
  refine PySem.PX.store_in_new hN2 fun h' tk' hn' hs => ?_
  have hd3 : ∃ o, h'.get? hp.objs.size = some o := by
    obtain ⟨o, _, _, e', _⟩ := hn'
    exact ⟨o, e'⟩
  have I3 := I2.write (t' := tk') (x := hp.objs.size) (e := hp.objs.size) (o := exd hp.objs.size [(f, y)]) (h' := h') (by rw [ed2]; exact True.intro) (.inl rfl) (fun b o hb z => (hs.2 b hb).trans z) hd3 (exd_ok hn' (relO_put (fs := []) ry fun g => True.intro))
  rw [upd_twice hda] at I3
  exact h _ _ hn hda I3
/-- self.f = e, the first one -/
def tFld (K : PySem.W.Frag) (f : Str) (to te : TE) : TS := fun D σ H => te σ H fun y H1 => to σ H1 fun x H2 => ∃ (a C : Addr) (B i nw : String) (tl : List Value), x = .ref a ∧ BaseI B i nw tl ∧ OexG K C nw tl ∧ PySem.W.findIn K (.ref C) f = some none ∧
  H2 a = some (exo a C none) ∧ ∀ dx, H2 dx = none → dx ≠ a → D.nx σ (upd (upd H2 dx (exd dx [(f, y)])) a (exo a C (some dx)))
end
section
variable {X : Cx} {o e : Expr} {es : List Expr} {to te : TE} {ta : TA} {f : Str} {p p' p1 p2 pos : Pos}
theorem ps_fld (ho : PE X o to) (he : PE X e te) (hs : swapsWith e (some (.Attribute o f p')) pos.line X.env = pure false := by rfl) : PS X (.Assign [.Attribute o f p'] e pos) (tFld X.K f to te) := by
  refine ⟨fun pins s σ H D I h => ?_⟩
  refine plainObj_wpAny_Assign_Attribute (thn (he.run pins s σ H _ I h) fun v s1 ⟨y, H1, I1, r1, q1⟩ => thn (ho.run pins s1 σ H1 _ I1 q1) fun u s2 ⟨x, H2, I2, r2, a, C, B, i, nw, tl, ex, hB, T, hno, ea, q⟩ => ?_) hs
  subst ex
  obtain rfl : u = Value.ref a := r2
  exact fld_new hB T I2 ea hno r1 fun dx s' n ne J => ⟨σ, _, J, q dx n ne⟩
end
end M
namespace M
open PySem PySem.Spec PyProof.Rows L2 NdefX
def xiBody (g fld : Str) (p0 p1 p2 p3 p4 p5 p6 p7 p8 p9 : Pos) : List Stmt :=
  [.Expr (.Call (.Attribute (.Call (.Name "super" p0) [] [] p1) "__init__" p2) [.Name g p3] [] p4) p5, .Assign [.Attribute (.Name "self" p6) fld p7] (.Name g p8) p9]
def spXI (C : Addr) (fld : Str) : Sp := fun vs H Q _ => ∃ (a : Addr) (y : V), vs = [.ref a, y] ∧ H a = some (exo a C none) ∧ ∀ dx, H dx = none → dx ≠ a → Q .non (upd (upd H dx (exd dx [(fld, y)])) a (exo a C (some dx)))
/-- what is known of the class C and its __init__ -/
structure XiK (P : Program) (K : PySem.W.Frag) (mg : Str → Option Value) (C f : Addr) (fd : FuncData) (g fld : Str) : Prop where
  ex : ∃ (qual : Str) (params : Arguments) (scope : Scope) (dV kV doc pm ct oc : Value) (an od : Option Addr) (osl : Array (Option Value)) (cc cda : Addr) (p0 p1 p2 p3 p4 p5 p6 p7 p8 p9 : Pos)
    (cl ccl : Value) (cld cdd : Option Addr) (csl ccs : Array (Option Value)) (vs : Array Value) (file : Str) (tf : Tok) (ar : Arg),
    fd = PySem.W.fnX "__init__" qual params (xiBody g fld p0 p1 p2 p3 p4 p5 p6 p7 p8 p9) scope [("__class__", cc)] dV kV doc pm an (.ref cda) ct ∧
    K.lookup f = some ⟨oc, od, .func fd, osl⟩ ∧ PySem.W.codeIn K (.ref cda) qual = true ∧ NScope ["self", g, "__class__"] ["self", g] ["__class__"] scope ∧ scope.names.lookup ("super" : Str) = some .globalImplicit ∧
    K.lookup cc = some ⟨cl, cld, .cell (some (.ref C)), csl⟩ ∧ K.lookup cda = some ⟨ccl, cdd, .fields vs, ccs⟩ ∧ vs[2]? = some (.str file tf) ∧ ((P.main.file : Str) == file) = true ∧
    (params.posonlyargs ++ params.args).head? = some ar ∧ ar.arg = "self" ∧ (p2.endLine == p4.line) = true ∧ (g == ("__debug__" : Str)) = false ∧ (g == ("__classdict__" : Str)) = false
  top : (P.main.scope.names.lookup ("super" : Str)).isSome = false
  nsup : mg "super" = none
  bs : ∃ B i nw tl, BaseI B i nw tl ∧ OexG K C nw tl ∧ PySem.W.ks_superIn K C C "__init__" = some (some (.builtin i)) ∧ PySem.W.subIn K (.ref C) (.type B) = some true
  op : PySem.W.nsIn K cStatics "thirdparty.any" = some none
  mro : PySem.W.mroIn K C (.ref C) = some true
  no : PySem.W.findIn K (.ref C) fld = some none
open PySem.W in
theorem xi_fn {P : Program} {w : World} {K : PySem.W.Frag} {mg : Str → Option Value} {base : Heap} {C f : Addr} {fd : FuncData} {g fld : Str} (h : XiK P K mg C f fd g fld) (k : Nat) : FnOk P w K mg base CX0 (k + 1) f fd ["self", g] (spXI C fld) := by
  obtain ⟨⟨qual, params, scope, dV, kV, doc, pm, ct, oc, an, od, osl, cc, cda, p0, p1, p2, p3, p4, p5, p6, p7, p8, p9, cl, ccl, cld, cdd, csl, ccs, vs, file, tf, ar, rfl, lk, hcd, S, hsup, hcell, hcode, hvs, hfile, hpar, har, hln, hgd, hgc⟩, htop, hnsup, ⟨B, i, nw, tl, hB, T, hsi, hsb⟩, hop, hmro, hno⟩ := h
  have hKx := hB.kx
  have hEb := hB.eb
  refine ⟨fun vs H Q E ⟨a, y, e, _⟩ => by rw [e]; rfl, fun A outer s H args us vs1 Q E hr e0 hb rv hsp => ?_⟩
  obtain ⟨a, y, rfl, ha, hq⟩ := hsp
  obtain ⟨nm, q, N0, bs, bm, sn, sub, ab, col, dd, k0, k1, k2, k3, k5, hC, hbm⟩ := id T.cls
  have KX : K.In s.heap := e0.mod.kin.keeps fun b o e => (e0.bs b o e).1
  let F : NF := ⟨"__init__", qual, params, xiBody g fld p0 p1 p2 p3 p4 p5 p6 p7 p8 p9, scope, [("__class__", cc)], cda⟩
  have hC0 : CellsAt F.cl ["__class__"] [none] s.heap H := by
    refine ⟨rfl, fun y c e => ?_, fun x y c e1 e2 => ?_, fun i y e => ?_⟩
    · have e' : c = cc := by
        simp only [F, List.lookup] at e
        split at e <;> simp_all
      subst e'
      exact ⟨(e0.bs _ _ (e0.mod.kin _ _ hcell)).2, _, ⟨_, KX _ _ hcell, rfl⟩⟩
    · simp only [F, List.lookup] at e1 e2
      split at e1 <;> split at e2 <;> simp_all
    · cases i with
      | zero =>
        have e' : y = "__class__" := by simpa using e.symm
        subst e'
        exact ⟨cc, rfl, fun v z => by simp at z⟩
      | succ i => simp at e
  cases rv with
  | @cons _ u0 _ ur ra rw' =>
    obtain rfl : u0 = Value.ref a := ra
    cases rw' with
    | @cons _ u1 _ ur2 r1 r2 =>
      cases r2
      refine ks_codeAny_call_defAt (fd := fnX "__init__" qual params (xiBody g fld p0 p1 p2 p3 p4 p5 p6 p7 p8 p9) scope [("__class__", cc)] dV kV doc pm an (.ref cda) ct) (body := F.body) (binds := [("self", Value.ref a), (g, u1)]) hr.depth (KX _ _ lk) rfl (e0.mod.nolimit.keeps fun b o e => (e0.bs b o e).1) (codeRec_of KX hcd) rfl hb S.nocell (fun z hz => S.par z.1 ?_) (fun h₁ hns kp => ?_) S.co S.gen S.kind
      · rcases List.mem_cons.mp hz with rfl | hz
        · simp
        · rcases List.mem_cons.mp hz with rfl | hz
          · simp
          · cases hz
      have I0 : Inv (ncx CX0 P w K mg base ["self", g, "__class__"] F f A outer s H E) [] (startF ["self", g, "__class__"] [.ref a, y] [none]) H { s with heap := h₁, toks := s.toks + 2 } :=
        inv_startN (F := F) (us := [.ref a, u1]) S hr.hd e0 rfl (.cons rfl (.cons r1 .nil)) hC0 hns kp
      show _root_.PySem.wpAt (model P w) (A.deeper (envF F f s.heap.objs.size)) (.func F.body (envF F f s.heap.objs.size)) (execs F.body (envF F f s.heap.objs.size)) _ _ _
      have hks : (envF F f s.heap.objs.size).kindOf "super" = some .globalImplicit := hsup
      have hkc : (envF F f s.heap.objs.size).kindOf "__class__" = some .free := S.frk "__class__" (by simp)
      have hksf : (envF F f s.heap.objs.size).kindOf "self" = some .local := S.par "self" (by simp)
      have hi : interactive (envF F f s.heap.objs.size) = false := by
        have : (envF F f s.heap.objs.size).scope.kind = .function := S.kind
        unfold interactive
        rw [this]; rfl
      have he : eval (.Call (.Attribute (.Call (.Name "super" p0) [] [] p1) "__init__" p2) [.Name g p3] [] p4) (envF F f s.heap.objs.size) = (do
          let ov ← attributeBase (.Call (.Name "super" p0) [] [] p1) "__init__" (envF F f s.heap.objs.size) (eval (.Call (.Name "super" p0) [] [] p1) (envF F f s.heap.objs.size))
          standAt p2.atName
          let (fv, first) ← holding [ov] (getMethod ov "__init__" (do return (← importBound (.Call (.Name "super" p0) [] [] p1) (envF F f s.heap.objs.size)).getD true))
          callWith p4 fv first (backTo p4 (starEach [.Name g p3] (envF F f s.heap.objs.size))) []) := by
        show (do
          let ov ← attributeBase (.Call (.Name "super" p0) [] [] p1) "__init__" (envF F f s.heap.objs.size) (eval (.Call (.Name "super" p0) [] [] p1) (envF F f s.heap.objs.size))
          standAt p2.atName
          methodCall (.Call (.Name "super" p0) [] [] p1) "__init__" p2 p4 (envF F f s.heap.objs.size) ov 1 (backTo p4 (starEach [.Name g p3] (envF F f s.heap.objs.size))) []) = _
        have hf1 : methodCallForm 1 (backTo p4 (starEach [.Name g p3] (envF F f s.heap.objs.size))) [] = true := rfl
        unfold methodCall methodCallPos calleeOf
        simp only [hf1, hln, Bool.not_true, Bool.false_or, if_true, pure_bind]
      refine ks_wpAt_execs_cons (ks_wpAt_Expr_any (ks_wpAt_MethodCall (name := "__init__") ?_ he) hi)
      obtain ⟨oD, hD1, hD2⟩ : ∃ oD, h₁.get? C = some oD ∧ oD.data = .cls { name := nm, bases := bs, mro := .ref C :: bm, ns := N0, qualname := q, hasDict := true, slotNames := sn, subclasses := sub, abstract := ab, collection := col, hasDel := false } := ⟨_, kp _ _ (KX _ _ hC), rfl⟩
      refine ks_wpAt_super_base (env := envF F f s.heap.objs.size) hks hkc rfl rfl (kp _ _ (KX _ _ lk)) rfl hpar rfl (kp _ _ (KX _ _ hcode)) rfl hvs hfile htop ?_
      have hmod := e0.mod
      have kb : ∀ b o, base.get? b = some o → h₁.get? b = some o := fun b o e => kp _ _ (e0.bs b o e).1
      obtain ⟨mb, hmb1, hmb2⟩ := hmod.blt
      refine ks_loadName_global S.kind hks (Calls.loadGlobal_builtin (env := envF F f s.heap.objs.size) (hmod.glob.keeps kb) hnsup (hmb1.keeps kb) ((hmb2 _ (by decide +kernel)).trans (by first | rfl | kernel_rfl)) ⟨rfl, ?_⟩)
      refine wpAny_loadName_free S.kind hkc rfl ⟨_, kp _ _ (KX _ _ hcell), rfl⟩ ?_
      rw [har]
      have hgs : (("self" : Str) == g) = false := by
        have := S.nd
        simp only [List.nodup_cons, List.mem_cons, not_or] at this
        exact beq_eq_false_iff_ne.mpr this.1.1
      refine wpAny_loadName_local S.kind hksf hns (v := .ref a) (by simp only [List.reverse_cons, List.reverse_nil, List.nil_append, List.cons_append, List.lookup, hgs]; simp) ?_
      refine ks_wpAny_isType_cls hD1 hD2 ⟨rfl, ?_⟩
      obtain ⟨t1, hox⟩ := exo_at e0.hok ha
      have hcl : clsIn K C = some { name := nm, bases := bs, mro := .ref C :: bm, ns := N0, qualname := q, hasDict := true, slotNames := sn, subclasses := sub, abstract := ab, collection := col, hasDel := false } := by unfold PySem.W.clsIn; rw [hC] <;> rfl
      have X1 : K.In h₁ := KX.keeps kp
      refine ks_wpAny_call_super hD1 hD2 (kp _ _ hox) rfl (fun c e => by cases e) (looks_mroIn X1 hmro) (fun h2 hso kp2 => ?_)
      have X2 : K.In h2 := X1.keeps kp2
      have LT : ∀ hh, hh.get? a = some ({ cls := .ref C, dict := none, data := .fields #[.ref t1, .none, .none, .none, .bool false, .none] } : Obj) → Looks (model P w) hh (typeOf (.ref a)) (.ref C) := fun hh ho A Q E s k q => wpAny_typeOf_ref (k _ _ ho) q
      have hsi2 : alongIn K "__init__" (((Value.ref C :: bm).dropWhile (· != .ref C)).drop 1) = some (some (.builtin i)) := by
        unfold ks_superIn at hsi
        rw [hcl] at hsi
        exact hsi
      have hac : a ≠ C := by
        intro e
        have z := KX _ _ hC
        rw [← e, hox] at z
        cases z
      have hok2 := kp2 _ _ (kp _ _ hox)
      refine kxs_getMethod hKx hso (looks_opaque X2 hop) (l₀ := .ref C :: bm) (fun A Q E s k q => wpAny_bind ((looks_clsIn X2 hcl) A _ E s k (wpAny_pure q))) rfl X2 hsi2 ((LT _ hok2).andThen (looks_subIn X2 hsb)) hac rfl ?_
      have hgk : (envF F f s.heap.objs.size).kindOf g = some .local := S.par g (by simp)
      have hdbg : (g == ("__debug__" : Str)) = false := hgd
      have he2 : starEach [.Name g p3] (envF F f s.heap.objs.size) = (false, eval (.Name g p3) (envF F f s.heap.objs.size)) :: starEach [] (envF F f s.heap.objs.size) := rfl
      show wpAny _ _ (callWith p4 (.ref h2.objs.size) [] (backTo p4 (starEach [.Name g p3] (envF F f s.heap.objs.size))) []) _ _ _
      rw [he2]
      refine kxs_callWith (i := i) (x := a) rfl (Calls.evalArgs_plain ?_)
      have kp3 : ∀ b o, h2.get? b = some o → (h2.push (kxs_mw i a)).get? b = some o := fun b o e => Heap.get?_push_of_some _ e
      have hmw : (h2.push (kxs_mw i a)).get? h2.objs.size = some (kxs_mw i a) := Heap.get?_push_at rfl rfl
      have I1 : Inv (ncx CX0 P w K mg base ["self", g, "__class__"] F f A outer s H E) [] (startF ["self", g, "__class__"] [.ref a, y] [none]) H { s with heap := h2.push (kxs_mw i a), toks := s.toks + 2 + 1 } := I0.kept fun b o e => kp3 b o (kp2 b o e)
      show wpAny _ _ (spliced ((false, _) :: backTo p4 (starEach [] (envF F f s.heap.objs.size)))) _ _ _
      refine Calls.spliced_cons (wpAny_Name (wpAny_loadName_local S.kind hgk (hns.keeps fun b o e => kp3 b o (kp2 b o e)) (v := u1) (by simp [List.lookup]) ?_) hdbg)
      refine Calls.spliced_nil ⟨hmw, ?_⟩
      have X3 : K.In (h2.push (kxs_mw i a)) := X2.keeps kp3
      have hox3 := kp3 _ _ hok2
      refine wpAny_call (codeAny_of_tree ?_)
      show wpAny _ (A.deeper (envF F f s.heap.objs.size)).in1 (callAny (.ref h2.objs.size) ⟨[u1], []⟩) _ _ _
      simp only [callAny]
      refine wpAny_bind (wpAny_load hmw ?_)
      simp only [kxs_mw, show (Value.type "method-wrapper" == Value.type "method" || Value.type "method-wrapper" == Value.type "builtin_function_or_method" || Value.type "method-wrapper" == Value.type "method-wrapper") = true by decide, if_true]
      refine KFB.if_so (by decide) ?_
      refine wpAny_bind (check_bound_init hEb.toExcCallFacts (X3 _ _ hC) hox3 rfl ?_)
      refine wpAny_bind (wpAny_pure (wpAny_pure ?_))
      refine ⟨plainId_quiet hEb.init.plain _, codeAny_builtin hEb.initEntry ?_⟩
      refine exc_init_tree (cls := .ref C) (t0 := t1) (dv := none) (c2 := .none) (c3 := .none) (b4 := .bool false) hox3 (by rw [PySem.sizeLine_eq]; show 1 ≤ 16777216; decide) (fun h4 k4 hx4 _ => ?_)
      have J0 := I1.write (t' := s.toks + 2 + 1) (x := a) (e := a) (o := exo a C none) (by rw [ha]; exact True.intro) (.inl rfl) k4 ⟨_, hx4⟩ (exo_ok hx4)
      have eu : upd H a (exo a C none) = H := by
        funext b
        by_cases hb : b = a
        · rw [hb, upd_same, ha]
        · rw [upd_ne hb]
      rw [eu] at J0
      show _root_.PySem.wpAt _ _ _ (execs [.Assign [.Attribute (.Name "self" p6) fld p7] (.Name g p8) p9] (envF F f s.heap.objs.size)) _ _ _
      have hv0 : Vis scope "self" := .inl (S.par "self" (by simp))
      have hv1 : Vis scope g := .inl (S.par g (by simp))
      have hst := pss_one (ps_fld (X := ncx CX0 P w K mg base ["self", g, "__class__"] F f A outer s H E) (p' := p7) (pos := p9) (f := fld) (pe_var (i := 0) (x := "self") (pos := p6) rfl hv0 (by decide) (by decide)) (pe_var (i := 1) (x := g) (pos := p8) rfl hv1 hgd hgc))
      refine wpAt_of_wpAny (wpAny_mono (hst.run [] _ _ H { nx := fun _ H' => Q .non H', rt := Q } J0 ⟨y, rfl, .ref a, rfl, a, C, B, i, nw, tl, rfl, hB, T, hno, ha, fun dx n ne => hq dx n ne⟩) (fun fl s' hs => ?_) fun e s' z => ?_)
      · have fin : ∀ {σ' : L2.St} {H' : Hp} {v : V} {u : Value}, Inv (ncx CX0 P w K mg base ["self", g, "__class__"] F f A outer s H E) [] σ' H' s' → RelV v u → Q v H' → CE outer P w H s Q u s' := fun {σ' H' v u} J rv q => ⟨v, H', J.os, J.bare, J.base, J.hok, rv, q⟩
        cases fl with
        | next =>
          obtain ⟨σ', H', J, q⟩ := hs
          exact fin (v := V.non) (u := Value.none) J rfl q
        | ret u =>
          obtain ⟨v, σ', H', J, rv, q⟩ := hs
          exact fin J rv q
        | brk =>
          obtain ⟨_, _, _, q⟩ := hs
          exact False.elim q
        | cont =>
          obtain ⟨_, _, _, q⟩ := hs
          exact False.elim q
      · exact z
end M
namespace M
open PySem PySem.Spec PyProof.Rows L2
/-- an exception of the class number c that keeps vs -/
structure ExV (W : Wd) (F : AS) (H : Hp) (c : Nat) (vs : List Dat) (cls : Value) (d : Option Addr) : Prop where
  ex : ∃ (A : Addr) (fs : List (Str × V)), W.mg (W.T.cn c) = some (.ref A) ∧ cls = .ref A ∧ ExD H d fs ∧ fs.map (·.1) = (W.T.fl c).take vs.length ∧ Reps W F H NoA vs (fs.map (·.2))
/-- a def that may raise and changes nothing of what it is given -/
abbrev SpFX := List Dat → (Dat → Prop) → (Nat → List Dat → Prop) → Prop
def spFX (W : Wd) (sp : SpFX) : Sp := fun vs H Q E => ∃ F ds Qd Ed, Reps W F H NoA ds vs ∧ (FL F H ∧ TbOk W.tb H) ∧ sp ds Qd Ed ∧ (∀ r F' H' fr v, Qd r → Rep W F' H' fr r v → Step W F H NoA F' H' fr → Q v H') ∧
  ∀ c gs F' H' fr cls d, Ed c gs → ExV W F' H' c gs cls d → Step W F H NoA F' H' fr → E cls d H'
structure FnFX (C : Ctx) (x : Str) (j : Nat) (sp : SpFX) : Prop where
  ex : ∃ f fd ps, C.mg x = some (.ref f) ∧ PySem.W.keepIn C.K (.ref f) = true ∧ Binds C.K fd ps [] ∧ FnOk C.P C.w C.K C.mg C.base (L2.CX C.P C.w) j f fd ps (spFX C.W sp)
section
variable {C : Ctx} {W : Wd} {D : Ends} {Wx : WX} {pr p1 p2 p3 : Bool} {F F' F1 F2 : AS} {H H' H1 H2 : Hp} {fp fp' fe fe1 fe2 fd fd1 fd2 : AS} {σ σ1 σ' : L2.St} {env env1 env2 : Env} {d d1 d2 : Dat} {v v1 v2 : V}
variable {a b c o e tg iter : Expr} {es : List Expr} {pos p : Pos} {wa wb wc : LE} {ta tb t : LT} {ws : LA} {st : Stmt} {rest body : List Stmt}
/-- where it raises nothing -/
theorem FnFX.calm {x : Str} {j : Nat} {sp : SpFX} (h : FnFX C x j sp) : FnF C x j (fun ds Q => sp ds Q fun _ _ => False) := by
  obtain ⟨f, fd, ps, h1, h2, h3, h4⟩ := h.ex
  have conv : ∀ vs H Q E, spF C.W (fun ds Q => sp ds Q fun _ _ => False) vs H Q E → spFX C.W sp vs H Q (fun _ _ _ => False) := fun vs H Q E ⟨F, ds, Qd, a, b, c, q⟩ => ⟨F, ds, Qd, _, a, b, c, q, fun _ _ _ _ _ _ _ z => z.elim⟩
  refine ⟨f, fd, ps, h1, h2, h3, ⟨fun vs H Q E z => h4.len vs H Q _ (conv vs H Q E z), fun A outer s H args us vs Q E hr e0 hb rv z => ?_⟩⟩
  refine codeAny_mono (h4.run A outer s H args us vs Q _ hr e0 hb rv (conv vs H Q E z)) fun r s' q => ?_
  cases r with
  | ok fl => cases fl <;> exact q
  | error e =>
    obtain ⟨_, _, _, _, _, _, _, _, _, _, _, _, z⟩ := (show L2.CX C.P C.w outer H s (fun _ _ _ => False) e s' from q)
    exact z.elim
structure SKX extends SK where
  ex : Nat → List Dat → Env → Prop
abbrev LSX := Env → SKX → Prop
/-- behind a statement that raised -/
structure Sx (C : Ctx) (σ : L2.St) (F : AS) (H : Hp) (fp : AS) (env : Env) (F' : AS) (H' : Hp) (fe : AS) (c : Nat) (gs : List Dat) (cls : Value) (d : Option Addr) (σ' : L2.St) : Prop where
  sn : Sn C σ F H fp env F' H' fe σ'
  ev : ExV C.W F' H' c gs cls d
structure KoX (C : Ctx) (Wx : WX) (D : Ends) (σ : L2.St) (F : AS) (H : Hp) (fp : AS) (k : SKX) : Prop where
  ko : Ko C D σ F H fp k.toSK
  ex : ∀ c gs env F' H' fe cls d σ', k.ex c gs env → Sx C σ F H fp env F' H' fe c gs cls d σ' → Wx cls d σ' H'
def liftX (C : Ctx) (Wx : WX) (w : LSX) : TS := fun D σ H => ∃ F fp env k, Sl C.W F H fp env σ ∧ Ok C.W F H fp ∧ w env k ∧ KoX C Wx D σ F H fp k
def JX (C : Ctx) (st : Stmt) (w : LSX) : Prop := ∀ X Wx, Gd C X → L2.Takes X Wx → PS X st (liftX C Wx w)
def JXs (C : Ctx) (sts : List Stmt) (w : LSX) : Prop := ∀ X Wx, Gd C X → L2.Takes X Wx → PSs X sts (liftX C Wx w)
theorem KoX.later {k : SKX} (h : KoX C Wx D σ F H fp k) (x : Sn C σ F H fp env1 F1 H1 fe σ1) : KoX C Wx D σ1 F1 H1 fe k :=
  ⟨h.ko.later x, fun c gs env F' H' fe' cls d σ' hk y => h.ex c gs env F' H' fe' cls d σ' hk ⟨x.trans y.sn, y.ev⟩⟩
theorem JX.imp {w w' : LSX} (h : JX C st w) (i : ∀ env k, w' env k → w env k) : JX C st w' := fun X Wx g tk => PS_imp (h X Wx g tk) fun D σ H ⟨F, fp, env, k, sl, ok, hw, q⟩ => ⟨F, fp, env, k, sl, ok, i _ _ hw, q⟩
theorem JXs.imp {ss : List Stmt} {w w' : LSX} (h : JXs C ss w) (i : ∀ env k, w' env k → w env k) : JXs C ss w' := fun X Wx g tk => PSs_imp (h X Wx g tk) fun D σ H ⟨F, fp, env, k, sl, ok, hw, q⟩ => ⟨F, fp, env, k, sl, ok, i _ _ hw, q⟩
end
end M
set_option maxHeartbeats 2000000
namespace M
namespace EK
open PySem PySem.Spec PyProof.Rows PySem.PX
section
variable {M : Model} {A : Around} {E : Value → Shared → Prop} {h : Heap} {g : Array GenState} {d : Drawn} {t : Nat} {os : OsState}
variable {nm q : Str} {C N : Addr} {bs bm bmB : List Value} {hdct : Bool} {sn : List Str} {sub : List Value} {ab : Bool} {col : Option Bool} {dd : Option Addr} {k0 k1 k2 k3 k5 : Option Value} {B newId initId : String}
theorem chk_new (F : ExcBaseFacts B newId initId bmB) (hT : ∀ X : String, bm.contains (.type X) = bmB.contains (.type X)) {rest : List Value} {kw : List (Str × Value)} {Q : Unit → Shared → Prop}
    (hC : h.get? C = some (excClassObj nm q C N bs bm hdct sn sub ab col dd k0 k1 k2 k3 k5 newId)) (hq : Q () ⟨h, g, d, t, os⟩) : wpAny M A (checkBuiltinCall newId ⟨.ref C :: rest, kw⟩) Q E ⟨h, g, d, t, os⟩ := by
  have hcont : (Value.ref C :: bm).contains (.type B) = true := by rw [List.contains_cons, hT, F.hasB, Bool.or_true]
  have hstar := F.noStar
  simp only [checkBuiltinCall, F.newKind, F.newSplit, F.newRow]
  repeat (first | refine wpAny_loadPart_at hC ?_ | (refine wpAny_isSubtype_exc hC ?_; rw [hcont]) | refine wpAny_staticBase_exc hC ?_ | refine wpAny_madeBy_exc hC ?_ | simp only [bne_self_eq_false, Bool.false_eq_true, if_false] | wp_step)
  exact hq
end
section
variable {prog : Program} {w : World} {A : Around} {E : Value → Shared → Prop} {R : Result → Shared → Prop} {h : Heap} {g : Array GenState} {d : Drawn} {t : Nat} {os : OsState}
variable {nm q : Str} {C N : Addr} {bs bm bmB : List Value} {hdct : Bool} {sn : List Str} {sub : List Value} {ab : Bool} {col : Option Bool} {dd : Option Addr} {k0 k1 k2 k3 k5 : Option Value} {B newId initId : String}
theorem new_kw (F : ExcBaseFacts B newId initId bmB) (hT : ∀ X : String, bm.contains (.type X) = bmB.contains (.type X)) {rest : List Value} {kw : List (Str × Value)}
    (hC : h.get? C = some (excClassObj nm q C N bs bm hdct sn sub ab col dd k0 k1 k2 k3 k5 newId))
    (hq : R (.ok (.ret (.ref (h.objs.size + 1)))) ⟨(h.push { cls := .type "tuple", data := .seq rest.toArray }).push
      { cls := .ref C, data := .fields #[.ref h.objs.size, .none, .none, .none, .bool false, .none] }, g, d, t, os⟩) (hrest : rest.length ≤ sizeLine) :
    codeAny (model prog w) A (.builtin newId ⟨.ref C :: rest, kw⟩) R ⟨h, g, d, t, os⟩ := by
  have hends := F.ends
  have hcB : (Value.ref C :: bm).contains (.type B) = true := by rw [List.contains_cons, hT, F.hasB, Bool.or_true]
  have hcA : (Value.ref C :: bm).contains (.type "AttributeError") = false := by rw [List.contains_cons, hT, F.noAttr]; rfl
  have hcN : (Value.ref C :: bm).contains (.type "NameError") = false := by rw [List.contains_cons, hT, F.noName]; rfl
  refine codeAny_builtinAt F.entry ?_
  unfold Builtin.«BaseException.__new__»
  refine _root_.PySem.wpAt_bind ?_
  show _root_.PySem.wpAt _ _ _ (stack >>= _) _ _ _
  refine _root_.PySem.wpAt_bind (_root_.PySem.wpAt_stack fun p below => _root_.PySem.wpAt_of_wpAny ?_)
  wp_walk
  refine _root_.PySem.wpAt_of_wpAny ?_
  rw [F.owner]
  repeat (first | with_reducible refine wpAny_madeHere_exc F.canon hC ?_ | with_reducible refine wpAny_loadPart_at hC ?_ | (with_reducible refine wpAny_isSubtype_exc hC ?_; first | rw [hcB] | rw [hcA] | rw [hcN]) | wp_step)
  show R _ _
  rw [Heap.size_push]
  exact hq
theorem type_call_kw (F : ExcBaseFacts B newId initId bmB) (hT : ∀ X : String, bm.contains (.type X) = bmB.contains (.type X)) {rest : List Value} {kw : List (Str × Value)} {fI : Addr} {Q : Fin → Shared → Prop}
    (hC : h.get? C = some (excClassObj nm q C N bs bm hdct sn sub ab col dd k0 k1 k2 k3 k5 newId))
    (hi : W.Looks (model prog w) h (typeLookup (.ref C) "__init__") (some (.ref fI))) (hb : ∀ self, W.Looks (model prog w) h (bindSpecial (.ref fI) self) (.ref fI, [self])) (hrest : rest.length ≤ sizeLine)
    (hq : codeAny (model prog w) A (.call (.ref fI) ⟨.ref (h.objs.size + 1) :: rest, kw⟩)
      (fun r s' => match r with | .ok (.ret v) => v = .none ∧ Q (.done (.ret (.ref (h.objs.size + 1)))) s' | .ok _ => False | .error e => E e s')
      ⟨(h.push (W.kdv_tup rest)).push (PX.excO C h.objs.size), g, d, t, os⟩) :
    wpAny (model prog w) A (Builtin.«type.__call__» ⟨.ref C :: rest, kw⟩) Q E ⟨h, g, d, t, os⟩ := by
  repeat (first | with_reducible refine wpAny_loadPart_at hC ?_ | with_reducible refine wpAny_madeBy_exc hC ?_ | wp_step)
  refine codeAny_call_builtin_code (Code.quiet_builtin _ F.quiet) (chk_new F hT hC ?_)
  refine new_kw F hT hC ?_ hrest
  show wpAny _ _ _ _ _ _
  have k : ∀ b o, h.get? b = some o → ((h.push (W.kdv_tup rest)).push (PX.excO C h.objs.size)).get? b = some o := fun b o e => Heap.get?_push_of_some _ (Heap.get?_push_of_some _ e)
  have hC₁ := k _ _ hC
  have hget : ((h.push (W.kdv_tup rest)).push (PX.excO C h.objs.size)).get? (h.objs.size + 1) = some (PX.excO C h.objs.size) := by heap_get
  have hcC : (Value.ref C :: bm).contains (.ref C) = true := by simp
  have i1 := hi.keeps k
  have b1 := (hb (.ref (h.objs.size + 1))).keeps k
  unfold isInstance
  repeat (first | with_reducible refine wpAny_loadPart_at hget ?_ | (with_reducible refine wpAny_isSubtype_exc hC₁ ?_; rw [hcC]) | wp_step)
  show wpAny _ _ (typeLookup (.ref C) _) _ _ _
  refine i1.at ?_
  refine wpAny_holding (wpAny_bind (b1.at ?_))
  refine wpAny_bind (wpAny_call (codeAny_mono hq fun r s' z => ?_))
  rcases r with e | (v | _ | _ | _) <;> first | exact z | exact z.elim | skip
  obtain ⟨rfl, z⟩ := z
  first
    | exact wpAny_pure (wpAny_pure z)
    | (wp_walk; exact z)
theorem chk_type_kw {M : Model} {rest : List Value} {kw : List (Str × Value)} {Q : Unit → Shared → Prop} (hC : h.get? C = some (excClassObj nm q C N bs bm hdct sn sub ab col dd k0 k1 k2 k3 k5 newId))
    (hq : Q () ⟨h, g, d, t, os⟩) : wpAny M A (checkBuiltinCall "type.__call__" ⟨.ref C :: rest, kw⟩) Q E ⟨h, g, d, t, os⟩ := by
  have f3 := tc_sub
  have hT : (⟨h, g, d, t, os⟩ : Shared).TypeIs (.ref C) "type" := ⟨_, hC, rfl⟩
  simp only [checkBuiltinCall, tc_kind, tc_split]
  repeat (any_goals (first | assumption | with_reducible refine wpAny_loadPart_at hC ?_ | with_reducible refine wpAny_onRaise ?_ | with_reducible refine wpAny_map ?_ | wp_step))
theorem call_kw (F : ExcBaseFacts B newId initId bmB) (hT : ∀ X : String, bm.contains (.type X) = bmB.contains (.type X)) {rest : List Value} {kw : List (Str × Value)} {fI : Addr}
    (hC : h.get? C = some (excClassObj nm q C N bs bm hdct sn sub ab col dd k0 k1 k2 k3 k5 newId))
    (hi : W.Looks (model prog w) h (typeLookup (.ref C) "__init__") (some (.ref fI))) (hb : ∀ self, W.Looks (model prog w) h (bindSpecial (.ref fI) self) (.ref fI, [self])) (hrest : rest.length ≤ sizeLine)
    (hq : codeAny (model prog w) (A.under (.builtin "type.__call__" ⟨.ref C :: rest, kw⟩)) (.call (.ref fI) ⟨.ref (h.objs.size + 1) :: rest, kw⟩) (W.InitBack (h.objs.size + 1) R)
      ⟨(h.push (W.kdv_tup rest)).push (PX.excO C h.objs.size), g, d, t, os⟩) :
    codeAny (model prog w) A (.call (.ref C) ⟨rest, kw⟩) R ⟨h, g, d, t, os⟩ := by
  have f1 := tc_lookup
  have f2 := tc_bind (.ref C)
  have hTy : (⟨h, g, d, t, os⟩ : Shared).TypeIs (.ref C) "type" := ⟨_, hC, rfl⟩
  refine codeAny_of_tree ?_
  show wpAny _ _ (callAny (.ref C) _) _ _ _
  repeat (any_goals (first | assumption | with_reducible refine wpAny_loadPart_at hC ?_ | wp_step))
  refine ⟨rfl, ?_⟩
  refine codeAny_call_builtin_at (Code.quiet_builtin _ (by decide +kernel)) entry_typeCall (chk_type_kw hC (type_call_kw F hT hC hi hb hrest ?_))
  refine codeAny_mono hq fun r s' z => ?_
  rcases r with e | (v | _ | _ | _) <;> exact z
end
end EK
end M
namespace M
open PySem PySem.Spec PyProof.Rows L2 NdefX
section
variable {X : Cx} {e : Expr} {es : List Expr} {kws : List Keyword} {ta : TA} {pos p : Pos} {B i nw : String} {tl : List Value} {x : Str} {C fI : Addr} {k : Nat} {fd : FuncData} {ps ks : List Str} {π : List Nat} {sp : Sp}
/-- C(e, ..) as a value -/
def tMkV (C : Addr) (sp : Sp) (ta : TA) : TE := fun σ H Q => ta σ H fun vs H1 => vs.length ≤ 1000 ∧ ∀ a, H1 a = none → sp (.ref a :: (vs ++ [])) (upd H1 a (exo a C none)) (fun v H2 => v = .non ∧ Q (.ref a) H2) E0
theorem pe_exv (hB : BaseI B i nw tl) (T : OexG X.K C nw tl) (iC : PySem.W.findIn X.K (.ref C) "__init__" = some (some (.ref fI))) (tI : PySem.W.typeIn X.K (.ref fI) = some (.type "function"))
    (F1 : FnOk X.prog X.w X.K X.mg X.base CX0 k fI fd ps sp) (hr : Room (k + 1) X.A) (hb : Binds X.K fd ps []) (hg : Gl X x) (hm : X.mg x = some (.ref C)) (ha : PA X (e :: es) ta)
    (hdb : (x == ("__debug__" : Str)) = false) (he : starEach (e :: es) X.env = (false, eval e X.env) :: starEach es X.env) (hpl : (backTo pos (starEach es X.env)).any (·.1) = false) :
    PE X (.Call (.Name x p) (e :: es) [] pos) (tMkV C sp ta) := by
  constructor
  intro pins s σ H Q I h
  obtain ⟨nm, q, N, bs, bm, sn, sub, ab, col, dd, k0, k1, k2, k3, k5, hC, hbm⟩ := T.cls
  refine wpAny_Call_Name_kw (ld_glob I hg hm ?_ hdb)
  refine PySem.W.callWith_K (h₀ := X.base) I.ok.mod.kin T.kC (thn (ha.run pos pins s σ H _ I h) fun us s1 ⟨vs, H1, I1, r1, hl1, q1⟩ => ⟨I1.kIn, ?_⟩) he hpl
  show wpAny _ _ (call (.ref C) us) _ _ _
  obtain ⟨hp, g, dr, tk, os⟩ := s1
  have hsz : hp.objs.size ≤ hp.objs.size + 1 := Nat.le_succ _
  have hq := q1 (hp.objs.size + 1) (I1.hok.fresh hsz)
  have kk : ∀ b o, hp.get? b = some o → ((hp.push (PySem.W.kdv_tup us)).push (PySem.PX.excO C hp.objs.size)).get? b = some o := fun b o z => Heap.get?_push_of_some _ (Heap.get?_push_of_some _ z)
  have hget : ((hp.push (PySem.W.kdv_tup us)).push (PySem.PX.excO C hp.objs.size)).get? (hp.objs.size + 1) = some (PySem.PX.excO C hp.objs.size) := by
    heap_get
  have I2 : Inv X pins σ (upd H1 (hp.objs.size + 1) (exo (hp.objs.size + 1) C none)) ⟨(hp.push (PySem.W.kdv_tup us)).push (PySem.PX.excO C hp.objs.size), g, dr, tk, os⟩ := I1.laid (t' := tk) (a := hp.objs.size + 1) (h' := (hp.push (PySem.W.kdv_tup us)).push (PySem.PX.excO C hp.objs.size)) kk hsz (exo_ok hget)
  have r2 : Vals (V.ref (hp.objs.size + 1) :: (vs ++ [])) (Value.ref (hp.objs.size + 1) :: (us ++ [])) := .cons rfl (r1.append .nil)
  have len : (Value.ref (hp.objs.size + 1) :: us ++ []).length = ps.length := by
    have z := r2.length
    rw [F1.len _ _ _ _ hq] at z
    exact z.symm
  have small : us.length ≤ sizeLine := by
    rw [← Paired.length r1, sizeLine_eq]
    omega
  have hb2 := hb _ (Value.ref (hp.objs.size + 1) :: us) I2.kIn len
  rw [List.cons_append] at hb2
  refine wpAny_call (PySem.PX.call_own hB.eb (fun Y => PySem.W.excTail_contains Y bm hbm) (I1.kIn _ _ hC) (PySem.W.looks_findIn I1.kIn iC) (fun self => PySem.W.bind_fn I1.kIn self tI) small ?_)
  refine codeAny_mono (F1.run _ X.stack _ _ ⟨Value.ref (hp.objs.size + 1) :: us, []⟩ (Value.ref (hp.objs.size + 1) :: (us ++ [])) _ _ E0 (hr.make C us []) (I2.env0.make C us []) hb2 r2 hq) fun r s' z => ?_
  cases r with
  | error er => exact (show False from z).elim
  | ok fl =>
    cases fl with
    | ret u =>
      obtain ⟨v, H2, I4, rv, ev, q3⟩ := I2.after z
      subst ev
      exact ⟨rv, ⟨V.ref (hp.objs.size + 1), H2, I4, rfl, q3⟩⟩
    | _ => exact (show False from z).elim
/-- C(k = e): by name alone -/
def tMkVK (C : Addr) (n : Nat) (π : List Nat) (sp : Sp) (ta : TA) : TE := fun σ H Q => ta σ H fun vs H1 => ∀ a, H1 a = none → vs.length = n ∧ sp (.ref a :: permL .non π vs) (upd H1 a (exo a C none)) (fun v H2 => v = .non ∧ Q (.ref a) H2) E0
theorem pe_exvK (hB : BaseI B i nw tl) (T : OexG X.K C nw tl) (iC : PySem.W.findIn X.K (.ref C) "__init__" = some (some (.ref fI))) (tI : PySem.W.typeIn X.K (.ref fI) = some (.type "function"))
    (F1 : FnOk X.prog X.w X.K X.mg X.base CX0 k fI fd ps sp) (hr : Room (k + 1) X.A) (hb : KwBM X.K fd ps ks π) (hg : Gl X x) (hm : X.mg x = some (.ref C))
    (hkw : PK X kws ta) (hall : (backToKw pos (keywordEach kws X.env)).all (·.1.isSome) = true) (hks : (backToKw pos (keywordEach kws X.env)).filterMap (·.1) = ks)
    (hdb : (x == ("__debug__" : Str)) = false) (hpl : ((backTo pos (starEach [] X.env)).any (·.1) || (backToKw pos (keywordEach kws X.env)).any (·.1.isNone)) = false) :
    PE X (.Call (.Name x p) [] kws pos) (tMkVK C ks.length π sp ta) := by
  constructor
  intro pins s σ H Q I h
  obtain ⟨nm, q, N, bs, bm, sn, sub, ab, col, dd, k0, k1, k2, k3, k5, hC, hbm⟩ := T.cls
  refine wpAny_Call_Name_kw (ld_glob I hg hm ?_ hdb)
  refine PySem.W.callWith_KW0 (h₀ := X.base) I.ok.mod.kin T.kC hall (thn (hkw.run pos pins s σ H _ I h) ?_) hpl
  rintro ws s1 ⟨vs, H1, I1, r1, q1⟩
  refine ⟨I1.kIn, ?_⟩
  rw [hks]
  show wpAny _ _ (call (.ref C) [] (ks.zip ws)) _ _ _
  obtain ⟨hp, g, dr, tk, os⟩ := s1
  have hsz : hp.objs.size ≤ hp.objs.size + 1 := Nat.le_succ _
  obtain ⟨hl, hq⟩ := q1 (hp.objs.size + 1) (I1.hok.fresh hsz)
  have kk : ∀ b o, hp.get? b = some o → ((hp.push (PySem.W.kdv_tup [])).push (PySem.PX.excO C hp.objs.size)).get? b = some o := fun b o z => Heap.get?_push_of_some _ (Heap.get?_push_of_some _ z)
  have hget : ((hp.push (PySem.W.kdv_tup [])).push (PySem.PX.excO C hp.objs.size)).get? (hp.objs.size + 1) = some (PySem.PX.excO C hp.objs.size) := by
    heap_get
  have I2 : Inv X pins σ (upd H1 (hp.objs.size + 1) (exo (hp.objs.size + 1) C none)) ⟨(hp.push (PySem.W.kdv_tup [])).push (PySem.PX.excO C hp.objs.size), g, dr, tk, os⟩ := I1.laid (t' := tk) (a := hp.objs.size + 1) (h' := (hp.push (PySem.W.kdv_tup [])).push (PySem.PX.excO C hp.objs.size)) kk hsz (exo_ok hget)
  have hw : ws.length = ks.length := by rw [← r1.length]; exact hl
  have hb2 := hb _ (.ref (hp.objs.size + 1)) ws I2.kIn hw
  refine wpAny_call (EK.call_kw hB.eb (fun Y => PySem.W.excTail_contains Y bm hbm) (I1.kIn _ _ hC) (PySem.W.looks_findIn I1.kIn iC) (fun self => PySem.W.bind_fn I1.kIn self tI) (Nat.zero_le _) ?_)
  refine codeAny_mono (F1.run _ X.stack _ _ ⟨[Value.ref (hp.objs.size + 1)], ks.zip ws⟩ (Value.ref (hp.objs.size + 1) :: permL .none π ws) _ _ E0 (hr.make C [] (ks.zip ws)) (I2.env0.make C [] (ks.zip ws)) hb2
    (.cons (show L2.RelV (V.ref (hp.objs.size + 1)) (.ref (hp.objs.size + 1)) from rfl) (perm_vals r1 π)) hq) fun r s' z => ?_
  cases r with
  | error er => exact (show False from z).elim
  | ok fl =>
    cases fl with
    | ret u =>
      obtain ⟨v, H2, I4, rv, ev, q3⟩ := I2.after z
      subst ev
      exact ⟨rv, ⟨V.ref (hp.objs.size + 1), H2, I4, rfl, q3⟩⟩
    | _ => exact (show False from z).elim
/-- C(), without an __init__ of its own -/
theorem pe_exv0 {bmB : List Value} {newId initId : String} (F : ExcBaseFacts B newId initId bmB) (q : PySem.W.excIn X.K C bmB newId = true) (gC : X.mg x = some (.ref C)) (kC : PySem.W.keepIn X.K (.ref C) = true) (hg : Gl X x)
    (hdb : (x == ("__debug__" : Str)) = false) :
    PE X (.Call (.Name x p) [] [] pos) (fun σ H Q => ∀ a, H a = none → Q (.ref a) (upd H a (exo a C none))) := by
  refine ⟨fun pins s σ H Q I h => ?_⟩
  refine wpAny_Call_Name_kw (ld_glob I hg gC ?_ hdb)
  refine PySem.W.callWith_K0 I.kIn kC ?_
  show wpAny _ _ (call (.ref C) []) _ _ _
  obtain ⟨bm, N, nm, qn, bs, hdct, sn, sub, ab, col, dd, k0, k1, k2, k3, k5, mN, hC, hN, hni, T⟩ := exc_obj I.kIn q
  refine wpAny_call_exc_subT F T hC hN hni (fun h' a hm => ?_) (Nat.zero_le _)
  have hn : H a = none := I.hok.gone hm.new
  obtain ⟨t, ht, _, _⟩ := hm.there
  exact ⟨.ref a, upd H a (exo a C none), I.laidN hm.keeps hm.new hn (exo_ok ht), rfl, h a hn⟩
end
/-- the class x (number n) of exceptions with one field, told by place or by the name g -/
structure ExcV (C : Ctx) (x g : Str) (n : Nat) : Prop where
  ex : ∃ (A f : Addr) (fd : FuncData) (fld : Str), C.mg x = some (.ref A) ∧ C.T.cn n = x ∧ C.T.fl n = [fld] ∧ XiK C.P C.K C.mg A f fd g fld ∧ PySem.W.findIn C.K (.ref A) "__init__" = some (some (.ref f)) ∧ PySem.W.typeIn C.K (.ref f) = some (.type "function") ∧ Binds C.K fd ["self", g] [] ∧ KwBM C.K fd ["self", g] [g] [0]
/-- the class x (number n) of exceptions without a field -/
structure ExcE (C : Ctx) (x : Str) (n : Nat) : Prop where
  ex : ∃ (A : Addr) (B nw i : String) (bmB : List Value), ExcBaseFacts B nw i bmB ∧ PySem.W.excIn C.K A bmB nw = true ∧ C.mg x = some (.ref A) ∧ C.T.cn n = x ∧ PySem.W.keepIn C.K (.ref A) = true
section
variable {C : Ctx} {W : Wd} {pr : Bool} {F F' : AS} {H H' : Hp} {fp fe fd : AS} {σ : L2.St} {env env' : Env} {d : Dat} {v : V} {e a : Expr} {kws : List Keyword} {pos p : Pos} {x g : Str} {n : Nat} {wa : LE} {ws : LA}
theorem exv_new {A a dx : Addr} {fld : Str} {y : V} {d : Dat} (hm : W.mg (W.T.cn n) = some (.ref A)) (hf : W.T.fl n = [fld]) (ha : H a = none) (hx : H dx = none) (ne : dx ≠ a) (r : Rep W F H NoA d y) :
    Rep W (fun b => F b ∨ b = a ∨ b = dx) (upd (upd (upd H a (exo a A none)) dx (exd dx [(fld, y)])) a (exo a A (some dx))) NoA (.exn n [d]) (.ref a) ∧ Fresh F H (fun b => F b ∨ b = a ∨ b = dx) (upd (upd (upd H a (exo a A none)) dx (exd dx [(fld, y)])) a (exo a A (some dx))) NoA := by
  have eH : upd (upd (upd H a (exo a A none)) dx (exd dx [(fld, y)])) a (exo a A (some dx)) = upd (upd H dx (exd dx [(fld, y)])) a (exo a A (some dx)) := by
    funext b
    by_cases h1 : b = a
    · rw [h1, upd_same, upd_same]
    · rw [upd_ne h1, upd_ne h1]
      by_cases h2 : b = dx
      · rw [h2, upd_same, upd_same]
      · rw [upd_ne h2, upd_ne h2, upd_ne h1]
  rw [eH]
  have ha2 : upd H dx (exd dx [(fld, y)]) a = none := by rw [upd_ne ne.symm]; exact ha
  have kp : Keep H (upd (upd H dx (exd dx [(fld, y)])) a (exo a A (some dx))) := Keep.trans (keep_upd hx) (keep_upd ha2)
  have e1 : upd (upd H dx (exd dx [(fld, y)])) a (exo a A (some dx)) a = some (exo a A (some dx)) := upd_same
  have e2 : upd (upd H dx (exd dx [(fld, y)])) a (exo a A (some dx)) dx = some (exd dx [(fld, y)]) := by rw [upd_ne ne, upd_same]
  refine ⟨.exv (fun _ z => z) hm (.inl e1) (.inr (.inl rfl)) (.inr ⟨dx, rfl, .inl e2, .inr (.inr rfl)⟩) ?_ (Reps.one (r.kept (fun _ z => .inl z) kp)), kp, (Tgo.new hx fun _ z => by cases z).trans (Tgo.new ha2 fun _ z => by cases z), fun _ z => .inl z, fun b z => ?_, fun _ z => False.elim z, fun _ z => False.elim z⟩
  · show [fld] = (W.T.fl n).take 1
    rw [hf]; rfl
  · rcases z with z | rfl | rfl
    · exact .inl z
    · exact .inr ⟨ha, by rw [e1]; exact fun z => nomatch z⟩
    · exact .inr ⟨hx, by rw [e2]; exact fun z => nomatch z⟩
theorem exv_new0 {A a : Addr} (hm : W.mg (W.T.cn n) = some (.ref A)) (ha : H a = none) :
    Rep W (fun b => F b ∨ b = a) (upd H a (exo a A none)) NoA (.exn n []) (.ref a) ∧ Fresh F H (fun b => F b ∨ b = a) (upd H a (exo a A none)) NoA := by
  have r : Rep W (fun b => F b ∨ b = a) (upd H a (exo a A none)) NoA (.exn n []) (.ref a) := Rep.exv (fs := []) (fun _ z => z) hm (.inl upd_same) (.inr rfl) (.inl ⟨rfl, rfl⟩) (by simp) (.nil fun _ z => z)
  refine ⟨r, ⟨keep_upd ha, Tgo.new ha (fun _ z => nomatch z), fun _ z => .inl z, fun b z => ?_, fun _ z => False.elim z, fun _ z => False.elim z⟩⟩
  rcases z with z | rfl
  · exact .inl z
  · exact .inr ⟨ha, by rw [upd_same]; exact fun z => nomatch z⟩
def wExv (n : Nat) (w : LE) : LE := fun env Q => w env fun d e => Q (.exn n [frz d]) e
theorem je_exv (h : ExcV C x g n) (hk : 2 ≤ C.k) (hh : C.hot = false) (ha : JE C pr a wa) (hg : C.sc.names.lookup x = some .globalImplicit) (hdb : (x == ("__debug__" : Str)) = false)
    (hs : ∀ env, starEach [a] env = (false, eval a env) :: starEach [] env) (hpl : ∀ env, (backTo pos (starEach [] env)).any (·.1) = false) : JE C false (.Call (.Name x p) [a] [] pos) (wExv n wa) := fun X gd => by
  obtain ⟨A, f, fd, fld, hm, hcn, hfl, hx, hi, ht, hb, _⟩ := h.ex
  have hx' : XiK X.prog X.K X.mg A f fd g fld := by rw [gd.prog, gd.K, gd.mg]; exact hx
  have F1 := xi_fn (w := X.w) (base := X.base) hx' 0
  have gl : Gl X x := by
    show X.env.scope.names.lookup x = _
    rw [gd.sc]; exact hg
  obtain ⟨B, i, nw, tl, hB, hT, _, _⟩ := hx'.bs
  refine PE_imp (pe_exv (p := p) (pos := pos) hB hT (by rw [gd.K]; exact hi) (by rw [gd.K]; exact ht) F1 (gd.roomM hh hk) (by rw [gd.K]; exact hb) gl (by rw [gd.mg]; exact hm) (pa_cons (ha X gd) pa_nil (hs _)) hdb (hs _) (hpl _)) fun σ H Q ⟨F, fp, env, Qd, sl, ok, hw, q⟩ => ?_
  refine ⟨F, fp, env, _, sl, ok, hw, fun d env' F' H' fe fd v hd P => ⟨by show 1 ≤ 1000; decide, fun a ha => ⟨a, v, rfl, upd_same, fun dx hn hne => ⟨rfl, ?_⟩⟩⟩⟩
  have fz := P.freeze
  have hx0 : H' dx = none := by rw [upd_ne hne] at hn; exact hn
  obtain ⟨r, fr⟩ := exv_new (n := n) (W := C.W) (fld := fld) (show C.mg (C.T.cn n) = _ by rw [hcn]; exact hm) hfl ha hx0 hne fz.rep
  have st := fz.st.sub (fp2 := fe) fun _ z => .inl z
  have s1 := fr.step' (F0 := F) (H0 := H) st.ok
  exact q _ env' _ _ fe NoA _ hd ⟨fz.sl.kept fr.fx fr.kp, r, fun _ _ z => z, (st.trans s1).sub fun a z => z.resolve_right id, fun z => nomatch z⟩
def wExvK (n : Nat) (ws : LA) : LE := fun env Q => ws env fun ds e => ∃ d, ds = [d] ∧ Q (.exn n [frz d]) e
theorem je_exvK (h : ExcV C x g n) (hk : 2 ≤ C.k) (hh : C.hot = false) (ha : JK C pr kws ws) (hg : C.sc.names.lookup x = some .globalImplicit) (hdb : (x == ("__debug__" : Str)) = false)
    (hall : ∀ env, (backToKw pos (keywordEach kws env)).all (·.1.isSome) = true) (hks : ∀ env, (backToKw pos (keywordEach kws env)).filterMap (·.1) = [g])
    (hpl : ∀ env, ((backTo pos (starEach [] env)).any (·.1) || (backToKw pos (keywordEach kws env)).any (·.1.isNone)) = false) : JE C false (.Call (.Name x p) [] kws pos) (wExvK n ws) := fun X gd => by
  obtain ⟨A, f, fd, fld, hm, hcn, hfl, hx, hi, ht, _, hb⟩ := h.ex
  have hx' : XiK X.prog X.K X.mg A f fd g fld := by rw [gd.prog, gd.K, gd.mg]; exact hx
  have F1 := xi_fn (w := X.w) (base := X.base) hx' 0
  have gl : Gl X x := by
    show X.env.scope.names.lookup x = _
    rw [gd.sc]; exact hg
  obtain ⟨B, i, nw, tl, hB, hT, _, _⟩ := hx'.bs
  refine PE_imp (pe_exvK (p := p) (pos := pos) hB hT (by rw [gd.K]; exact hi) (by rw [gd.K]; exact ht) F1 (gd.roomM hh hk) (by rw [gd.K]; exact hb) gl (by rw [gd.mg]; exact hm) (ha X gd) (hall _) (hks _) hdb (hpl _)) fun σ H Q ⟨F, fp, env, Qd, sl, ok, hw, q⟩ => ?_
  refine ⟨F, fp, env, _, sl, ok, hw, fun ds env' F' H' fe fd vs hd P a ha => ?_⟩
  obtain ⟨d, rfl, hd⟩ := hd
  have rp := P.rep
  cases rp with
  | @cons _ f1 f2 _ v _ vs r1 r2 dj ii =>
    cases r2
    rename_i e8
    refine ⟨rfl, a, v, rfl, upd_same, fun dx hn hne => ⟨rfl, ?_⟩⟩
    have fz := P.freeze
    have hx0 : H' dx = none := by rw [upd_ne hne] at hn; exact hn
    have rz : Rep C.W (fun b => F' b ∨ fd b) H' NoA (frz d) v := by
      have z := fz.2.1
      cases z with
      | cons r1 r2 _ i2 => exact Rep.eqv _ _ _ _ r1 fun a => ⟨fun z => False.elim z, fun z => (i2 a).mpr (.inl z)⟩
    obtain ⟨r, fr⟩ := exv_new (n := n) (W := C.W) (fld := fld) (show C.mg (C.T.cn n) = _ by rw [hcn]; exact hm) hfl ha hx0 hne rz
    have s1 := fr.step' (F0 := F) (H0 := H) fz.2.2.ok
    exact q _ env' _ _ fe NoA _ hd ⟨fz.1.kept fr.fx fr.kp, r, fun _ _ z => z, (fz.2.2.trans s1).sub fun a z => z.resolve_right id, fun z => nomatch z⟩
def wExv0 (n : Nat) : LE := fun env Q => Q (.exn n []) env
theorem je_exv0 (h : ExcE C x n) (hg : C.sc.names.lookup x = some .globalImplicit) (hdb : (x == ("__debug__" : Str)) = false) : JE C false (.Call (.Name x p) [] [] pos) (wExv0 n) := fun X gd => by
  obtain ⟨A, B, nw, i, bmB, F, q, hm, hcn, hk⟩ := h.ex
  have gl : Gl X x := by
    show X.env.scope.names.lookup x = _
    rw [gd.sc]; exact hg
  refine PE_imp (pe_exv0 (p := p) (pos := pos) F (by rw [gd.K]; exact q) (by rw [gd.mg]; exact hm) (by rw [gd.K]; exact hk) gl hdb) fun σ H Q ⟨F, fp, env, Qd, sl, ok, hw, q⟩ => ?_
  intro a ha
  obtain ⟨r, fr⟩ := exv_new0 (n := n) (W := C.W) (F := F) (show C.mg (C.T.cn n) = _ by rw [hcn]; exact hm) ha
  have s1 := fr.step' (F0 := F) (H0 := H) ok
  exact q _ env _ _ fp NoA _ hw ⟨sl.kept fr.fx fr.kp, r, fun _ _ z => z, s1.sub fun a z => z.resolve_right id, fun z => nomatch z⟩
end
end M
namespace M
open PySem PySem.Spec PyProof.Rows L2
section
open PySem.W PySem.Calls
variable {prog : Program} {w : World} {A : Around} {E : Value → Shared → Prop} {s : Shared} {K : Frag} {x D : Addr} {ox : Obj} {odx : Option Obj}
theorem findObj_dataG {C : Addr} {name : Str} {a g : Value} (hc : (clsIn K C).isSome = true) (ha : findIn K (.ref C) name = some (some a)) (hg : specialIn K a "__get__" = some (some g)) (ht : takesIn K a = some true) : findObj K C odx name = some (.bind g a) := by
  obtain ⟨cd, hc⟩ := Option.isSome_iff_exists.mp hc
  unfold findObj
  rw [hc, Option.bind_some, ha, Option.bind_some]
  simp [hg, ht]
theorem kin_classG {Q : Option Value → Shared → Prop} (C : ExcC K D) (X : K.In s.heap) (I : InstAt s.heap x ox D odx) (h : Q (some (.ref D)) { s with toks := s.toks + 1 }) : wpAny (model prog w) A (getAttr? (.ref x) "__class__") Q E s := by
  obtain ⟨hga, hgt, hsub, hdct, ha, hn, htk, hm⟩ := C
  have hf : findObj K D odx "__class__" = some (.bind (.builtin "getset_descriptor.__get__") (.builtin "object.__class__")) := findObj_dataG (by obtain ⟨cd, hc, _⟩ := any_some hdct; rw [hc]; rfl) ha hn htk
  obtain ⟨hp, g, d, t, os⟩ := s
  have L0 := I.type (M := model prog w)
  have L1 := looks_findIn (M := model prog w) X hga
  have L2 := looks_findIn (M := model prog w) X hgt
  have L3 := looks_find (M := model prog w) X I hf
  have sub : Looks (model prog w) hp (isInstance (.ref x) (.type "BaseException")) true := L0.andThen (looks_subIn X hsub)
  have hx0 : (false && onTheHeap (Value.builtin "BaseException.__getattribute__")) = false := rfl
  have hx2 : (Value.builtin "BaseException.__getattribute__" == Value.builtin "object.__getattribute__") = false := by decide +kernel
  have hx1 : (onTheHeap (Value.ref D) && Value.builtin "BaseException.__getattribute__" == Value.builtin "object.__getattribute__") = false := by rw [hx2]; rfl
  unfold getAttr? getAttrBy? getAttrBy
  refine wpAny_bind (wpAny_mkText (wpAny_bind (wpAny_attempt (wpAny_holding (wpAny_bind (L0.at (wpAny_bind (L1.at ?_))))))))
  show wpAny _ _ (if (onTheHeap (Value.ref D) && Value.builtin "BaseException.__getattribute__" == Value.builtin "object.__getattribute__") = true then _ else _) _ _ _
  rw [hx1, if_neg Bool.false_ne_true]
  unfold getAttrByItsOwn hookBefore
  refine wpAny_bind ?_
  rw [if_pos (show onTheHeap (Value.ref D) = true from rfl)]
  refine L2.at ?_
  refine wpAny_bind (wpAny_attempt (wpAny_holding ?_))
  unfold callGetattribute
  rw [hx0, if_neg Bool.false_ne_true]
  unfold boundAndCalled
  rw [PySem.F.excAttr_ValueError.ga.bind (.ref x)]
  refine wpAny_bind (wpAny_pure ?_)
  show wpAny _ _ (call (.builtin "BaseException.__getattribute__") [.ref x, .str "__class__" t]) _ _ _
  refine wpAny_call (codeAny_call_builtin PySem.F.excAttr_ValueError.ga.plain PySem.F.entry_bexc_ga ?_)
  refine @check_slot (model prog w) _ _ ⟨hp, g, d, t + 1, os⟩ "BaseException.__getattribute__" "BaseException" "__getattribute__" (.ref x) [.str "__class__" t] [] _ (by decide +kernel) (by decide +kernel) sub (PySem.F.args_bexc_ga (.ref x) (.str "__class__" t)) ?_
  unfold Builtin.«object.__getattribute__»
  refine wpAny_bind (wpAny_of_eq (a := ((Value.ref x : Value), [Value.str "__class__" t])) (by first | rfl | (simp only [slotArgs]; rfl)) ?_)
  refine wpAny_bind (wpAny_pure (wpAny_bind (L0.at (wpAny_bind (L3.at ?_)))))
  show wpAny _ _ (holding [Value.builtin "object.__class__"] (call (.builtin "getset_descriptor.__get__") [.builtin "object.__class__", .ref x, .ref D]) >>= ret) _ _ _
  refine wpAny_bind (wpAny_holding (wpAny_call (class_get (s := ⟨hp, g, d, t + 1, os⟩) (ox := ox) (od := odx) X I hm ?_)))
  refine wpAny_pure ?_
  show wpAny _ _ (handedOut (.ref D)) _ _ _
  rw [handedOut_of (v := .ref D) rfl]
  first
    | exact wpAny_pure (wpAny_pure h)
    | exact wpAny_pure h
    | exact wpAny_pure (wpAny_bind (wpAny_pure (wpAny_pure h)))
theorem kitx_excG (C : ExcC K D) : KitX K (.ref x) (.ref D) (fun h => InstAt h x ox D odx) where
  ty := fun _ _ _ I => I.type
  it := fun _ _ X _ => by
    obtain ⟨cdD, hcD, _⟩ := any_some C.hd
    unfold clsIn at hcD
    split at hcD
    · rename_i c' d' cd' sl' ho
      intro A' Q' E' s' k q
      unfold isType loadHead
      exact wpAny_bind (wpAny_loadPart (k _ _ (X _ _ ho)) (wpAny_pure q))
    · cases hcD
  ne := fun h tp dd its n sl X htp => by
    obtain ⟨cdD, hcD, _⟩ := any_some C.hd
    refine Bool.eq_false_iff.mpr fun q => ?_
    have e : D = tp := Value.ref.inj (beq_iff_eq.mp q)
    subst e
    unfold clsIn at hcD
    split at hcD
    · rename_i c' d' cd' sl' ho
      have z := (X _ _ ho).symm.trans htp
      cases z
    · cases hcD
  ca := fun X I k => kin_classG C X I k
end
section
variable {X : Cx} {pins : List (Addr × Obj)} {σ : L2.St} {H : Hp} {s : Shared} {a A : Addr} {F : AS} {d : Option Addr} {fs : List (Str × V)}
/-- an exception of ours is an instance of its class -/
theorem exu_inst (I : Inv X pins σ H s) (ha : Rd H a (exo a A d)) (hd : ExU F H d fs) : ∃ ox od, PySem.W.InstAt s.heap a ox A od := by
  have x : ObjOk X.prog X.w H s.heap a (.ext fun h => ∃ t1 : Addr, h.get? a = some ({ cls := .ref A, dict := d, data := .fields #[.ref t1, .none, .none, .none, .bool false, .none] } : Obj)) := ha.ok I.hok
  obtain ⟨t1, hget⟩ := x.1
  rcases hd with ⟨rfl, _⟩ | ⟨da, rfl, hx, _⟩
  · exact ⟨_, none, hget, rfl, rfl, trivial⟩
  · have x2 : ObjOk X.prog X.w H s.heap da (.ext fun h => ∃ mA, h.Ns1 da mA ∧ ∀ f, RelO (fs.lookup f) (mA f)) := hx.ok I.hok
    obtain ⟨mA, hns, r⟩ := x2.1
    obtain ⟨od, ho, hl⟩ := lookIn_ns hns
    exact ⟨_, some od, hget, rfl, rfl, ho⟩
theorem exu_field {da : Addr} {n : Str} {v : V} (I : Inv X pins σ H s) (ha : Rd H a (exo a A (some da))) (hx : Rd H da (exd da fs)) (l : fs.lookup n = some v) : ∃ ox od u, PySem.W.InstAt s.heap a ox A (some od) ∧ PySem.W.lookIn n od = some (some u) ∧ RelV v u := by
  have x : ObjOk X.prog X.w H s.heap a (.ext fun h => ∃ t1 : Addr, h.get? a = some ({ cls := .ref A, dict := some da, data := .fields #[.ref t1, .none, .none, .none, .bool false, .none] } : Obj)) := ha.ok I.hok
  obtain ⟨t1, hget⟩ := x.1
  have x2 : ObjOk X.prog X.w H s.heap da (.ext fun h => ∃ mA, h.Ns1 da mA ∧ ∀ f, RelO (fs.lookup f) (mA f)) := hx.ok I.hok
  obtain ⟨mA, hns, r⟩ := x2.1
  obtain ⟨od, ho, hl⟩ := lookIn_ns hns
  obtain ⟨u, hu, ru⟩ := RelO.some_of (v := v) (o := mA n) (by rw [← l]; exact r n)
  exact ⟨_, od, u, ⟨hget, rfl, rfl, ho⟩, by rw [hl, hu], ru⟩
/-- isinstance(e, c) -/
def rIsVN (K : PySem.W.Frag) : List V → Hp → VK → Prop := fun xs H Q => ∃ (a A : Addr) (F : AS) (d : Option Addr) (fs : List (Str × V)) (c : V) (cv : Value) (b : Bool), xs = [.ref a, c] ∧ (∀ u, RelV c u → u = cv) ∧ Rd H a (exo a A d) ∧ ExU F H d fs ∧ ExcC K A ∧ PySem.W.kitOne K (.ref A) cv = some b ∧ Q (.bl b) H
theorem call_isVN : CallR X (.builtin "isinstance") (rIsVN X.K) := by
  intro pins s σ H xs us Q I r h
  obtain ⟨a, A, F, d, fs, c, cv, b, rfl, hcv, ha, hd, C, e, q⟩ := h
  cases r with
  | cons rx rr =>
    cases rr with
    | cons rt rr =>
      cases rr
      cases rx
      have ec := hcv _ rt
      subst ec
      obtain ⟨ox, od, J⟩ := exu_inst I ha hd
      exact PySem.W.kia_one (kitx_excG C) I.kIn J e (fun z => nomatch z) fun tk => ⟨.bl b, H, I.kept (t' := tk) fun _ _ z => z, rfl, q⟩
/-- e.f -/
theorem pe_xfV {K : PySem.W.Frag} {e : Expr} {te : TE} {pos : Pos} {n : Str} (hK : X.K = K) (he : PE X e te) (hb : attributeBase e n X.env (eval e X.env) = eval e X.env) :
    PE X (.Attribute e n pos) (fun σ H Q => te σ H fun x H1 => ∃ (a A dd : Addr) (fs : List (Str × V)) (v : V), x = .ref a ∧ Rd H1 a (exo a A (some dd)) ∧ Rd H1 dd (exd dd fs) ∧ fs.lookup n = some v ∧ XfC K A ∧ PySem.W.findIn K (.ref A) n = some none ∧ Q v H1) := by
  subst hK
  refine ⟨fun pins s σ H Q I h => ?_⟩
  refine attr_of hb (thn (he.run pins s σ H _ I h) fun u s1 hh => ?_)
  obtain ⟨x, H1, I1, rx, a, C, dd, fs, v, ex, ha, hd, l, T, hno, q⟩ := hh
  subst ex
  obtain rfl : u = Value.ref a := rx
  obtain ⟨ox, od, u, J, hl, ru⟩ := exu_field I1 ha hd l
  exact HandSPX.exc_get I1.kIn J T.ga T.gg T.exC (PySem.W.findObj_own T.hdC hno rfl hl) (handed_of ru) ⟨v, H1, I1.tok _, ru, q⟩
end
/-- isinstance(e, x), answered by the number of the class -/
structure IsX (C : Ctx) (x : Str) (f : Nat → Option Bool) : Prop where
  ex : ∃ (u : Value) (cv : V), ((C.mg x = none ∧ bootBuiltins x = some u ∧ x ≠ "__name__") ∨ C.mg x = some u) ∧ RelV cv u ∧ (∀ v, RelV cv v → v = u) ∧ ∀ c b A, f c = some b → C.mg (C.T.cn c) = some (.ref A) → ExcC C.K A ∧ PySem.W.kitOne C.K (.ref A) u = some b
def rIsX (f : Nat → Option Bool) : Dat → (Dat → Prop) → Prop
  | .exn c _, Q => ∃ b, f c = some b ∧ Q (.bl b)
  | _, _ => False
structure XfX (C : Ctx) (n : Str) (f : Nat → Bool) : Prop where
  ex : ∀ c A, f c = true → C.mg (C.T.cn c) = some (.ref A) → XfC C.K A ∧ PySem.W.findIn C.K (.ref A) n = some none ∧ C.T.fl c = [n]
def rXf (f : Nat → Bool) : Dat → (Dat → Prop) → Prop
  | .exn c [x], Q => f c = true ∧ Q x
  | _, _ => False
section
variable {C : Ctx} {pr : Bool} {a : Expr} {pos p xp : Pos} {wa : LE} {x n : Str} {f : Nat → Option Bool} {h : Nat → Bool}
theorem je_isV (hi : IsX C x f) (he : C.exo = none) (hgx : C.sc.names.lookup x = some .globalImplicit) (hdx : (x == ("__debug__" : Str)) = false) (hm : C.mg ("isinstance" : Str) = none) (hg : C.sc.names.lookup ("isinstance" : Str) = some .globalImplicit) (ha : JV C pr a wa)
    (hs : ∀ env, starEach [a, .Name x xp] env = (false, eval a env) :: starEach [.Name x xp] env) (hpl : ∀ env, (backTo pos (starEach [.Name x xp] env)).any (·.1) = false) :
    JE C pr (.Call (.Name "isinstance" p) [a, .Name x xp] [] pos) (w1 wa (rIsX f)) := fun X g => by
  obtain ⟨u, cv, hT, rel, hcv, hf⟩ := hi.ex
  have pn : PE X (.Name x xp) (tC cv) := by
    rcases hT with ⟨h1, h2, h3⟩ | h1
    · exact pe_bltn (gl_of g hgx) (by rw [g.mg]; exact h1) h2 rel h3 hdx
    · exact pe_glob (gl_of g hgx) (by rw [g.mg]; exact h1) rel hdx
  refine PE_imp (pe_callB call_isVN (gl_of g hg) (by rw [g.mg]; exact hm) (by rfl) (pa_cons (ha X g) (pa_cons pn pa_nil) (hs _)) (by decide) (by decide) (hs _) (hpl _)) fun σ H Q h => ?_
  rw [g.K]
  obtain ⟨F, fp, env, Qd, sl, ok, hw, q⟩ := h
  refine ⟨F, fp, env, _, sl, ok, hw, fun d env' F' H' fe fd v hd P => ?_⟩
  cases d with
  | exn c vs =>
    obtain ⟨b, hb, hd⟩ := hd
    have r := P.rep
    cases r with
    | exn e1 e2 e3 e4 e5 =>
      have z : C.exo = some _ := e2
      rw [he] at z
      cases z
    | @exv _ a0 A d0 fs _ _ e1 e2 e3 e4 e5 e6 e7 =>
      obtain ⟨h5, h6⟩ := hf c b A hb e2
      exact ⟨a0, A, F', d0, fs, cv, u, b, rfl, hcv, e3, e5, h5, h6, q _ env' F' H' fe NoA _ hd (po_bl P)⟩
  | _ => exact hd.elim
theorem jv_xfV (hi : XfX C n h) (he : C.exo = none) (ha : JV C pr a wa) (hb : ∀ env, attributeBase a n env (eval a env) = eval a env) : JV C pr (.Attribute a n pos) (w1 wa (rXf h)) := fun X g => by
  refine PE_imp (pe_xfV (X := X) g.K (ha X g) (hb _)) fun σ H Q h => ?_
  obtain ⟨F, fp, env, Qd, sl, ok, hw, q⟩ := h
  refine ⟨F, fp, env, _, sl, ok, hw, fun d env' F' H' fe fd v hd P => ?_⟩
  cases d with
  | exn c vs =>
    match vs, hd, P with
    | [x], ⟨hf, hd⟩, P =>
      have r := P.rep
      cases r with
      | exn e1 e2 e3 e4 e5 =>
        have z : C.exo = some _ := e2
        rw [he] at z
        cases z
      | @exv _ a0 A d0 fs _ _ e1 e2 e3 e4 e5 e6 e7 =>
        obtain ⟨h5, h6, h7⟩ := hi.ex c A hf e2
        have e4' : fs.map (·.1) = [n] := by rw [e6]; show (C.T.fl c).take 1 = [n]; rw [h7]; rfl
        match fs, e4', e7, e5 with
        | [(m, v)], e4', e7, e5 =>
          obtain rfl : m = n := by simpa using e4'
          rcases e5 with ⟨_, z⟩ | ⟨dd, e8, e9, _⟩
          · cases z
          · subst e8
            refine ⟨a0, A, dd, [(m, v)], v, rfl, e3, e9, by simp [List.lookup], h5, h6, ?_⟩
            cases e7 with
            | cons r1 r2 n1 j1 =>
              cases r2 with
              | nil e8 => exact q x env' F' H' fe _ v hd ⟨P.sl, r1, P.st, P.pu⟩
  | _ => exact hd.elim
end
noncomputable section
section
variable {C : Ctx} {a e : Expr} {kws : List Keyword} {pos p xp : Pos} {x g n : Str} {i : Nat} {f : Nat → Option Bool} {h : Nat → Bool}
def xIsX (f : Nat → Option Bool) : X1
  | .exn c _ => (f c).map .bl
  | _ => none
theorem xIsX_ok : Ok1 (xIsX f) (rIsX f) := by
  intro y d Q h q
  cases y <;> simp only [xIsX] at h
  case exn c vs =>
    obtain ⟨b, e, rfl⟩ := map_ok h
    exact ⟨b, e, q⟩
  all_goals cases h
def de_isV (hi : IsX C x f) (a' : DV C a) (he : C.exo = none := by rfl) (hgx : C.sc.names.lookup x = some .globalImplicit := by rfl) (hdx : (x == ("__debug__" : Str)) = false := by rfl) (hm : C.mg ("isinstance" : Str) = none) (hg : C.sc.names.lookup ("isinstance" : Str) = some .globalImplicit := by rfl)
    (hs : ∀ env, starEach [a, .Name x xp] env = (false, eval a env) :: starEach [.Name x xp] env := by intro _; rfl) (hpl : ∀ env, (backTo pos (starEach [.Name x xp] env)).any (·.1) = false := by intro _; rfl) :
    DE C (.Call (.Name "isinstance" p) [a, .Name x xp] [] pos) := ⟨_, x1 a'.x (xIsX f), (je_isV (p := p) hi he hgx hdx hm hg a'.ok hs hpl).imp (x1_ok xIsX_ok)⟩
def xXf (g : Nat → Bool) : X1
  | .exn c [y] => if g c = true then some y else none
  | _ => none
theorem xXf_ok : Ok1 (xXf h) (rXf h) := by
  intro y d Q h q
  unfold xXf at h
  split at h
  · obtain ⟨c, h⟩ := ite_ok h; cases h; exact ⟨c, q⟩
  · cases h
def dv_xfV (hi : XfX C n h) (a' : DV C a) (he : C.exo = none := by rfl) (hb : ∀ env, attributeBase a n env (eval a env) = eval a env := by intro _; rfl) : DV C (.Attribute a n pos) := ⟨_, x1 a'.x (xXf h), (jv_xfV hi he a'.ok hb).imp (x1_ok xXf_ok)⟩
def xExv (i : Nat) (a : XE) : XE := fun env => (a env).map fun p => (.exn i [frz p.1], p.2)
def de_exv (hx : ExcV C x g i) (a' : DE C e) (hk : 2 ≤ C.k := by exact Nat.le_of_ble_eq_true rfl) (hh : C.hot = false := by rfl) (hg : C.sc.names.lookup x = some .globalImplicit := by rfl) (hdb : (x == ("__debug__" : Str)) = false := by rfl)
    (hs : ∀ env, starEach [e] env = (false, eval e env) :: starEach [] env := by intro _; rfl) (hpl : ∀ env, (backTo pos (starEach [] env)).any (·.1) = false := by intro _; rfl) : DE C (.Call (.Name x p) [e] [] pos) :=
  ⟨false, xExv i a'.x, (je_exv (p := p) hx hk hh a'.ok hg hdb hs hpl).imp fun env Q ⟨d, e1, h, q⟩ => by
    obtain ⟨⟨u, e2⟩, ha, h⟩ := map_ok h
    cases h
    exact ⟨u, e2, ha, q⟩⟩
def xExvK (i : Nat) (a : XA) : XE := fun env => (a env).bind fun p => match p.1 with | [d] => some (.exn i [frz d], p.2) | _ => none
def de_exvK (hx : ExcV C x g i) (a' : DK C kws) (hk : 2 ≤ C.k := by exact Nat.le_of_ble_eq_true rfl) (hh : C.hot = false := by rfl) (hg : C.sc.names.lookup x = some .globalImplicit := by rfl) (hdb : (x == ("__debug__" : Str)) = false := by rfl)
    (hall : ∀ env, (backToKw pos (keywordEach kws env)).all (·.1.isSome) = true := by intro _; rfl) (hks : ∀ env, (backToKw pos (keywordEach kws env)).filterMap (·.1) = [g] := by intro _; rfl)
    (hpl : ∀ env, ((backTo pos (starEach [] env)).any (·.1) || (backToKw pos (keywordEach kws env)).any (·.1.isNone)) = false := by intro _; rfl) : DE C (.Call (.Name x p) [] kws pos) :=
  ⟨false, xExvK i a'.x, (je_exvK (p := p) hx hk hh a'.ok hg hdb hall hks hpl).imp fun env Q ⟨d, e1, h, q⟩ => by
    obtain ⟨⟨us, e2⟩, ha, h⟩ := bind_ok h
    rcases us with _ | ⟨u, _ | ⟨u2, us⟩⟩
    · cases h
    · cases h
      exact ⟨[u], _, ha, u, rfl, q⟩
    · cases h⟩
def de_exv0 (hx : ExcE C x i) (hg : C.sc.names.lookup x = some .globalImplicit := by rfl) (hdb : (x == ("__debug__" : Str)) = false := by rfl) : DE C (.Call (.Name x p) [] [] pos) :=
  ⟨false, fun env => some (.exn i [], env), (je_exv0 (p := p) (pos := pos) hx hg hdb).imp fun env Q ⟨d, e1, h, q⟩ => by cases h; exact q⟩
@[irreducible] def xReprI : X1 := xRepr
theorem xReprI_eq : xReprI = xRepr := by unfold xReprI; rfl
def l_reprI (hq : C.gd = true) : XL1r C (.builtin "repr") := ⟨_, cl_repr hq, xReprI, by rw [xReprI_eq]; exact xRepr_ok⟩
theorem IsX.ng (h : IsX C x f) : IsX C.ng x f := ⟨h.ex⟩
theorem XfX.ng (hh : XfX C n h) : XfX C.ng n h := ⟨hh.ex⟩
theorem ExcV.ng (h : ExcV C x g i) : ExcV C.ng x g i := ⟨h.ex⟩
theorem ExcE.ng (h : ExcE C x i) : ExcE C.ng x i := ⟨h.ex⟩
variable {N : List Str} {sc : Scope} {k : Nat} {pin : List Nat} {own : List (Str × Nat)}
theorem IsX.fn (h : IsX C x f) : IsX (C.fn N sc k pin) x f := ⟨h.ex⟩
theorem IsX.blk (h : IsX C x f) : IsX (C.blk sc own) x f := ⟨h.ex⟩
theorem XfX.fn (hh : XfX C n h) : XfX (C.fn N sc k pin) n h := ⟨hh.ex⟩
theorem XfX.blk (hh : XfX C n h) : XfX (C.blk sc own) n h := ⟨hh.ex⟩
theorem ExcV.fn (h : ExcV C x g i) : ExcV (C.fn N sc k pin) x g i := ⟨h.ex⟩
theorem ExcE.fn (h : ExcE C x i) : ExcE (C.fn N sc k pin) x i := ⟨h.ex⟩
end
end
end M
namespace M
open PySem PySem.Spec PyProof.Rows L2 LamX
section
variable {P : Program} {w : World} {K : PySem.W.Frag} {mg mb : Str → Option Value} {a fa : Addr} {s1 : Shared} {vs : List Value} {ns : List Int} {k : Nat} {fd : FuncData} {sp : Sp} {x : Str} {cs : List (Addr × Addr)}
def tabsH (cs : List (Addr × Addr)) : Hp := fun b => if b ∈ cs.map (·.2) then some (.tbl #[]) else none
structure TopT (P : Program) (w : World) (K : PySem.W.Frag) (h : Heap) (a : Addr) (ns : List Int) (cs : List (Addr × Addr)) (H : Hp) : Prop where
  tb : ∀ p ∈ cs, H p.2 = some (.tbl #[])
  only : ∀ b, H b = none ∨ b ∈ cs.map (·.2) ∨ ∃ o xs, H b = some (.frz o (.lst xs))
  sq : SqL K H a (ns.map V.int)
  hok : HOk P w H h
  at_ : ∀ b, b ≠ a → b ∉ cs.map (·.2) → H b = none
  ka : H a = none ∨ K.lookup a = none
theorem topT (kin : K.In s1.heap) (hT : ∀ p ∈ cs, s1.heap.get? p.2 = some { cls := .none, data := .fields #[] }) (ha : s1.heap.get? a = some (scrO vs)) (hi : IntsAre vs ns) (hl : ns.length ≤ sizeLine) : a ∉ cs.map (·.2) ∧ ∃ H : Hp, TopT P w K s1.heap a ns cs H := by
  have rv := vals_ints hi
  have isT : ∀ b, b ∈ cs.map (·.2) → s1.heap.get? b = some { cls := .none, data := .fields #[] } := fun b hb => by
    obtain ⟨p, hp, rfl⟩ := List.mem_map.mp hb
    exact hT p hp
  have aT : a ∉ cs.map (·.2) := fun z => by
    have q := isT a z
    rw [ha] at q
    cases q
  have tH : ∀ p ∈ cs, tabsH cs p.2 = some (.tbl #[]) := fun p hp => if_pos (List.mem_map.mpr ⟨p, hp, rfl⟩)
  refine ⟨aT, ?_⟩
  cases e : K.lookup a with
  | some o =>
    have e2 := kin a o e
    rw [ha] at e2
    cases e2
    refine ⟨tabsH cs, tH, fun b => ?_, .inr ⟨scrO vs, vs.toArray, _, e, rfl, rfl, rfl, by rw [List.size_toArray, hi.length]; exact hl, by simpa using rv⟩, fun b u z => ?_, fun b _ h => if_neg h, .inl (if_neg aT)⟩
    · by_cases h : b ∈ cs.map (·.2)
      · exact .inr (.inl h)
      · exact .inl (if_neg h)
    · by_cases h : b ∈ cs.map (·.2)
      · have z' := (if_pos h).symm.trans z
        cases z'
        exact isT b h
      · have z' := (if_neg h).symm.trans z
        cases z'
  | none =>
    have nA : ∀ b, b ∈ cs.map (·.2) → b ≠ a := fun b h z => aT (z ▸ h)
    refine ⟨upd (tabsH cs) a (.frz (scrO vs) (.lst (ns.map V.int))), fun p hp => ?_, fun b => ?_, .inl (.inr ⟨_, upd_same⟩), fun b u z => ?_, fun b h1 h2 => ?_, .inr e⟩
    · rw [upd_ne (nA _ (List.mem_map.mpr ⟨p, hp, rfl⟩))]; exact tH p hp
    · by_cases q : b = a
      · subst q; exact .inr (.inr ⟨_, _, upd_same⟩)
      · rw [upd_ne q]
        by_cases h : b ∈ cs.map (·.2)
        · exact .inr (.inl h)
        · exact .inl (if_neg h)
    · by_cases q : b = a
      · subst q
        rw [upd_same] at z
        cases z
        exact ⟨ha, by rw [List.length_map]; exact hl, vs, _, rv, ha⟩
      · rw [upd_ne q] at z
        by_cases h : b ∈ cs.map (·.2)
        · have z' := (if_pos h).symm.trans z
          cases z'
          exact isT b h
        · have z' := (if_neg h).symm.trans z
          cases z'
    · rw [upd_ne h1]; exact if_neg h2
/-- what of the top is not hidden stays -/
theorem TopT.base {H : Hp} (T : TopT P w K s1.heap a ns cs H) (hT : ∀ p ∈ cs, s1.heap.get? p.2 = some { cls := .none, data := .fields #[] }) (ha : s1.heap.get? a = some (scrO vs)) {b : Addr} {o : Obj} (e : s1.heap.get? b = some o) (h1 : ∀ vs n, o.data ≠ .seq vs n) (h2 : o.data ≠ .fields #[]) : (hidT s1.heap H).get? b = some o := by
  refine hidT_get e (T.at_ b ?_ ?_)
  · rintro rfl
    rw [ha] at e
    cases e
    exact h1 _ _ rfl
  · intro z
    obtain ⟨p, hp, rfl⟩ := List.mem_map.mp z
    rw [hT p hp] at e
    cases e
    exact h2 rfl
theorem topTE {H : Hp} (T : TopT P w K s1.heap a ns cs H) (kin : K.In s1.heap) (hns : s1.heap.Ns mainGlobals mg) (hb : s1.heap.Ns builtinsNs mb) (hbb : ∀ x : Str, x ≠ "__name__" → mb x = bootBuiltins x) (hlim : s1.heap.NoLimit) (hg : s1.gens = #[])
    (hT : ∀ p ∈ cs, s1.heap.get? p.2 = some { cls := .none, data := .fields #[] }) (nT : ∀ p ∈ cs, K.lookup p.2 = none) (ha : s1.heap.get? a = some (scrO vs)) :
    K.In (hidT s1.heap H) ∧ (hidT s1.heap H).Ns mainGlobals mg ∧ Env0 P w K mg (hidT s1.heap H) callerA [] s1 H := by
  have ns : ∀ {b : Addr} {m : Str → Option Value}, s1.heap.Ns b m → (hidT s1.heap H).Ns b m := by
    rintro b m ⟨o, es, ep, e, d, r⟩
    exact ⟨o, es, ep, T.base hT ha e (fun vs n z => by rw [d] at z; cases z) (fun z => by rw [d] at z; cases z), d, r⟩
  have kb : K.In (hidT s1.heap H) := by
    intro b o e
    refine hidT_get (kin b o e) ?_
    by_cases q : b = a
    · subst q
      rcases T.ka with z | z
      · exact z
      · rw [z] at e; cases e
    · refine T.at_ b q fun z => ?_
      obtain ⟨p, hp, rfl⟩ := List.mem_map.mp z
      rw [nT p hp] at e
      cases e
  obtain ⟨mc, l1, l2⟩ := hlim
  exact ⟨kb, ns hns, { frames := rfl, mod := ⟨kb, ns hns, ⟨mb, ns hb, hbb⟩, ⟨mc, ns l1, l2⟩⟩, bs := fun b o e => of_hidT e, bsz := Nat.le_of_eq (hidT_size _ _), funs := trivial, frf := (fun b hb => nomatch hb), hok := T.hok, bare := .of_eq hg }⟩
theorem topTB {H : Hp} (T : TopT P w K s1.heap a ns cs H) (hns : s1.heap.Ns mainGlobals mg) (hT : ∀ p ∈ cs, s1.heap.get? p.2 = some { cls := .none, data := .fields #[] }) (C : ∀ p ∈ cs, PySem.W.CodeHd s1.heap p.1 p.2)
    (hbm : ∃ (bm : Addr) (ob : Obj), mg "__builtins__" = some (.ref bm) ∧ bm ≠ builtinsNs ∧ s1.heap.get? bm = some ob ∧ ob.cls = .type "module" ∧ ob.dict = some builtinsNs ∧ ob.data = .plain) (ha : s1.heap.get? a = some (scrO vs)) :
    ∀ p ∈ cs, TabB (hidT s1.heap H) mg p.1 p.2 := by
  intro p hp
  have hTp := hT p hp
  have nG : ∀ {b : Addr} {o : Obj}, s1.heap.get? b = some o → (∀ es ep, o.data ≠ .dict es ep) → b ≠ mainGlobals := by
    rintro b o e n rfl
    obtain ⟨o', es, ep, e', d, _⟩ := hns
    rw [e] at e'
    cases e'
    exact n _ _ d
  obtain ⟨o, us, file, tf, flags, tg, inF, text, tt, e1, r1, r2, r3, r⟩ := C p hp
  obtain ⟨bm, ob, b1, b2, b3, b4, b5, b6⟩ := hbm
  refine ⟨⟨o, us, file, tf, flags, tg, inF, text, tt, T.base hT ha e1 (fun vs n z => by rw [r2] at z; cases z) (fun z => ?_), r1, r2, r3, r⟩, ⟨bm, ob, b1, b2, nG b3 (fun es ep z => (by rw [b6] at z; cases z)), ?_, T.base hT ha b3 (fun vs n z => by rw [b6] at z; cases z) (fun z => by rw [b6] at z; cases z), b4, b5, b6⟩, ?_⟩
  · rw [r2] at z
    cases z
    simp at r3
  · rintro rfl
    rw [hTp] at b3
    cases b3
    cases b6
  · exact fun z => nG hTp (fun es ep z => by cases z) z.symm
theorem topTR {H : Hp} (T : TopT P w K s1.heap a ns cs H) (hT : ∀ p ∈ cs, s1.heap.get? p.2 = some { cls := .none, data := .fields #[] }) (C : ∀ p ∈ cs, PySem.W.CodeHd s1.heap p.1 p.2) {r : Result} {s' : Shared} (h : CR CX0 [] P w H s1 (fun v _ => v = .bl true) E0 r s') : r = .ok (.ret (.bool true)) ∧ OldK s1.heap s'.heap ∧ s'.os = s1.os ∧ AllBare s'.gens := by
  cases r with
  | error e => exact (show False from h).elim
  | ok fl =>
    cases fl with
    | ret u =>
      obtain ⟨v, H', os, bare, un, hok', rv, e⟩ := h
      have e' : v = .bl true := e
      subst e'
      obtain rfl : u = .bool true := rv
      have key : ∀ b o, b ∉ cs.map (·.2) → s1.heap.get? b = some o → s'.heap.get? b = some o := fun b o nb e => by
        cases q : H b with
        | none => exact un.keep b o e q (fun z => nomatch z) fun z => nomatch z
        | some u =>
          rcases T.only b with z | z | ⟨ob, xs, z⟩
          · rw [q] at z; cases z
          · exact absurd z nb
          · have z2 := un.frzs b ob _ z
            obtain ⟨e1, _⟩ := T.hok b _ z
            obtain ⟨e2, _⟩ := hok' b _ z2
            rw [e] at e1
            cases e1
            exact e2
      have grown : ∀ p ∈ cs, ∃ more : Array Value, s'.heap.get? p.2 = some { cls := .none, data := .fields more } := fun p hp => by
        obtain ⟨more, z⟩ := un.tbls p.2 #[] (T.tb p hp)
        exact ⟨_, hok' p.2 _ z⟩
      refine ⟨rfl, ⟨fun b o e => ?_, fun b o e => ?_⟩, os, bare⟩
      · by_cases hb : b ∈ cs.map (·.2)
        · obtain ⟨p, hp, rfl⟩ := List.mem_map.mp hb
          obtain ⟨more, hm⟩ := grown p hp
          rw [hT p hp] at e
          cases e
          exact .inr (.inl ⟨((C p hp).tab (hT p hp)).isCodeTable, rfl, #[], more, rfl, by rw [Array.empty_append]; exact hm⟩)
        · exact .inl (key b o hb e)
      · by_cases hb : b ∈ cs.map (·.2)
        · obtain ⟨p, hp, rfl⟩ := List.mem_map.mp hb
          obtain ⟨more, hm⟩ := grown p hp
          exact ⟨_, hm⟩
        · exact ⟨o, key b o hb e⟩
    | _ => exact (show False from h).elim
end
/-- what is known of the law's def at the head's heap -/
structure LawT (l : PySem.W.OpenLaw) (w : World) (k : Nat) (x : Str) (mg : Str → Option Value) (fa : Addr) (h : Heap) (K : PySem.W.Frag) (fd : FuncData) (cs : List (Addr × Addr)) (tbl : List NdefX.NTab) : Prop where
  kin : K.In h
  hT : ∀ p ∈ cs, h.get? p.2 = some { cls := .none, data := .fields #[] }
  nT : ∀ p ∈ cs, K.lookup p.2 = none
  hC : ∀ p ∈ cs, PySem.W.CodeHd h p.1 p.2
  tb : ∀ q ∈ tbl, ∃ p ∈ cs, q.1 = p.2
  ta : ∀ p ∈ cs, ∃ nm, (p.2, nm) ∈ tbl
  hb : ∀ (s : Shared) (u : Value), BindsTo s fd ⟨[u], []⟩ [(x, u)]
  fn : ∀ base : Heap, K.In base → base.Ns mainGlobals mg → (∀ p ∈ cs, TabB base mg p.1 p.2) → FnG l.prog w K mg base k fa fd [x] (spLawT K tbl)
theorem walkTE {l : PySem.W.OpenLaw} {q : Program} {loose : List Str} {XP : (Str → Option Value) → Heap → Prop} {YP : World → Heap → Prop} {d : DefRec} (k : Nat) (hn : l.most = some 63) (hdf : d.params.defaults = []) (hroom : Room k callerA)
    (F : ∀ (w : World) (mg : Str → Option Value) (fa : Addr) (h : Heap), YP w h → h.Ns mainGlobals mg → mg d.name = some (.ref fa) → ∃ K fd cs tb, LawT l w k "_law_script" mg fa h K fd cs tb) :
    PySem.W.WalkO q loose XP YP l.row.toRowW d [] (fun f vs => PySem.call f vs) := by
  refine Att.attach_call hn hdf fun w s₀ s₁ mg mb fa o pm cd doc a vs ns G Y ho hd hcd hmg hobj hints hlen hg => ?_
  obtain ⟨K, fd, cs, tb, L⟩ := F w mg fa _ Y G.T.g hmg
  obtain ⟨_, H, T⟩ := topT (P := l.prog) (w := w) (cs := cs) L.kin L.hT hobj hints (Nat.le_trans hlen (by decide))
  obtain ⟨kb, nb, e0⟩ := topTE T L.kin G.T.g G.T.b G.T.builtins G.T.nolimit hg L.hT L.nT hobj
  refine codeAny_mono ((L.fn _ kb nb (topTB T G.T.g L.hT L.hC G.T.bmain hobj)).go callerA [] s₁ H [.ref a] [.ref a] (fun v _ => v = .bl true) E0 rfl hroom e0 (L.hb s₁ (.ref a)) (.cons rfl .nil) ?_) fun r s' h => topTR T L.hT L.hC h
  refine ⟨a, ns, rfl, ?_, ⟨hlen, fun q hq => ?_, fun b ps e => ?_⟩, fun _ => rfl⟩
  · rcases T.sq with (z | z) | z
    · rcases T.only a with q | q | ⟨o, xs, q⟩
      · rw [z] at q; cases q
      · obtain ⟨p, hp, e⟩ := List.mem_map.mp q
        have e1 := T.tb p hp
        rw [e, z] at e1
        cases e1
      · rw [z] at q; cases q
    · exact .inl z
    · exact .inr z
  · obtain ⟨p, hp, e⟩ := L.tb q hq
    rw [e]
    exact NdefX.TabN.nil (T.tb p hp)
  · rcases T.only b with z | z | ⟨o, xs, z⟩
    · rw [z] at e; cases e
    · obtain ⟨p, hp, rfl⟩ := List.mem_map.mp z
      exact L.ta p hp
    · rw [z] at e; cases e
end M
namespace M
noncomputable section
open PySem PySem.Spec PyProof.Rows L2 LamX
theorem oexB_ok {nw : String} {tl : List Value} {K : PySem.W.Frag} {C : Addr} (h : oexB nw tl K C = true) : OexG K C nw tl := by
  unfold oexB at h
  rw [Bool.and_eq_true, Bool.and_eq_true, Bool.and_eq_true, Bool.and_eq_true] at h
  obtain ⟨h1, h2, h3, h4, h5⟩ := h
  refine ⟨?_, of_decide_eq_true h2, of_decide_eq_true h3, of_decide_eq_true h4, h5⟩
  split at h1
  · rename_i t dd cd sl ho
    split at h1
    · rename_i C' bm k0 k1 k2 k3 n k5 hm hs
      simp only [Bool.and_eq_true, decide_eq_true_eq, Bool.not_eq_true'] at h1
      obtain ⟨rfl, rfl, rfl, hdel, hdc, hv⟩ := h1
      obtain ⟨nm, bs, mro, ns, qn, hd, sn, sub, ab, col, del⟩ := cd
      dsimp only at hm hdel hdc
      subst hm hdel hdc
      have hsl : sl = #[k0, k1, k2, k3, some (.builtin n), k5] := by
        obtain ⟨l⟩ := sl
        simp only at hs
        rw [hs]
      subst hsl
      exact ⟨_, _, _, _, _, _, _, _, _, _, _, _, _, _, _, ho, hv⟩
    · cases h1
  · cases h1
structure IniD (st : Stmt) (g fld : Str) : Prop where
  ex : ∃ (p0 p1 p2 p3 p4 p5 p6 p7 p8 p9 : Pos) (ar : Arg), defBody st = xiBody g fld p0 p1 p2 p3 p4 p5 p6 p7 p8 p9 ∧ (p2.endLine == p4.line) = true ∧ ((defArgs st).posonlyargs ++ (defArgs st).args).head? = some ar ∧ ar.arg = "self"
  sc : NdefX.NScope ["self", g, "__class__"] ["self", g] ["__class__"] (defScope st)
  sup : (defScope st).names.lookup ("super" : Str) = some .globalImplicit
  d1 : (g == ("__debug__" : Str)) = false
  d2 : (g == ("__classdict__" : Str)) = false
  bi : ∀ (qual : Str) (cl : List (Str × Addr)) (kV doc pm : Value) (an : Option Addr) (cdv ct : Value) (us : List Value), us.length = 2 → bindArgs (PySem.W.fnX "__init__" qual (defArgs st) (defBody st) (defScope st) cl .none kV doc pm an cdv ct) ⟨us, []⟩ = pure ((["self", g] : List Str).zip us)
  bk : ∀ (qual : Str) (cl : List (Str × Addr)) (kV doc pm : Value) (an : Option Addr) (cdv ct : Value) (u : Value) (ws : List Value), ws.length = ([g] : List Str).length → bindArgs (PySem.W.fnX "__init__" qual (defArgs st) (defBody st) (defScope st) cl .none kV doc pm an cdv ct) ⟨[u], ([g] : List Str).zip ws⟩ = pure (((["self", g] : List Str)).zip (u :: permL .none [0] ws))
theorem nonB_ok {v : Value} (h : nonB v = true) : v = .none := by
  cases v <;> first | rfl | cases h
theorem cloB_ok {K : PySem.W.Frag} {C : Addr} {l : List (Str × Addr)} (h : cloB K C l = true) : ∃ y cc cl cld csl, l = [(y, cc)] ∧ K.lookup cc = some ⟨cl, cld, .cell (some (.ref C)), csl⟩ := by
  unfold cloB at h
  split at h
  · rename_i y cc
    split at h
    · rename_i hc
      have := of_decide_eq_true h
      subst this
      exact ⟨_, _, _, _, _, rfl, hc⟩
    · cases h
  · cases h
theorem filB_ok {K : PySem.W.Frag} {P : Program} {v : Value} (h : filB K P v = true) : ∃ cda cl cd vs sl file tf, v = .ref cda ∧ K.lookup cda = some ⟨cl, cd, .fields vs, sl⟩ ∧ vs[2]? = some (.str file tf) ∧ ((P.main.file : Str) == file) = true := by
  unfold filB at h
  split at h
  · split at h
    · rename_i hc
      split at h
      · rename_i hv
        exact ⟨_, _, _, _, _, _, _, rfl, hc, hv, h⟩
      · cases h
    · cases h
  · cases h
theorem excIn_G {B i nw : String} {tl : List Value} (hB : BaseI B i nw tl) {h : Heap} {C : Ctx} {x qual g fld : Str} {st : Stmt} {n : Nat} (X : C.K.In h) (G : h.Ns mainGlobals C.mg) (D : IniD st g fld) (e : iniW C.K x = (InD.mk x qual st none).val) (b : iniG B i nw tl C.P x qual fld C.K = true) (ht : (C.P.main.scope.names.lookup ("super" : Str)).isSome = false) (hcn : C.T.cn n = x) (hfl : C.T.fl n = [fld]) : ExcV C x g n := by
  unfold iniG at b
  simp only [Bool.and_eq_true, decide_eq_true_eq] at b
  obtain ⟨b1, b2, b3, b4, b5, b6, b7, b8, b9, b10, b11⟩ := b
  unfold iniW He.fnW at e
  obtain ⟨p0, p1, p2, p3, p4, p5, p6, p7, p8, p9, ar, hb, hln, har, hself⟩ := D.ex
  cases q : C.K.lookup (He.fAd C.K (x, some "__init__")) with
  | none => rw [q] at e; cases e
  | some o =>
    obtain ⟨oc, od, dt, osl⟩ := o
    rw [q] at b1 e
    cases dt with
    | func fd =>
      obtain ⟨n1, n2, n3, n4, n5, n6, n7, n8, n9, n10, n11, n12, n13, n14, n15⟩ := fd
      have e2 : (some (n1, n2, n3, n4, n5, n6, n7.map (·.1), n15) : IniW) = (some ("__init__", qual, defArgs st, FuncBody.stmts (defBody st), defScope st, mainGlobals, ["__class__"], builtinsNs) : IniW) := e
      simp only [Option.some.injEq, Prod.mk.injEq] at e2
      obtain ⟨h1, h2, h3, h4, h5, h6, h7, h8⟩ := e2
      subst h1 h2 h3 h4 h5 h6 h8
      have b1 : (nonB n8 && (PySem.W.codeIn C.K n13 n2 && (cloB C.K (He.ga C.K x) n7 && filB C.K C.P n13))) = true := b1
      simp only [Bool.and_eq_true] at b1
      obtain ⟨c1, c2, c3, c4⟩ := b1
      obtain rfl := nonB_ok c1
      obtain ⟨y, cc, cl, cld, csl, rfl, hcell⟩ := cloB_ok c3
      obtain ⟨cda, ccl, cdd, vs, ccs, file, tf, rfl, hcode, hv, hfile⟩ := filB_ok c4
      have hy : y = "__class__" := by simpa using h7
      subst hy
      refine ⟨He.ga C.K x, He.fAd C.K (x, some "__init__"), _, fld, PySem.W.mg_of X G b3, hcn, hfl, ⟨⟨n2, defArgs st, defScope st, .none, n9, n10, n11, n14, oc, n12, od, osl, cc, cda, p0, p1, p2, p3, p4, p5, p6, p7, p8, p9, cl, ccl, cld, cdd, csl, ccs, vs, file, tf, ar, ?_, q, c2, D.sc, D.sup, hcell, hcode, hv, hfile, har, hself, hln, D.d1, D.d2⟩, ht, PySem.W.mg_none_of X G b4, ⟨_, _, _, _, hB, oexB_ok b2, b5, b6⟩, b7, b8, b9⟩, b10, b11, ?_, ?_⟩
      · rw [← hb]
      · exact .all (D.bi _ _ _ _ _ _ _ _)
      · exact fun s u ws _ hl => .of_eq (D.bk _ _ _ _ _ _ _ _ u ws hl)
    | _ => cases e
theorem excIn_of {h : Heap} {C : Ctx} {x qual g fld : Str} {st : Stmt} {n : Nat} (X : C.K.In h) (G : h.Ns mainGlobals C.mg) (D : IniD st g fld) (e : iniW C.K x = (InD.mk x qual st none).val) (b : iniB C.P x qual fld C.K = true) (ht : (C.P.main.scope.names.lookup ("super" : Str)).isSome = false) (hcn : C.T.cn n = x) (hfl : C.T.fl n = [fld]) : ExcV C x g n := excIn_G (B := "ValueError") (i := "ValueError.__init__") (nw := "ValueError.__new__") (tl := tlV) .val X G D e b ht hcn hfl
theorem excIn_ofL {h : Heap} {C : Ctx} {x qual g fld : Str} {st : Stmt} {n : Nat} (X : C.K.In h) (G : h.Ns mainGlobals C.mg) (D : IniD st g fld) (e : iniW C.K x = (InD.mk x qual st none).val) (b : iniBL C.P x qual fld C.K = true) (ht : (C.P.main.scope.names.lookup ("super" : Str)).isSome = false) (hcn : C.T.cn n = x) (hfl : C.T.fl n = [fld]) : ExcV C x g n := excIn_G (B := "LookupError") (i := "LookupError.__init__") (nw := "LookupError.__new__") (tl := tlL) .loo X G D e b ht hcn hfl
theorem excIn_ofA {h : Heap} {C : Ctx} {x qual g fld : Str} {st : Stmt} {n : Nat} (X : C.K.In h) (G : h.Ns mainGlobals C.mg) (D : IniD st g fld) (e : iniW C.K x = (InD.mk x qual st none).val) (b : iniBA C.P x qual fld C.K = true) (ht : (C.P.main.scope.names.lookup ("super" : Str)).isSome = false) (hcn : C.T.cn n = x) (hfl : C.T.fl n = [fld]) : ExcV C x g n := excIn_G (B := "ArithmeticError") (i := "ArithmeticError.__init__") (nw := "ArithmeticError.__new__") (tl := tlA) .ari X G D e b ht hcn hfl
end
end M
namespace M
noncomputable section
open PySem PySem.Spec PyProof.Rows L2 LamX
theorem memL {c : Nat} {b : Bool} : ∀ {rs : List (Nat × Bool)}, rs.lookup c = some b → (c, b) ∈ rs
  | [], h => by cases h
  | (k, v) :: rs, h => by
    simp only [List.lookup] at h
    split at h
    · rename_i e
      have : c = k := by simpa using e
      subst this
      cases h
      exact List.mem_cons_self
    · exact List.mem_cons_of_mem _ (memL h)
theorem excCB_ok {K : PySem.W.Frag} {C : Addr} (h : excCB K C = true) : ExcC K C ∧ XfC K C := by
  unfold excCB at h
  simp only [Bool.and_eq_true, decide_eq_true_eq] at h
  obtain ⟨h1, h2, h3, h4, h5, h6, h7, h8⟩ := h
  exact ⟨⟨h1, h2, h3, h4, h5, h6, h7, h8⟩, ⟨h1, h2, h3, h4⟩⟩
section
variable {h : Heap} {C : Ctx} {x n : Str} {ns : List Nat} {rs : List (Nat × Bool)} {xs : List Str}
theorem exc_at (X : C.K.In h) (G : h.Ns mainGlobals C.mg) (e : excAll C.T ns C.K = true) {c : Nat} (hc : c ∈ ns) {A : Addr} (hA : C.mg (C.T.cn c) = some (.ref A)) : A = He.ga C.K (C.T.cn c) ∧ ExcC C.K A ∧ XfC C.K A := by
  have z := List.all_eq_true.mp e c hc
  rw [Bool.and_eq_true] at z
  have z1 := PySem.W.mg_of X G (of_decide_eq_true z.1)
  rw [hA] at z1
  cases z1
  exact ⟨rfl, excCB_ok z.2⟩
theorem isX_of (X : C.K.In h) (G : h.Ns mainGlobals C.mg) (e : excAll C.T ns C.K = true) (b : isxB C.T x rs C.K = true) (hn : rs.map (·.1) = ns) : IsX C x fun c => rs.lookup c := by
  unfold isxB at b
  rw [Bool.and_eq_true] at b
  refine ⟨.ref (He.ga C.K x), .ref (He.ga C.K x), .inr (PySem.W.mg_of X G (of_decide_eq_true b.1)), rfl, fun v z => z, fun c k A hf hA => ?_⟩
  have hm := memL hf
  obtain ⟨rfl, h1, _⟩ := exc_at X G e (by rw [← hn]; exact List.mem_map.mpr ⟨_, hm, rfl⟩) hA
  exact ⟨h1, of_decide_eq_true (List.all_eq_true.mp b.2 _ hm)⟩
theorem isX_ofT {t : String} (X : C.K.In h) (G : h.Ns mainGlobals C.mg) (e : excAll C.T ns C.K = true) (b : isxT C.T x t rs C.K = true) (hn : rs.map (·.1) = ns) (hx : bootBuiltins x = some (.type t)) (hx2 : x ≠ "__name__") {cv : V} (hv : RelV cv (.type t)) (hv2 : ∀ v, RelV cv v → v = .type t) : IsX C x fun c => rs.lookup c := by
  unfold isxT at b
  rw [Bool.and_eq_true] at b
  refine ⟨.type t, cv, .inl ⟨PySem.W.mg_none_of X G (of_decide_eq_true b.1), hx, hx2⟩, hv, hv2, fun c k A hf hA => ?_⟩
  have hm := memL hf
  obtain ⟨rfl, h1, _⟩ := exc_at X G e (by rw [← hn]; exact List.mem_map.mpr ⟨_, hm, rfl⟩) hA
  exact ⟨h1, of_decide_eq_true (List.all_eq_true.mp b.2 _ hm)⟩
theorem xfX_of (X : C.K.In h) (G : h.Ns mainGlobals C.mg) (e : excAll C.T ns C.K = true) (b : xfxB C.T n rs C.K = true) (hn : rs.map (·.1) = ns) (hfl : (rs.all fun r => !r.2 || decide (C.T.fl r.1 = [n])) = true) : XfX C n fun c => (rs.lookup c).getD false := by
  refine ⟨fun c A hf hA => ?_⟩
  cases q : rs.lookup c with
  | none => rw [q] at hf; cases hf
  | some k =>
    rw [q] at hf
    have hf : k = true := hf
    subst hf
    have hm := memL q
    obtain ⟨rfl, _, h2⟩ := exc_at X G e (by rw [← hn]; exact List.mem_map.mpr ⟨_, hm, rfl⟩) hA
    have z := List.all_eq_true.mp b _ hm
    have z2 := List.all_eq_true.mp hfl _ hm
    exact ⟨h2, by simpa using z, by simpa using z2⟩
end
structure LamK (h : Heap) (K : PySem.W.Frag) (x : Str) : Prop where
  tab : PySem.W.tabIn K x = some (tabP K x)
  hd : PySem.W.CodeHd h (tabP K x).1 (tabP K x).2
  no : K.lookup (tabP K x).2 = none
  at_ : h.get? (tabP K x).2 = some { cls := .none, data := .fields #[] }
theorem lamB_ok {K : PySem.W.Frag} {h : Heap} {x : Str} (X : K.In h) (b : lamB K h.get? x = true) : LamK h K x := by
  unfold lamB at b
  simp only [Bool.and_eq_true] at b
  obtain ⟨b1, b2, b3, b4⟩ := b
  refine ⟨?_, PySem.W.codeHd_of_K X b2, by simpa using b3, ?_⟩
  · obtain ⟨p, hp⟩ := Option.isSome_iff_exists.mp b1
    unfold tabP
    rw [hp]; rfl
  · split at b4
    · rename_i vs sl e
      simp only [Bool.and_eq_true] at b4
      have h1 : vs = #[] := Array.isEmpty_iff.mp b4.1
      have h2 : sl = #[] := Array.isEmpty_iff.mp b4.2
      subst h1 h2
      exact e
    · cases b4
theorem excN_of {C : Ctx} {x : Str} {n : Nat} {h : Heap} (X : C.K.In h) (G : h.Ns mainGlobals C.mg) (b : excNB x C.K = true) (e : C.T.cn n = x) : ExcE C x n := by
  unfold excNB at b
  split at b
  · rename_i A hA
    simp only [Bool.and_eq_true] at b
    exact ⟨A, "ArithmeticError", "ArithmeticError.__new__", "ArithmeticError.__init__", arBm, PySem.F.excBase_ArithmeticError, b.1, PySem.W.mg_of X G hA, e, b.2⟩
  · cases b
end
end M
namespace M
noncomputable section
open PySem PySem.Spec PyProof.Rows L2 LamX
abbrev obX (fa : List He.Fa) (fn : List He.DefD) (ts : List He.Tab) (ex : List (PySem.W.Frag → Bool)) (ini : List InD) (lm : List Str) (n : Nat) (g : Addr → Option Obj) : (He.AlT × Bool) × (List IniW × Bool) :=
  ((He.obsT fa fn ts (frT g n), ex.all fun f => f (frT g n)), (ini.map (fun d => obsI (frT g n) d), lm.all (lamB (frT g n) g)))
structure SaysX (fa : List He.Fa) (fn : List He.DefD) (ts : List He.Tab) (ex : List (PySem.W.Frag → Bool)) (ini : List InD) (lm : List Str) (w : World) (h : Heap) (K : PySem.W.Frag) : Prop where
  m : SaysM fa fn ts ex w h K
  i : ini.map (fun d => obsI K d) = ini.map InD.val
  l : ∀ x ∈ lm, LamK h K x
def hookX (fa : List He.Fa) (fn : List He.DefD) (ts : List He.Tab) (ex : List (PySem.W.Frag → Bool)) (ini : List InD) (lm : List Str) : PySem.W.Hook where
  α := (He.AlT × Bool) × (List IniW × Bool)
  obs := fun s => obX fa fn ts ex ini lm s.heap.objs.size s.heap.get?
  val := fun w => ((He.valT fn ts w, true), (ini.map InD.val, true))
  says := fun w h => ∃ K : PySem.W.Frag, SaysX fa fn ts ex ini lm w h K
  of := fun _ s e => ⟨frT s.heap.get? s.heap.objs.size, ⟨⟨He.frG_in, congrArg (fun z : (He.AlT × Bool) × (List IniW × Bool) => z.1.1) e, congrArg (fun z : (He.AlT × Bool) × (List IniW × Bool) => z.1.2) e⟩, congrArg (fun z : (He.AlT × Bool) × (List IniW × Bool) => z.2.1) e, fun x hx => lamB_ok He.frG_in (List.all_eq_true.mp (congrArg (fun z : (He.AlT × Bool) × (List IniW × Bool) => z.2.2) e) x hx)⟩⟩
  keeps := fun _ _ _ ⟨K, c⟩ k => ⟨K, ⟨⟨PySem.W.Frag.In.keeps c.m.kin k, c.m.t, c.m.x⟩, c.i, fun x hx => let l := c.l x hx; ⟨l.tab, l.hd.keeps k, l.no, k _ _ l.at_⟩⟩⟩
theorem obX_eq {fa : List He.Fa} {fn : List He.DefD} {ts : List He.Tab} {ex : List (PySem.W.Frag → Bool)} {ini : List InD} {lm : List Str} (s : PySem.W.SharedT) : obX fa fn ts ex ini lm s.n (HandSHeadRun.getT s) = (hookX fa fn ts ex ini lm).obs s.abs := by
  have e : HandSHeadRun.getT s = s.abs.heap.get? := funext fun a => HandSHeadRun.getT_eq s a
  have e2 : s.abs.heap.objs.size = s.n := PySem.W.absHeap_size s.tree s.n s.life
  show _ = obX fa fn ts ex ini lm s.abs.heap.objs.size s.abs.heap.get?
  rw [e, e2]
section
variable {fa : List He.Fa} {fn : List He.DefD} {ts : List He.Tab} {ex : List (PySem.W.Frag → Bool)} {ini : List InD} {lm : List Str} {w : World} {h : Heap} {K : PySem.W.Frag}
theorem SaysX.iniAt (c : SaysX fa fn ts ex ini lm w h K) (i : Nat) {d : InD} (e : ini[i]? = some d) : obsI K d = d.val := by
  have z : (ini.map (fun d => obsI K d))[i]? = (ini.map InD.val)[i]? := by rw [c.i]
  rw [List.getElem?_map, List.getElem?_map, e] at z
  exact Option.some.inj z
end
theorem runXt_app {r : PySem.W.OpenRow} {M : Nat} {ex1 ex2 : List (PySem.W.Frag → Bool)} {w : World} (a : RunXt r M ex1 w) (b : RunXt r M ex2 w) : RunXt r M (ex1 ++ ex2) w := by
  intro os
  have a := a os
  have b := b os
  cases e : hRunE r M w os with
  | none => rw [e] at a; cases a
  | some s =>
    rw [e] at a b
    simp only [Option.map_some, Option.some.injEq] at a b
    rw [Option.map_some, List.all_append, a, b]
    rfl
theorem runX_of {r : PySem.W.OpenRow} {q : Program} {M : Nat} {loose : List PySem.Str} {fa : List He.Fa} {fn1 fn2 : List He.DefD} {ts : List He.Tab} {ex1 ex2 : List (PySem.W.Frag → Bool)} {ini : List InD} {lm : List Str} {w : World}
    (a : RunA r q M loose w) (b : RunBt r M fa ts w) (x1 : RunXt r M ex1 w) (x2 : RunXt r M ex2 w) (c1 : RunCt r M fn1 w) (c2 : RunCt r M fn2 w) (d1 : RunDt r M fn1 w) (d2 : RunDt r M fn2 w) (e1 : RunEt r M ini lm w) :
    HandSHeadRun.RunEq r q (hookX fa (fn1 ++ fn2) ts (ex1 ++ ex2) ini lm) (fun s => obX fa (fn1 ++ fn2) ts (ex1 ++ ex2) ini lm s.n (HandSHeadRun.getT s)) M loose w := by
  intro os
  have a := a os
  have b := b os
  have x1 := x1 os
  have x2 := x2 os
  have c1 := c1 os
  have c2 := c2 os
  have d1 := d1 os
  have d2 := d2 os
  have e1 := e1 os
  show (hRunE r M w os).map _ = _
  cases e : hRunE r M w os with
  | none =>
    rw [e] at a
    cases a
  | some s =>
    rw [e] at a b x1 x2 c1 c2 d1 d2 e1
    simp only [Option.map_some, Option.some.injEq, Prod.mk.injEq] at a b x1 x2 c1 c2 d1 d2 e1
    obtain ⟨a1, a2⟩ := a
    obtain ⟨b1, b2⟩ := b
    obtain ⟨g1, g2⟩ := e1
    rw [Option.map_some]
    refine congrArg some (Prod.ext a1 (Prod.ext a2 ?_))
    show (((((fa.all (fun f => f.ok (hKt s)) && (fn1 ++ fn2).all (fun d => d.ok (hKt s)), (fn1 ++ fn2).map (fun d => He.fnW (hKt s) d.at_)), ts.map (fun t => He.dicW (hKt s) (t.1 (hKt s)))), (ex1 ++ ex2).all fun f => f (hKt s)), (ini.map (fun d => obsI (hKt s) d), lm.all (lamB (hKt s) (HandSHeadRun.getT s)))) : (He.AlT × Bool) × (List IniW × Bool)) = ((((true, (fn1 ++ fn2).map He.DefD.val), ts.map (fun t => some (He.keysIn w.params t.2))), true), (ini.map InD.val, true))
    rw [b1, b2, List.all_append, List.all_append, c1, c2, x1, x2, List.map_append, List.map_append, d1, d2, g1, g2]
    rfl
theorem law_ofGT {l : PySem.W.OpenLaw} {w : World} {K : PySem.W.Frag} {mg : Str → Option Value} {fa : Addr} {h : Heap} {T : Tb} {st : Stmt} {N : List Str} {xs : XS} {k : Nat} {lm : List Str} {tbl : List (Addr × Str)} (X : K.In h) (G : h.Ns mainGlobals mg) (hfa : mg "law" = some (.ref fa)) (d : DefIn K "law" "law" st)
    (hb : ∀ (kV doc pm : Value) (an : Option Addr) (cdv ct : Value) (us : List Value), us.length = ["_law_script"].length → bindArgs (PySem.W.fnOf "law" "law" (defArgs st) (defBody st) (defScope st) .none kV doc pm an cdv ct) ⟨us, []⟩ = pure ((["_law_script"] : List Str).zip us))
    (S : FnScope N ["_law_script"] (defScope st)) (hl : ∀ x ∈ lm, LamK h K x) (ht : tbl.map (·.1) = lm.map fun x => (tabP K x).2)
    (D : ∀ C : Ctx, C.P = l.prog → C.K = K → C.mg = mg → C.T = T → C.exo = none → C.fno = none → C.tb = tbl.map (fun p => (p.1, fun _ _ => p.2)) → (∀ x ∈ lm, TabB C.base C.mg (tabP K x).1 (tabP K x).2) → C.gd = true → JSs (C.fn N (defScope st) k []) (defBody st) (xwS xs))
    (hr : ∀ ns : List Int, ns.length ≤ 63 → runF 1 N.length xs [.scr ns] = some (.bl true)) :
    ∃ fd : FuncData, LawT l w (k + 1) "_law_script" mg fa h K fd (lm.map (tabP K)) (tbl.map fun p => (p.1, fun _ _ => p.2)) := by
  obtain ⟨f, fd, F, a⟩ := d
  have hf : f = fa := by
    have := PySem.W.mg_of X G a
    rw [hfa] at this
    injection this with e
    injection e with e
    exact e.symm
  subst hf
  refine ⟨fd, ⟨X, fun p hp => ?_, fun p hp => ?_, fun p hp => ?_, fun q hq => ?_, fun p hp => ?_, fun s v => ?_, fun base _ _ hB => ?_⟩⟩
  · obtain ⟨x, hx, rfl⟩ := List.mem_map.mp hp
    exact (hl x hx).at_
  · obtain ⟨x, hx, rfl⟩ := List.mem_map.mp hp
    exact (hl x hx).no
  · obtain ⟨x, hx, rfl⟩ := List.mem_map.mp hp
    exact (hl x hx).hd
  · obtain ⟨p, hp, rfl⟩ := List.mem_map.mp hq
    have z : p.1 ∈ tbl.map (·.1) := List.mem_map.mpr ⟨p, hp, rfl⟩
    rw [ht] at z
    obtain ⟨x, hx, e⟩ := List.mem_map.mp z
    exact ⟨tabP K x, List.mem_map.mpr ⟨x, hx, rfl⟩, e.symm⟩
  · obtain ⟨x, hx, rfl⟩ := List.mem_map.mp hp
    have z : (tabP K x).2 ∈ tbl.map (·.1) := by rw [ht]; exact List.mem_map.mpr ⟨x, hx, rfl⟩
    obtain ⟨q, hq, e⟩ := List.mem_map.mp z
    exact ⟨_, List.mem_map.mpr ⟨q, hq, by rw [← e]⟩⟩
  · obtain ⟨oc, od, kV, doc, pm, an, cdv, ct, osl, rfl, lk, hcd⟩ := F.ex
    exact .of_eq (hb kV doc pm an cdv ct [v] rfl)
  · let C0 : Ctx := ⟨l.prog, w, K, mg, base, T, [], defScope st, k, [], fun _ => false, true, tbl.map (fun p => (p.1, fun _ _ => p.2)), none, false, none, none⟩
    refine FnG.imp (sp := spF ⟨K, mg, T, w, tbl.map (fun p => (p.1, fun _ _ => p.2)), none, none⟩ (spOf 1 N.length (xwS xs))) ?_ ?_
    · exact fnGF (C := C0) (ps := ["_law_script"]) F S (D C0 rfl rfl rfl rfl rfl rfl rfl (fun x hx => hB _ (List.mem_map.mpr ⟨x, hx, rfl⟩)) rfl)
    · rintro vs H Q E ⟨p, ns, rfl, hs, hl, q⟩
      refine ⟨fun _ => False, [.scr ns], fun r => r = .bl true, .cons (f1 := NoA) (f2 := NoA) (.scr (fun _ z => z) hs) (.nil fun _ z => z) (fun _ z => z.elim) (fun a => ⟨fun z => z.elim, fun z => z.elim id id⟩), ⟨fun _ z => z.elim, hl.2⟩, runF_ok _ _ ⟨_, hr ns hl.1, rfl⟩, ?_⟩
      rintro r F' H' fr v rfl rep _
      cases rep
      exact q H'
end
end M
noncomputable section
namespace M
open PySem PySem.Spec PyProof.Rows L2
namespace PP
def cs_a : Str := ⟨#[97]⟩
theorem cs_a_eq : ("a" : Str) = cs_a := by decide +kernel
def gl_GREATEST : Dat := .int 1000000000000000000000000000000
def gl_MOST_LABEL : Dat := .int 9
def gl_MOST_LEAVES : Dat := .int 8
def gl_MOST_PACKETS : Dat := .int 6
def gl_MOST_SEEN : Dat := .int 12
def gl_MOST_SLIPS : Dat := .int 3
def gl_MOST_STANDINGS : Dat := .int 20000
def gl_MOST_STEPS : Dat := .int 1000
def gl_MOST_TOLD : Dat := .int 24
def tblX (K : PySem.W.Frag) : List (Addr × Str) := []
theorem ID_InvalidText : IniD s_InvalidText_init "given" "given" := ⟨⟨_, _, _, _, _, _, _, _, _, _, _, rfl, by decide +kernel, rfl, rfl⟩, NdefX.nscope_by (by decide +kernel), rfl, by decide +kernel, by decide +kernel, fun _ _ _ _ _ _ _ _ us hl => match us, hl with | [_, _], _ => rfl, fun _ _ _ _ _ _ _ _ _ ws hl => match ws, hl with | [_], _ => rfl⟩
theorem ID_InvalidSection : IniD s_InvalidSection_init "given" "given" := ⟨⟨_, _, _, _, _, _, _, _, _, _, _, rfl, by decide +kernel, rfl, rfl⟩, NdefX.nscope_by (by decide +kernel), rfl, by decide +kernel, by decide +kernel, fun _ _ _ _ _ _ _ _ us hl => match us, hl with | [_, _], _ => rfl, fun _ _ _ _ _ _ _ _ _ ws hl => match ws, hl with | [_], _ => rfl⟩
theorem ID_InvalidManner : IniD s_InvalidManner_init "given" "given" := ⟨⟨_, _, _, _, _, _, _, _, _, _, _, rfl, by decide +kernel, rfl, rfl⟩, NdefX.nscope_by (by decide +kernel), rfl, by decide +kernel, by decide +kernel, fun _ _ _ _ _ _ _ _ us hl => match us, hl with | [_, _], _ => rfl, fun _ _ _ _ _ _ _ _ _ ws hl => match ws, hl with | [_], _ => rfl⟩
theorem ID_InvalidMoment : IniD s_InvalidMoment_init "given" "given" := ⟨⟨_, _, _, _, _, _, _, _, _, _, _, rfl, by decide +kernel, rfl, rfl⟩, NdefX.nscope_by (by decide +kernel), rfl, by decide +kernel, by decide +kernel, fun _ _ _ _ _ _ _ _ us hl => match us, hl with | [_, _], _ => rfl, fun _ _ _ _ _ _ _ _ _ ws hl => match ws, hl with | [_], _ => rfl⟩
theorem ID_InvalidPage : IniD s_InvalidPage_init "given" "given" := ⟨⟨_, _, _, _, _, _, _, _, _, _, _, rfl, by decide +kernel, rfl, rfl⟩, NdefX.nscope_by (by decide +kernel), rfl, by decide +kernel, by decide +kernel, fun _ _ _ _ _ _ _ _ us hl => match us, hl with | [_, _], _ => rfl, fun _ _ _ _ _ _ _ _ _ ws hl => match ws, hl with | [_], _ => rfl⟩
theorem ID_InvalidWord : IniD s_InvalidWord_init "given" "given" := ⟨⟨_, _, _, _, _, _, _, _, _, _, _, rfl, by decide +kernel, rfl, rfl⟩, NdefX.nscope_by (by decide +kernel), rfl, by decide +kernel, by decide +kernel, fun _ _ _ _ _ _ _ _ us hl => match us, hl with | [_, _], _ => rfl, fun _ _ _ _ _ _ _ _ _ ws hl => match ws, hl with | [_], _ => rfl⟩
theorem ID_InvalidMany : IniD s_InvalidMany_init "given" "given" := ⟨⟨_, _, _, _, _, _, _, _, _, _, _, rfl, by decide +kernel, rfl, rfl⟩, NdefX.nscope_by (by decide +kernel), rfl, by decide +kernel, by decide +kernel, fun _ _ _ _ _ _ _ _ us hl => match us, hl with | [_, _], _ => rfl, fun _ _ _ _ _ _ _ _ _ ws hl => match ws, hl with | [_], _ => rfl⟩
theorem ID_InvalidKind : IniD s_InvalidKind_init "given" "given" := ⟨⟨_, _, _, _, _, _, _, _, _, _, _, rfl, by decide +kernel, rfl, rfl⟩, NdefX.nscope_by (by decide +kernel), rfl, by decide +kernel, by decide +kernel, fun _ _ _ _ _ _ _ _ us hl => match us, hl with | [_, _], _ => rfl, fun _ _ _ _ _ _ _ _ _ ws hl => match ws, hl with | [_], _ => rfl⟩
theorem ID_InvalidNumber : IniD s_InvalidNumber_init "given" "given" := ⟨⟨_, _, _, _, _, _, _, _, _, _, _, rfl, by decide +kernel, rfl, rfl⟩, NdefX.nscope_by (by decide +kernel), rfl, by decide +kernel, by decide +kernel, fun _ _ _ _ _ _ _ _ us hl => match us, hl with | [_, _], _ => rfl, fun _ _ _ _ _ _ _ _ _ ws hl => match ws, hl with | [_], _ => rfl⟩
theorem ID_InvalidName : IniD s_InvalidName_init "given" "given" := ⟨⟨_, _, _, _, _, _, _, _, _, _, _, rfl, by decide +kernel, rfl, rfl⟩, NdefX.nscope_by (by decide +kernel), rfl, by decide +kernel, by decide +kernel, fun _ _ _ _ _ _ _ _ us hl => match us, hl with | [_, _], _ => rfl, fun _ _ _ _ _ _ _ _ _ ws hl => match ws, hl with | [_], _ => rfl⟩
theorem ID_InvalidClaim : IniD s_InvalidClaim_init "given" "given" := ⟨⟨_, _, _, _, _, _, _, _, _, _, _, rfl, by decide +kernel, rfl, rfl⟩, NdefX.nscope_by (by decide +kernel), rfl, by decide +kernel, by decide +kernel, fun _ _ _ _ _ _ _ _ us hl => match us, hl with | [_, _], _ => rfl, fun _ _ _ _ _ _ _ _ _ ws hl => match ws, hl with | [_], _ => rfl⟩
theorem ID_InvalidIndex : IniD s_InvalidIndex_init "given" "given" := ⟨⟨_, _, _, _, _, _, _, _, _, _, _, rfl, by decide +kernel, rfl, rfl⟩, NdefX.nscope_by (by decide +kernel), rfl, by decide +kernel, by decide +kernel, fun _ _ _ _ _ _ _ _ us hl => match us, hl with | [_, _], _ => rfl, fun _ _ _ _ _ _ _ _ _ ws hl => match ws, hl with | [_], _ => rfl⟩
theorem ID_InvalidLine : IniD s_InvalidLine_init "given" "given" := ⟨⟨_, _, _, _, _, _, _, _, _, _, _, rfl, by decide +kernel, rfl, rfl⟩, NdefX.nscope_by (by decide +kernel), rfl, by decide +kernel, by decide +kernel, fun _ _ _ _ _ _ _ _ us hl => match us, hl with | [_, _], _ => rfl, fun _ _ _ _ _ _ _ _ _ ws hl => match ws, hl with | [_], _ => rfl⟩
theorem ID_NotAService : IniD s_NotAService_init "given" "given" := ⟨⟨_, _, _, _, _, _, _, _, _, _, _, rfl, by decide +kernel, rfl, rfl⟩, NdefX.nscope_by (by decide +kernel), rfl, by decide +kernel, by decide +kernel, fun _ _ _ _ _ _ _ _ us hl => match us, hl with | [_, _], _ => rfl, fun _ _ _ _ _ _ _ _ _ ws hl => match ws, hl with | [_], _ => rfl⟩
theorem ID_InvalidSlips : IniD s_InvalidSlips_init "index" "index" := ⟨⟨_, _, _, _, _, _, _, _, _, _, _, rfl, by decide +kernel, rfl, rfl⟩, NdefX.nscope_by (by decide +kernel), rfl, by decide +kernel, by decide +kernel, fun _ _ _ _ _ _ _ _ us hl => match us, hl with | [_, _], _ => rfl, fun _ _ _ _ _ _ _ _ _ ws hl => match ws, hl with | [_], _ => rfl⟩
theorem ID_InvalidLists : IniD s_InvalidLists_init "index" "index" := ⟨⟨_, _, _, _, _, _, _, _, _, _, _, rfl, by decide +kernel, rfl, rfl⟩, NdefX.nscope_by (by decide +kernel), rfl, by decide +kernel, by decide +kernel, fun _ _ _ _ _ _ _ _ us hl => match us, hl with | [_, _], _ => rfl, fun _ _ _ _ _ _ _ _ _ ws hl => match ws, hl with | [_], _ => rfl⟩
theorem ID_InvalidSeen : IniD s_InvalidSeen_init "index" "index" := ⟨⟨_, _, _, _, _, _, _, _, _, _, _, rfl, by decide +kernel, rfl, rfl⟩, NdefX.nscope_by (by decide +kernel), rfl, by decide +kernel, by decide +kernel, fun _ _ _ _ _ _ _ _ us hl => match us, hl with | [_, _], _ => rfl, fun _ _ _ _ _ _ _ _ _ ws hl => match ws, hl with | [_], _ => rfl⟩
theorem ID_InvalidDeeds : IniD s_InvalidDeeds_init "index" "index" := ⟨⟨_, _, _, _, _, _, _, _, _, _, _, rfl, by decide +kernel, rfl, rfl⟩, NdefX.nscope_by (by decide +kernel), rfl, by decide +kernel, by decide +kernel, fun _ _ _ _ _ _ _ _ us hl => match us, hl with | [_, _], _ => rfl, fun _ _ _ _ _ _ _ _ _ ws hl => match ws, hl with | [_], _ => rfl⟩
theorem ID_UnknownName : IniD s_UnknownName_init "given" "given" := ⟨⟨_, _, _, _, _, _, _, _, _, _, _, rfl, by decide +kernel, rfl, rfl⟩, NdefX.nscope_by (by decide +kernel), rfl, by decide +kernel, by decide +kernel, fun _ _ _ _ _ _ _ _ us hl => match us, hl with | [_, _], _ => rfl, fun _ _ _ _ _ _ _ _ _ ws hl => match ws, hl with | [_], _ => rfl⟩
theorem ID_InUse : IniD s_InUse_init "index" "index" := ⟨⟨_, _, _, _, _, _, _, _, _, _, _, rfl, by decide +kernel, rfl, rfl⟩, NdefX.nscope_by (by decide +kernel), rfl, by decide +kernel, by decide +kernel, fun _ _ _ _ _ _ _ _ us hl => match us, hl with | [_, _], _ => rfl, fun _ _ _ _ _ _ _ _ _ ws hl => match ws, hl with | [_], _ => rfl⟩
theorem ID_TooMany : IniD s_TooMany_init "number" "number" := ⟨⟨_, _, _, _, _, _, _, _, _, _, _, rfl, by decide +kernel, rfl, rfl⟩, NdefX.nscope_by (by decide +kernel), rfl, by decide +kernel, by decide +kernel, fun _ _ _ _ _ _ _ _ us hl => match us, hl with | [_, _], _ => rfl, fun _ _ _ _ _ _ _ _ _ ws hl => match ws, hl with | [_], _ => rfl⟩
theorem ID_Broken : IniD s_Broken_init "index" "index" := ⟨⟨_, _, _, _, _, _, _, _, _, _, _, rfl, by decide +kernel, rfl, rfl⟩, NdefX.nscope_by (by decide +kernel), rfl, by decide +kernel, by decide +kernel, fun _ _ _ _ _ _ _ _ us hl => match us, hl with | [_, _], _ => rfl, fun _ _ _ _ _ _ _ _ _ ws hl => match ws, hl with | [_], _ => rfl⟩
def ixf_ArithmeticError : Nat → Option Bool := fun c => ixf_ArithmeticErrorl.lookup c
def ixf_Broken : Nat → Option Bool := fun c => ixf_Brokenl.lookup c
def ixf_InUse : Nat → Option Bool := fun c => ixf_InUsel.lookup c
def ixf_InvalidClaim : Nat → Option Bool := fun c => ixf_InvalidClaiml.lookup c
def ixf_InvalidDeeds : Nat → Option Bool := fun c => ixf_InvalidDeedsl.lookup c
def ixf_InvalidIndex : Nat → Option Bool := fun c => ixf_InvalidIndexl.lookup c
def ixf_InvalidKind : Nat → Option Bool := fun c => ixf_InvalidKindl.lookup c
def ixf_InvalidLine : Nat → Option Bool := fun c => ixf_InvalidLinel.lookup c
def ixf_InvalidLists : Nat → Option Bool := fun c => ixf_InvalidListsl.lookup c
def ixf_InvalidManner : Nat → Option Bool := fun c => ixf_InvalidMannerl.lookup c
def ixf_InvalidMany : Nat → Option Bool := fun c => ixf_InvalidManyl.lookup c
def ixf_InvalidMoment : Nat → Option Bool := fun c => ixf_InvalidMomentl.lookup c
def ixf_InvalidName : Nat → Option Bool := fun c => ixf_InvalidNamel.lookup c
def ixf_InvalidNumber : Nat → Option Bool := fun c => ixf_InvalidNumberl.lookup c
def ixf_InvalidPage : Nat → Option Bool := fun c => ixf_InvalidPagel.lookup c
def ixf_InvalidSection : Nat → Option Bool := fun c => ixf_InvalidSectionl.lookup c
def ixf_InvalidSeen : Nat → Option Bool := fun c => ixf_InvalidSeenl.lookup c
def ixf_InvalidSlips : Nat → Option Bool := fun c => ixf_InvalidSlipsl.lookup c
def ixf_InvalidText : Nat → Option Bool := fun c => ixf_InvalidTextl.lookup c
def ixf_InvalidWord : Nat → Option Bool := fun c => ixf_InvalidWordl.lookup c
def ixf_LookupError : Nat → Option Bool := fun c => ixf_LookupErrorl.lookup c
def ixf_NoAnswer : Nat → Option Bool := fun c => ixf_NoAnswerl.lookup c
def ixf_NotAService : Nat → Option Bool := fun c => ixf_NotAServicel.lookup c
def ixf_NothingToUndo : Nat → Option Bool := fun c => ixf_NothingToUndol.lookup c
def ixf_OtherRound : Nat → Option Bool := fun c => ixf_OtherRoundl.lookup c
def ixf_TooMany : Nat → Option Bool := fun c => ixf_TooManyl.lookup c
def ixf_UnknownName : Nat → Option Bool := fun c => ixf_UnknownNamel.lookup c
def ixf_ValueError : Nat → Option Bool := fun c => ixf_ValueErrorl.lookup c
def ixf_WrongName : Nat → Option Bool := fun c => ixf_WrongNamel.lookup c
def ixf_WrongValue : Nat → Option Bool := fun c => ixf_WrongValuel.lookup c
def xff_given : Nat → Bool := fun c => (xff_givenl.lookup c).getD false
def xff_index : Nat → Bool := fun c => (xff_indexl.lookup c).getD false
def xff_number : Nat → Bool := fun c => (xff_numberl.lookup c).getD false
abbrev zh_hFn : List He.DefD := zh_hFnX ++ zh_hFnY
abbrev zh_hEx : List (PySem.W.Frag → Bool) := zh_hEx1 ++ (zh_hEx2 ++ zh_hEx3)
abbrev zh_hHk : PySem.W.Hook := hookX zh_hFa zh_hFn zh_hTs zh_hEx zh_hIn lmX
def zh_hOb (s : PySem.W.SharedT) : (He.AlT × Bool) × (List IniW × Bool) := obX zh_hFa zh_hFn zh_hTs zh_hEx zh_hIn lmX s.n (HandSHeadRun.getT s)
theorem zh_hOb_eq (s : PySem.W.SharedT) : zh_hOb s = zh_hHk.obs s.abs := obX_eq s
structure Facts (C : Ctx) : Prop where
  b_isinstance : C.mg "isinstance" = none
  b_range : C.mg "range" = none
  b_repr : C.mg "repr" = none
  exo : C.exo = none
  f__law_kinds : FunAt C "_law_kinds" "_law_kinds" s__law_kinds ["_law_e"]
  f__law_own : FunAt C "_law_own" "_law_own" s__law_own ["_law_e"]
  f__law_wrong_rows : FunAt C "_law_wrong_rows" "_law_wrong_rows" s__law_wrong_rows []
  f__law_wrong_values : FunAt C "_law_wrong_values" "_law_wrong_values" s__law_wrong_values []
  f_law : FunAt C "law" "law" s_law ["_law_script"]
  g_GREATEST : Cn C "GREATEST" gl_GREATEST
  g_MOST_LABEL : Cn C "MOST_LABEL" gl_MOST_LABEL
  g_MOST_LEAVES : Cn C "MOST_LEAVES" gl_MOST_LEAVES
  g_MOST_PACKETS : Cn C "MOST_PACKETS" gl_MOST_PACKETS
  g_MOST_SEEN : Cn C "MOST_SEEN" gl_MOST_SEEN
  g_MOST_SLIPS : Cn C "MOST_SLIPS" gl_MOST_SLIPS
  g_MOST_STANDINGS : Cn C "MOST_STANDINGS" gl_MOST_STANDINGS
  g_MOST_STEPS : Cn C "MOST_STEPS" gl_MOST_STEPS
  g_MOST_TOLD : Cn C "MOST_TOLD" gl_MOST_TOLD
  ix_ArithmeticError : IsX C "ArithmeticError" ixf_ArithmeticError
  ix_Broken : IsX C "Broken" ixf_Broken
  ix_InUse : IsX C "InUse" ixf_InUse
  ix_InvalidClaim : IsX C "InvalidClaim" ixf_InvalidClaim
  ix_InvalidDeeds : IsX C "InvalidDeeds" ixf_InvalidDeeds
  ix_InvalidIndex : IsX C "InvalidIndex" ixf_InvalidIndex
  ix_InvalidKind : IsX C "InvalidKind" ixf_InvalidKind
  ix_InvalidLine : IsX C "InvalidLine" ixf_InvalidLine
  ix_InvalidLists : IsX C "InvalidLists" ixf_InvalidLists
  ix_InvalidManner : IsX C "InvalidManner" ixf_InvalidManner
  ix_InvalidMany : IsX C "InvalidMany" ixf_InvalidMany
  ix_InvalidMoment : IsX C "InvalidMoment" ixf_InvalidMoment
  ix_InvalidName : IsX C "InvalidName" ixf_InvalidName
  ix_InvalidNumber : IsX C "InvalidNumber" ixf_InvalidNumber
  ix_InvalidPage : IsX C "InvalidPage" ixf_InvalidPage
  ix_InvalidSection : IsX C "InvalidSection" ixf_InvalidSection
  ix_InvalidSeen : IsX C "InvalidSeen" ixf_InvalidSeen
  ix_InvalidSlips : IsX C "InvalidSlips" ixf_InvalidSlips
  ix_InvalidText : IsX C "InvalidText" ixf_InvalidText
  ix_InvalidWord : IsX C "InvalidWord" ixf_InvalidWord
  ix_LookupError : IsX C "LookupError" ixf_LookupError
  ix_NoAnswer : IsX C "NoAnswer" ixf_NoAnswer
  ix_NotAService : IsX C "NotAService" ixf_NotAService
  ix_NothingToUndo : IsX C "NothingToUndo" ixf_NothingToUndo
  ix_OtherRound : IsX C "OtherRound" ixf_OtherRound
  ix_TooMany : IsX C "TooMany" ixf_TooMany
  ix_UnknownName : IsX C "UnknownName" ixf_UnknownName
  ix_ValueError : IsX C "ValueError" ixf_ValueError
  ix_WrongName : IsX C "WrongName" ixf_WrongName
  ix_WrongValue : IsX C "WrongValue" ixf_WrongValue
  x_Broken : ExcV C "Broken" "index" 46
  x_InUse : ExcV C "InUse" "index" 41
  x_InvalidClaim : ExcV C "InvalidClaim" "given" 31
  x_InvalidDeeds : ExcV C "InvalidDeeds" "index" 38
  x_InvalidIndex : ExcV C "InvalidIndex" "given" 32
  x_InvalidKind : ExcV C "InvalidKind" "given" 28
  x_InvalidLine : ExcV C "InvalidLine" "given" 33
  x_InvalidLists : ExcV C "InvalidLists" "index" 36
  x_InvalidManner : ExcV C "InvalidManner" "given" 23
  x_InvalidMany : ExcV C "InvalidMany" "given" 27
  x_InvalidMoment : ExcV C "InvalidMoment" "given" 24
  x_InvalidName : ExcV C "InvalidName" "given" 30
  x_InvalidNumber : ExcV C "InvalidNumber" "given" 29
  x_InvalidPage : ExcV C "InvalidPage" "given" 25
  x_InvalidSection : ExcV C "InvalidSection" "given" 22
  x_InvalidSeen : ExcV C "InvalidSeen" "index" 37
  x_InvalidSlips : ExcV C "InvalidSlips" "index" 35
  x_InvalidText : ExcV C "InvalidText" "given" 21
  x_InvalidWord : ExcV C "InvalidWord" "given" 26
  x_NotAService : ExcV C "NotAService" "given" 34
  x_TooMany : ExcV C "TooMany" "number" 44
  x_UnknownName : ExcV C "UnknownName" "given" 40
  xf_given : XfX C "given" xff_given
  xf_index : XfX C "index" xff_index
  xf_number : XfX C "number" xff_number
  xn_NothingToUndo : ExcE C "NothingToUndo" 45
  xn_OtherRound : ExcE C "OtherRound" 43
theorem Facts.ng {C : Ctx} (T : Facts C) : Facts C.ng where
  b_isinstance := T.b_isinstance
  b_range := T.b_range
  b_repr := T.b_repr
  exo := T.exo
  f__law_kinds := T.f__law_kinds.ng
  f__law_own := T.f__law_own.ng
  f__law_wrong_rows := T.f__law_wrong_rows.ng
  f__law_wrong_values := T.f__law_wrong_values.ng
  f_law := T.f_law.ng
  g_GREATEST := T.g_GREATEST.ng
  g_MOST_LABEL := T.g_MOST_LABEL.ng
  g_MOST_LEAVES := T.g_MOST_LEAVES.ng
  g_MOST_PACKETS := T.g_MOST_PACKETS.ng
  g_MOST_SEEN := T.g_MOST_SEEN.ng
  g_MOST_SLIPS := T.g_MOST_SLIPS.ng
  g_MOST_STANDINGS := T.g_MOST_STANDINGS.ng
  g_MOST_STEPS := T.g_MOST_STEPS.ng
  g_MOST_TOLD := T.g_MOST_TOLD.ng
  ix_ArithmeticError := T.ix_ArithmeticError.ng
  ix_Broken := T.ix_Broken.ng
  ix_InUse := T.ix_InUse.ng
  ix_InvalidClaim := T.ix_InvalidClaim.ng
  ix_InvalidDeeds := T.ix_InvalidDeeds.ng
  ix_InvalidIndex := T.ix_InvalidIndex.ng
  ix_InvalidKind := T.ix_InvalidKind.ng
  ix_InvalidLine := T.ix_InvalidLine.ng
  ix_InvalidLists := T.ix_InvalidLists.ng
  ix_InvalidManner := T.ix_InvalidManner.ng
  ix_InvalidMany := T.ix_InvalidMany.ng
  ix_InvalidMoment := T.ix_InvalidMoment.ng
  ix_InvalidName := T.ix_InvalidName.ng
  ix_InvalidNumber := T.ix_InvalidNumber.ng
  ix_InvalidPage := T.ix_InvalidPage.ng
  ix_InvalidSection := T.ix_InvalidSection.ng
  ix_InvalidSeen := T.ix_InvalidSeen.ng
  ix_InvalidSlips := T.ix_InvalidSlips.ng
  ix_InvalidText := T.ix_InvalidText.ng
  ix_InvalidWord := T.ix_InvalidWord.ng
  ix_LookupError := T.ix_LookupError.ng
  ix_NoAnswer := T.ix_NoAnswer.ng
  ix_NotAService := T.ix_NotAService.ng
  ix_NothingToUndo := T.ix_NothingToUndo.ng
  ix_OtherRound := T.ix_OtherRound.ng
  ix_TooMany := T.ix_TooMany.ng
  ix_UnknownName := T.ix_UnknownName.ng
  ix_ValueError := T.ix_ValueError.ng
  ix_WrongName := T.ix_WrongName.ng
  ix_WrongValue := T.ix_WrongValue.ng
  x_Broken := T.x_Broken.ng
  x_InUse := T.x_InUse.ng
  x_InvalidClaim := T.x_InvalidClaim.ng
  x_InvalidDeeds := T.x_InvalidDeeds.ng
  x_InvalidIndex := T.x_InvalidIndex.ng
  x_InvalidKind := T.x_InvalidKind.ng
  x_InvalidLine := T.x_InvalidLine.ng
  x_InvalidLists := T.x_InvalidLists.ng
  x_InvalidManner := T.x_InvalidManner.ng
  x_InvalidMany := T.x_InvalidMany.ng
  x_InvalidMoment := T.x_InvalidMoment.ng
  x_InvalidName := T.x_InvalidName.ng
  x_InvalidNumber := T.x_InvalidNumber.ng
  x_InvalidPage := T.x_InvalidPage.ng
  x_InvalidSection := T.x_InvalidSection.ng
  x_InvalidSeen := T.x_InvalidSeen.ng
  x_InvalidSlips := T.x_InvalidSlips.ng
  x_InvalidText := T.x_InvalidText.ng
  x_InvalidWord := T.x_InvalidWord.ng
  x_NotAService := T.x_NotAService.ng
  x_TooMany := T.x_TooMany.ng
  x_UnknownName := T.x_UnknownName.ng
  xf_given := T.xf_given.ng
  xf_index := T.xf_index.ng
  xf_number := T.xf_number.ng
  xn_NothingToUndo := T.xn_NothingToUndo.ng
  xn_OtherRound := T.xn_OtherRound.ng
theorem S__law_wrong_values : FnScope ["_law_found"] [] (defScope s__law_wrong_values) := ⟨rfl, rfl, rfl, by decide +kernel, rfl, by decide +kernel, by decide +kernel⟩
def x__law_wrong_values : XS := (xSeq (xSet 0 (xLst (xCons (xExv 21 (xC (.str cs_a))) (xCons (xExvK 22 (xCons (xC (.str cs_a)) xNil)) (xCons (xExv 23 (xC (.str cs_a))) (xCons (xExvK 24 (xCons (xC (.str cs_a)) xNil)) (xCons (xExv 25 (xC (.str cs_a))) xNil)))))))
    (xSeq (xSet 0 (x2 false (xTake 0) (xLst (xCons (xExvK 26 (xCons (xC (.str cs_a)) xNil)) (xCons (xExv 27 (xC (.str cs_a))) (xCons (xExvK 28 (xCons (xC (.str cs_a)) xNil)) (xCons (xExv 29 (xC (.str cs_a))) xNil))))) xAdd))
    (xSeq (xSet 0 (x2 false (xTake 0) (xLst (xCons (xExvK 30 (xCons (xC (.str cs_a)) xNil)) (xCons (xExv 31 (xC (.str cs_a))) (xCons (xExvK 32 (xCons (xC (.str cs_a)) xNil)) (xCons (xExv 33 (xC (.str cs_a))) xNil))))) xAdd))
    (xRet (x2 false (xTake 0) (xLst (xCons (xExvK 34 (xCons (xC (.str cs_a)) xNil)) xNil)) xAdd)))))
def r__law_wrong_values := runF 0 1 x__law_wrong_values
theorem D__law_wrong_values {C : Ctx} (T : Facts C) : JSs (C.fn ["_law_found"] (defScope s__law_wrong_values) 2 []) (defBody s__law_wrong_values) (xwS x__law_wrong_values) := DSs.ok (C := C.fn ["_law_found"] (defScope s__law_wrong_values) 2 []) (ss := defBody s__law_wrong_values)
    (dss_cons (ds_set 0 nmF (de_lst (da_cons (de_exv T.x_InvalidText.fn (de_strE cs_a_eq)) (da_cons (de_exvK T.x_InvalidSection.fn (dk_cons (de_strE cs_a_eq) dk_nil)) (da_cons (de_exv T.x_InvalidManner.fn (de_strE cs_a_eq)) (da_cons (de_exvK T.x_InvalidMoment.fn (dk_cons (de_strE cs_a_eq) dk_nil)) (da_cons (de_exv T.x_InvalidPage.fn (de_strE cs_a_eq)) da_nil)))))))
    (dss_cons (ds_set 0 nmF (de_add (dv (de_var 0)) (dv (de_lst (da_cons (de_exvK T.x_InvalidWord.fn (dk_cons (de_strE cs_a_eq) dk_nil)) (da_cons (de_exv T.x_InvalidMany.fn (de_strE cs_a_eq)) (da_cons (de_exvK T.x_InvalidKind.fn (dk_cons (de_strE cs_a_eq) dk_nil)) (da_cons (de_exv T.x_InvalidNumber.fn (de_strE cs_a_eq)) da_nil))))))))
    (dss_cons (ds_set 0 nmF (de_add (dv (de_var 0)) (dv (de_lst (da_cons (de_exvK T.x_InvalidName.fn (dk_cons (de_strE cs_a_eq) dk_nil)) (da_cons (de_exv T.x_InvalidClaim.fn (de_strE cs_a_eq)) (da_cons (de_exvK T.x_InvalidIndex.fn (dk_cons (de_strE cs_a_eq) dk_nil)) (da_cons (de_exv T.x_InvalidLine.fn (de_strE cs_a_eq)) da_nil))))))))
    (dss_one (ds_ret (de_add (dv (de_var 0)) (dv (de_lst (da_cons (de_exvK T.x_NotAService.fn (dk_cons (de_strE cs_a_eq) dk_nil)) da_nil)))))))))
theorem F__law_wrong_values {C : Ctx} (T : Facts C) : FnF C "_law_wrong_values" 3 (spX r__law_wrong_values) := FnF.ofNg (mk_fn' rfl 2 T.ng.f__law_wrong_values S__law_wrong_values (D__law_wrong_values T.ng))
@[irreducible] def q__law_wrong_values : List Dat → Option Dat := r__law_wrong_values
theorem q__law_wrong_values_eq : q__law_wrong_values = r__law_wrong_values := by unfold q__law_wrong_values; rfl
theorem FQ__law_wrong_values {C : Ctx} (T : Facts C) : FnF C "_law_wrong_values" 3 (spX q__law_wrong_values) := by rw [q__law_wrong_values_eq]; exact F__law_wrong_values T
theorem S__law_wrong_rows : FnScope [] [] (defScope s__law_wrong_rows) := ⟨rfl, rfl, rfl, by decide +kernel, rfl, by decide +kernel, by decide +kernel⟩
def x__law_wrong_rows : XS := (xRet (xLst (xCons (xExv 35 (xC .non)) (xCons (xExvK 36 (xCons (xC .non) xNil)) (xCons (xExv 37 (xC .non)) (xCons (xExvK 38 (xCons (xC .non) xNil)) xNil))))))
def r__law_wrong_rows := runF 0 0 x__law_wrong_rows
theorem D__law_wrong_rows {C : Ctx} (T : Facts C) : JSs (C.fn [] (defScope s__law_wrong_rows) 2 []) (defBody s__law_wrong_rows) (xwS x__law_wrong_rows) := DSs.ok (C := C.fn [] (defScope s__law_wrong_rows) 2 []) (ss := defBody s__law_wrong_rows)
    (dss_one (ds_ret (de_lst (da_cons (de_exv T.x_InvalidSlips.fn de_non) (da_cons (de_exvK T.x_InvalidLists.fn (dk_cons de_non dk_nil)) (da_cons (de_exv T.x_InvalidSeen.fn de_non) (da_cons (de_exvK T.x_InvalidDeeds.fn (dk_cons de_non dk_nil)) da_nil)))))))
theorem F__law_wrong_rows {C : Ctx} (T : Facts C) : FnF C "_law_wrong_rows" 3 (spX r__law_wrong_rows) := FnF.ofNg (mk_fn' rfl 2 T.ng.f__law_wrong_rows S__law_wrong_rows (D__law_wrong_rows T.ng))
@[irreducible] def q__law_wrong_rows : List Dat → Option Dat := r__law_wrong_rows
theorem q__law_wrong_rows_eq : q__law_wrong_rows = r__law_wrong_rows := by unfold q__law_wrong_rows; rfl
theorem FQ__law_wrong_rows {C : Ctx} (T : Facts C) : FnF C "_law_wrong_rows" 3 (spX q__law_wrong_rows) := by rw [q__law_wrong_rows_eq]; exact F__law_wrong_rows T
theorem S__law_kinds : FnScope ["_law_e", "_law_found"] ["_law_e"] (defScope s__law_kinds) := ⟨rfl, rfl, rfl, by decide +kernel, rfl, by decide +kernel, by decide +kernel⟩
def x__law_kinds : XS := (xSeq (xSet 1 (xLst (xCons (x1 (xVar 0) (xIsX ixf_WrongValue)) (xCons (x1 (xVar 0) (xIsX ixf_WrongName)) (xCons (x1 (xVar 0) (xIsX ixf_NoAnswer)) xNil)))))
    (xRet (x2 true (xVar 1) (xLst (xCons (x1 (xVar 0) (xIsX ixf_ValueError)) (xCons (x1 (xVar 0) (xIsX ixf_LookupError)) (xCons (x1 (xVar 0) (xIsX ixf_ArithmeticError)) xNil)))) xAdd)))
def r__law_kinds := runF 1 2 x__law_kinds
theorem D__law_kinds {C : Ctx} (T : Facts C) : JSs (C.fn ["_law_e", "_law_found"] (defScope s__law_kinds) 0 []) (defBody s__law_kinds) (xwS x__law_kinds) := DSs.ok (C := C.fn ["_law_e", "_law_found"] (defScope s__law_kinds) 0 []) (ss := defBody s__law_kinds)
    (dss_cons (ds_set 1 nmF (de_lst (da_cons (de_isV T.ix_WrongValue.fn (dv_var 0) (he := T.exo) (hm := T.b_isinstance)) (da_cons (de_isV T.ix_WrongName.fn (dv_var 0) (he := T.exo) (hm := T.b_isinstance)) (da_cons (de_isV T.ix_NoAnswer.fn (dv_var 0) (he := T.exo) (hm := T.b_isinstance)) da_nil)))))
    (dss_one (ds_ret (de_add (dv_var 1) (dv (de_lst (da_cons (de_isV T.ix_ValueError.fn (dv_var 0) (he := T.exo) (hm := T.b_isinstance)) (da_cons (de_isV T.ix_LookupError.fn (dv_var 0) (he := T.exo) (hm := T.b_isinstance)) (da_cons (de_isV T.ix_ArithmeticError.fn (dv_var 0) (he := T.exo) (hm := T.b_isinstance)) da_nil)))))))))
theorem F__law_kinds {C : Ctx} (T : Facts C) : FnF C "_law_kinds" 1 (spX r__law_kinds) := FnF.ofNg (mk_fn' rfl 0 T.ng.f__law_kinds S__law_kinds (D__law_kinds T.ng))
theorem S__law_own : FnScope ["_law_e", "_law_found", "_law_at"] ["_law_e"] (defScope s__law_own) := ⟨rfl, rfl, rfl, by decide +kernel, rfl, by decide +kernel, by decide +kernel⟩
def x__law_own : XS := (xSeq (xSet 1 (xLst (xCons (x1 (xVar 0) (xIsX ixf_InvalidText)) (xCons (x1 (xVar 0) (xIsX ixf_InvalidSection)) (xCons (x1 (xVar 0) (xIsX ixf_InvalidManner)) xNil)))))
    (xSeq (xSet 1 (x2 true (xVar 1) (xLst (xCons (x1 (xVar 0) (xIsX ixf_InvalidMoment)) (xCons (x1 (xVar 0) (xIsX ixf_InvalidPage)) (xCons (x1 (xVar 0) (xIsX ixf_InvalidWord)) xNil)))) xAdd))
    (xSeq (xSet 1 (x2 true (xVar 1) (xLst (xCons (x1 (xVar 0) (xIsX ixf_InvalidMany)) (xCons (x1 (xVar 0) (xIsX ixf_InvalidKind)) (xCons (x1 (xVar 0) (xIsX ixf_InvalidNumber)) xNil)))) xAdd))
    (xSeq (xSet 1 (x2 true (xVar 1) (xLst (xCons (x1 (xVar 0) (xIsX ixf_InvalidName)) (xCons (x1 (xVar 0) (xIsX ixf_InvalidClaim)) (xCons (x1 (xVar 0) (xIsX ixf_InvalidIndex)) xNil)))) xAdd))
    (xSeq (xSet 1 (x2 true (xVar 1) (xLst (xCons (x1 (xVar 0) (xIsX ixf_InvalidLine)) (xCons (x1 (xVar 0) (xIsX ixf_NotAService)) (xCons (x1 (xVar 0) (xIsX ixf_InvalidSlips)) xNil)))) xAdd))
    (xSeq (xSet 1 (x2 true (xVar 1) (xLst (xCons (x1 (xVar 0) (xIsX ixf_InvalidLists)) (xCons (x1 (xVar 0) (xIsX ixf_InvalidSeen)) (xCons (x1 (xVar 0) (xIsX ixf_InvalidDeeds)) xNil)))) xAdd))
    (xSeq (xSet 1 (x2 true (xVar 1) (xLst (xCons (x1 (xVar 0) (xIsX ixf_UnknownName)) (xCons (x1 (xVar 0) (xIsX ixf_InUse)) (xCons (x1 (xVar 0) (xIsX ixf_OtherRound)) (xCons (x1 (xVar 0) (xIsX ixf_TooMany)) xNil))))) xAdd))
    (xSeq (xSet 1 (x2 true (xVar 1) (xLst (xCons (x1 (xVar 0) (xIsX ixf_NothingToUndo)) (xCons (x1 (xVar 0) (xIsX ixf_Broken)) xNil))) xAdd))
    (xRet (xLc (xRng1 (xCons (xC (.int 24)) xNil)) (xgNm 2) (xTru (x2 true (xVar 1) (xVar 2) xIdx)) (xTake 2) [2]))))))))))
def r__law_own := runF 1 3 x__law_own
set_option maxHeartbeats 16000000 in
theorem D__law_own {C : Ctx} (T : Facts C) : JSs (C.fn ["_law_e", "_law_found", "_law_at"] (defScope s__law_own) 0 []) (defBody s__law_own) (xwS x__law_own) := DSs.ok (C := C.fn ["_law_e", "_law_found", "_law_at"] (defScope s__law_own) 0 []) (ss := defBody s__law_own)
    (dss_cons (ds_set 1 nmF (de_lst (da_cons (de_isV T.ix_InvalidText.fn (dv_var 0) (he := T.exo) (hm := T.b_isinstance)) (da_cons (de_isV T.ix_InvalidSection.fn (dv_var 0) (he := T.exo) (hm := T.b_isinstance)) (da_cons (de_isV T.ix_InvalidManner.fn (dv_var 0) (he := T.exo) (hm := T.b_isinstance)) da_nil)))))
    (dss_cons (ds_set 1 nmF (de_add (dv_var 1) (dv (de_lst (da_cons (de_isV T.ix_InvalidMoment.fn (dv_var 0) (he := T.exo) (hm := T.b_isinstance)) (da_cons (de_isV T.ix_InvalidPage.fn (dv_var 0) (he := T.exo) (hm := T.b_isinstance)) (da_cons (de_isV T.ix_InvalidWord.fn (dv_var 0) (he := T.exo) (hm := T.b_isinstance)) da_nil)))))))
    (dss_cons (ds_set 1 nmF (de_add (dv_var 1) (dv (de_lst (da_cons (de_isV T.ix_InvalidMany.fn (dv_var 0) (he := T.exo) (hm := T.b_isinstance)) (da_cons (de_isV T.ix_InvalidKind.fn (dv_var 0) (he := T.exo) (hm := T.b_isinstance)) (da_cons (de_isV T.ix_InvalidNumber.fn (dv_var 0) (he := T.exo) (hm := T.b_isinstance)) da_nil)))))))
    (dss_cons (ds_set 1 nmF (de_add (dv_var 1) (dv (de_lst (da_cons (de_isV T.ix_InvalidName.fn (dv_var 0) (he := T.exo) (hm := T.b_isinstance)) (da_cons (de_isV T.ix_InvalidClaim.fn (dv_var 0) (he := T.exo) (hm := T.b_isinstance)) (da_cons (de_isV T.ix_InvalidIndex.fn (dv_var 0) (he := T.exo) (hm := T.b_isinstance)) da_nil)))))))
    (dss_cons (ds_set 1 nmF (de_add (dv_var 1) (dv (de_lst (da_cons (de_isV T.ix_InvalidLine.fn (dv_var 0) (he := T.exo) (hm := T.b_isinstance)) (da_cons (de_isV T.ix_NotAService.fn (dv_var 0) (he := T.exo) (hm := T.b_isinstance)) (da_cons (de_isV T.ix_InvalidSlips.fn (dv_var 0) (he := T.exo) (hm := T.b_isinstance)) da_nil)))))))
    (dss_cons (ds_set 1 nmF (de_add (dv_var 1) (dv (de_lst (da_cons (de_isV T.ix_InvalidLists.fn (dv_var 0) (he := T.exo) (hm := T.b_isinstance)) (da_cons (de_isV T.ix_InvalidSeen.fn (dv_var 0) (he := T.exo) (hm := T.b_isinstance)) (da_cons (de_isV T.ix_InvalidDeeds.fn (dv_var 0) (he := T.exo) (hm := T.b_isinstance)) da_nil)))))))
    (dss_cons (ds_set 1 nmF (de_add (dv_var 1) (dv (de_lst (da_cons (de_isV T.ix_UnknownName.fn (dv_var 0) (he := T.exo) (hm := T.b_isinstance)) (da_cons (de_isV T.ix_InUse.fn (dv_var 0) (he := T.exo) (hm := T.b_isinstance)) (da_cons (de_isV T.ix_OtherRound.fn (dv_var 0) (he := T.exo) (hm := T.b_isinstance)) (da_cons (de_isV T.ix_TooMany.fn (dv_var 0) (he := T.exo) (hm := T.b_isinstance)) da_nil))))))))
    (dss_cons (ds_set 1 nmF (de_add (dv_var 1) (dv (de_lst (da_cons (de_isV T.ix_NothingToUndo.fn (dv_var 0) (he := T.exo) (hm := T.b_isinstance)) (da_cons (de_isV T.ix_Broken.fn (dv_var 0) (he := T.exo) (hm := T.b_isinstance)) da_nil))))))
    (dss_one (ds_ret (de_lc [("_law_at", 2)] (di_rng1 T.b_range (da_cons de_int da_nil)) (dg_name 2 nmB) (dts_one (dt_tru (dv_idx (dv_var 1) (dv_var 2)))) (de_var 2))))))))))))
theorem F__law_own {C : Ctx} (T : Facts C) : FnF C "_law_own" 1 (spX r__law_own) := FnF.ofNg (mk_fn' rfl 0 T.ng.f__law_own S__law_own (D__law_own T.ng))
theorem S_law : FnScope ["_law_script", "_law_every", "_law_e", "_law_at"] ["_law_script"] (defScope s_law) := ⟨rfl, rfl, rfl, by decide +kernel, rfl, by decide +kernel, by decide +kernel⟩
def x_law : XS := (xSeq (xIfS (xTest (x2 true (xLst (xCons (xC gl_MOST_LABEL) (xCons (xC gl_MOST_LEAVES) (xCons (xC gl_MOST_PACKETS) (xCons (xC gl_MOST_SLIPS) (xCons (xC gl_MOST_STANDINGS) (xCons (xC gl_MOST_SEEN) (xCons (xC gl_MOST_TOLD) xNil)))))))) (xLst (xCons (xC (.int 9)) (xCons (xC (.int 8)) (xCons (xC (.int 6)) (xCons (xC (.int 3)) (xCons (xC (.int 20000)) (xCons (xC (.int 12)) (xCons (xC (.int 24)) xNil)))))))) xNe)) (xRet (xC (.bl false))) xSkip)
    (xSeq (xIfS (xTest (x2 true (xLst (xCons (xC gl_MOST_STEPS) (xCons (xC gl_GREATEST) xNil))) (xLst (xCons (xC (.int 1000)) (xCons (x2 true (xC (.int 10)) (xC (.int 30)) xPow) xNil))) xNe)) (xRet (xC (.bl false))) xSkip)
    (xSeq (xSet 1 (x2 false (xFrz (x2 true (xCall xNil q__law_wrong_values) (xCall xNil q__law_wrong_rows) xAdd)) (xLst (xCons (xExv 40 (xLst xNil)) (xCons (xExv 41 (xC (.int 3))) (xCons (fun env => some (.exn 43 [], env)) (xCons (xExv 44 (xC (.int 7))) xNil))))) xAdd))
    (xSeq (xSet 1 (x2 false (xTake 1) (xLst (xCons (fun env => some (.exn 45 [], env)) (xCons (xExvK 46 (xCons (xC (.int 5)) xNil)) xNil))) xAdd))
    (xSeq (xIfS (xTest (x2 false (xFrz (xLc (xInL (xTake 1)) (xgNm 2) xYes (xCall (xCons (xTake 2) xNil) r__law_own) [2])) (xLc (xRng1 (xCons (xC (.int 24)) xNil)) (xgNm 3) xYes (xLst (xCons (xTake 3) xNil)) [3]) xNe)) (xRet (xC (.bl false))) xSkip)
    (xSeq (xIfS (xTest (x2 true (xLc (xInL (xSl true (xVar 1) xNoPart (xPart (xC (.int 18))))) (xgNm 2) xYes (xCall (xCons (xTake 2) xNil) r__law_kinds) [2]) (x2 true (xLst (xCons (xLst (xCons (xC (.bl true)) (xCons (xC (.bl false)) (xCons (xC (.bl false)) (xCons (xC (.bl true)) (xCons (xC (.bl false)) (xCons (xC (.bl false)) xNil))))))) xNil)) (xC (.int 18)) xMul) xNe)) (xRet (xC (.bl false))) xSkip)
    (xSeq (xIfS (xTest (x2 true (xLc (xInL (xSl true (xVar 1) (xPart (xC (.int 18))) (xPart (xC (.int 20))))) (xgNm 2) xYes (xCall (xCons (xTake 2) xNil) r__law_kinds) [2]) (x2 true (xLst (xCons (xLst (xCons (xC (.bl false)) (xCons (xC (.bl true)) (xCons (xC (.bl false)) (xCons (xC (.bl false)) (xCons (xC (.bl true)) (xCons (xC (.bl false)) xNil))))))) xNil)) (xC (.int 2)) xMul) xNe)) (xRet (xC (.bl false))) xSkip)
    (xSeq (xIfS (xTest (x2 true (xLc (xInL (xSl true (xVar 1) (xPart (xC (.int 20))) xNoPart)) (xgNm 2) xYes (xCall (xCons (xTake 2) xNil) r__law_kinds) [2]) (x2 true (xLst (xCons (xLst (xCons (xC (.bl false)) (xCons (xC (.bl false)) (xCons (xC (.bl true)) (xCons (xC (.bl false)) (xCons (xC (.bl false)) (xCons (xC (.bl true)) xNil))))))) xNil)) (xC (.int 4)) xMul) xNe)) (xRet (xC (.bl false))) xSkip)
    (xSeq (xIfS (xOr (xTest (x2 true (xLc (xInL (xSl true (xVar 1) xNoPart (xPart (xC (.int 14))))) (xgNm 2) xYes (xOf (x1 (xVar 2) (xXf xff_given))) [2]) (x2 true (xLst (xCons (xC (.str cs_a)) xNil)) (xC (.int 14)) xMul) xNe)) (xTest (x2 true (xLc (xInL (xSl true (xVar 1) (xPart (xC (.int 14))) (xPart (xC (.int 18))))) (xgNm 2) xYes (xOf (x1 (xVar 2) (xXf xff_index))) [2]) (x2 true (xLst (xCons (xC .non) xNil)) (xC (.int 4)) xMul) xNe))) (xRet (xC (.bl false))) xSkip)
    (xRet (x2 true (x1 (xLst (xCons (xOf (x1 (x2 true (xVar 1) (xC (.int 18)) xIdx) (xXf xff_given))) (xCons (xOf (x1 (x2 true (xVar 1) (xC (.int 19)) xIdx) (xXf xff_index))) (xCons (xOf (x1 (x2 true (xVar 1) (xC (.int 21)) xIdx) (xXf xff_number))) (xCons (xOf (x1 (x2 true (xVar 1) (xC (.int 23)) xIdx) (xXf xff_index))) xNil))))) xReprI) (x1 (xLst (xCons (xLst xNil) (xCons (xC (.int 3)) (xCons (xC (.int 7)) (xCons (xC (.int 5)) xNil))))) xReprI) xEq)))))))))))
set_option maxHeartbeats 16000000 in
theorem D_law {C : Ctx} (T : Facts C) (hq : C.gd = true) : JSs (C.fn ["_law_script", "_law_every", "_law_e", "_law_at"] (defScope s_law) 3 []) (defBody s_law) (xwS x_law) := DSs.ok (C := C.fn ["_law_script", "_law_every", "_law_e", "_law_at"] (defScope s_law) 3 []) (ss := defBody s_law)
    (dss_cons (ds_if (dt_cmp c_ne (dv (de_lst (da_cons (de_glb T.g_MOST_LABEL.fn) (da_cons (de_glb T.g_MOST_LEAVES.fn) (da_cons (de_glb T.g_MOST_PACKETS.fn) (da_cons (de_glb T.g_MOST_SLIPS.fn) (da_cons (de_glb T.g_MOST_STANDINGS.fn) (da_cons (de_glb T.g_MOST_SEEN.fn) (da_cons (de_glb T.g_MOST_TOLD.fn) da_nil))))))))) (dv (de_lst (da_cons de_int (da_cons de_int (da_cons de_int (da_cons de_int (da_cons de_int (da_cons de_int (da_cons de_int da_nil)))))))))) (dss_one (ds_ret de_bl)) dss_nil)
    (dss_cons (ds_if (dt_cmp c_ne (dv (de_lst (da_cons (de_glb T.g_MOST_STEPS.fn) (da_cons (de_glb T.g_GREATEST.fn) da_nil)))) (dv (de_lst (da_cons de_int (da_cons (de_pow (dv de_int) (dv de_int)) da_nil))))) (dss_one (ds_ret de_bl)) dss_nil)
    (dss_cons (ds_set 1 nmF (de_add (dv (de_frz (de_add (dv (de_call0 (FQ__law_wrong_values T).fn)) (dv (de_call0 (FQ__law_wrong_rows T).fn))))) (dv (de_lst (da_cons (de_exv T.x_UnknownName.fn (de_lst da_nil)) (da_cons (de_exv T.x_InUse.fn de_int) (da_cons (de_exv0 T.xn_OtherRound.fn) (da_cons (de_exv T.x_TooMany.fn de_int) da_nil))))))))
    (dss_cons (ds_set 1 nmF (de_add (dv (de_var 1)) (dv (de_lst (da_cons (de_exv0 T.xn_NothingToUndo.fn) (da_cons (de_exvK T.x_Broken.fn (dk_cons de_int dk_nil)) da_nil))))))
    (dss_cons (ds_if (dt_cmp c_ne (dv (de_frz (de_lc [("_law_e", 2)] (di_lst (de_var 1)) (dg_name 2 nmB) dts_nil (de_call (F__law_own T).fn.blk (da_cons (de_var 2) da_nil))))) (dv (de_lc [("_law_at", 3)] (di_rng1 T.b_range (da_cons de_int da_nil)) (dg_name 3 nmB) dts_nil (de_lst (da_cons (de_var 3) da_nil))))) (dss_one (ds_ret de_bl)) dss_nil)
    (dss_cons (ds_if (dt_cmp c_ne (dv (de_lc [("_law_e", 2)] (di_lst (de_slice (dv_var 1) do_none (do_some (dv de_int)))) (dg_name 2 nmB) dts_nil (de_call (F__law_kinds T).fn.blk (da_cons (de_var 2) da_nil)))) (dv (de_mul (dv (de_lst (da_cons (de_lst (da_cons de_bl (da_cons de_bl (da_cons de_bl (da_cons de_bl (da_cons de_bl (da_cons de_bl da_nil))))))) da_nil))) (dv de_int)))) (dss_one (ds_ret de_bl)) dss_nil)
    (dss_cons (ds_if (dt_cmp c_ne (dv (de_lc [("_law_e", 2)] (di_lst (de_slice (dv_var 1) (do_some (dv de_int)) (do_some (dv de_int)))) (dg_name 2 nmB) dts_nil (de_call (F__law_kinds T).fn.blk (da_cons (de_var 2) da_nil)))) (dv (de_mul (dv (de_lst (da_cons (de_lst (da_cons de_bl (da_cons de_bl (da_cons de_bl (da_cons de_bl (da_cons de_bl (da_cons de_bl da_nil))))))) da_nil))) (dv de_int)))) (dss_one (ds_ret de_bl)) dss_nil)
    (dss_cons (ds_if (dt_cmp c_ne (dv (de_lc [("_law_e", 2)] (di_lst (de_slice (dv_var 1) (do_some (dv de_int)) do_none)) (dg_name 2 nmB) dts_nil (de_call (F__law_kinds T).fn.blk (da_cons (de_var 2) da_nil)))) (dv (de_mul (dv (de_lst (da_cons (de_lst (da_cons de_bl (da_cons de_bl (da_cons de_bl (da_cons de_bl (da_cons de_bl (da_cons de_bl da_nil))))))) da_nil))) (dv de_int)))) (dss_one (ds_ret de_bl)) dss_nil)
    (dss_cons (ds_if (dt_w (dw_or (dt_cmp c_ne (dv (de_lc [("_law_e", 2)] (di_lst (de_slice (dv_var 1) do_none (do_some (dv de_int)))) (dg_name 2 nmB) dts_nil (de_of (dv_xfV T.xf_given.fn.blk (dv_var 2) (he := T.exo))))) (dv (de_mul (dv (de_lst (da_cons (de_strE cs_a_eq) da_nil))) (dv de_int)))) (dw_or1 (dt_cmp c_ne (dv (de_lc [("_law_e", 2)] (di_lst (de_slice (dv_var 1) (do_some (dv de_int)) (do_some (dv de_int)))) (dg_name 2 nmB) dts_nil (de_of (dv_xfV T.xf_index.fn.blk (dv_var 2) (he := T.exo))))) (dv (de_mul (dv (de_lst (da_cons de_non da_nil))) (dv de_int))))))) (dss_one (ds_ret de_bl)) dss_nil)
    (dss_one (ds_ret (de_cmp c_eq (dv (de_b1r (l_reprI hq) T.b_repr (dv (de_lst (da_cons (de_of (dv_xfV T.xf_given.fn (dv_idx (dv_var 1) (dv de_int)) (he := T.exo))) (da_cons (de_of (dv_xfV T.xf_index.fn (dv_idx (dv_var 1) (dv de_int)) (he := T.exo))) (da_cons (de_of (dv_xfV T.xf_number.fn (dv_idx (dv_var 1) (dv de_int)) (he := T.exo))) (da_cons (de_of (dv_xfV T.xf_index.fn (dv_idx (dv_var 1) (dv de_int)) (he := T.exo))) da_nil)))))))) (dv (de_b1r (l_reprI hq) T.b_repr (dv (de_lst (da_cons (de_lst da_nil) (da_cons de_int (da_cons de_int (da_cons de_int da_nil))))))))))))))))))))
set_option maxHeartbeats 0 in
theorem facts_mk {K : PySem.W.Frag} {mg : Str → Option Value} {h : Heap} (X : K.In h) (G : h.Ns mainGlobals mg)
    {P : Program}
    (top_ : (P.main.scope.names.lookup ("super" : Str)).isSome = false)
    (eall : excAll TB nsX K = true)
    (b_isinstance : PySem.W.nsIn K mainGlobals "isinstance" = some none)
    (b_range : PySem.W.nsIn K mainGlobals "range" = some none)
    (b_repr : PySem.W.nsIn K mainGlobals "repr" = some none)
    (f__law_kinds : DefIn K "_law_kinds" "_law_kinds" s__law_kinds)
    (f__law_own : DefIn K "_law_own" "_law_own" s__law_own)
    (f__law_wrong_rows : DefIn K "_law_wrong_rows" "_law_wrong_rows" s__law_wrong_rows)
    (f__law_wrong_values : DefIn K "_law_wrong_values" "_law_wrong_values" s__law_wrong_values)
    (f_law : DefIn K "law" "law" s_law)
    {t_GREATEST : Tok}
    (g_GREATEST : PySem.W.nsIn K mainGlobals "GREATEST" = some (some (.int 1000000000000000000000000000000 t_GREATEST)))
    {t_MOST_LABEL : Tok}
    (g_MOST_LABEL : PySem.W.nsIn K mainGlobals "MOST_LABEL" = some (some (.int 9 t_MOST_LABEL)))
    {t_MOST_LEAVES : Tok}
    (g_MOST_LEAVES : PySem.W.nsIn K mainGlobals "MOST_LEAVES" = some (some (.int 8 t_MOST_LEAVES)))
    {t_MOST_PACKETS : Tok}
    (g_MOST_PACKETS : PySem.W.nsIn K mainGlobals "MOST_PACKETS" = some (some (.int 6 t_MOST_PACKETS)))
    {t_MOST_SEEN : Tok}
    (g_MOST_SEEN : PySem.W.nsIn K mainGlobals "MOST_SEEN" = some (some (.int 12 t_MOST_SEEN)))
    {t_MOST_SLIPS : Tok}
    (g_MOST_SLIPS : PySem.W.nsIn K mainGlobals "MOST_SLIPS" = some (some (.int 3 t_MOST_SLIPS)))
    {t_MOST_STANDINGS : Tok}
    (g_MOST_STANDINGS : PySem.W.nsIn K mainGlobals "MOST_STANDINGS" = some (some (.int 20000 t_MOST_STANDINGS)))
    {t_MOST_STEPS : Tok}
    (g_MOST_STEPS : PySem.W.nsIn K mainGlobals "MOST_STEPS" = some (some (.int 1000 t_MOST_STEPS)))
    {t_MOST_TOLD : Tok}
    (g_MOST_TOLD : PySem.W.nsIn K mainGlobals "MOST_TOLD" = some (some (.int 24 t_MOST_TOLD)))
    (ixb_ArithmeticError : isxT TB "ArithmeticError" "ArithmeticError" ixf_ArithmeticErrorl K = true)
    (ixb_Broken : isxB TB "Broken" ixf_Brokenl K = true)
    (ixb_InUse : isxB TB "InUse" ixf_InUsel K = true)
    (ixb_InvalidClaim : isxB TB "InvalidClaim" ixf_InvalidClaiml K = true)
    (ixb_InvalidDeeds : isxB TB "InvalidDeeds" ixf_InvalidDeedsl K = true)
    (ixb_InvalidIndex : isxB TB "InvalidIndex" ixf_InvalidIndexl K = true)
    (ixb_InvalidKind : isxB TB "InvalidKind" ixf_InvalidKindl K = true)
    (ixb_InvalidLine : isxB TB "InvalidLine" ixf_InvalidLinel K = true)
    (ixb_InvalidLists : isxB TB "InvalidLists" ixf_InvalidListsl K = true)
    (ixb_InvalidManner : isxB TB "InvalidManner" ixf_InvalidMannerl K = true)
    (ixb_InvalidMany : isxB TB "InvalidMany" ixf_InvalidManyl K = true)
    (ixb_InvalidMoment : isxB TB "InvalidMoment" ixf_InvalidMomentl K = true)
    (ixb_InvalidName : isxB TB "InvalidName" ixf_InvalidNamel K = true)
    (ixb_InvalidNumber : isxB TB "InvalidNumber" ixf_InvalidNumberl K = true)
    (ixb_InvalidPage : isxB TB "InvalidPage" ixf_InvalidPagel K = true)
    (ixb_InvalidSection : isxB TB "InvalidSection" ixf_InvalidSectionl K = true)
    (ixb_InvalidSeen : isxB TB "InvalidSeen" ixf_InvalidSeenl K = true)
    (ixb_InvalidSlips : isxB TB "InvalidSlips" ixf_InvalidSlipsl K = true)
    (ixb_InvalidText : isxB TB "InvalidText" ixf_InvalidTextl K = true)
    (ixb_InvalidWord : isxB TB "InvalidWord" ixf_InvalidWordl K = true)
    (ixb_LookupError : isxT TB "LookupError" "LookupError" ixf_LookupErrorl K = true)
    (ixb_NoAnswer : isxB TB "NoAnswer" ixf_NoAnswerl K = true)
    (ixb_NotAService : isxB TB "NotAService" ixf_NotAServicel K = true)
    (ixb_NothingToUndo : isxB TB "NothingToUndo" ixf_NothingToUndol K = true)
    (ixb_OtherRound : isxB TB "OtherRound" ixf_OtherRoundl K = true)
    (ixb_TooMany : isxB TB "TooMany" ixf_TooManyl K = true)
    (ixb_UnknownName : isxB TB "UnknownName" ixf_UnknownNamel K = true)
    (ixb_ValueError : isxT TB "ValueError" "ValueError" ixf_ValueErrorl K = true)
    (ixb_WrongName : isxB TB "WrongName" ixf_WrongNamel K = true)
    (ixb_WrongValue : isxB TB "WrongValue" ixf_WrongValuel K = true)
    (ini_Broken : iniW K "Broken" = (InD.mk "Broken" "Broken.__init__" s_Broken_init none).val)
    (inb_Broken : iniBA P "Broken" "Broken.__init__" "index" K = true)
    (ini_InUse : iniW K "InUse" = (InD.mk "InUse" "InUse.__init__" s_InUse_init none).val)
    (inb_InUse : iniBL P "InUse" "InUse.__init__" "index" K = true)
    (ini_InvalidClaim : iniW K "InvalidClaim" = (InD.mk "InvalidClaim" "InvalidClaim.__init__" s_InvalidClaim_init none).val)
    (inb_InvalidClaim : iniB P "InvalidClaim" "InvalidClaim.__init__" "given" K = true)
    (ini_InvalidDeeds : iniW K "InvalidDeeds" = (InD.mk "InvalidDeeds" "InvalidDeeds.__init__" s_InvalidDeeds_init none).val)
    (inb_InvalidDeeds : iniB P "InvalidDeeds" "InvalidDeeds.__init__" "index" K = true)
    (ini_InvalidIndex : iniW K "InvalidIndex" = (InD.mk "InvalidIndex" "InvalidIndex.__init__" s_InvalidIndex_init none).val)
    (inb_InvalidIndex : iniB P "InvalidIndex" "InvalidIndex.__init__" "given" K = true)
    (ini_InvalidKind : iniW K "InvalidKind" = (InD.mk "InvalidKind" "InvalidKind.__init__" s_InvalidKind_init none).val)
    (inb_InvalidKind : iniB P "InvalidKind" "InvalidKind.__init__" "given" K = true)
    (ini_InvalidLine : iniW K "InvalidLine" = (InD.mk "InvalidLine" "InvalidLine.__init__" s_InvalidLine_init none).val)
    (inb_InvalidLine : iniB P "InvalidLine" "InvalidLine.__init__" "given" K = true)
    (ini_InvalidLists : iniW K "InvalidLists" = (InD.mk "InvalidLists" "InvalidLists.__init__" s_InvalidLists_init none).val)
    (inb_InvalidLists : iniB P "InvalidLists" "InvalidLists.__init__" "index" K = true)
    (ini_InvalidManner : iniW K "InvalidManner" = (InD.mk "InvalidManner" "InvalidManner.__init__" s_InvalidManner_init none).val)
    (inb_InvalidManner : iniB P "InvalidManner" "InvalidManner.__init__" "given" K = true)
    (ini_InvalidMany : iniW K "InvalidMany" = (InD.mk "InvalidMany" "InvalidMany.__init__" s_InvalidMany_init none).val)
    (inb_InvalidMany : iniB P "InvalidMany" "InvalidMany.__init__" "given" K = true)
    (ini_InvalidMoment : iniW K "InvalidMoment" = (InD.mk "InvalidMoment" "InvalidMoment.__init__" s_InvalidMoment_init none).val)
    (inb_InvalidMoment : iniB P "InvalidMoment" "InvalidMoment.__init__" "given" K = true)
    (ini_InvalidName : iniW K "InvalidName" = (InD.mk "InvalidName" "InvalidName.__init__" s_InvalidName_init none).val)
    (inb_InvalidName : iniB P "InvalidName" "InvalidName.__init__" "given" K = true)
    (ini_InvalidNumber : iniW K "InvalidNumber" = (InD.mk "InvalidNumber" "InvalidNumber.__init__" s_InvalidNumber_init none).val)
    (inb_InvalidNumber : iniB P "InvalidNumber" "InvalidNumber.__init__" "given" K = true)
    (ini_InvalidPage : iniW K "InvalidPage" = (InD.mk "InvalidPage" "InvalidPage.__init__" s_InvalidPage_init none).val)
    (inb_InvalidPage : iniB P "InvalidPage" "InvalidPage.__init__" "given" K = true)
    (ini_InvalidSection : iniW K "InvalidSection" = (InD.mk "InvalidSection" "InvalidSection.__init__" s_InvalidSection_init none).val)
    (inb_InvalidSection : iniB P "InvalidSection" "InvalidSection.__init__" "given" K = true)
    (ini_InvalidSeen : iniW K "InvalidSeen" = (InD.mk "InvalidSeen" "InvalidSeen.__init__" s_InvalidSeen_init none).val)
    (inb_InvalidSeen : iniB P "InvalidSeen" "InvalidSeen.__init__" "index" K = true)
    (ini_InvalidSlips : iniW K "InvalidSlips" = (InD.mk "InvalidSlips" "InvalidSlips.__init__" s_InvalidSlips_init none).val)
    (inb_InvalidSlips : iniB P "InvalidSlips" "InvalidSlips.__init__" "index" K = true)
    (ini_InvalidText : iniW K "InvalidText" = (InD.mk "InvalidText" "InvalidText.__init__" s_InvalidText_init none).val)
    (inb_InvalidText : iniB P "InvalidText" "InvalidText.__init__" "given" K = true)
    (ini_InvalidWord : iniW K "InvalidWord" = (InD.mk "InvalidWord" "InvalidWord.__init__" s_InvalidWord_init none).val)
    (inb_InvalidWord : iniB P "InvalidWord" "InvalidWord.__init__" "given" K = true)
    (ini_NotAService : iniW K "NotAService" = (InD.mk "NotAService" "NotAService.__init__" s_NotAService_init none).val)
    (inb_NotAService : iniB P "NotAService" "NotAService.__init__" "given" K = true)
    (ini_TooMany : iniW K "TooMany" = (InD.mk "TooMany" "TooMany.__init__" s_TooMany_init none).val)
    (inb_TooMany : iniBA P "TooMany" "TooMany.__init__" "number" K = true)
    (ini_UnknownName : iniW K "UnknownName" = (InD.mk "UnknownName" "UnknownName.__init__" s_UnknownName_init none).val)
    (inb_UnknownName : iniBL P "UnknownName" "UnknownName.__init__" "given" K = true)
    (xfb_given : xfxB TB "given" xff_givenl K = true)
    (xfb_index : xfxB TB "index" xff_indexl K = true)
    (xfb_number : xfxB TB "number" xff_numberl K = true)
    (xnb_NothingToUndo : excNB "NothingToUndo" K = true)
    (xnb_OtherRound : excNB "OtherRound" K = true)
    : DefIn K "law" "law" s_law ∧ ∀ C : Ctx, C.P = P → C.K = K → C.mg = mg → C.T = TB → C.exo = none → C.fno = none → C.tb = (tblX K).map (fun p => (p.1, fun _ _ => p.2)) → (∀ x ∈ lmX, LamX.TabB C.base C.mg (tabP K x).1 (tabP K x).2) → Facts C := by
  refine ⟨f_law, ?_⟩
  rintro C hP rfl rfl hT hexo hfno htb hTB
  exact {
    b_isinstance := PySem.W.mg_none_of X G b_isinstance,
    b_range := PySem.W.mg_none_of X G b_range,
    b_repr := PySem.W.mg_none_of X G b_repr,
    exo := hexo,
    f__law_kinds := DefIn.funAt X G f__law_kinds (fun _ _ _ _ _ _ us hl => match us, hl with | [_], _ => rfl),
    f__law_own := DefIn.funAt X G f__law_own (fun _ _ _ _ _ _ us hl => match us, hl with | [_], _ => rfl),
    f__law_wrong_rows := DefIn.funAt X G f__law_wrong_rows (fun _ _ _ _ _ _ us hl => match us, hl with | [], _ => rfl),
    f__law_wrong_values := DefIn.funAt X G f__law_wrong_values (fun _ _ _ _ _ _ us hl => match us, hl with | [], _ => rfl),
    f_law := DefIn.funAt X G f_law (fun _ _ _ _ _ _ us hl => match us, hl with | [_], _ => rfl),
    g_GREATEST := Cn.int X G g_GREATEST,
    g_MOST_LABEL := Cn.int X G g_MOST_LABEL,
    g_MOST_LEAVES := Cn.int X G g_MOST_LEAVES,
    g_MOST_PACKETS := Cn.int X G g_MOST_PACKETS,
    g_MOST_SEEN := Cn.int X G g_MOST_SEEN,
    g_MOST_SLIPS := Cn.int X G g_MOST_SLIPS,
    g_MOST_STANDINGS := Cn.int X G g_MOST_STANDINGS,
    g_MOST_STEPS := Cn.int X G g_MOST_STEPS,
    g_MOST_TOLD := Cn.int X G g_MOST_TOLD,
    ix_ArithmeticError := isX_ofT X G (by rw [hT]; exact eall) (by rw [hT]; exact ixb_ArithmeticError) rfl rfl (by decide) (cv := .ty "ArithmeticError") rfl (fun _ z => z),
    ix_Broken := isX_of X G (by rw [hT]; exact eall) (by rw [hT]; exact ixb_Broken) rfl,
    ix_InUse := isX_of X G (by rw [hT]; exact eall) (by rw [hT]; exact ixb_InUse) rfl,
    ix_InvalidClaim := isX_of X G (by rw [hT]; exact eall) (by rw [hT]; exact ixb_InvalidClaim) rfl,
    ix_InvalidDeeds := isX_of X G (by rw [hT]; exact eall) (by rw [hT]; exact ixb_InvalidDeeds) rfl,
    ix_InvalidIndex := isX_of X G (by rw [hT]; exact eall) (by rw [hT]; exact ixb_InvalidIndex) rfl,
    ix_InvalidKind := isX_of X G (by rw [hT]; exact eall) (by rw [hT]; exact ixb_InvalidKind) rfl,
    ix_InvalidLine := isX_of X G (by rw [hT]; exact eall) (by rw [hT]; exact ixb_InvalidLine) rfl,
    ix_InvalidLists := isX_of X G (by rw [hT]; exact eall) (by rw [hT]; exact ixb_InvalidLists) rfl,
    ix_InvalidManner := isX_of X G (by rw [hT]; exact eall) (by rw [hT]; exact ixb_InvalidManner) rfl,
    ix_InvalidMany := isX_of X G (by rw [hT]; exact eall) (by rw [hT]; exact ixb_InvalidMany) rfl,
    ix_InvalidMoment := isX_of X G (by rw [hT]; exact eall) (by rw [hT]; exact ixb_InvalidMoment) rfl,
    ix_InvalidName := isX_of X G (by rw [hT]; exact eall) (by rw [hT]; exact ixb_InvalidName) rfl,
    ix_InvalidNumber := isX_of X G (by rw [hT]; exact eall) (by rw [hT]; exact ixb_InvalidNumber) rfl,
    ix_InvalidPage := isX_of X G (by rw [hT]; exact eall) (by rw [hT]; exact ixb_InvalidPage) rfl,
    ix_InvalidSection := isX_of X G (by rw [hT]; exact eall) (by rw [hT]; exact ixb_InvalidSection) rfl,
    ix_InvalidSeen := isX_of X G (by rw [hT]; exact eall) (by rw [hT]; exact ixb_InvalidSeen) rfl,
    ix_InvalidSlips := isX_of X G (by rw [hT]; exact eall) (by rw [hT]; exact ixb_InvalidSlips) rfl,
    ix_InvalidText := isX_of X G (by rw [hT]; exact eall) (by rw [hT]; exact ixb_InvalidText) rfl,
    ix_InvalidWord := isX_of X G (by rw [hT]; exact eall) (by rw [hT]; exact ixb_InvalidWord) rfl,
    ix_LookupError := isX_ofT X G (by rw [hT]; exact eall) (by rw [hT]; exact ixb_LookupError) rfl rfl (by decide) (cv := .ty "LookupError") rfl (fun _ z => z),
    ix_NoAnswer := isX_of X G (by rw [hT]; exact eall) (by rw [hT]; exact ixb_NoAnswer) rfl,
    ix_NotAService := isX_of X G (by rw [hT]; exact eall) (by rw [hT]; exact ixb_NotAService) rfl,
    ix_NothingToUndo := isX_of X G (by rw [hT]; exact eall) (by rw [hT]; exact ixb_NothingToUndo) rfl,
    ix_OtherRound := isX_of X G (by rw [hT]; exact eall) (by rw [hT]; exact ixb_OtherRound) rfl,
    ix_TooMany := isX_of X G (by rw [hT]; exact eall) (by rw [hT]; exact ixb_TooMany) rfl,
    ix_UnknownName := isX_of X G (by rw [hT]; exact eall) (by rw [hT]; exact ixb_UnknownName) rfl,
    ix_ValueError := isX_ofT X G (by rw [hT]; exact eall) (by rw [hT]; exact ixb_ValueError) rfl rfl (by decide) (cv := .ty "ValueError") rfl (fun _ z => z),
    ix_WrongName := isX_of X G (by rw [hT]; exact eall) (by rw [hT]; exact ixb_WrongName) rfl,
    ix_WrongValue := isX_of X G (by rw [hT]; exact eall) (by rw [hT]; exact ixb_WrongValue) rfl,
    x_Broken := excIn_ofA X G ID_Broken ini_Broken (by rw [hP]; exact inb_Broken) (by rw [hP]; exact top_) (by rw [hT]; rfl) (by rw [hT]; rfl),
    x_InUse := excIn_ofL X G ID_InUse ini_InUse (by rw [hP]; exact inb_InUse) (by rw [hP]; exact top_) (by rw [hT]; rfl) (by rw [hT]; rfl),
    x_InvalidClaim := excIn_of X G ID_InvalidClaim ini_InvalidClaim (by rw [hP]; exact inb_InvalidClaim) (by rw [hP]; exact top_) (by rw [hT]; rfl) (by rw [hT]; rfl),
    x_InvalidDeeds := excIn_of X G ID_InvalidDeeds ini_InvalidDeeds (by rw [hP]; exact inb_InvalidDeeds) (by rw [hP]; exact top_) (by rw [hT]; rfl) (by rw [hT]; rfl),
    x_InvalidIndex := excIn_of X G ID_InvalidIndex ini_InvalidIndex (by rw [hP]; exact inb_InvalidIndex) (by rw [hP]; exact top_) (by rw [hT]; rfl) (by rw [hT]; rfl),
    x_InvalidKind := excIn_of X G ID_InvalidKind ini_InvalidKind (by rw [hP]; exact inb_InvalidKind) (by rw [hP]; exact top_) (by rw [hT]; rfl) (by rw [hT]; rfl),
    x_InvalidLine := excIn_of X G ID_InvalidLine ini_InvalidLine (by rw [hP]; exact inb_InvalidLine) (by rw [hP]; exact top_) (by rw [hT]; rfl) (by rw [hT]; rfl),
    x_InvalidLists := excIn_of X G ID_InvalidLists ini_InvalidLists (by rw [hP]; exact inb_InvalidLists) (by rw [hP]; exact top_) (by rw [hT]; rfl) (by rw [hT]; rfl),
    x_InvalidManner := excIn_of X G ID_InvalidManner ini_InvalidManner (by rw [hP]; exact inb_InvalidManner) (by rw [hP]; exact top_) (by rw [hT]; rfl) (by rw [hT]; rfl),
    x_InvalidMany := excIn_of X G ID_InvalidMany ini_InvalidMany (by rw [hP]; exact inb_InvalidMany) (by rw [hP]; exact top_) (by rw [hT]; rfl) (by rw [hT]; rfl),
    x_InvalidMoment := excIn_of X G ID_InvalidMoment ini_InvalidMoment (by rw [hP]; exact inb_InvalidMoment) (by rw [hP]; exact top_) (by rw [hT]; rfl) (by rw [hT]; rfl),
    x_InvalidName := excIn_of X G ID_InvalidName ini_InvalidName (by rw [hP]; exact inb_InvalidName) (by rw [hP]; exact top_) (by rw [hT]; rfl) (by rw [hT]; rfl),
    x_InvalidNumber := excIn_of X G ID_InvalidNumber ini_InvalidNumber (by rw [hP]; exact inb_InvalidNumber) (by rw [hP]; exact top_) (by rw [hT]; rfl) (by rw [hT]; rfl),
    x_InvalidPage := excIn_of X G ID_InvalidPage ini_InvalidPage (by rw [hP]; exact inb_InvalidPage) (by rw [hP]; exact top_) (by rw [hT]; rfl) (by rw [hT]; rfl),
    x_InvalidSection := excIn_of X G ID_InvalidSection ini_InvalidSection (by rw [hP]; exact inb_InvalidSection) (by rw [hP]; exact top_) (by rw [hT]; rfl) (by rw [hT]; rfl),
    x_InvalidSeen := excIn_of X G ID_InvalidSeen ini_InvalidSeen (by rw [hP]; exact inb_InvalidSeen) (by rw [hP]; exact top_) (by rw [hT]; rfl) (by rw [hT]; rfl),
    x_InvalidSlips := excIn_of X G ID_InvalidSlips ini_InvalidSlips (by rw [hP]; exact inb_InvalidSlips) (by rw [hP]; exact top_) (by rw [hT]; rfl) (by rw [hT]; rfl),
    x_InvalidText := excIn_of X G ID_InvalidText ini_InvalidText (by rw [hP]; exact inb_InvalidText) (by rw [hP]; exact top_) (by rw [hT]; rfl) (by rw [hT]; rfl),
    x_InvalidWord := excIn_of X G ID_InvalidWord ini_InvalidWord (by rw [hP]; exact inb_InvalidWord) (by rw [hP]; exact top_) (by rw [hT]; rfl) (by rw [hT]; rfl),
    x_NotAService := excIn_of X G ID_NotAService ini_NotAService (by rw [hP]; exact inb_NotAService) (by rw [hP]; exact top_) (by rw [hT]; rfl) (by rw [hT]; rfl),
    x_TooMany := excIn_ofA X G ID_TooMany ini_TooMany (by rw [hP]; exact inb_TooMany) (by rw [hP]; exact top_) (by rw [hT]; rfl) (by rw [hT]; rfl),
    x_UnknownName := excIn_ofL X G ID_UnknownName ini_UnknownName (by rw [hP]; exact inb_UnknownName) (by rw [hP]; exact top_) (by rw [hT]; rfl) (by rw [hT]; rfl),
    xf_given := xfX_of X G (by rw [hT]; exact eall) (by rw [hT]; exact xfb_given) rfl (by rw [hT]; decide +kernel),
    xf_index := xfX_of X G (by rw [hT]; exact eall) (by rw [hT]; exact xfb_index) rfl (by rw [hT]; decide +kernel),
    xf_number := xfX_of X G (by rw [hT]; exact eall) (by rw [hT]; exact xfb_number) rfl (by rw [hT]; decide +kernel),
    xn_NothingToUndo := excN_of X G xnb_NothingToUndo (by rw [hT]; rfl),
    xn_OtherRound := excN_of X G xnb_OtherRound (by rw [hT]; rfl) }
end PP
end M
end
namespace M
noncomputable section
open PySem PySem.Spec PyProof.Rows L2
namespace PP
set_option maxHeartbeats 0 in
theorem law_ok : ∀ ns : List Int, ns.length ≤ 63 → runF 1 4 x_law [.scr ns] = some (.bl true) := by
  intro ns h
  kernel_rfl
end PP
end
end M
namespace M
noncomputable section
open PySem PySem.Spec PyProof.Rows L2
namespace PP
theorem hRun (w : World) : HandSHeadRun.RunEq zh_hR zh_hV zh_hHk zh_hOb 20000 zh_hNm w := PySem.W.byRow2 "special-get-raises" (P := fun w => HandSHeadRun.RunEq zh_hR zh_hV zh_hHk zh_hOb 20000 zh_hNm w) (fun w => runX_of (zh_hRunA_f w) (zh_hRunB_f w) (zh_hRunX1_f w) (runXt_app (zh_hRunX2_f w) (zh_hRunX3_f w)) (zh_hRunC1_f w) (zh_hRunC2_f w) (zh_hRunD1_f w) (zh_hRunD2_f w) (zh_hRunE_f w)) (fun w => runX_of (zh_hRunA_t w) (zh_hRunB_t w) (zh_hRunX1_t w) (runXt_app (zh_hRunX2_t w) (zh_hRunX3_t w)) (zh_hRunC1_t w) (zh_hRunC2_t w) (zh_hRunD1_t w) (zh_hRunD2_t w) (zh_hRunE_t w)) w
set_option maxHeartbeats 0 in
theorem hAll {w : World} {h : Heap} {mg : Str → Option Value} {K : PySem.W.Frag} (c : SaysX zh_hFa zh_hFn zh_hTs zh_hEx zh_hIn lmX w h K) (G : h.Ns mainGlobals mg) : DefIn K "law" "law" s_law ∧ ∀ C : Ctx, C.P = PySem.Challenge.rw_leafpackets_k01_constants_and_errors.prog → C.K = K → C.mg = mg → C.T = TB → C.exo = none → C.fno = none → C.tb = (tblX K).map (fun p => (p.1, fun _ _ => p.2)) → (∀ x ∈ lmX, LamX.TabB C.base C.mg (tabP K x).1 (tabP K x).2) → Facts C :=
  facts_mk (P := PySem.Challenge.rw_leafpackets_k01_constants_and_errors.prog) c.m.kin G (by kernel_rfl) (c.m.ext (zh_hEx1.length + 0) rfl) (c.m.free 0 rfl) (c.m.free 1 rfl) (c.m.free 2 rfl) (c.m.def_ 0 3 rfl rfl) (c.m.def_ 1 4 rfl rfl) (c.m.def_ 2 5 rfl rfl) (c.m.def_ 3 6 rfl rfl) (c.m.def_ 4 7 rfl rfl) (c.m.int 8 rfl).choose_spec (c.m.int 9 rfl).choose_spec (c.m.int 10 rfl).choose_spec (c.m.int 11 rfl).choose_spec (c.m.int 12 rfl).choose_spec (c.m.int 13 rfl).choose_spec (c.m.int 14 rfl).choose_spec (c.m.int 15 rfl).choose_spec (c.m.int 16 rfl).choose_spec (c.m.ext (zh_hEx1.length + 1) rfl) (c.m.ext (zh_hEx1.length + 2) rfl) (c.m.ext (zh_hEx1.length + 3) rfl) (c.m.ext (zh_hEx1.length + 4) rfl) (c.m.ext (zh_hEx1.length + 5) rfl) (c.m.ext (zh_hEx1.length + 6) rfl) (c.m.ext (zh_hEx1.length + 7) rfl) (c.m.ext (zh_hEx1.length + 8) rfl) (c.m.ext (zh_hEx1.length + 9) rfl) (c.m.ext (zh_hEx1.length + 10) rfl) (c.m.ext (zh_hEx1.length + 11) rfl) (c.m.ext (zh_hEx1.length + 12) rfl) (c.m.ext (zh_hEx1.length + 13) rfl) (c.m.ext (zh_hEx1.length + 14) rfl) (c.m.ext (zh_hEx1.length + 15) rfl) (c.m.ext (zh_hEx1.length + 16) rfl) (c.m.ext (zh_hEx1.length + 17) rfl) (c.m.ext (zh_hEx1.length + 18) rfl) (c.m.ext (zh_hEx1.length + 19) rfl) (c.m.ext (zh_hEx1.length + 20) rfl) (c.m.ext (zh_hEx1.length + 21) rfl) (c.m.ext (zh_hEx1.length + 22) rfl) (c.m.ext (zh_hEx1.length + 23) rfl) (c.m.ext (zh_hEx1.length + 24) rfl) (c.m.ext (zh_hEx1.length + 25) rfl) (c.m.ext (zh_hEx1.length + 26) rfl) (c.m.ext (zh_hEx1.length + 27) rfl) (c.m.ext (zh_hEx1.length + 28) rfl) (c.m.ext (zh_hEx1.length + 29) rfl) (c.m.ext (zh_hEx1.length + 30) rfl) (c.iniAt 0 rfl) (c.m.ext (zh_hEx1.length + 31) rfl) (c.iniAt 1 rfl) (c.m.ext (zh_hEx1.length + 32) rfl) (c.iniAt 2 rfl) (c.m.ext (zh_hEx1.length + 33) rfl) (c.iniAt 3 rfl) (c.m.ext (zh_hEx1.length + 34) rfl) (c.iniAt 4 rfl) (c.m.ext (zh_hEx1.length + 35) rfl) (c.iniAt 5 rfl) (c.m.ext (zh_hEx1.length + 36) rfl) (c.iniAt 6 rfl) (c.m.ext (zh_hEx1.length + 37) rfl) (c.iniAt 7 rfl) (c.m.ext (zh_hEx1.length + 38) rfl) (c.iniAt 8 rfl) (c.m.ext (zh_hEx1.length + 39) rfl) (c.iniAt 9 rfl) (c.m.ext (zh_hEx1.length + 40) rfl) (c.iniAt 10 rfl) (c.m.ext (zh_hEx1.length + 41) rfl) (c.iniAt 11 rfl) (c.m.ext (zh_hEx1.length + 42) rfl) (c.iniAt 12 rfl) (c.m.ext (zh_hEx1.length + 43) rfl) (c.iniAt 13 rfl) (c.m.ext (zh_hEx1.length + 44) rfl) (c.iniAt 14 rfl) (c.m.ext (zh_hEx1.length + 45) rfl) (c.iniAt 15 rfl) (c.m.ext (zh_hEx1.length + 46) rfl) (c.iniAt 16 rfl) (c.m.ext (zh_hEx1.length + 47) rfl) (c.iniAt 17 rfl) (c.m.ext (zh_hEx1.length + 48) rfl) (c.iniAt 18 rfl) (c.m.ext (zh_hEx1.length + 49) rfl) (c.iniAt 19 rfl) (c.m.ext (zh_hEx1.length + 50) rfl) (c.iniAt 20 rfl) (c.m.ext (zh_hEx1.length + 51) rfl) (c.iniAt 21 rfl) (c.m.ext (zh_hEx1.length + 52) rfl) (c.m.ext (zh_hEx1.length + 53) rfl) (c.m.ext (zh_hEx1.length + 54) rfl) (c.m.ext (zh_hEx1.length + 55) rfl) (c.m.ext (zh_hEx1.length + 56) rfl) (c.m.ext (zh_hEx1.length + 57) rfl)
theorem all_mk {w : World} {K : PySem.W.Frag} {h : Heap} {mg : Str → Option Value} {fa : Addr} (c : SaysX zh_hFa zh_hFn zh_hTs zh_hEx zh_hIn lmX w h K) (G : h.Ns mainGlobals mg) (hfa : mg "law" = some (.ref fa)) :
    ∃ fd : FuncData, LawT PySem.Challenge.rw_leafpackets_k01_constants_and_errors w 4 "_law_script" mg fa h K fd (lmX.map (tabP K)) ((tblX K).map fun p => (p.1, fun _ _ => p.2)) :=
  law_ofGT (T := TB) c.m.kin G hfa (hAll c G).1 (fun _ _ _ _ _ _ us hl => match us, hl with | [_], _ => rfl) S_law c.l rfl (fun C h0 h1 h2 h3 h4 h5 h6 h7 hq => D_law ((hAll c G).2 C h0 h1 h2 h3 h4 h5 h6 h7) hq) law_ok
end PP
end
end M
open PySem PySem.W PySem.Calls PyProof.Rows
set_option maxRecDepth 100000 in
set_option maxHeartbeats 0 in
theorem PySem.Challenge.cw_leafpackets_k01_constants_and_errors_holds : PySem.Challenge.rw_leafpackets_k01_constants_and_errors.Holds := by
  w_on; o_law
  refine HandSHeadRun.head_any (r := OpenLaw.row PySem.Challenge.rw_leafpackets_k01_constants_and_errors) (q := M.PP.zh_hV) (H := M.PP.zh_hHk) (ob := M.PP.zh_hOb) (M := 20000) (loose := M.PP.zh_hNm) (d := HandSHeadRun.topDef (OpenLaw.row PySem.Challenge.rw_leafpackets_k01_constants_and_errors).prog 42) (kwd := []) M.PP.zh_hOb_eq
    (by kernel_rfl) (fun s => by kernel_rfl) M.PP.hRun (by kernel_rfl) (by kernel_rfl) (by kernel_rfl) (by rfl) (by first | assumption | decide +kernel) (by decide +kernel) ⟨rfl, rfl, rfl, rfl, rfl, by decide +kernel⟩ ?hw ?hc
  case hw => w_witness2
  case hc =>
    refine M.walkTE (l := PySem.Challenge.rw_leafpackets_k01_constants_and_errors) 4 rfl (by kernel_rfl) ⟨rfl, by decide, by decide⟩ ?F
    intro w mg fa h Y G hmg0
    obtain ⟨K, c⟩ := Y
    have hmg : mg ("law" : PySem.Str) = some (.ref fa) := by
      have e : (HandSHeadRun.topDef (OpenLaw.row PySem.Challenge.rw_leafpackets_k01_constants_and_errors).prog 42).name = ("law" : PySem.Str) := by kernel_rfl
      rw [← e]
      exact hmg0
    obtain ⟨fd, L⟩ := M.PP.all_mk c G hmg
    exact ⟨K, fd, _, _, L⟩
