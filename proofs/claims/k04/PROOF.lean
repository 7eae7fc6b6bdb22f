import PyProof.Rows.All
import Wide.All
import OpenK.AllK
import Wide.FinOn
import PyProof.EqAt
import PyProof.EqKinds
import PyProof.TupleCall
import HandS.ForMost
import KE.KeyNested
import HandS.Nested
import HandS.TupAny
import HandS.Flow
import HandS.Deep
import HandS.HotCalls
import HandS.IsInst
import HandS.SortInts
import HandS.More
import HandS.Strs
import HandS.DictComp
import HandS.Iter
import HandS.Zip
import HandS.Words
import KE.GoesMore
import HandS.Dict
import HandS.DictTup
import HandS.FStr
import HandS.TupLe
import HandS.Conv
import HandS.Set
import HandS.SetFor
import HandS.Style
import KE.SortData
import HandS.RaiseMore
import PyProof.ReprRoads
import HandS.HeadHook3
import KE.KDictWalk
import KE.KDictCopyH
import KE.KCallOwn
import KE.KFmtOwn
import PyProof.InstEq
import HandS.Property
import HandS.Defaults
import KE.GoesZip
import KE.LtData
import HandS.TupLen
import KE.KDictDisplayH
import KE.KDictPairs
import HandS.TryOnly
import HandS.Head0
import HandS.Head1
import HandS.Head2
import HandS.HeadHook1
import HandS.HeadHook2
import HandS.HeadEnd
import HandS.ExcInit
import HandS.ExcField
import KE.KExcSuper
import HandS.WordsExc
import KE.KTryMore
import HandS.ExcIs
import HandS.Lambda
import HandS.TupMul
import HandS.EndTab
import KE.KNestM
import PySem.Challenge.RW_leafpackets_k04_filing_refused
set_option Elab.async false
set_option linter.all false
set_option maxRecDepth 100000
namespace M
open PySem PySem.Spec PyProof.Rows L2
/-- what is known of a tuple's object: nothing, no dict of its own, a plain one of the heap -/
inductive TK where
  | u
  | b
  | p
inductive Dat where
  | non
  | bl (b : Bool)
  | int (i : Int)
  | str (x : Str)
  /-- k: the object is known to bear no dict of its own (its methods may be called) -/
  | tup (k : TK) (xs : List Dat)
  | lst (o : Bool) (xs : List Dat)
  | dct (o : Bool) (ks vs : List Dat)
  | dtt (o : Bool) (ks vs : List Dat)
  /-- a dict whose keys are tuples of any depth -/
  | dxt (o : Bool) (ks vs : List Dat)
  | obj (o : Bool) (c : Nat) (vs : List Dat)
  /-- the law's script: a list of ints that never changes -/
  | scr (ns : List Int)
  /-- the exception at hand: its class, what it keeps -/
  | exn (c : Nat) (vs : List Dat)
mutual
/-- nobody owns any part of it -/
def frz : Dat → Dat
  | .non => .non
  | .bl b => .bl b
  | .int i => .int i
  | .str x => .str x
  | .tup k xs => .tup k (frzs xs)
  | .lst true xs => .lst false (frzs xs)
  | .lst false xs => .lst false xs
  | .dct true ks vs => .dct false ks (frzs vs)
  | .dct false ks vs => .dct false ks vs
  | .dtt true ks vs => .dtt false ks (frzs vs)
  | .dtt false ks vs => .dtt false ks vs
  | .dxt true ks vs => .dxt false ks (frzs vs)
  | .dxt false ks vs => .dxt false ks vs
  | .obj true c vs => .obj false c (frzs vs)
  | .obj false c vs => .obj false c vs
  | .scr ns => .scr ns
  | .exn c vs => .exn c vs
def frzs : List Dat → List Dat
  | [] => []
  | d :: ds => frz d :: frzs ds
end
/-- a list's things when it is walked -/
def frzI : Bool → List Dat → List Dat
  | true, xs => frzs xs
  | false, xs => xs
theorem frz_lst (o : Bool) (xs : List Dat) : frz (.lst o xs) = .lst false (frzI o xs) := by cases o <;> rfl
abbrev Fz (d : Dat) : Prop := frz d = d
/-- the classes: the name of each and its fields in the order in which they come -/
structure Tb where
  cn : Nat → Str
  fl : Nat → List Str
structure Wd where
  K : PySem.W.Frag
  mg : Str → Option Value
  T : Tb
  w : World
  /-- the tables of code objects, with the names that they tell -/
  tb : List NdefX.NTab
  /-- the exception that is handled: its object, its class, its dict -/
  exo : Option (Addr × Nat × Option Addr)
/-- no table of code objects -/
abbrev NT (o : HO) : Prop := ∀ ps, o ≠ .tbl ps
abbrev AS := Addr → Prop
def Em (f : AS) : Prop := ∀ a, ¬ f a
def kD : Key → Dat
  | .inl i => .int i
  | .inr x => .str x
/-- a tuple's object without a dict -/
def Bare (K : PySem.W.Frag) (H : Hp) (a : Addr) : Prop := (∃ o xs, H a = some (.frz o (.tup xs)) ∧ o.dict = none) ∨ ∃ o, K.lookup a = some o ∧ o.cls = .type "tuple" ∧ o.dict = none
/-- the script: locked, or of the written part -/
def Scr (K : PySem.W.Frag) (H : Hp) (a : Addr) (xs : List V) : Prop := (∃ o, H a = some (.frz o (.lst xs))) ∨ ∃ (o : Obj) (its : Array Value) (n : Nat), K.lookup a = some o ∧ o.cls = .type "list" ∧ o.dict = none ∧ o.data = .seq its n ∧ its.size ≤ sizeLine ∧ Vals xs its.toList
theorem Scr.sq {K : PySem.W.Frag} {H : Hp} {a : Addr} {xs : List V} (h : Scr K H a xs) : SqL K H a xs := h.imp .inr id
/-- what is known of a tuple's object: it bears no dict; or it's a plain one of the heap -/
def TupK (K : PySem.W.Frag) (H : Hp) (a : Addr) (vs : List V) : TK → Prop
  | .u => True
  | .b => Bare K H a
  | .p => H a = some (.tup vs)
mutual
/-- the key that a thing is, at any depth -/
def keyN : Dat → Option NestedKey
  | .non => some .none
  | .bl b => some (.num (if b = true then 1 else 0))
  | .int i => some (.num i)
  | .str x => some (.text x)
  | .tup _ xs => (keyNs xs).map .tup
  | .lst _ _ => none
  | .dct _ _ _ => none
  | .dtt _ _ _ => none
  | .dxt _ _ _ => none
  | .obj _ _ _ => none
  | .scr _ => none
  | .exn _ _ => none
def keyNs : List Dat → Option (List NestedKey)
  | [] => some []
  | d :: ds => match keyN d, keyNs ds with
    | some k, some ks => some (k :: ks)
    | _, _ => none
end
/-- the key that a thing is, not too deep -/
def key8 (d : Dat) : Option NestedKey := (keyN d).bind fun k => if k.depth ≤ 8 then some k else none
abbrev NKV := NestedKey × Addr × V
/-- a dict whose keys are tuples of any depth: the keys, the tuples' addresses, what is held -/
def DXo (w : World) (a : Addr) (kvs : List NKV) : HO := .ext fun h => kvs.length ≤ sizeLine ∧ (a == sysModules) = false ∧
  ∃ xs : List (NestedKey × Addr × Value), Paired (fun (p : NKV) (q : NestedKey × Addr × Value) => p.1 = q.1 ∧ p.2.1 = q.2.1 ∧ RelV p.2.2 q.2.2) kvs xs ∧
    ∃ o es ep, h.get? a = some o ∧ o.ExactDict ∧ o.data = .dict es ep ∧ es.toList = xs.map (fun x => (⟨x.1.hash w, .ref x.2.1, x.2.2⟩ : DictEntry)) ∧ (xs.map (·.1)).Nodup
/-- what an exception keeps -/
def ExD (H : Hp) (d : Option Addr) (fs : List (Str × V)) : Prop := (d = none ∧ fs = []) ∨ ∃ da, d = some da ∧ H da = some (.xd fs)
mutual
inductive Rep (W : Wd) (F : AS) (H : Hp) : AS → Dat → V → Prop
  | non {fp} : Em fp → Rep W F H fp .non .non
  | bl {fp} (b : Bool) : Em fp → Rep W F H fp (.bl b) (.bl b)
  | int {fp} (i : Int) : Em fp → Rep W F H fp (.int i) (.int i)
  | str {fp} (x : Str) : Em fp → Rep W F H fp (.str x) (.str x)
  | tup {fp a vs ds k} : SqT W.K H a vs → TupK W.K H a vs k → Reps W F H fp ds vs → Rep W F H fp (.tup k ds) (.ref a)
  | lstF {fp a vs ds} : Em fp → Rd H a (.lst vs) → F a → Reps W F H fp ds vs → Rep W F H fp (.lst false ds) (.ref a)
  | lstO {fp f a vs ds} : H a = some (.lst vs) → Reps W F H f ds vs → ¬ f a → (∀ b, fp b ↔ b = a ∨ f b) → Rep W F H fp (.lst true ds) (.ref a)
  | dctF {fp a kvs ks vs} : Em fp → Rd H a (.dK kvs) → F a → ks = kvs.map (fun p => kD p.1) → Reps W F H fp vs (kvs.map (·.2)) → Rep W F H fp (.dct false ks vs) (.ref a)
  | dctO {fp f a kvs ks vs} : H a = some (.dK kvs) → ks = kvs.map (fun p => kD p.1) → Reps W F H f vs (kvs.map (·.2)) → ¬ f a → (∀ b, fp b ↔ b = a ∨ f b) → Rep W F H fp (.dct true ks vs) (.ref a)
  | dttF {fp a kvs ks vs} : Em fp → Rd H a (.dT kvs) → F a → ks = kvs.map (fun p => Dat.tup .p (p.1.map kD)) → Reps W F H fp vs (kvs.map (·.2)) → Rep W F H fp (.dtt false ks vs) (.ref a)
  | dttO {fp f a kvs ks vs} : H a = some (.dT kvs) → ks = kvs.map (fun p => Dat.tup .p (p.1.map kD)) → Reps W F H f vs (kvs.map (·.2)) → ¬ f a → (∀ b, fp b ↔ b = a ∨ f b) → Rep W F H fp (.dtt true ks vs) (.ref a)
  | dxtF {fp a kvs ks vs} : Em fp → Rd H a (DXo W.w a kvs) → F a → ks.map key8 = kvs.map (fun p => some p.1) → Reps W F H (fun _ => False) ks (kvs.map fun p => V.ref p.2.1) → Reps W F H fp vs (kvs.map (·.2.2)) → Rep W F H fp (.dxt false ks vs) (.ref a)
  | dxtO {fp f a kvs ks vs} : H a = some (DXo W.w a kvs) → ks.map key8 = kvs.map (fun p => some p.1) → Reps W F H (fun _ => False) ks (kvs.map fun p => V.ref p.2.1) → Reps W F H f vs (kvs.map (·.2.2)) → ¬ f a → (∀ b, fp b ↔ b = a ∨ f b) → Rep W F H fp (.dxt true ks vs) (.ref a)
  | objF {fp a C dx fs c vs} : Em fp → W.mg (W.T.cn c) = some (.ref C) → H a = some (.ins C dx fs) → F a → fs.map (·.1) = (W.T.fl c).take vs.length → Reps W F H fp vs (fs.map (·.2)) → Rep W F H fp (.obj false c vs) (.ref a)
  | objO {fp f a C dx fs c vs} : W.mg (W.T.cn c) = some (.ref C) → H a = some (.ins C dx fs) → fs.map (·.1) = (W.T.fl c).take vs.length → Reps W F H f vs (fs.map (·.2)) → ¬ f a → (∀ b, fp b ↔ b = a ∨ f b) → Rep W F H fp (.obj true c vs) (.ref a)
  | scr {fp a ns} : Em fp → Scr W.K H a (ns.map V.int) → Rep W F H fp (.scr ns) (.ref a)
  | exn {fp a c d fs vs} : Em fp → W.exo = some (a, c, d) → ExD H d fs → fs.map (·.1) = (W.T.fl c).take vs.length → Reps W F H fp vs (fs.map (·.2)) → Rep W F H fp (.exn c vs) (.ref a)
inductive Reps (W : Wd) (F : AS) (H : Hp) : AS → List Dat → List V → Prop
  | nil {fp} : Em fp → Reps W F H fp [] []
  | cons {fp f1 f2 d v ds vs} : Rep W F H f1 d v → Reps W F H f2 ds vs → (∀ a, f1 a → ¬ f2 a) → (∀ a, fp a ↔ f1 a ∨ f2 a) → Reps W F H fp (d :: ds) (v :: vs)
end
section
variable {W : Wd} {F F' : AS} {H H' : Hp}
mutual
theorem Rep.own : ∀ (d : Dat) (fp : AS) (v : V), Rep W F H fp d v → ∀ a, fp a → Mut (H a)
  | .non, _, _, h, a, q => by cases h with | non e => exact absurd q (e a)
  | .bl _, _, _, h, a, q => by cases h with | bl _ e => exact absurd q (e a)
  | .int _, _, _, h, a, q => by cases h with | int _ e => exact absurd q (e a)
  | .str _, _, _, h, a, q => by cases h with | str _ e => exact absurd q (e a)
  | .tup _ ds, _, _, h, a, q => by cases h with | tup _ _ r => exact Reps.own ds _ _ r a q
  | .lst _ ds, _, _, h, a, q => by
    cases h with
    | lstF e _ _ _ => exact absurd q (e a)
    | lstO e r _ i =>
      rcases (i a).mp q with z | z
      · subst z; rw [e]; exact True.intro
      · exact Reps.own ds _ _ r a z
  | .dct _ ks vs, _, _, h, a, q => by
    cases h with
    | dctF e _ _ _ _ => exact absurd q (e a)
    | dctO e _ r _ i =>
      rcases (i a).mp q with z | z
      · subst z; rw [e]; exact True.intro
      · exact Reps.own vs _ _ r a z
  | .dtt _ ks vs, _, _, h, a, q => by
    cases h with
    | dttF e _ _ _ _ => exact absurd q (e a)
    | dttO e _ r _ i =>
      rcases (i a).mp q with z | z
      · subst z; rw [e]; exact True.intro
      · exact Reps.own vs _ _ r a z
  | .dxt _ ks vs, _, _, h, a, q => by
    cases h with
    | dxtF e _ _ _ _ _ => exact absurd q (e a)
    | dxtO e _ _ r _ i =>
      rcases (i a).mp q with z | z
      · subst z; rw [e]; exact True.intro
      · exact Reps.own vs _ _ r a z
  | .obj _ c vs, _, _, h, a, q => by
    cases h with
    | objF e _ _ _ _ _ => exact absurd q (e a)
    | objO _ e _ r _ i =>
      rcases (i a).mp q with z | z
      · subst z; rw [e]; exact True.intro
      · exact Reps.own vs _ _ r a z
  | .scr ns, _, _, h, a, q => by cases h with | scr e _ => exact absurd q (e a)
  | .exn c vs, _, _, h, a, q => by cases h with | exn e _ _ _ _ => exact absurd q (e a)
theorem Reps.own : ∀ (ds : List Dat) (fp : AS) (vs : List V), Reps W F H fp ds vs → ∀ a, fp a → Mut (H a)
  | [], _, _, h, a, q => by cases h with | nil e => exact absurd q (e a)
  | d :: ds, _, _, h, a, q => by
    cases h with
    | cons r1 r2 _ i =>
      rcases (i a).mp q with z | z
      · exact Rep.own d _ _ r1 a z
      · exact Reps.own ds _ _ r2 a z
end
theorem Rd.keep {a : Addr} {u : HO} (nt : NT u) (h : Rd H a u) (k : ∀ o, H a = some o → NT o → H' a = some o) : Rd H' a u := by
  rcases h with h | ⟨o, h⟩
  · exact .inl (k _ h nt)
  · exact .inr ⟨o, k _ h fun _ z => nomatch z⟩
theorem SqT.keep {K : PySem.W.Frag} {a : Addr} {xs : List V} (h : SqT K H a xs) (k : ∀ o, H a = some o → NT o → ¬ Mut (some o) → H' a = some o) : SqT K H' a xs := by
  rcases h with (h | ⟨o, h⟩) | h
  · exact .inl (.inl (k _ h (fun _ z => nomatch z) fun z => z))
  · exact .inl (.inr ⟨o, k _ h (fun _ z => nomatch z) fun z => z⟩)
  · exact .inr h
theorem Bare.keep {K : PySem.W.Frag} {a : Addr} (h : Bare K H a) (k : ∀ o, H a = some o → NT o → ¬ Mut (some o) → H' a = some o) : Bare K H' a := by
  rcases h with ⟨o, u, h, z⟩ | h
  · exact .inl ⟨o, u, k _ h (fun _ z => nomatch z) fun z => z, z⟩
  · exact .inr h
theorem TupK.keep {K : PySem.W.Frag} {a : Addr} {vs : List V} {k : TK} (h : TupK K H a vs k) (i : ∀ o, H a = some o → NT o → ¬ Mut (some o) → H' a = some o) : TupK K H' a vs k := by
  cases k with
  | u => exact True.intro
  | b => exact Bare.keep h i
  | p => exact i _ h (fun _ z => nomatch z) fun z => z
mutual
/-- what a description leans on: its own containers, the frozen ones, what never changes -/
theorem Rep.mono (fx : ∀ a, F a → F' a) : ∀ (d : Dat) (fp : AS) (v : V), Rep W F H fp d v → (∀ a o, H a = some o → NT o → (fp a ∨ F a ∨ ¬ Mut (some o)) → H' a = some o) → Rep W F' H' fp d v
  | .non, _, _, h, _ => by cases h with | non e => exact .non e
  | .bl _, _, _, h, _ => by cases h with | bl _ e => exact .bl _ e
  | .int _, _, _, h, _ => by cases h with | int _ e => exact .int _ e
  | .str _, _, _, h, _ => by cases h with | str _ e => exact .str _ e
  | .tup _ ds, _, _, h, k => by cases h with | tup s z r => exact .tup (SqT.keep s fun o e t n => k _ o e t (.inr (.inr n))) (TupK.keep z fun o e t n => k _ o e t (.inr (.inr n))) (Reps.mono fx ds _ _ r k)
  | .lst _ ds, _, _, h, k => by
    cases h with
    | lstF e s f r => exact .lstF e (Rd.keep (fun _ z => nomatch z) s fun o q t => k _ o q t (.inr (.inl f))) (fx _ f) (Reps.mono fx ds _ _ r k)
    | lstO e r n i => exact .lstO (k _ _ e (fun _ z => nomatch z) (.inl ((i _).mpr (.inl rfl)))) (Reps.mono fx ds _ _ r fun a o q t z => k a o q t (z.imp_left fun z => (i a).mpr (.inr z))) n i
  | .dct _ ks vs, _, _, h, k => by
    cases h with
    | dctF e s f x r => exact .dctF e (Rd.keep (fun _ z => nomatch z) s fun o q t => k _ o q t (.inr (.inl f))) (fx _ f) x (Reps.mono fx vs _ _ r k)
    | dctO e x r n i => exact .dctO (k _ _ e (fun _ z => nomatch z) (.inl ((i _).mpr (.inl rfl)))) x (Reps.mono fx vs _ _ r fun a o q t z => k a o q t (z.imp_left fun z => (i a).mpr (.inr z))) n i
  | .dtt _ ks vs, _, _, h, k => by
    cases h with
    | dttF e s f x r => exact .dttF e (Rd.keep (fun _ z => nomatch z) s fun o q t => k _ o q t (.inr (.inl f))) (fx _ f) x (Reps.mono fx vs _ _ r k)
    | dttO e x r n i => exact .dttO (k _ _ e (fun _ z => nomatch z) (.inl ((i _).mpr (.inl rfl)))) x (Reps.mono fx vs _ _ r fun a o q t z => k a o q t (z.imp_left fun z => (i a).mpr (.inr z))) n i
  | .dxt _ ks vs, _, _, h, k => by
    cases h with
    | dxtF e s f x rk r => exact .dxtF e (Rd.keep (fun _ z => nomatch z) s fun o q t => k _ o q t (.inr (.inl f))) (fx _ f) x (Reps.mono fx ks _ _ rk fun a o q t z => k a o q t (z.imp_left False.elim)) (Reps.mono fx vs _ _ r k)
    | dxtO e x rk r n i => exact .dxtO (k _ _ e (fun _ z => nomatch z) (.inl ((i _).mpr (.inl rfl)))) x (Reps.mono fx ks _ _ rk fun a o q t z => k a o q t (z.imp_left False.elim)) (Reps.mono fx vs _ _ r fun a o q t z => k a o q t (z.imp_left fun z => (i a).mpr (.inr z))) n i
  | .obj _ c vs, _, _, h, k => by
    cases h with
    | objF e m s f x r => exact .objF e m (k _ _ s (fun _ z => nomatch z) (.inr (.inl f))) (fx _ f) x (Reps.mono fx vs _ _ r k)
    | objO m e x r n i => exact .objO m (k _ _ e (fun _ z => nomatch z) (.inl ((i _).mpr (.inl rfl)))) x (Reps.mono fx vs _ _ r fun a o q t z => k a o q t (z.imp_left fun z => (i a).mpr (.inr z))) n i
  | .scr ns, _, _, h, k => by
    cases h with
    | scr e s => exact .scr e (s.imp_left fun ⟨o, q⟩ => ⟨o, k _ _ q (fun _ z => nomatch z) (.inr (.inr fun z => z))⟩)
  | .exn c vs, _, _, h, k => by
    cases h with
    | exn e x d f r => exact .exn e x (d.imp_right fun ⟨da, e1, e2⟩ => ⟨da, e1, k _ _ e2 (fun _ z => nomatch z) (.inr (.inr fun z => z))⟩) f (Reps.mono fx vs _ _ r k)
theorem Reps.mono (fx : ∀ a, F a → F' a) : ∀ (ds : List Dat) (fp : AS) (vs : List V), Reps W F H fp ds vs → (∀ a o, H a = some o → NT o → (fp a ∨ F a ∨ ¬ Mut (some o)) → H' a = some o) → Reps W F' H' fp ds vs
  | [], _, _, h, _ => by cases h with | nil e => exact .nil e
  | d :: ds, _, _, h, k => by
    cases h with
    | cons r1 r2 n i =>
      exact .cons (Rep.mono fx d _ _ r1 fun a o q t z => k a o q t (z.imp_left fun z => (i a).mpr (.inl z))) (Reps.mono fx ds _ _ r2 fun a o q t z => k a o q t (z.imp_left fun z => (i a).mpr (.inr z))) n i
end
mutual
/-- the same with another name of the footprint -/
theorem Rep.eqv : ∀ (d : Dat) (fp fp' : AS) (v : V), Rep W F H fp d v → (∀ a, fp' a ↔ fp a) → Rep W F H fp' d v
  | .non, _, _, _, h, i => by cases h with | non e => exact .non fun a z => e a ((i a).mp z)
  | .bl _, _, _, _, h, i => by cases h with | bl _ e => exact .bl _ fun a z => e a ((i a).mp z)
  | .int _, _, _, _, h, i => by cases h with | int _ e => exact .int _ fun a z => e a ((i a).mp z)
  | .str _, _, _, _, h, i => by cases h with | str _ e => exact .str _ fun a z => e a ((i a).mp z)
  | .tup _ ds, _, _, _, h, i => by cases h with | tup s z r => exact .tup s z (Reps.eqv ds _ _ _ r i)
  | .lst _ ds, _, _, _, h, i => by
    cases h with
    | lstF e s f r => exact .lstF (fun a z => e a ((i a).mp z)) s f (Reps.eqv ds _ _ _ r i)
    | lstO e r n j => exact .lstO e r n fun b => (i b).trans (j b)
  | .dct _ ks vs, _, _, _, h, i => by
    cases h with
    | dctF e s f x r => exact .dctF (fun a z => e a ((i a).mp z)) s f x (Reps.eqv vs _ _ _ r i)
    | dctO e x r n j => exact .dctO e x r n fun b => (i b).trans (j b)
  | .dtt _ ks vs, _, _, _, h, i => by
    cases h with
    | dttF e s f x r => exact .dttF (fun a z => e a ((i a).mp z)) s f x (Reps.eqv vs _ _ _ r i)
    | dttO e x r n j => exact .dttO e x r n fun b => (i b).trans (j b)
  | .dxt _ ks vs, _, _, _, h, i => by
    cases h with
    | dxtF e s f x rk r => exact .dxtF (fun a z => e a ((i a).mp z)) s f x rk (Reps.eqv vs _ _ _ r i)
    | dxtO e x rk r n j => exact .dxtO e x rk r n fun b => (i b).trans (j b)
  | .obj _ c vs, _, _, _, h, i => by
    cases h with
    | objF e m s f x r => exact .objF (fun a z => e a ((i a).mp z)) m s f x (Reps.eqv vs _ _ _ r i)
    | objO m e x r n j => exact .objO m e x r n fun b => (i b).trans (j b)
  | .scr ns, _, _, _, h, i => by cases h with | scr e s => exact .scr (fun a z => e a ((i a).mp z)) s
  | .exn c vs, _, _, _, h, i => by cases h with | exn e x d f r => exact .exn (fun a z => e a ((i a).mp z)) x d f (Reps.eqv vs _ _ _ r i)
theorem Reps.eqv : ∀ (ds : List Dat) (fp fp' : AS) (vs : List V), Reps W F H fp ds vs → (∀ a, fp' a ↔ fp a) → Reps W F H fp' ds vs
  | [], _, _, _, h, i => by cases h with | nil e => exact .nil fun a z => e a ((i a).mp z)
  | d :: ds, _, _, _, h, i => by cases h with | cons r1 r2 n j => exact .cons r1 r2 n fun a => (i a).trans (j a)
end
mutual
/-- freezing: the footprint becomes part of the frozen ones -/
theorem Rep.freeze (fx : ∀ a, F a → F' a) : ∀ (d : Dat) (fp : AS) (v : V), Rep W F H fp d v → (∀ a, fp a → F' a) → Rep W F' H (fun _ => False) (frz d) v
  | .non, _, _, h, _ => by cases h with | non e => exact .non fun _ z => z
  | .bl _, _, _, h, _ => by cases h with | bl _ e => exact .bl _ fun _ z => z
  | .int _, _, _, h, _ => by cases h with | int _ e => exact .int _ fun _ z => z
  | .str _, _, _, h, _ => by cases h with | str _ e => exact .str _ fun _ z => z
  | .tup _ ds, _, _, h, k => by cases h with | tup s z r => exact .tup s z (Reps.freeze fx ds _ _ r k)
  | .lst _ ds, _, _, h, k => by
    cases h with
    | lstF e s f r => exact .lstF (fun _ z => z) s (fx _ f) (Reps.eqv _ _ _ _ (Reps.mono fx ds _ _ r fun _ _ e _ _ => e) fun a => ⟨fun z => z.elim, fun z => e a z⟩)
    | lstO e r n i => exact .lstF (fun _ z => z) (.inl e) (k _ ((i _).mpr (.inl rfl))) (Reps.freeze fx ds _ _ r fun a z => k a ((i a).mpr (.inr z)))
  | .dct _ ks vs, _, _, h, k => by
    cases h with
    | dctF e s f x r => exact .dctF (fun _ z => z) s (fx _ f) x (Reps.eqv _ _ _ _ (Reps.mono fx vs _ _ r fun _ _ e _ _ => e) fun a => ⟨fun z => z.elim, fun z => e a z⟩)
    | dctO e x r n i => exact .dctF (fun _ z => z) (.inl e) (k _ ((i _).mpr (.inl rfl))) x (Reps.freeze fx vs _ _ r fun a z => k a ((i a).mpr (.inr z)))
  | .dtt _ ks vs, _, _, h, k => by
    cases h with
    | dttF e s f x r => exact .dttF (fun _ z => z) s (fx _ f) x (Reps.eqv _ _ _ _ (Reps.mono fx vs _ _ r fun _ _ e _ _ => e) fun a => ⟨fun z => z.elim, fun z => e a z⟩)
    | dttO e x r n i => exact .dttF (fun _ z => z) (.inl e) (k _ ((i _).mpr (.inl rfl))) x (Reps.freeze fx vs _ _ r fun a z => k a ((i a).mpr (.inr z)))
  | .dxt _ ks vs, _, _, h, k => by
    cases h with
    | dxtF e s f x rk r => exact .dxtF (fun _ z => z) s (fx _ f) x (Reps.mono fx ks _ _ rk fun _ _ e _ _ => e) (Reps.eqv _ _ _ _ (Reps.mono fx vs _ _ r fun _ _ e _ _ => e) fun a => ⟨fun z => z.elim, fun z => e a z⟩)
    | dxtO e x rk r n i => exact .dxtF (fun _ z => z) (.inl e) (k _ ((i _).mpr (.inl rfl))) x (Reps.mono fx ks _ _ rk fun _ _ e _ _ => e) (Reps.freeze fx vs _ _ r fun a z => k a ((i a).mpr (.inr z)))
  | .obj _ c vs, _, _, h, k => by
    cases h with
    | objF e m s f x r => exact .objF (fun _ z => z) m s (fx _ f) x (Reps.eqv _ _ _ _ (Reps.mono fx vs _ _ r fun _ _ e _ _ => e) fun a => ⟨fun z => z.elim, fun z => e a z⟩)
    | objO m e x r n i => exact .objF (fun _ z => z) m e (k _ ((i _).mpr (.inl rfl))) (by rw [frzs_length]; exact x) (Reps.freeze fx vs _ _ r fun a z => k a ((i a).mpr (.inr z)))
  | .scr ns, _, _, h, k => by cases h with | scr e s => exact .scr (fun _ z => z) s
  | .exn c vs, _, _, h, k => by cases h with | exn e x d f r => exact .exn (fun _ z => z) x d f (Reps.eqv _ _ _ _ (Reps.mono fx vs _ _ r fun _ _ e _ _ => e) fun a => ⟨fun z => z.elim, fun z => e a z⟩)
theorem Reps.freeze (fx : ∀ a, F a → F' a) : ∀ (ds : List Dat) (fp : AS) (vs : List V), Reps W F H fp ds vs → (∀ a, fp a → F' a) → Reps W F' H (fun _ => False) (frzs ds) vs
  | [], _, _, h, _ => by cases h with | nil e => exact .nil fun _ z => z
  | d :: ds, _, _, h, k => by
    cases h with
    | cons r1 r2 n i => exact .cons (Rep.freeze fx d _ _ r1 fun a z => k a ((i a).mpr (.inl z))) (Reps.freeze fx ds _ _ r2 fun a z => k a ((i a).mpr (.inr z))) (fun _ z => z.elim) fun a => ⟨fun z => z.elim, fun z => z.elim id id⟩
theorem frzs_length : ∀ ds : List Dat, (frzs ds).length = ds.length
  | [] => rfl
  | d :: ds => by show (frzs ds).length + 1 = ds.length + 1; rw [frzs_length ds]
end
end
end M
namespace M
open PySem PySem.Spec PyProof.Rows L2
section
variable {W : Wd} {F F' F1 F2 : AS} {H H' H1 H2 : Hp} {fp fp' fp1 fp2 : AS}
mutual
theorem Rep.em : ∀ (d : Dat) (fp : AS) (v : V), Rep W F H fp d v → frz d = d → Em fp
  | .non, _, _, h, _ => by cases h with | non e => exact e
  | .bl _, _, _, h, _ => by cases h with | bl _ e => exact e
  | .int _, _, _, h, _ => by cases h with | int _ e => exact e
  | .str _, _, _, h, _ => by cases h with | str _ e => exact e
  | .tup _ ds, _, _, h, z => by cases h with | tup s _ r => exact Reps.em ds _ _ r (by simpa [frz] using z)
  | .lst o ds, _, _, h, z => by
    cases h with
    | lstF e _ _ _ => exact e
    | lstO _ _ _ _ => simp [frz] at z
  | .dct o ks vs, _, _, h, z => by
    cases h with
    | dctF e _ _ _ _ => exact e
    | dctO _ _ _ _ _ => simp [frz] at z
  | .dtt o ks vs, _, _, h, z => by
    cases h with
    | dttF e _ _ _ _ => exact e
    | dttO _ _ _ _ _ => simp [frz] at z
  | .dxt o ks vs, _, _, h, z => by
    cases h with
    | dxtF e _ _ _ _ _ => exact e
    | dxtO _ _ _ _ _ _ => simp [frz] at z
  | .obj o c vs, _, _, h, z => by
    cases h with
    | objF e _ _ _ _ _ => exact e
    | objO _ _ _ _ _ _ => simp [frz] at z
  | .scr ns, _, _, h, _ => by cases h with | scr e _ => exact e
  | .exn _ _, _, _, h, _ => by cases h with | exn e _ _ _ _ => exact e
theorem Reps.em : ∀ (ds : List Dat) (fp : AS) (vs : List V), Reps W F H fp ds vs → frzs ds = ds → Em fp
  | [], _, _, h, _ => by cases h with | nil e => exact e
  | d :: ds, _, _, h, z => by
    cases h with
    | cons r1 r2 n i =>
      have z' : frz d :: frzs ds = d :: ds := z
      injection z' with z1 z2
      exact fun a q => ((i a).mp q).elim (Rep.em d _ _ r1 z1 a) (Reps.em ds _ _ r2 z2 a)
end
/-- a thing stays; of a table its being one -/
def Kp (o : HO) (x : Option HO) : Prop := x = some o ∨ ((∃ ps, o = .tbl ps) ∧ ∃ ps, x = some (.tbl ps))
theorem Kp.of {o : HO} {x : Option HO} (h : x = some o) : Kp o x := .inl h
theorem Kp.nt {o : HO} {x : Option HO} (h : Kp o x) (n : NT o) : x = some o := h.resolve_right fun z => z.1.elim fun ps e => n ps e
theorem Kp.ne {o : HO} {x : Option HO} (h : Kp o x) : x ≠ none := by
  rcases h with h | ⟨_, _, h⟩ <;> rw [h] <;> intro z <;> cases z
theorem Kp.no {o : HO} {x : Option HO} {P : Prop} (h : Kp o x) (q : x = none) : P := absurd q h.ne
theorem Kp.trans {o : HO} {x y : Option HO} (h : Kp o x) (k : ∀ o', x = some o' → Kp o' y) : Kp o y := by
  rcases h with h | ⟨⟨ps, e⟩, qs, h⟩
  · exact k o h
  · rcases k _ h with z | ⟨_, z⟩
    · exact .inr ⟨⟨ps, e⟩, qs, z⟩
    · exact .inr ⟨⟨ps, e⟩, z⟩
theorem mut_nt {o : HO} (h : Mut (some o)) : NT o := fun ps e => by rw [e] at h; exact h
/-- a code object -/
def Cod (o : HO) : Prop := ∃ c q, o = LamX.CodeO c q
/-- the tables go on: none is new -/
structure Tgo (H H' : Hp) : Prop where
  tb : ∀ T, NdefX.TabsN T H → NdefX.TabsN T H'
  ta : ∀ b ps, H' b = some (.tbl ps) → ∃ qs, H b = some (.tbl qs)
theorem Tgo.refl : Tgo H H := ⟨fun _ h => h, fun _ ps e => ⟨ps, e⟩⟩
theorem Tgo.trans (x : Tgo H H1) (y : Tgo H1 H2) : Tgo H H2 := ⟨fun T h => y.tb T (x.tb T h), fun b ps e => let ⟨qs, e1⟩ := y.ta b ps e; x.ta b qs e1⟩
/-- the tables of the law, and no others -/
structure TbOk (T : List NdefX.NTab) (H : Hp) : Prop where
  tb : NdefX.TabsN T H
  ta : ∀ b ps, H b = some (.tbl ps) → ∃ nm, (b, nm) ∈ T
theorem TbOk.go {T : List NdefX.NTab} (x : TbOk T H) (y : Tgo H H1) : TbOk T H1 := ⟨y.tb T x.tb, fun b ps e => let ⟨qs, e1⟩ := y.ta b ps e; x.ta b qs e1⟩
theorem Tgo.upd {A : Addr} {o u : HO} (e : H A = some o) (n : NT o) (k : ¬ Cod o) (n2 : NT u) : Tgo H (L2.upd H A u) := by
  refine ⟨fun T t p hp => ?_, fun b ps q => ?_⟩
  · obtain ⟨ps, h1, h2, h3⟩ := t p hp
    refine ⟨ps, ?_, h2, fun pos cv hc => ?_⟩
    · rw [upd_ne]; exact h1
      intro z; rw [z, e] at h1; cases h1; exact n _ rfl
    · obtain ⟨c, e1, e2⟩ := h3 pos cv hc
      refine ⟨c, e1, ?_⟩
      rw [upd_ne]; exact e2
      intro z; rw [z, e] at e2; cases e2; exact k ⟨_, _, rfl⟩
  · by_cases z : b = A
    · rw [z, upd_same] at q; cases q; exact absurd rfl (n2 ps)
    · rw [upd_ne z] at q; exact ⟨ps, q⟩
theorem Tgo.new {A : Addr} {u : HO} (e : H A = none) (n2 : NT u) : Tgo H (L2.upd H A u) := by
  refine ⟨fun T t => t.ext fun b o q => ?_, fun b ps q => ?_⟩
  · rw [upd_ne]; exact q
    intro z; rw [z, e] at q; cases q
  · by_cases z : b = A
    · rw [z, upd_same] at q; cases q; exact absurd rfl (n2 ps)
    · rw [upd_ne z] at q; exact ⟨ps, q⟩
/-- the owned ones are no frozen ones, and can change; the tables are there -/
structure Ok (W : Wd) (F : AS) (H : Hp) (fp : AS) : Prop where
  nf : ∀ a, fp a → ¬ F a
  own : ∀ a, fp a → Mut (H a)
  lv : ∀ a, F a → H a ≠ none
  tb : TbOk W.tb H
/-- from one state to a later one -/
structure Step (W : Wd) (F : AS) (H : Hp) (fp F' : AS) (H' : Hp) (fp' : AS) : Prop where
  kp : ∀ a o, H a = some o → ¬ fp a → Kp o (H' a)
  fx : ∀ a, F a → F' a
  fb : ∀ a, F' a → F a ∨ fp a ∨ H a = none
  nw : ∀ a, fp' a → fp a ∨ H a = none
  ok : Ok W F' H' fp'
theorem Ok.sub (x : Ok W F H fp) (h : ∀ a, fp' a → fp a) : Ok W F H fp' := ⟨fun a z => x.nf a (h a z), fun a z => x.own a (h a z), x.lv, x.tb⟩
theorem Step.refl (x : Ok W F H fp) : Step W F H fp F H fp := ⟨fun _ _ e _ => .of e, fun _ z => z, fun _ z => .inl z, fun _ z => .inl z, x⟩
theorem Step.sub (x : Step W F H fp F1 H1 fp1) (h : ∀ a, fp2 a → fp1 a) : Step W F H fp F1 H1 fp2 := ⟨x.kp, x.fx, x.fb, fun a z => x.nw a (h a z), x.ok.sub h⟩
theorem Step.lft (x : Step W F H fp F1 H1 fp1) (i : ∀ a, fp a → fp2 a) : Step W F H fp2 F1 H1 fp1 := ⟨fun a o e n => x.kp a o e fun z => n (i a z), x.fx, fun a z => (x.fb a z).imp_right fun z => z.imp_left (i a), fun a z => (x.nw a z).imp_left (i a), x.ok⟩
theorem Step.trans (x : Step W F H fp F1 H1 fp1) (y : Step W F1 H1 fp1 F2 H2 fp2) : Step W F H fp F2 H2 fp2 where
  kp := fun a o e n => (x.kp a o e n).trans fun o' e' => y.kp a o' e' fun z => (x.nw a z).elim n fun q => by rw [q] at e; cases e
  fx := fun a z => y.fx a (x.fx a z)
  fb := fun a z => by
    rcases y.fb a z with q | q | q
    · exact x.fb a q
    · exact .inr (x.nw a q)
    · cases e : H a with
      | none => exact .inr (.inr rfl)
      | some o =>
        by_cases n : fp a
        · exact .inr (.inl n)
        · exact (x.kp a o e n).no q
  nw := fun a z => by
    rcases y.nw a z with q | q
    · exact x.nw a q
    · cases e : H a with
      | none => exact .inr rfl
      | some o =>
        by_cases n : fp a
        · exact .inl n
        · exact (x.kp a o e n).no q
  ok := y.ok
/-- a step of a part: what else is owned stays owned -/
theorem Step.frame {g : AS} (x : Step W F H fp F1 H1 fp1) (og : Ok W F H g) (dj : ∀ a, fp a → ¬ g a) : Step W F H (fun a => fp a ∨ g a) F1 H1 (fun a => fp1 a ∨ g a) ∧ ∀ a, fp1 a → ¬ g a := by
  have live : ∀ a, g a → ∃ o, H a = some o := fun a z => by
    have := og.own a z
    cases e : H a with
    | none => rw [e] at this; exact this.elim
    | some o => exact ⟨o, rfl⟩
  have keep : ∀ a, g a → H1 a = H a := fun a z => by
    obtain ⟨o, e⟩ := live a z
    have m := og.own a z
    rw [e] at m ⊢
    exact (x.kp a o e fun q => dj a q z).nt (mut_nt m)
  refine ⟨⟨fun a o e n => x.kp a o e fun z => n (.inl z), x.fx, fun a z => ?_, fun a z => ?_, ⟨fun a z => ?_, fun a z => ?_, x.ok.lv, x.ok.tb⟩⟩, fun a z q => ?_⟩
  · rcases x.fb a z with q | q | q
    · exact .inl q
    · exact .inr (.inl (.inl q))
    · exact .inr (.inr q)
  · rcases z with z | z
    · rcases x.nw a z with q | q
      · exact .inl (.inl q)
      · exact .inr q
    · exact .inl (.inr z)
  · rcases z with z | z
    · exact x.ok.nf a z
    · intro q
      rcases x.fb a q with q | q | q
      · exact og.nf a z q
      · exact dj a q z
      · obtain ⟨o, e⟩ := live a z; rw [q] at e; cases e
  · rcases z with z | z
    · exact x.ok.own a z
    · rw [keep a z]; exact og.own a z
  · rcases x.nw a z with r | r
    · exact dj a r q
    · obtain ⟨o, e⟩ := live a q; rw [r] at e; cases e
theorem not_mut_fp (x : Ok W F H fp) {a : Addr} {o : HO} (e : H a = some o) (n : ¬ Mut (some o)) : ¬ fp a := fun z => n (by rw [← e]; exact x.own a z)
theorem Step.keepR (x : Step W F H fp F1 H1 fp1) (ok : Ok W F H fp) {g : AS} (dj : ∀ a, g a → ¬ fp a) : ∀ a o, H a = some o → NT o → (g a ∨ F a ∨ ¬ Mut (some o)) → H1 a = some o := fun a o e t z => by
  refine (x.kp a o e ?_).nt t
  rcases z with z | z | z
  · exact dj a z
  · exact fun q => ok.nf a q z
  · exact not_mut_fp ok e z
/-- what is told of another thing stays told -/
theorem Rep.step {g : AS} {d : Dat} {v : V} (r : Rep W F H g d v) (x : Step W F H fp F1 H1 fp1) (ok : Ok W F H fp) (dj : ∀ a, g a → ¬ fp a) : Rep W F1 H1 g d v := Rep.mono x.fx d _ _ r (x.keepR ok dj)
theorem Reps.step {g : AS} {ds : List Dat} {vs : List V} (r : Reps W F H g ds vs) (x : Step W F H fp F1 H1 fp1) (ok : Ok W F H fp) (dj : ∀ a, g a → ¬ fp a) : Reps W F1 H1 g ds vs := Reps.mono x.fx ds _ _ r (x.keepR ok dj)
/-- all stays, of the tables their being tables -/
abbrev Keep (H H' : Hp) : Prop := ∀ a o, H a = some o → Kp o (H' a)
theorem Keep.rfl : Keep H H := fun _ _ e => .of e
theorem Keep.of (h : ∀ a o, H a = some o → H' a = some o) : Keep H H' := fun a o e => .of (h a o e)
theorem Keep.nt (h : Keep H H') : ∀ a o, H a = some o → NT o → H' a = some o := fun a o e n => (h a o e).nt n
/-- where nothing old was written -/
theorem Rep.kept {g : AS} {d : Dat} {v : V} (r : Rep W F H g d v) (fx : ∀ a, F a → F1 a) (k : Keep H H1) : Rep W F1 H1 g d v := Rep.mono fx d _ _ r fun a o e t _ => (k a o e).nt t
theorem Reps.kept {g : AS} {ds : List Dat} {vs : List V} (r : Reps W F H g ds vs) (fx : ∀ a, F a → F1 a) (k : Keep H H1) : Reps W F1 H1 g ds vs := Reps.mono fx ds _ _ r fun a o e t _ => (k a o e).nt t
theorem Reps.length : ∀ {ds : List Dat} {fp : AS} {vs : List V}, Reps W F H fp ds vs → ds.length = vs.length
  | [], _, _, h => by cases h; rfl
  | d :: ds, _, _, h => by
    cases h with
    | cons r1 r2 n i => show ds.length + 1 = _ + 1; rw [Reps.length r2]
theorem Reps.get : ∀ {ds : List Dat} {fp : AS} {vs : List V} {i : Nat} {d : Dat}, Reps W F H fp ds vs → ds[i]? = some d → ∃ v f, vs[i]? = some v ∧ Rep W F H f d v ∧ ∀ a, f a → fp a
  | [], _, _, _, _, h, e => by simp at e
  | d :: ds, _, _, 0, x, h, e => by
    cases h with
    | cons r1 r2 n i =>
      simp at e; subst e
      exact ⟨_, _, rfl, r1, fun a z => (i a).mpr (.inl z)⟩
  | d :: ds, _, _, k + 1, x, h, e => by
    cases h with
    | cons r1 r2 n i =>
      obtain ⟨v, f, e1, r, s⟩ := Reps.get (i := k) r2 (by simpa using e)
      exact ⟨v, f, by simpa using e1, r, fun a z => (i a).mpr (.inr (s a z))⟩
theorem Reps.get' : ∀ {ds : List Dat} {fp : AS} {vs : List V} {i : Nat} {v : V}, Reps W F H fp ds vs → vs[i]? = some v → ∃ d f, ds[i]? = some d ∧ Rep W F H f d v ∧ ∀ a, f a → fp a
  | [], _, _, _, _, h, e => by cases h; simp at e
  | d :: ds, _, _, 0, x, h, e => by
    cases h with
    | cons r1 r2 n i =>
      simp at e; subst e
      exact ⟨_, _, rfl, r1, fun a z => (i a).mpr (.inl z)⟩
  | d :: ds, _, _, k + 1, x, h, e => by
    cases h with
    | cons r1 r2 n i =>
      obtain ⟨v, f, e1, r, s⟩ := Reps.get' (i := k) r2 (by simpa using e)
      exact ⟨v, f, by simpa using e1, r, fun a z => (i a).mpr (.inr (s a z))⟩
theorem Reps.append : ∀ {ds es : List Dat} {f g : AS} {vs us : List V}, Reps W F H f ds vs → Reps W F H g es us → (∀ a, f a → ¬ g a) → Reps W F H (fun a => f a ∨ g a) (ds ++ es) (vs ++ us)
  | [], _, _, _, _, _, h, k, _ => by
    cases h with
    | nil e => exact Reps.eqv _ _ _ _ k fun a => ⟨fun z => z.elim (fun z => absurd z (e a)) id, .inr⟩
  | d :: ds, es, _, _, _, _, h, k, n => by
    cases h with
    | cons r1 r2 m i =>
      refine .cons r1 (Reps.append r2 k fun a z => n a ((i a).mpr (.inr z))) (fun a z q => ?_) fun a => ⟨fun z => ?_, fun z => ?_⟩
      · rcases q with q | q
        · exact m a z q
        · exact n a ((i a).mpr (.inl z)) q
      · rcases z with z | z
        · exact ((i a).mp z).imp_right .inl
        · exact .inr (.inr z)
      · rcases z with z | z | z
        · exact .inl ((i a).mpr (.inl z))
        · exact .inl ((i a).mpr (.inr z))
        · exact .inr z
/-- the parts of something that nobody owns -/
theorem Reps.all {fp : AS} {ds : List Dat} {vs : List V} (h : Reps W F H fp ds vs) (e : Em fp) : ∀ (i : Nat) (d : Dat) (v : V), ds[i]? = some d → vs[i]? = some v → ∀ g, Em g → Rep W F H g d v := fun i d v h1 h2 g eg => by
  obtain ⟨v', f, e1, r, s⟩ := h.get h1
  rw [h2] at e1; cases e1
  exact Rep.eqv _ _ _ _ r fun a => ⟨fun z => absurd z (eg a), fun z => absurd (s a z) (e a)⟩
abbrev Env := List (Option Dat)
inductive Sl (W : Wd) (F : AS) (H : Hp) : AS → Env → L2.St → Prop
  | em {q : AS} : Em q → Sl W F H q [] []
  | no {q : AS} {env : Env} {x : Option V} {σ : L2.St} : Sl W F H q env σ → Sl W F H q (none :: env) (x :: σ)
  | so {q f g : AS} {d : Dat} {v : V} {env : Env} {σ : L2.St} : Rep W F H f d v → Sl W F H g env σ → (∀ a, f a → ¬ g a) → (∀ a, q a ↔ f a ∨ g a) → Sl W F H q (some d :: env) (some v :: σ)
theorem Sl.eqv {env : Env} {σ : L2.St} (h : Sl W F H fp env σ) (i : ∀ a, fp' a ↔ fp a) : Sl W F H fp' env σ := by
  induction h generalizing fp' with
  | em e => exact .em fun a z => e a ((i a).mp z)
  | no _ ih => exact .no (ih i)
  | so r s n j _ => exact .so r s n fun a => (i a).trans (j a)
theorem Sl.mono {env : Env} {σ : L2.St} (h : Sl W F H fp env σ) (fx : ∀ a, F a → F' a) (k : ∀ a o, H a = Option.some o → NT o → (fp a ∨ F a ∨ ¬ Mut (Option.some o)) → H' a = Option.some o) : Sl W F' H' fp env σ := by
  induction h with
  | em e => exact .em e
  | no _ ih => exact .no (ih k)
  | so r s n j ih => exact .so (Rep.mono fx _ _ _ r fun a o e t z => k a o e t (z.imp_left fun z => (j a).mpr (.inl z))) (ih fun a o e t z => k a o e t (z.imp_left fun z => (j a).mpr (.inr z))) n j
theorem Sl.kept {env : Env} {σ : L2.St} (h : Sl W F H fp env σ) (fx : ∀ a, F a → F' a) (k : Keep H H') : Sl W F' H' fp env σ := h.mono fx fun a o e t _ => (k a o e).nt t
theorem Sl.length {env : Env} {σ : L2.St} (h : Sl W F H fp env σ) : env.length = σ.length := by
  induction h with
  | em _ => rfl
  | no _ ih => simp [ih]
  | so _ _ _ _ ih => simp [ih]
theorem Sl.own {env : Env} {σ : L2.St} (h : Sl W F H fp env σ) : ∀ a, fp a → Mut (H a) := by
  induction h with
  | em e => exact fun a z => absurd z (e a)
  | no _ ih => exact ih
  | so r s n j ih => exact fun a z => ((j a).mp z).elim (Rep.own _ _ _ r a) (ih a)
/-- a slot: what stands in it, and the environment with other things in it -/
theorem Sl.at_ {env : Env} {σ : L2.St} {i : Nat} {d : Dat} (h : Sl W F H fp env σ) (e : env[i]? = Option.some (Option.some d)) :
    ∃ v f g, σ[i]? = Option.some (Option.some v) ∧ Rep W F H f d v ∧ (∀ a, fp a ↔ f a ∨ g a) ∧ (∀ a, f a → ¬ g a) ∧ Sl W F H g (env.set i none) σ := by
  induction h generalizing i with
  | em _ => simp at e
  | @no fp env x σ s ih =>
    cases i with
    | zero => simp at e
    | succ k =>
      obtain ⟨v, f, g, e1, r, j, n, s'⟩ := ih (by simpa using e)
      exact ⟨v, f, g, by simpa using e1, r, j, n, .no s'⟩
  | @so fp f0 g0 d0 v0 env σ r s n j ih =>
    cases i with
    | zero =>
      simp at e; subst e
      exact ⟨v0, f0, g0, rfl, r, j, n, .no s⟩
    | succ k =>
      obtain ⟨v, f, g, e1, r', j', n', s'⟩ := ih (by simpa using e)
      refine ⟨v, f, fun a => f0 a ∨ g a, by simpa using e1, r', fun a => ?_, fun a z q => ?_,   .so r s' (fun a z q => n a z ((j' a).mpr (.inr q))) fun a => Iff.rfl⟩
      · rw [j a, j' a]
        exact ⟨fun z => by rcases z with z | z | z; exact .inr (.inl z); exact .inl z; exact .inr (.inr z), fun z => by rcases z with z | z | z; exact .inr (.inl z); exact .inl z; exact .inr (.inr z)⟩
      · rcases q with q | q
        · exact n a q ((j' a).mpr (.inl z))
        · exact n' a z q
/-- a slot is forgotten -/
theorem Sl.drop {env : Env} {σ : L2.St} (i : Nat) (h : Sl W F H fp env σ) : ∃ g, (∀ a, g a → fp a) ∧ Sl W F H g (env.set i none) σ := by
  induction h generalizing i with
  | em e => exact ⟨_, fun _ z => z, .em e⟩
  | @no fp env x σ s ih =>
    cases i with
    | zero => exact ⟨fp, fun _ z => z, .no s⟩
    | succ k =>
      obtain ⟨g, j, s'⟩ := ih k
      exact ⟨g, j, .no s'⟩
  | @so fp f0 g0 d0 v0 env σ r s n j ih =>
    cases i with
    | zero => exact ⟨g0, fun a z => (j a).mpr (.inr z), .no s⟩
    | succ k =>
      obtain ⟨g, j', s'⟩ := ih k
      exact ⟨fun a => f0 a ∨ g a, fun a z => (j a).mpr (z.imp_right (j' a)),   .so r s' (fun a z q => n a z (j' a q)) fun a => Iff.rfl⟩
/-- a thing is laid into a slot that holds nothing -/
theorem Sl.put {env : Env} {σ : L2.St} {i : Nat} {f : AS} {d : Dat} {v : V} (h : Sl W F H fp env σ) (e : env[i]? = Option.some none) (r : Rep W F H f d v) (n : ∀ a, f a → ¬ fp a) :
    Sl W F H (fun a => f a ∨ fp a) (env.set i (Option.some d)) (σ.set i (Option.some v)) := by
  induction h generalizing i with
  | em _ => simp at e
  | @no fp env x σ s ih =>
    cases i with
    | zero => exact .so r s n fun a => Iff.rfl
    | succ k => exact .no (ih (by simpa using e) n)
  | @so fp f0 g0 d0 v0 env σ r0 s n0 j ih =>
    cases i with
    | zero => simp at e
    | succ k =>
      refine   .so r0 (ih (i := k) (by simpa using e) fun a z q => n a z ((j a).mpr (.inr q))) (fun a z q => ?_) fun a => ?_
      · rcases q with q | q
        · exact n a q ((j a).mpr (.inl z))
        · exact n0 a z q
      · rw [j a]
        exact ⟨fun z => by rcases z with z | z | z; exact .inr (.inl z); exact .inl z; exact .inr (.inr z), fun z => by rcases z with z | z | z; exact .inr (.inl z); exact .inl z; exact .inr (.inr z)⟩
theorem set_self {α : Type} : ∀ {l : List α} {i : Nat} {x : α}, l[i]? = some x → l.set i x = l
  | [], _, _, h => by simp at h
  | _ :: _, 0, _, h => by simp at h; subst h; rfl
  | _ :: l, i + 1, _, h => by show _ :: l.set i _ = _; rw [set_self (by simpa using h)]
end
end M
namespace M
open PySem PySem.Spec PyProof.Rows L2
structure Ctx where
  P : Program
  w : World
  K : PySem.W.Frag
  mg : Str → Option Value
  base : Heap
  T : Tb
  N : List Str
  sc : Scope
  k : Nat
  pin : List Nat
  fnc : Str → Bool
  /-- whether no repr is under way around -/
  gd : Bool
  /-- the tables of code objects -/
  tb : List NdefX.NTab
  /-- the code object of the def at work, where it is known, and the def's long name -/
  cq : Option (Addr × Str)
  /-- within an except suite, or called from one -/
  hot : Bool
  exo : Option (Addr × Nat × Option Addr)
abbrev Ctx.W (C : Ctx) : Wd := ⟨C.K, C.mg, C.T, C.w, C.tb, C.exo⟩
structure Gd (C : Ctx) (X : Cx) : Prop where
  prog : X.prog = C.P
  w : X.w = C.w
  K : X.K = C.K
  mg : X.mg = C.mg
  base : X.base = C.base
  N : X.N = C.N
  nd : C.N.Nodup
  sc : X.env.scope = C.sc
  calm' : C.hot = false → X.calm = true
  room : L2H.RoomH C.k X.A
  hd : C.hot = false → X.A.handled = none
  fn : ∀ x, C.fnc x = true → X.fn x = true
  po : PassesOwn (model X.prog X.w) X.A X.env X.xe
  gu : C.gd = true → X.A.guards = some []
  cq : ∀ c q, C.cq = some (c, q) → X.env.code = .ref c ∧ X.env.qual = q
  exo : C.hot = true → ∀ a c d, C.exo = some (a, c, d) → ∃ (A : Addr) (oe : Obj), C.mg (C.T.cn c) = some (.ref A) ∧ (a, oe) ∈ X.pn ∧ Zc (.ref A) d oe ∧ ∃ vs, oe.data = .fields vs
theorem Gd.roomM {C : Ctx} {X : Cx} (g : Gd C X) (hh : C.hot = false) {j : Nat} (h : j ≤ C.k) : Room j X.A := ⟨g.hd hh, (g.room.mono h).dp, (g.room.mono h).un⟩
theorem PE_imp {X : Cx} {e : Expr} {t t' : TE} (h : PE X e t) (i : ∀ σ H Q, t' σ H Q → t σ H Q) : PE X e t' := ⟨fun pins s σ H Q I q => h.run pins s σ H Q I (i σ H Q q)⟩
theorem PT_imp {X : Cx} {e : Expr} {t t' : TT} (h : PT X e t) (i : ∀ σ H Q, t' σ H Q → t σ H Q) : PT X e t' := ⟨fun pins s σ H Q I q => h.run pins s σ H Q I (i σ H Q q)⟩
theorem PW_imp {X : Cx} {e : Expr} {t t' : TT} (h : PW X e t) (i : ∀ σ H Q, t' σ H Q → t σ H Q) : PW X e t' := ⟨fun wh pins s σ H Q I q => h.run wh pins s σ H Q I (i σ H Q q)⟩
theorem PA_imp {X : Cx} {es : List Expr} {t t' : TA} (h : PA X es t) (i : ∀ σ H Q, t' σ H Q → t σ H Q) : PA X es t' := ⟨fun pos pins s σ H Q I q => h.run pos pins s σ H Q I (i σ H Q q)⟩
theorem PSs_imp {X : Cx} {e : List Stmt} {t t' : TS} (h : PSs X e t) (i : ∀ D σ H, t' D σ H → t D σ H) : PSs X e t' := ⟨fun pins s σ H D I q => h.run pins s σ H D I (i D σ H q)⟩
theorem PS_imp {X : Cx} {e : Stmt} {t t' : TS} (h : PS X e t) (i : ∀ D σ H, t' D σ H → t D σ H) : PS X e t' := ⟨fun pins s σ H D I q => h.run pins s σ H D I (i D σ H q)⟩
abbrev NoA : AS := fun _ => False
/-- behind an expression whose value may be kept -/
structure Po (W : Wd) (pr : Bool) (F : AS) (H : Hp) (fp : AS) (σ : L2.St) (env : Env) (F' : AS) (H' : Hp) (fe fd : AS) (d : Dat) (v : V) : Prop where
  sl : Sl W F' H' fe env σ
  rep : Rep W F' H' fd d v
  dj : ∀ a, fe a → ¬ fd a
  st : Step W F H fp F' H' (fun a => fe a ∨ fd a)
  pu : pr = true → Keep H H'
/-- behind an expression whose value is only looked at -/
structure Pv (W : Wd) (pr : Bool) (F : AS) (H : Hp) (fp : AS) (σ : L2.St) (env : Env) (F' : AS) (H' : Hp) (fe fd : AS) (d : Dat) (v : V) : Prop where
  sl : Sl W F' H' fe env σ
  rep : Rep W F' H' fd d v
  st : Step W F H fp F' H' fe
  pu : pr = true → Keep H H'
/-- behind a test, a store -/
structure Pt (W : Wd) (pr : Bool) (F : AS) (H : Hp) (fp : AS) (σ : L2.St) (env : Env) (F' : AS) (H' : Hp) (fe : AS) : Prop where
  sl : Sl W F' H' fe env σ
  st : Step W F H fp F' H' fe
  pu : pr = true → Keep H H'
/-- behind an argument list -/
structure Pa (W : Wd) (pr : Bool) (F : AS) (H : Hp) (fp : AS) (σ : L2.St) (env : Env) (F' : AS) (H' : Hp) (fe fd : AS) (ds : List Dat) (vs : List V) : Prop where
  sl : Sl W F' H' fe env σ
  rep : Reps W F' H' fd ds vs
  dj : ∀ a, fe a → ¬ fd a
  st : Step W F H fp F' H' (fun a => fe a ∨ fd a)
  pu : pr = true → Keep H H'
abbrev LE := Env → (Dat → Env → Prop) → Prop
abbrev LT := Env → (Bool → Env → Prop) → Prop
abbrev LA := Env → (List Dat → Env → Prop) → Prop
def lift (W : Wd) (pr : Bool) (w : LE) : TE := fun σ H Q => ∃ F fp env Qd, Sl W F H fp env σ ∧ Ok W F H fp ∧ w env Qd ∧ ∀ d env' F' H' fe fd v, Qd d env' → Po W pr F H fp σ env' F' H' fe fd d v → Q v H'
def liftV (W : Wd) (pr : Bool) (w : LE) : TE := fun σ H Q => ∃ F fp env Qd, Sl W F H fp env σ ∧ Ok W F H fp ∧ w env Qd ∧ ∀ d env' F' H' fe fd v, Qd d env' → Pv W pr F H fp σ env' F' H' fe fd d v → Q v H'
def liftT (W : Wd) (pr : Bool) (w : LT) : TT := fun σ H Q => ∃ F fp env Qd, Sl W F H fp env σ ∧ Ok W F H fp ∧ w env Qd ∧ ∀ b env' F' H' fe, Qd b env' → Pt W pr F H fp σ env' F' H' fe → Q b H'
def liftA (W : Wd) (pr : Bool) (w : LA) : TA := fun σ H Q => ∃ F fp env Qd, Sl W F H fp env σ ∧ Ok W F H fp ∧ w env Qd ∧ ∀ ds env' F' H' fe fd vs, Qd ds env' → Pa W pr F H fp σ env' F' H' fe fd ds vs → Q vs H'
def JE (C : Ctx) (pr : Bool) (e : Expr) (w : LE) : Prop := ∀ X, Gd C X → PE X e (lift C.W pr w)
def JV (C : Ctx) (pr : Bool) (e : Expr) (w : LE) : Prop := ∀ X, Gd C X → PE X e (liftV C.W pr w)
def JT (C : Ctx) (pr : Bool) (e : Expr) (w : LT) : Prop := ∀ X, Gd C X → PT X e (liftT C.W pr w)
def JW (C : Ctx) (pr : Bool) (e : Expr) (w : LT) : Prop := ∀ X, Gd C X → PW X e (liftT C.W pr w)
def JA (C : Ctx) (pr : Bool) (es : List Expr) (w : LA) : Prop := ∀ X, Gd C X → PA X es (liftA C.W pr w)
section
variable {C : Ctx} {W : Wd} {pr p1 p2 p3 : Bool} {F F' F1 F2 : AS} {H H' H1 H2 : Hp} {fp fp' fe fe1 fe2 fd fd1 fd2 : AS} {σ : L2.St} {env env1 env2 : Env} {d d1 d2 : Dat} {v v1 v2 : V}
theorem Po.pv (h : Po W pr F H fp σ env F' H' fe fd d v) : Pv W pr F H fp σ env F' H' fe fd d v := ⟨h.sl, h.rep, h.st.sub fun _ => .inl, h.pu⟩
theorem Pv.po (h : Pv W pr F H fp σ env F' H' fe fd d v) (z : Fz d) : Po W pr F H fp σ env F' H' fe fd d v := by
  have e := Rep.em d fd v h.rep z
  exact ⟨h.sl, h.rep, fun a _ => e a, ⟨h.st.kp, h.st.fx, h.st.fb, fun a q => h.st.nw a (q.resolve_right (e a)), h.st.ok.sub fun a q => q.resolve_right (e a)⟩, h.pu⟩
theorem Pv.em (h : Pv W pr F H fp σ env F' H' fe fd d v) (z : Fz d) : Em fd := Rep.em d fd v h.rep z
theorem jv_of {e : Expr} {w : LE} (h : JE C pr e w) : JV C pr e w := fun X g => PE_imp (h X g) fun σ H Q ⟨F, fp, env, Qd, sl, ok, hw, q⟩ => ⟨F, fp, env, Qd, sl, ok, hw, fun d env' F' H' fe fd v hd po => q d env' F' H' fe fd v hd po.pv⟩
/-- what nobody owns may be kept -/
def wFz (w : LE) : LE := fun env Q => w env fun d env' => Fz d ∧ Q d env'
theorem je_of {e : Expr} {w : LE} (h : JV C pr e w) : JE C pr e (wFz w) := fun X g => PE_imp (h X g) fun σ H Q ⟨F, fp, env, Qd, sl, ok, hw, q⟩ => ⟨F, fp, env, _, sl, ok, hw, fun d env' F' H' fe fd v hd po => q d env' F' H' fe fd v hd.2 (po.po hd.1)⟩
theorem Keep.trans {H H1 H2 : Hp} (a : Keep H H1) (b : Keep H1 H2) : Keep H H2 := fun x o e => (a x o e).trans fun o' e' => b x o' e'
theorem and_pure {p q : Bool} {A B : Prop} (h1 : p = true → A) (h2 : q = true → B) : (p && q) = true → A ∧ B := fun h => by
  rw [Bool.and_eq_true] at h; exact ⟨h1 h.1, h2 h.2⟩
def wVar (i : Nat) : LE := fun env Q => ∃ d, env[i]? = some (some d) ∧ Q d env
/-- a name taken: what was owned is frozen -/
def wTake (i : Nat) : LE := fun env Q => ∃ d, env[i]? = some (some d) ∧ ((Fz d ∧ Q d env) ∨ Q (frz d) (env.set i (some (frz d))))
def wC (d : Dat) : LE := fun env Q => Q d env
theorem pe_slot {X : Cx} {i : Nat} {x : Str} {pos : Pos} (g : Gd C X) (hN : C.N[i]? = some x) (hv : Vis C.sc x) (hd : (x == ("__debug__" : Str)) = false) (hc : (x == ("__classdict__" : Str)) = false) : PE X (.Name x pos) (tVar i) :=
  pe_var (by rw [g.N]; exact hN) (by rw [g.sc]; exact hv) hd hc
theorem jv_var {i : Nat} {x : Str} {pos : Pos} (hN : C.N[i]? = some x) (hv : Vis C.sc x) (hd : (x == ("__debug__" : Str)) = false) (hc : (x == ("__classdict__" : Str)) = false) : JV C true (.Name x pos) (wVar i) := fun X g =>
  PE_imp (pe_slot g hN hv hd hc) fun σ H Q ⟨F, fp, env, Qd, sl, ok, ⟨d, e, hw⟩, q⟩ => by
    obtain ⟨v, f, g', e1, r, j, n, s⟩ := sl.at_ e
    exact ⟨v, e1, q d env F H fp f v hw ⟨sl, r, Step.refl ok, fun _ => Keep.rfl⟩⟩
theorem je_var {i : Nat} {x : Str} {pos : Pos} (hN : C.N[i]? = some x) (hv : Vis C.sc x) (hd : (x == ("__debug__" : Str)) = false) (hc : (x == ("__classdict__" : Str)) = false) : JE C true (.Name x pos) (wTake i) := fun X g =>
  PE_imp (pe_slot g hN hv hd hc) fun σ H Q ⟨F, fp, env, Qd, sl, ok, ⟨d, e, hw⟩, q⟩ => by
    obtain ⟨v, f, g', e1, r, j, n, s⟩ := sl.at_ e
    refine ⟨v, e1, ?_⟩
    rcases hw with ⟨z, hw⟩ | hw
    · exact q d env F H fp f v hw (Pv.po ⟨sl, r, Step.refl ok, fun _ => Keep.rfl⟩ z)
    · have fx : ∀ a, F a → (fun a => F a ∨ f a) a := fun _ z => .inl z
      have r' : Rep C.W (fun a => F a ∨ f a) H NoA (frz d) v := Rep.freeze fx d f v r fun _ z => .inr z
      have s' := (s.kept fx Keep.rfl).put (i := i) (by
        have hi : i < env.length := (List.getElem?_eq_some_iff.mp e).1
        rw [List.getElem?_set_self hi]) r' fun _ z => z.elim
      rw [List.set_set, set_self e1] at s'
      refine q _ _ _ H g' NoA v hw ⟨s'.eqv fun a => ⟨.inr, fun z => z.elim False.elim id⟩, r', fun _ _ z => z, ⟨fun _ _ e _ => .of e, fx, fun a z => ?_, fun a z => ?_, ⟨fun a z q => ?_, fun a z => ?_, fun a z => ?_, ok.tb⟩⟩, fun _ => Keep.rfl⟩
      · exact z.imp_right fun z => .inl ((j a).mpr (.inl z))
      · exact .inl ((j a).mpr (.inr (z.resolve_right id)))
      · have z := z.resolve_right id
        rcases q with q | q
        · exact ok.nf a ((j a).mpr (.inr z)) q
        · exact n a q z
      · exact ok.own a ((j a).mpr (.inr (z.resolve_right id)))
      · rcases z with z | z
        · exact ok.lv a z
        · intro w
          have := ok.own a ((j a).mpr (.inl z))
          rw [w] at this; exact this
theorem jc {e : Expr} {d : Dat} {v : V} (he : ∀ X : Cx, PE X e (tC v)) (hr : ∀ W F H, Rep W F H NoA d v) : JE C true e (wC d) := fun X g =>
  PE_imp (he X) fun σ H Q ⟨F, fp, env, Qd, sl, ok, hw, q⟩ => q d env F H fp NoA v hw ⟨sl, hr _ _ _, fun _ _ z => z, (Step.refl ok).sub fun a z => z.resolve_right id, fun _ => Keep.rfl⟩
theorem je_int {i : Int} {j : Nat} {pos : Pos} : JE C true (.Constant (.int i) j pos) (wC (.int i)) := jc (fun _ => pe_int) fun _ _ _ => .int _ fun _ z => z
theorem je_bl {i : Bool} {j : Nat} {pos : Pos} : JE C true (.Constant (.bool i) j pos) (wC (.bl i)) := jc (fun _ => pe_bl) fun _ _ _ => .bl _ fun _ z => z
theorem je_str {i : Str} {j : Nat} {pos : Pos} : JE C true (.Constant (.str i) j pos) (wC (.str i)) := jc (fun _ => pe_str) fun _ _ _ => .str _ fun _ z => z
theorem je_non {j : Nat} {pos : Pos} : JE C true (.Constant .none j pos) (wC .non) := jc (fun _ => pe_non) fun _ _ _ => .non fun _ z => z
/-- a constant of the module -/
structure Cn (C : Ctx) (x : Str) (d : Dat) : Prop where
  ex : ∃ v u, C.mg x = some u ∧ RelV v u ∧ ∀ F H, Rep C.W F H NoA d v
theorem je_glb {x : Str} {d : Dat} {pos : Pos} (c : Cn C x d) (hg : C.sc.names.lookup x = some .globalImplicit) (hd : (x == ("__debug__" : Str)) = false) : JE C true (.Name x pos) (wC d) := fun X g => by
  obtain ⟨v, u, hm, r, hr⟩ := c.ex
  have hg' : Gl X x := by
    show X.env.scope.names.lookup x = _
    rw [g.sc]; exact hg
  exact PE_imp (pe_glob hg' (by rw [g.mg]; exact hm) r hd) fun σ H Q ⟨F, fp, env, Qd, sl, ok, hw, q⟩ => q d env F H fp NoA v hw ⟨sl, hr _ _, fun _ _ z => z, (Step.refl ok).sub fun a z => z.resolve_right id, fun _ => Keep.rfl⟩
/-- something new came, nothing old was written -/
structure Fresh (F : AS) (H : Hp) (F' : AS) (H' : Hp) (fd : AS) : Prop where
  kp : Keep H H'
  tg : Tgo H H'
  fx : ∀ a, F a → F' a
  fb : ∀ a, F' a → F a ∨ (H a = none ∧ H' a ≠ none)
  nw : ∀ a, fd a → H a = none
  nf : ∀ a, fd a → ¬ F' a
theorem Fresh.refl : Fresh F H F H NoA := ⟨Keep.rfl, Tgo.refl, fun _ z => z, fun _ z => .inl z, fun _ z => z.elim, fun _ z => z.elim⟩
theorem Ok.live (x : Ok W F H fp) {a : Addr} (z : fp a) : ∃ o, H a = some o := by
  have := x.own a z
  cases e : H a with
  | none => rw [e] at this; exact this.elim
  | some o => exact ⟨o, rfl⟩
theorem Fresh.step (x : Fresh F H F' H' fd) (ok : Ok W F H fp) (own : ∀ a, fd a → Mut (H' a)) : Step W F H fp F' H' (fun a => fp a ∨ fd a) ∧ ∀ a, fp a → ¬ fd a := by
  have dj : ∀ a, fp a → ¬ fd a := fun a z q => by
    obtain ⟨o, e⟩ := ok.live z
    rw [x.nw a q] at e; cases e
  refine ⟨⟨fun a o e _ => x.kp a o e, x.fx, fun a z => (x.fb a z).imp_right fun z => .inr z.1, fun a z => z.imp_right (x.nw a), ⟨fun a z q => ?_, fun a z => ?_, fun a z => ?_, ok.tb.go x.tg⟩⟩, dj⟩
  · rcases z with z | z
    · rcases x.fb a q with q | q
      · exact ok.nf a z q
      · obtain ⟨o, e⟩ := ok.live z
        rw [q.1] at e; cases e
    · exact x.nf a z q
  · rcases z with z | z
    · obtain ⟨o, e⟩ := ok.live z
      have m := ok.own a z
      rw [e] at m
      rw [(x.kp a o e).nt (mut_nt m)]; exact m
    · exact own a z
  · rcases x.fb a z with q | q
    · intro w
      cases e : H a with
      | none => exact ok.lv a q e
      | some o => exact (x.kp a o e).no w
    · exact q.2
/-- behind e the value d, new or nobody's, in a state that was (F, H, fp, env) -/
theorem Fresh.po (x : Fresh F H F' H' fd) (ok : Ok W F H fp) (sl : Sl W F H fp env σ) (r : Rep W F' H' fd d v) : Po W true F H fp σ env F' H' fp fd d v :=
  have q := x.step ok (Rep.own d fd v r)
  ⟨sl.kept x.fx x.kp, r, q.2, q.1, fun _ => x.kp⟩
/-- one state behind another -/
theorem Po.after {g2 : AS} (st : Step W F H fp F1 H1 fe1) (pu : p1 = true → Keep H H1) (h : Po W p2 F1 H1 fe1 σ env2 F2 H2 fe2 g2 d v) : Po W (p1 && p2) F H fp σ env2 F2 H2 fe2 g2 d v :=
  ⟨h.sl, h.rep, h.dj, st.trans h.st, fun z => have q := and_pure pu h.pu z; Keep.trans q.1 q.2⟩
theorem Pv.after {g2 : AS} (st : Step W F H fp F1 H1 fe1) (pu : p1 = true → Keep H H1) (h : Pv W p2 F1 H1 fe1 σ env2 F2 H2 fe2 g2 d v) : Pv W (p1 && p2) F H fp σ env2 F2 H2 fe2 g2 d v :=
  ⟨h.sl, h.rep, st.trans h.st, fun z => have q := and_pure pu h.pu z; Keep.trans q.1 q.2⟩
theorem Pt.after (st : Step W F H fp F1 H1 fe1) (pu : p1 = true → Keep H H1) (h : Pt W p2 F1 H1 fe1 σ env2 F2 H2 fe2) : Pt W (p1 && p2) F H fp σ env2 F2 H2 fe2 :=
  ⟨h.sl, st.trans h.st, fun z => have q := and_pure pu h.pu z; Keep.trans q.1 q.2⟩
theorem Po.cast {p q : Bool} (h : Po W p F H fp σ env F' H' fe fd d v) (e : q = true → p = true) : Po W q F H fp σ env F' H' fe fd d v := ⟨h.sl, h.rep, h.dj, h.st, fun z => h.pu (e z)⟩
theorem Pv.cast {p q : Bool} (h : Pv W p F H fp σ env F' H' fe fd d v) (e : q = true → p = true) : Pv W q F H fp σ env F' H' fe fd d v := ⟨h.sl, h.rep, h.st, fun z => h.pu (e z)⟩
theorem Pt.cast {p q : Bool} (h : Pt W p F H fp σ env F' H' fe) (e : q = true → p = true) : Pt W q F H fp σ env F' H' fe := ⟨h.sl, h.st, fun z => h.pu (e z)⟩
/-- a thing that was looked at is still so behind the next expression: nothing was written, or nobody owns it -/
theorem Pv.stay {g1 g2 : AS} (h1 : Pv W p1 F H fp σ env1 F1 H1 fe1 g1 d1 v1) (h2 : Pv W p2 F1 H1 fe1 σ env2 F2 H2 fe2 g2 d2 v2) (c : p2 = true ∨ Fz d1) : Rep W F2 H2 g1 d1 v1 := by
  rcases c with c | c
  · exact h1.rep.kept h2.st.fx (h2.pu c)
  · exact h1.rep.step h2.st h1.st.ok fun a z => absurd z (h1.em c a)
/-- the frozen ones are there -/
def FL (F : AS) (H : Hp) : Prop := ∀ a, F a → H a ≠ none
/-- an operation over two things, told over data: r; what it gives is new, or nobody's -/
def Op2 (W : Wd) (r2 : R2) (r : Dat → Dat → (Dat → Prop) → Prop) : Prop :=
  ∀ F H f1 f2 x y vx vy Qd (Q : VK), FL F H → Rep W F H f1 x vx → Rep W F H f2 y vy → r x y Qd → (∀ d v F' H' fd, Qd d → Rep W F' H' fd d v → Fresh F H F' H' fd → Q v H') → r2 vx vy H Q
def w2 (p2 : Bool) (wa wb : LE) (r : Dat → Dat → (Dat → Prop) → Prop) : LE := fun env Q => wa env fun x env1 => wb env1 fun y env2 => (p2 = true ∨ Fz x) ∧ r x y fun d => Q d env2
theorem lift2 {wa wb : LE} {r2 : R2} {r : Dat → Dat → (Dat → Prop) → Prop} (o : Op2 W r2 r) : ∀ σ H Q, lift W (p1 && p2) (w2 p2 wa wb r) σ H Q → tOp r2 (liftV W p1 wa) (liftV W p2 wb) σ H Q := fun σ H Q ⟨F, fp, env, Qd, sl, ok, hw, q⟩ => by
  refine ⟨F, fp, env, _, sl, ok, hw, fun x env1 F1 H1 fe1 g1 v1 hb P1 => ?_⟩
  refine ⟨F1, fe1, env1, _, P1.sl, P1.st.ok, hb, fun y env2 F2 H2 fe2 g2 v2 hc P2 => ?_⟩
  have r1 := P1.stay P2 hc.1
  refine o F2 H2 g1 g2 x y v1 v2 _ Q P2.st.ok.lv r1 P2.rep hc.2 fun d v F3 H3 g3 hd r3 fr => ?_
  have P3 := fr.po P2.st.ok P2.sl r3
  exact q d env2 F3 H3 fe2 g3 v hd ((P3.after (P1.st.trans P2.st) (p1 := p1 && p2) fun z => have k := and_pure P1.pu P2.pu z; Keep.trans k.1 k.2).cast fun z => by rw [z]; rfl)
theorem je_bin {a b : Expr} {op : Operator} {pos : Pos} {wa wb : LE} {r2 : PySem.W.Frag → R2} {r : Dat → Dat → (Dat → Prop) → Prop} (ha : JV C p1 a wa) (hb : JV C p2 b wb) (hr : ∀ X, OpR X (binaryOp op) (r2 X.K)) (o : Op2 C.W (r2 C.K) r) :
    JE C (p1 && p2) (.BinOp a op b pos) (w2 p2 wa wb r) := fun X g =>
  PE_imp (pe_op (hr X) (ha X g) (hb X g)) fun σ H Q h => by rw [g.K]; exact lift2 o σ H Q h
theorem je_cmp {a b : Expr} {op : CmpOp} {pos : Pos} {wa wb : LE} {r2 : PySem.W.Frag → R2} {r : Dat → Dat → (Dat → Prop) → Prop} (ha : JV C p1 a wa) (hb : JV C p2 b wb) (hr : ∀ X, X.w = C.w → X.A.units + 65 < cLine → OpR X (compareOp op) (r2 X.K)) (o : Op2 C.W (r2 C.K) r) (hm : behindInMarks op b = false) :
    JE C (p1 && p2) (.Compare a [op] [b] pos) (w2 p2 wa wb r) := fun X g =>
  PE_imp (pe_cmpR (hr X g.w (by have := g.room.un; omega)) (ha X g) (hb X g) hm) fun σ H Q h => by rw [g.K]; exact lift2 o σ H Q h
end
end M
namespace M
open PySem PySem.Spec PyProof.Rows L2
section
variable {C : Ctx} {W : Wd} {F F' : AS} {H H' : Hp} {fp fd : AS}
theorem Rep.flat {d : Dat} {v : V} (r : Rep W F H fp d v) (e : Em fp) : Rep W F H NoA d v := Rep.eqv _ _ _ _ r fun a => ⟨fun z => z.elim, fun z => e a z⟩
theorem Rep.fz {d : Dat} {v : V} (r : Rep W F H fp d v) (z : Fz d) : Rep W F H NoA d v := r.flat (Rep.em _ _ _ r z)
theorem Reps.fz {ds : List Dat} {vs : List V} (r : Reps W F H fp ds vs) (z : frzs ds = ds) : Reps W F H NoA ds vs := Reps.eqv _ _ _ _ r fun a => ⟨fun q => q.elim, fun q => Reps.em _ _ _ r z a q⟩
theorem keep_upd {p : Addr} {o : HO} (h : H p = none) : Keep H (upd H p o) := fun a u e => .of (by
  rw [upd_ne (ne_of_none e h)]; exact e)
/-- a new tuple of things that nobody owns -/
theorem fresh_tup {ds : List Dat} {vs : List V} {p : Addr} (h : H p = none) (r : Reps W F H NoA ds vs) : Rep W F (upd H p (.tup vs)) NoA (.tup .u ds) (.ref p) ∧ Fresh F H F (upd H p (.tup vs)) NoA :=
  ⟨.tup (.inl (.inl upd_same)) True.intro (r.kept (fun _ z => z) (keep_upd h)), ⟨keep_upd h, Tgo.new h (fun _ z => nomatch z), fun _ z => z, fun _ z => .inl z, fun _ z => z.elim, fun _ z => z.elim⟩⟩
theorem fresh_tupP {ds : List Dat} {vs : List V} {p : Addr} (h : H p = none) (r : Reps W F H NoA ds vs) : Rep W F (upd H p (.tup vs)) NoA (.tup .p ds) (.ref p) ∧ Fresh F H F (upd H p (.tup vs)) NoA :=
  ⟨.tup (.inl (.inl upd_same)) upd_same (r.kept (fun _ z => z) (keep_upd h)), ⟨keep_upd h, Tgo.new h (fun _ z => nomatch z), fun _ z => z, fun _ z => .inl z, fun _ z => z.elim, fun _ z => z.elim⟩⟩
/-- a new list, owned -/
theorem fresh_lst {ds : List Dat} {vs : List V} {p : Addr} (h : H p = none) (hF : ¬ F p) (r : Reps W F H NoA ds vs) : Rep W F (upd H p (.lst vs)) (fun a => a = p) (.lst true ds) (.ref p) ∧ Fresh F H F (upd H p (.lst vs)) (fun a => a = p) :=
  ⟨.lstO upd_same (r.kept (fun _ z => z) (keep_upd h)) (fun z => z) fun b => ⟨.inl, fun z => z.elim id fun z => z.elim⟩, ⟨keep_upd h, Tgo.new h (fun _ z => nomatch z), fun _ z => z, fun _ z => .inl z, fun a z => by rw [z]; exact h, fun a z => by rw [z]; exact hF⟩⟩
def rCatR : R2 := fun x y H Q => ∃ l b xs zs, x = .ref l ∧ y = .ref b ∧ Rd H l (.lst xs) ∧ Rd H b (.lst zs) ∧ xs.length + zs.length ≤ sizeLine ∧ ∀ p, H p = none → Q (.ref p) (upd H p (.lst (xs ++ zs)))
theorem rd_lst {X : Cx} {pins : List (Addr × Obj)} {s : Shared} {σ : L2.St} {l : Addr} {xs : List V} (I : Inv X pins σ H s) (hH : Rd H l (.lst xs)) :
    xs.length ≤ sizeLine ∧ ∃ (its : List Value) (n : Nat), Vals xs its ∧ xs.length = its.length ∧ s.heap.get? l = some { cls := .type "list", data := .seq its.toArray n } := by
  obtain ⟨z, its, n, r, e⟩ : ObjOk X.prog X.w H s.heap l (.lst xs) := hH.ok I.hok
  exact ⟨z, its, n, r, r.length, e⟩
theorem op_catR {X : Cx} : OpR X (binaryOp .Add) rCatR := by
  intro pins s σ H x y v u Q I rx ry h
  obtain ⟨l, b, xs, zs, rfl, rfl, hH, hB, hz, q⟩ := h
  cases rx
  cases ry
  obtain ⟨z, its, n, r, hl, e⟩ := rd_lst I hH
  obtain ⟨z2, its2, n2, r2, hl2, e2⟩ := rd_lst I hB
  refine PySem.P.add_list e e2 ?_ (by rw [List.size_toArray, List.size_toArray]; omega)
  have ea : its.toArray ++ its2.toArray = (its ++ its2).toArray := by simp
  rw [ea]
  exact ⟨.ref _, _, I.lnew (t' := s.toks) (r.append r2) (by rw [List.length_append]; omega), rfl, q _ I.fresh⟩
def r2Add (K : PySem.W.Frag) : R2 := fun x y H Q => (rI0 (fun i j => .int (i + j)) x y H Q) ∨ ((∃ i j, x = .str i ∧ y = .str j ∧ i.length + j.length ≤ sizeLine ∧ Q (.str (i ++ j)) H) ∨ (rCatA K x y H Q ∨ rCatR x y H Q))
theorem or_add (X : Cx) : OpR X (binaryOp .Add) (r2Add X.K) := OpR.or op_add (OpR.or op_add_str (OpR.or op_catA op_catR))
def rAdd : Dat → Dat → (Dat → Prop) → Prop
  | .int i, .int j, Q => Q (.int (i + j))
  | .str a, .str b, Q => a.length + b.length ≤ sizeLine ∧ Q (.str (a ++ b))
  | .tup _ xs, .tup _ ys, Q => frzs xs = xs ∧ frzs ys = ys ∧ xs.length + ys.length ≤ sizeLine ∧ Q (.tup .u (xs ++ ys))
  | .lst _ xs, .lst _ ys, Q => frzs xs = xs ∧ frzs ys = ys ∧ xs.length + ys.length ≤ sizeLine ∧ Q (.lst true (xs ++ ys))
  | _, _, _ => False
theorem Reps.app {xs ys : List Dat} {us vs : List V} (h : Reps W F H NoA xs us) (k : Reps W F H NoA ys vs) : Reps W F H NoA (xs ++ ys) (us ++ vs) := Reps.eqv _ _ _ _ (Reps.append h k fun _ z => z.elim) fun a => ⟨fun z => z.elim, fun z => z.elim id id⟩
theorem o_add : Op2 W (r2Add W.K) rAdd := by
  intro F H f1 f2 x y vx vy Qd Q fl rx ry h q
  cases x with
  | int i =>
    cases y with
    | int j => cases rx; cases ry; exact .inl ⟨i, j, rfl, rfl, q _ _ F H NoA h (.int _ fun _ z => z) .refl⟩
    | _ => exact (show False from h).elim
  | str a =>
    cases y with
    | str b => cases rx; cases ry; exact .inr (.inl ⟨a, b, rfl, rfl, h.1, q _ _ F H NoA h.2 (.str _ fun _ z => z) .refl⟩)
    | _ => exact (show False from h).elim
  | tup _ xs =>
    cases y with
    | tup _ ys =>
      obtain ⟨z1, z2, hl, h⟩ := h
      cases rx with
      | @tup _ a us _ _ s1 _ r1 =>
        cases ry with
        | @tup _ b vs _ _ s2 _ r2 =>
          have r1 := r1.fz z1
          have r2 := r2.fz z2
          refine .inr (.inr (.inl ⟨a, b, us, vs, rfl, rfl, s1, s2, by rw [← r1.length, ← r2.length]; exact hl, fun e => ?_, fun _ e => ?_, fun _ _ p hp => ?_⟩))
          · subst e
            have : xs = [] := by cases r1; rfl
            subst this
            exact q _ _ F H NoA h (.tup s2 True.intro r2) .refl
          · subst e
            have : ys = [] := by cases r2; rfl
            subst this
            rw [List.append_nil] at h
            exact q _ _ F H NoA h (.tup s1 True.intro r1) .refl
          · have z := fresh_tup hp (r1.app r2)
            exact q _ _ F _ NoA h z.1 z.2
    | _ => exact (show False from h).elim
  | lst o xs =>
    cases y with
    | lst o' ys =>
      obtain ⟨z1, z2, hl, h⟩ := h
      have k1 : ∃ a us, vx = .ref a ∧ Rd H a (.lst us) ∧ Reps W F H NoA xs us := by
        cases rx with
        | lstF _ s _ r => exact ⟨_, _, rfl, s, r.fz z1⟩
        | lstO s r _ _ => exact ⟨_, _, rfl, .inl s, r.fz z1⟩
      have k2 : ∃ a us, vy = .ref a ∧ Rd H a (.lst us) ∧ Reps W F H NoA ys us := by
        cases ry with
        | lstF _ s _ r => exact ⟨_, _, rfl, s, r.fz z2⟩
        | lstO s r _ _ => exact ⟨_, _, rfl, .inl s, r.fz z2⟩
      obtain ⟨a, us, rfl, s1, r1⟩ := k1
      obtain ⟨b, vs, rfl, s2, r2⟩ := k2
      refine .inr (.inr (.inr ⟨a, b, us, vs, rfl, rfl, s1, s2, by rw [← r1.length, ← r2.length]; exact hl, fun p hp => ?_⟩))
      have z := fresh_lst hp (fun z => fl p z hp) (r1.app r2)
      exact q _ _ F _ _ h z.1 z.2
    | _ => exact (show False from h).elim
  | _ => cases y <;> exact (show False from h).elim
/-- ints, under a condition -/
def rInt (cnd : Int → Int → Prop) (f : Int → Int → Dat) : Dat → Dat → (Dat → Prop) → Prop
  | .int i, .int j, Q => cnd i j ∧ Q (f i j)
  | _, _, _ => False
theorem o_int {cnd : Int → Int → Prop} {f : Int → Int → Dat} {g : Int → Int → V} (hg : ∀ i j F H, Rep W F H NoA (f i j) (g i j)) : Op2 W (rI cnd g) (rInt cnd f) := by
  intro F H f1 f2 x y vx vy Qd Q fl rx ry h q
  cases x with
  | int i =>
    cases y with
    | int j => cases rx; cases ry; exact ⟨i, j, rfl, rfl, h.1, q _ _ F H NoA h.2 (hg _ _ _ _) .refl⟩
    | _ => exact (show False from h).elim
  | _ => cases y <;> exact (show False from h).elim
theorem rI0_I {X : Cx} {f : Value → Value → Sem Value} {g : Int → Int → V} (h : OpR X f (rI0 g)) : OpR X f (rI (fun _ _ => True) g) := fun pins s σ H x y v u Q I rx ry ⟨i, j, e1, e2, _, q⟩ => h pins s σ H x y v u Q I rx ry ⟨i, j, e1, e2, q⟩
def rSub := rInt (fun _ _ => True) fun i j => .int (i - j)
def rFdiv := rInt CDiv fun i j => .int (i / j)
def rMod := rInt (fun _ j => 0 < j) fun i j => .int (i % j)
def rPow := rInt CPow fun i j => .int (i ^ j.toNat)
theorem rep_int {i : Int} : Rep W F H NoA (.int i) (.int i) := .int _ fun _ z => z
theorem rep_bl {i : Bool} : Rep W F H NoA (.bl i) (.bl i) := .bl _ fun _ z => z
theorem rep_str {i : Str} : Rep W F H NoA (.str i) (.str i) := .str _ fun _ z => z
theorem rep_non : Rep W F H NoA .non .non := .non fun _ z => z
variable {p1 p2 : Bool} {a b : Expr} {pos : Pos} {wa wb : LE}
theorem je_add (ha : JV C p1 a wa) (hb : JV C p2 b wb) : JE C (p1 && p2) (.BinOp a .Add b pos) (w2 p2 wa wb rAdd) := je_bin (r2 := r2Add) ha hb or_add o_add
theorem je_sub (ha : JV C p1 a wa) (hb : JV C p2 b wb) : JE C (p1 && p2) (.BinOp a .Sub b pos) (w2 p2 wa wb rSub) := je_bin (r2 := fun _ => _) ha hb (fun _ => rI0_I op_sub) (o_int fun _ _ _ _ => rep_int)
theorem je_fdiv (ha : JV C p1 a wa) (hb : JV C p2 b wb) : JE C (p1 && p2) (.BinOp a .FloorDiv b pos) (w2 p2 wa wb rFdiv) := je_bin (r2 := fun _ => _) ha hb (fun _ => op_fdiv) (o_int fun _ _ _ _ => rep_int)
theorem je_mod (ha : JV C p1 a wa) (hb : JV C p2 b wb) : JE C (p1 && p2) (.BinOp a .Mod b pos) (w2 p2 wa wb rMod) := je_bin (r2 := fun _ => _) ha hb (fun _ => op_mod) (o_int fun _ _ _ _ => rep_int)
theorem je_pow (ha : JV C p1 a wa) (hb : JV C p2 b wb) : JE C (p1 && p2) (.BinOp a .Pow b pos) (w2 p2 wa wb rPow) := je_bin (r2 := fun _ => _) ha hb (fun _ => op_pow) (o_int fun _ _ _ _ => rep_int)
def rMul : Dat → Dat → (Dat → Prop) → Prop
  | .int i, .int j, Q => CMul i j ∧ Q (.int (i * j))
  | .lst true xs, .int k, Q => frzs xs = xs ∧ -(2 ^ 63) ≤ k ∧ k < 2 ^ 63 ∧ xs.length * k.toNat ≤ sizeLine ∧ Q (.lst true (List.replicate k.toNat xs).flatten)
  | _, _, _ => False
theorem Reps.times {xs : List Dat} {us : List V} (h : Reps W F H NoA xs us) : ∀ n : Nat, Reps W F H NoA (List.replicate n xs).flatten (List.replicate n us).flatten
  | 0 => .nil fun _ z => z
  | n + 1 => by
    show Reps W F H NoA (xs ++ (List.replicate n xs).flatten) (us ++ (List.replicate n us).flatten)
    exact h.app (Reps.times h n)
theorem o_mul : Op2 W (fun x y H Q => rI CMul (fun i j => .int (i * j)) x y H Q ∨ rRep x y H Q) rMul := by
  intro F H f1 f2 x y vx vy Qd Q fl rx ry h q
  cases x with
  | int i =>
    cases y with
    | int j => cases rx; cases ry; exact .inl ⟨i, j, rfl, rfl, h.1, q _ _ F H NoA h.2 rep_int .refl⟩
    | _ => exact (show False from h).elim
  | lst o xs =>
    cases o with
    | false => cases y <;> exact (show False from h).elim
    | true =>
      cases y with
      | int k =>
        obtain ⟨z, k1, k2, hl, h⟩ := h
        cases ry
        cases rx with
        | @lstO _ _ a us _ s r _ _ =>
          have r := r.fz z
          refine .inr ⟨a, k, us, rfl, rfl, s, k1, k2, by rw [← r.length]; exact hl, fun p hp => ?_⟩
          have z := fresh_lst hp (fun z => fl p z hp) (r.times k.toNat)
          exact q _ _ F _ _ h z.1 z.2
      | _ => exact (show False from h).elim
  | _ => cases y <;> exact (show False from h).elim
theorem je_mul (ha : JV C p1 a wa) (hb : JV C p2 b wb) : JE C (p1 && p2) (.BinOp a .Mult b pos) (w2 p2 wa wb rMul) := je_bin (r2 := fun _ => _) ha hb (fun _ => OpR.or op_mul op_rep) o_mul
end
end M
namespace M
open PySem PySem.Spec PyProof.Rows L2
mutual
def isPy : Dat → Bool
  | .non => true | .bl _ => true | .int _ => true | .str _ => true
  | .tup _ xs => isPys xs
  | .lst _ xs => isPys xs
  | .dct _ _ _ => false
  | .dtt _ _ _ => false
  | .dxt _ _ _ => false
  | .obj _ _ _ => false
  | .scr _ => false
  | .exn _ _ => false
def isPys : List Dat → Bool
  | [] => true
  | d :: ds => isPy d && isPys ds
end
mutual
def toPy : Dat → PyData
  | .non => .none | .bl b => .bool b | .int i => .int i | .str x => .str x
  | .tup _ xs => .tuple (toPys xs)
  | .lst _ xs => .list (toPys xs)
  | .dct _ _ _ => .none
  | .dtt _ _ _ => .none
  | .dxt _ _ _ => .none
  | .obj _ _ _ => .none
  | .scr _ => .none
  | .exn _ _ => .none
def toPys : List Dat → List PyData
  | [] => []
  | d :: ds => toPy d :: toPys ds
end
def toV : Dat → V
  | .bl b => .bl b | .int i => .int i | .str x => .str x
  | _ => .non
def flatD : Dat → Bool
  | .non => true | .bl _ => true | .int _ => true | .str _ => true
  | _ => false
section
variable {C : Ctx} {W : Wd} {F F' : AS} {H H' : Hp} {fp fd : AS} {p1 p2 p3 : Bool} {a b c : Expr} {pos : Pos} {wa wb wc : LE}
mutual
theorem Rep.dp : ∀ (d : Dat) (fp : AS) (v : V), Rep W F H fp d v → isPy d = true → Dp W.K H v (toPy d)
  | .non, _, _, h, _ => by cases h; exact .non
  | .bl _, _, _, h, _ => by cases h; exact .bl _
  | .int _, _, _, h, _ => by cases h; exact .int _
  | .str _, _, _, h, _ => by cases h; exact .str _
  | .tup _ ds, _, _, h, z => by cases h with | tup s _ r => exact .tup s (Reps.dp ds _ _ r z)
  | .lst _ ds, _, _, h, z => by
    cases h with
    | lstF _ s _ r => exact .lst (.inl s) (Reps.dp ds _ _ r z)
    | lstO s r _ _ => exact .lst (.inl (.inl s)) (Reps.dp ds _ _ r z)
  | .dct _ _ _, _, _, _, z => by cases z
  | .dtt _ _ _, _, _, _, z => by cases z
  | .dxt _ _ _, _, _, _, z => by cases z
  | .obj _ _ _, _, _, _, z => by cases z
  | .scr _, _, _, _, z => by cases z
  | .exn _ _, _, _, _, z => by cases z
theorem Reps.dp : ∀ (ds : List Dat) (fp : AS) (vs : List V), Reps W F H fp ds vs → isPys ds = true → DpAll W.K H vs (toPys ds)
  | [], _, _, h, _ => by cases h; exact .nil
  | d :: ds, _, _, h, z => by
    cases h with
    | cons r1 r2 _ _ =>
      have z' : (isPy d && isPys ds) = true := z
      rw [Bool.and_eq_true] at z'
      exact .cons (Rep.dp d _ _ r1 z'.1) (Reps.dp ds _ _ r2 z'.2)
end
theorem Rep.toV {d : Dat} {v : V} (r : Rep W F H fp d v) (z : flatD d = true) : v = toV d ∧ flatV v = true := by
  cases r <;> first | exact ⟨rfl, rfl⟩ | cases z
theorem Reps.toV : ∀ {ds : List Dat} {fp : AS} {vs : List V}, Reps W F H fp ds vs → ds.all flatD = true → vs = ds.map M.toV ∧ vs.all flatV = true
  | [], _, _, h, _ => by cases h; exact ⟨rfl, rfl⟩
  | d :: ds, _, _, h, z => by
    cases h with
    | cons r1 r2 _ _ =>
      rw [List.all_cons, Bool.and_eq_true] at z
      have q1 := r1.toV z.1
      have q2 := Reps.toV r2 z.2
      rw [q1.1, q2.1, List.all_cons, Bool.and_eq_true]
      refine ⟨rfl, ?_, ?_⟩
      · rw [← q1.1]; exact q1.2
      · rw [← q2.1]; exact q2.2
def eqDat (x y : Dat) (Q : Bool → Prop) : Prop := isPy x = true ∧ isPy y = true ∧ SeqAt.shaped (toPy x) = true ∧ SeqAt.shaped (toPy y) = true ∧ Q (PyData.eqv (toPy x) (toPy y))
def eqSome (x y : Dat) (Q : Bool → Prop) : Prop := match x, y with
  | .int i, .int j => Q (decide (i = j))
  | .str i, .str j => Q (decide (i = j))
  | .bl i, .bl j => Q (decide (i = j))
  | .non, .str _ => Q false
  | .str _, .non => Q false
  | .non, .int _ => Q false
  | .int _, .non => Q false
  | .int _, .str _ => Q false
  | .str _, .int _ => Q false
  | x, y => eqDat x y Q
def rEqq (x y : Dat) (Q : Dat → Prop) : Prop := eqSome x y fun b => Q (.bl b)
def rNee (x y : Dat) (Q : Dat → Prop) : Prop := eqSome x y fun b => Q (.bl (!b))
theorem eqSome_ok {f1 f2 : AS} {x y : Dat} {vx vy : V} {Qb : Bool → Prop} (rx : Rep W F H f1 x vx) (ry : Rep W F H f2 y vy) (h : eqSome x y Qb) :
    (scal vx vy = true ∧ Qb (decide (vx = vy))) ∨ (∃ d e, Dp W.K H vx d ∧ Dp W.K H vy e ∧ SeqAt.shaped d = true ∧ SeqAt.shaped e = true ∧ Qb (PyData.eqv d e)) := by
  have data : eqDat x y Qb → (scal vx vy = true ∧ Qb (decide (vx = vy))) ∨ (∃ d e, Dp W.K H vx d ∧ Dp W.K H vy e ∧ SeqAt.shaped d = true ∧ SeqAt.shaped e = true ∧ Qb (PyData.eqv d e)) := fun ⟨z1, z2, s1, s2, q⟩ => Or.inr ⟨_, _, Rep.dp x _ _ rx z1, Rep.dp y _ _ ry z2, s1, s2, q⟩
  unfold eqSome at h
  split at h
  · cases rx; cases ry; exact .inl ⟨rfl, by simpa using h⟩
  · cases rx; cases ry; exact .inl ⟨rfl, by simpa using h⟩
  · cases rx; cases ry; exact .inl ⟨rfl, by simpa using h⟩
  · cases rx; cases ry; exact .inl ⟨rfl, by simpa using h⟩
  · cases rx; cases ry; exact .inl ⟨rfl, by simpa using h⟩
  · cases rx; cases ry; exact .inl ⟨rfl, by simpa using h⟩
  · cases rx; cases ry; exact .inl ⟨rfl, by simpa using h⟩
  · cases rx; cases ry; exact .inl ⟨rfl, by simpa using h⟩
  · cases rx; cases ry; exact .inl ⟨rfl, by simpa using h⟩
  · exact data h
theorem o_eq : Op2 W (fun x y H Q => rEq x y H Q ∨ rEqD W.K x y H Q) rEqq := by
  intro F H f1 f2 x y vx vy Qd Q fl rx ry h q
  rcases eqSome_ok rx ry h with ⟨s, k⟩ | ⟨d, e, h1, h2, s1, s2, k⟩
  · exact .inl ⟨s, q _ _ F H NoA k rep_bl .refl⟩
  · exact .inr ⟨d, e, h1, h2, s1, s2, q _ _ F H NoA k rep_bl .refl⟩
theorem o_ne : Op2 W (fun x y H Q => rNe x y H Q ∨ rNeD W.K x y H Q) rNee := by
  intro F H f1 f2 x y vx vy Qd Q fl rx ry h q
  rcases eqSome_ok rx ry h with ⟨s, k⟩ | ⟨d, e, h1, h2, s1, s2, k⟩
  · exact .inl ⟨s, q _ _ F H NoA k rep_bl .refl⟩
  · exact .inr ⟨d, e, h1, h2, s1, s2, q _ _ F H NoA k rep_bl .refl⟩
structure Cp (C : Ctx) (op : CmpOp) (r2 : PySem.W.Frag → R2) (r : Dat → Dat → (Dat → Prop) → Prop) : Prop where
  hr : ∀ X, X.w = C.w → X.A.units + 65 < cLine → OpR X (compareOp op) (r2 X.K)
  o : Op2 C.W (r2 C.K) r
theorem cp_eq : Cp C .Eq (fun K x y H Q => rEq x y H Q ∨ rEqD K x y H Q) rEqq := ⟨fun X _ h => OpR.or op_eq (op_eqD (by omega)), o_eq⟩
theorem cp_ne : Cp C .NotEq (fun K x y H Q => rNe x y H Q ∨ rNeD K x y H Q) rNee := ⟨fun X _ h => OpR.or op_ne (op_neD (by omega)), o_ne⟩
def rOrd (f : Int → Int → Bool) (g : List Nat → List Nat → Bool) : Dat → Dat → (Dat → Prop) → Prop
  | .int i, .int j, Q => Q (.bl (f i j))
  | .str i, .str j, Q => Q (.bl (g i.cps.toList j.cps.toList))
  | _, _, _ => False
def r2Ord (f : Int → Int → Bool) (g : List Nat → List Nat → Bool) : R2 := fun x y H Q => rI0 (fun i j => .bl (f i j)) x y H Q ∨ ∃ i j, x = .str i ∧ y = .str j ∧ Q (.bl (g i.cps.toList j.cps.toList)) H
theorem o_ord {f : Int → Int → Bool} {g : List Nat → List Nat → Bool} : Op2 W (r2Ord f g) (rOrd f g) := by
  intro F H f1 f2 x y vx vy Qd Q fl rx ry h q
  cases x with
  | int i =>
    cases y with
    | int j => cases rx; cases ry; exact .inl ⟨i, j, rfl, rfl, q _ _ F H NoA h rep_bl .refl⟩
    | _ => exact (show False from h).elim
  | str i =>
    cases y with
    | str j => cases rx; cases ry; exact .inr ⟨i, j, rfl, rfl, q _ _ F H NoA h rep_bl .refl⟩
    | _ => exact (show False from h).elim
  | _ => cases y <;> exact (show False from h).elim
def rLt := rOrd (fun i j => decide (i < j)) fun a b => decide (a < b)
def rLe := rOrd (fun i j => decide (i ≤ j)) fun a b => !decide (b < a)
def rGt := rOrd (fun i j => decide (j < i)) fun a b => decide (b < a)
def rGe := rOrd (fun i j => decide (j ≤ i)) fun a b => !decide (a < b)
theorem cp_lt : Cp C .Lt (fun _ => r2Ord (fun i j => decide (i < j)) fun a b => decide (a < b)) rLt := ⟨fun X _ h => OpR.or op_lt op_lt_str, o_ord⟩
theorem cp_le : Cp C .LtE (fun _ => r2Ord (fun i j => decide (i ≤ j)) fun a b => !decide (b < a)) rLe := ⟨fun X _ h => OpR.or op_le op_le_str, o_ord⟩
theorem cp_gt : Cp C .Gt (fun _ => r2Ord (fun i j => decide (j < i)) fun a b => decide (b < a)) rGt := ⟨fun X _ h => OpR.or op_gt op_gt_str, o_ord⟩
theorem cp_ge : Cp C .GtE (fun _ => r2Ord (fun i j => decide (j ≤ i)) fun a b => !decide (a < b)) rGe := ⟨fun X _ h => OpR.or op_ge op_ge_str, o_ord⟩
def isNon : Dat → Bool
  | .non => true
  | _ => false
theorem Rep.isNon {d : Dat} {v : V} (r : Rep W F H fp d v) : decide (v = .non) = isNon d := by
  cases r <;> simp [M.isNon]
def rIs (neg : Bool) (x y : Dat) (Q : Dat → Prop) : Prop := isNon y = true ∧ Q (.bl (if neg then !isNon x else isNon x))
theorem cp_is : Cp C .Is (fun _ x y H Q => y = .non ∧ Q (.bl (decide (x = .non))) H) (rIs false) := ⟨fun X _ h => op_isN, by
  intro F H f1 f2 x y vx vy Qd Q fl rx ry h q
  have e : vy = .non := by simpa using ry.isNon.trans h.1
  refine ⟨e, ?_⟩
  rw [rx.isNon]
  exact q _ _ F H NoA h.2 rep_bl .refl⟩
theorem cp_isn : Cp C .IsNot (fun _ x y H Q => y = .non ∧ Q (.bl (!decide (x = .non))) H) (rIs true) := ⟨fun X _ h => op_notN, by
  intro F H f1 f2 x y vx vy Qd Q fl rx ry h q
  have e : vy = .non := by simpa using ry.isNon.trans h.1
  refine ⟨e, ?_⟩
  rw [rx.isNon]
  exact q _ _ F H NoA h.2 rep_bl .refl⟩
def eqF (x y : Dat) : Bool := eqV (toV x) (toV y)
def keyIs (k : Dat) : Option Key := match k with
  | .int i => some (.inl i)
  | .str x => some (.inr x)
  | _ => none
def hasKey (k : Dat) (ks : List Dat) : Bool := ks.any fun z => eqF z k
/-- what x in y says -/
def inSome (x y : Dat) (Q : Bool → Prop) : Prop := match y with
  | .lst _ ys => (flatD x = true ∧ ys.all flatD = true ∧ Q (ys.any fun z => eqF z x)) ∨
      (isPy x = true ∧ isPys ys = true ∧ SeqAt.shaped (toPy x) = true ∧ SeqAt.shaped (.list (toPys ys)) = true ∧ Q ((toPys ys).any fun z => PyData.eqv z (toPy x)))
  | .tup _ ys => flatD x = true ∧ ys.all flatD = true ∧ Q (ys.any fun z => eqF z x)
  | .str b => (∃ c, x = .str ⟨#[c]⟩ ∧ Q (decide (c ∈ b.cps.toList))) ∨ ∃ a, x = .str a ∧ Q (!(Builtin.Str.occurrences b a 0 b.length 1).isEmpty)
  | .dct _ ks _ => ∃ k, keyIs x = some k ∧ ks.all flatD = true ∧ Q (hasKey x ks)
  | _ => False
def r2In (neg : Bool) (K : PySem.W.Frag) : R2 := fun x y H Q => rIn K neg x y H Q ∨ ((∃ d ds, Dp K H x d ∧ Dp K H y (.list ds) ∧ SeqAt.shaped d = true ∧ SeqAt.shaped (.list ds) = true ∧ Q (.bl (if neg then !ds.any fun z => PyData.eqv z d else ds.any fun z => PyData.eqv z d)) H) ∨
  ((∃ (c : Nat) (z : Str), x = .str ⟨#[c]⟩ ∧ y = .str z ∧ Q (.bl (if neg then !decide (c ∈ z.cps.toList) else decide (c ∈ z.cps.toList))) H) ∨
  ((∃ i j, x = .str i ∧ y = .str j ∧ Q (.bl (if neg then !(!(Builtin.Str.occurrences j i 0 j.length 1).isEmpty) else !(Builtin.Str.occurrences j i 0 j.length 1).isEmpty)) H) ∨
  (∃ a o, y = .ref a ∧ DGet H a x o ∧ Q (.bl (if neg then !o.isSome else o.isSome)) H))))
theorem op_inK {X : Cx} (hu : X.A.units + 1 < cLine) : OpR X (compareOp .In) (fun x y H Q => ∃ a o, y = .ref a ∧ DGet H a x o ∧ Q (.bl o.isSome) H) := by
  intro pins s σ H x y v u Q I rx ry ⟨a, o, e, g, q⟩
  subst e
  cases ry
  exact d_in hu I g rx fun s3 I3 => ⟨.bl o.isSome, H, I3, rfl, q⟩
theorem op_notInK {X : Cx} (hu : X.A.units + 1 < cLine) : OpR X (compareOp .NotIn) (fun x y H Q => ∃ a o, y = .ref a ∧ DGet H a x o ∧ Q (.bl (!o.isSome)) H) := by
  intro pins s σ H x y v u Q I rx ry ⟨a, o, e, g, q⟩
  subst e
  cases ry
  exact d_notIn hu I g rx fun s3 I3 => ⟨.bl (!o.isSome), H, I3, rfl, q⟩
theorem or_in {X : Cx} (hu : X.A.units + 65 < cLine) : OpR X (compareOp .In) (r2In false X.K) := OpR.or op_in_seq (OpR.or (op_inD hu) (OpR.or op_in_sign (OpR.or op_in_str (op_inK (by omega)))))
theorem or_notIn {X : Cx} (hu : X.A.units + 65 < cLine) : OpR X (compareOp .NotIn) (r2In true X.K) := OpR.or op_notIn_seq (OpR.or (op_notInD hu) (OpR.or op_notIn_sign (OpR.or op_notIn_str (op_notInK (by omega)))))
def rInn (neg : Bool) (x y : Dat) (Q : Dat → Prop) : Prop := inSome x y fun b => Q (.bl (if neg then !b else b))
theorem inV_eq {x : Dat} {ys : List Dat} : inV (toV x) (ys.map toV) = ys.any fun z => eqF z x := by
  unfold inV eqF
  rw [List.any_map]
  rfl
theorem keyIs_k {x : Dat} {k : Key} {v : V} (e : keyIs x = some k) (r : Rep W F H fp x v) : v = kV k ∧ x = kD k := by
  cases x with
  | int i => cases e; cases r; exact ⟨rfl, rfl⟩
  | str i => cases e; cases r; exact ⟨rfl, rfl⟩
  | _ => cases e
theorem eqF_k (k j : Key) : eqF (kD j) (kD k) = decide (j = k) := by
  cases k <;> cases j <;> simp [eqF, kD, M.toV, eqV] <;> rfl
theorem hasKey_val (k : Key) (kvs : List (Key × V)) : hasKey (kD k) (kvs.map fun p => kD p.1) = (valV kvs k).isSome := by
  rw [← valV_any]
  unfold hasKey
  rw [List.any_map]
  congr 1
  funext p
  exact eqF_k k p.1
theorem o_in (neg : Bool) : Op2 W (r2In neg W.K) (rInn neg) := by
  intro F H f1 f2 x y vx vy Qd Q fl rx ry h q
  have fin : ∀ b : Bool, Qd (.bl (if neg then !b else b)) → Q (.bl (if neg then !b else b)) H := fun b k => q _ _ F H NoA k rep_bl .refl
  have fin' : ∀ b : Bool, Qd (.bl (if neg then !b else b)) → Q (.bl (if neg = true then !b else b)) H := fin
  unfold rInn inSome at h
  split at h
  · rename_i o ys
    have k1 : ∃ p vs f, vy = .ref p ∧ SqL W.K H p vs ∧ Reps W F H f ys vs := by
      cases ry with
      | lstF _ s _ r => exact ⟨_, _, _, rfl, .inl s, r⟩
      | lstO s r _ _ => exact ⟨_, _, _, rfl, .inl (.inl s), r⟩
    obtain ⟨p, vs, f, rfl, s, r⟩ := k1
    rcases h with ⟨z1, z2, h⟩ | ⟨z1, z2, s1, s2, h⟩
    · have q1 := rx.toV z1
      have q2 := r.toV z2
      refine .inl ⟨p, vs, rfl, .inl s, q1.2, q2.2, ?_⟩
      rw [q1.1, q2.1, inV_eq]
      exact fin' _ h
    · exact .inr (.inl ⟨_, _, Rep.dp x _ _ rx z1, .lst s (Reps.dp ys _ _ r z2), s1, s2, fin' _ h⟩)
  · rename_i k ys
    cases ry with
    | @tup _ p vs _ _ s _ r =>
      obtain ⟨z1, z2, h⟩ := h
      have q1 := rx.toV z1
      have q2 := r.toV z2
      refine .inl ⟨p, vs, rfl, .inr s, q1.2, q2.2, ?_⟩
      rw [q1.1, q2.1, inV_eq]
      exact fin' _ h
  · cases ry
    rcases h with ⟨c, rfl, h⟩ | ⟨a, rfl, h⟩
    · cases rx; exact .inr (.inr (.inl ⟨_, _, rfl, rfl, fin' _ h⟩))
    · cases rx; exact .inr (.inr (.inr (.inl ⟨_, _, rfl, rfl, fin' _ h⟩)))
  · rename_i o ks vs'
    obtain ⟨k, ek, fl', h⟩ := h
    obtain ⟨rfl, rfl⟩ := keyIs_k ek rx
    have k1 : ∃ p kvs, vy = .ref p ∧ Rd H p (.dK kvs) ∧ ks = kvs.map (fun p => kD p.1) := by
      cases ry with
      | dctF _ s _ e _ => exact ⟨_, _, rfl, s, e⟩
      | dctO s e _ _ _ => exact ⟨_, _, rfl, .inl s, e⟩
    obtain ⟨p, kvs, rfl, s, rfl⟩ := k1
    rw [hasKey_val] at h
    exact .inr (.inr (.inr (.inr ⟨p, _, rfl, .inl ⟨kvs, k, s, rfl, rfl⟩, fin' _ h⟩)))
  · exact h.elim
end
end M
namespace M
open PySem PySem.Spec PyProof.Rows L2
section
variable {C : Ctx} {W : Wd} {pr p1 p2 p3 : Bool} {F F' F1 F2 : AS} {H H' H1 H2 : Hp} {fp fp' fe fe1 fe2 fd fd1 fd2 : AS} {σ : L2.St} {env env1 env2 : Env} {d d1 d2 : Dat} {v v1 v2 : V}
variable {a b c : Expr} {pos : Pos} {wa wb wc : LE} {ta tb : LT}
theorem Fresh.step' {F0 : AS} {H0 : Hp} {fe : AS} (x : Fresh F H F' H' fd) (ok : Ok W F H fe) : Step W F H fe F' H' fe := by
  have q := Fresh.step (fd := NoA) ⟨x.kp, x.tg, x.fx, x.fb, fun _ z => z.elim, fun _ z => z.elim⟩ ok fun _ z => z.elim
  exact q.1.sub fun _ => .inl
/-- a bool's own end -/
theorem Pt.fresh {F0 : AS} {H0 : Hp} {fp0 : AS} (st : Step W F0 H0 fp0 F H fe) (pu : pr = true → Keep H0 H) (sl : Sl W F H fe env σ) (x : Fresh F H F' H' fd) : Pt W pr F0 H0 fp0 σ env F' H' fe :=
  ⟨sl.kept x.fx x.kp, st.trans (x.step' (F0 := F) (H0 := H) st.ok), fun z => Keep.trans (pu z) x.kp⟩
def wTest (w : LE) : LT := fun env Q => w env fun d env' => ∃ k, d = .bl k ∧ Q k env'
theorem lift_test {w : LE} {σ : L2.St} {H : Hp} {Q : Bool → Hp → Prop} (h : liftT W pr (wTest w) σ H Q) : lift W pr w σ H fun x H' => ∃ k, x = .bl k ∧ Q k H' := by
  obtain ⟨F, fp, env, Qd, sl, ok, hw, q⟩ := h
  refine ⟨F, fp, env, _, sl, ok, hw, fun d env' F' H' fe fd v hd P => ?_⟩
  obtain ⟨k, rfl, hd⟩ := hd
  have e := P.rep
  cases e
  exact ⟨k, rfl, q k env' F' H' fe hd ⟨P.sl, P.st.sub fun _ => .inl, P.pu⟩⟩
theorem jt_cmp {op : CmpOp} {r2 : PySem.W.Frag → R2} {r : Dat → Dat → (Dat → Prop) → Prop} (ha : JV C p1 a wa) (hb : JV C p2 b wb) (o : Cp C op r2 r) (hm : behindInMarks op b = false) :
    JT C (p1 && p2) (.Compare a [op] [b] pos) (wTest (w2 p2 wa wb r)) := fun X g =>
  PT_imp (pt_cmpR (o.hr X g.w (by have := g.room.un; omega)) (ha X g) (hb X g) hm) fun σ H Q h => by rw [g.K]; exact lift2 o.o σ H _ (lift_test h)
theorem je_cm {op : CmpOp} {r2 : PySem.W.Frag → R2} {r : Dat → Dat → (Dat → Prop) → Prop} (ha : JV C p1 a wa) (hb : JV C p2 b wb) (o : Cp C op r2 r) (hm : behindInMarks op b = false) :
    JE C (p1 && p2) (.Compare a [op] [b] pos) (w2 p2 wa wb r) := je_cmp ha hb o.hr o.o hm
/-- a thing's truth -/
def truD (d : Dat) (Q : Bool → Prop) : Prop := match d with
  | .non => Q false
  | .bl b => Q b
  | .int i => Q (i != 0)
  | .str x => x.length ≤ sizeLine ∧ Q ((x.length : Int) != 0)
  | .tup _ xs => Q (!xs.isEmpty)
  | .lst _ xs => Q (!xs.isEmpty)
  | _ => False
theorem Reps.isEmpty {ds : List Dat} {vs : List V} (r : Reps W F H fp ds vs) : vs.isEmpty = ds.isEmpty := by cases r <;> rfl
theorem truD_ok {Q : Bool → Prop} (r : Rep W F H fp d v) (h : truD d Q) : ∃ k, TruV W.K v H k ∧ Q k := by
  cases r with
  | non _ => exact ⟨_, rfl, h⟩
  | bl _ _ => exact ⟨_, rfl, h⟩
  | int _ _ => exact ⟨_, rfl, h⟩
  | str _ _ => exact ⟨_, ⟨h.1, rfl⟩, h.2⟩
  | tup s _ r => exact ⟨_, .inr (.inl ⟨_, s, rfl⟩), by rw [r.isEmpty]; exact h⟩
  | lstF _ s _ r => exact ⟨_, .inl ⟨_, .inl s, rfl⟩, by rw [r.isEmpty]; exact h⟩
  | lstO s r _ _ => exact ⟨_, .inl ⟨_, .inl (.inl s), rfl⟩, by rw [r.isEmpty]; exact h⟩
  | _ => exact (show False from h).elim
def wTru (w : LE) : LT := fun env Q => w env fun d env' => truD d fun k => Q k env'
theorem jt_tru {e : Expr} {w : LE} (h : JV C pr e w) (he : ∀ env whole, isTrue e env whole = (do let v ← whole; standAt e.pos; holding [v] (truthy v))) : JT C pr e (wTru w) := fun X g =>
  PT_imp (pt_truth (h X g) (he _)) fun σ H Q ⟨F, fp, env, Qd, sl, ok, hw, q⟩ => by
    refine ⟨F, fp, env, _, sl, ok, hw, fun d env' F' H' fe fd v hd P => ?_⟩
    obtain ⟨k, hk, hq⟩ := truD_ok P.rep hd
    rw [g.K]
    exact ⟨k, hk, q k env' F' H' fe hq ⟨P.sl, P.st, P.pu⟩⟩
def wAnd (ta tb : LT) : LT := fun env Q => ta env fun c env1 => if c = true then tb env1 Q else Q false env1
def wOr (ta tb : LT) : LT := fun env Q => ta env fun c env1 => if c = true then Q true env1 else tb env1 Q
def wNot (ta : LT) : LT := fun env Q => ta env fun c env1 => Q (!c) env1
theorem lift_and {σ : L2.St} {H : Hp} {Q : Bool → Hp → Prop} (h : liftT W (p1 && p2) (wAnd ta tb) σ H Q) : tAnd (liftT W p1 ta) (liftT W p2 tb) σ H Q := by
  obtain ⟨F, fp, env, Qd, sl, ok, hw, q⟩ := h
  refine ⟨F, fp, env, _, sl, ok, hw, fun c env1 F1 H1 fe1 hc P1 => ?_⟩
  cases c with
  | true => exact ⟨F1, fe1, env1, Qd, P1.sl, P1.st.ok, hc, fun b env2 F2 H2 fe2 hd P2 => q b env2 F2 H2 fe2 hd (P2.after P1.st P1.pu)⟩
  | false => exact q false env1 F1 H1 fe1 hc (P1.cast fun z => (Bool.and_eq_true _ _ ▸ z : p1 = true ∧ p2 = true).1)
theorem lift_or {σ : L2.St} {H : Hp} {Q : Bool → Hp → Prop} (h : liftT W (p1 && p2) (wOr ta tb) σ H Q) : tOr (liftT W p1 ta) (liftT W p2 tb) σ H Q := by
  obtain ⟨F, fp, env, Qd, sl, ok, hw, q⟩ := h
  refine ⟨F, fp, env, _, sl, ok, hw, fun c env1 F1 H1 fe1 hc P1 => ?_⟩
  cases c with
  | false => exact ⟨F1, fe1, env1, Qd, P1.sl, P1.st.ok, hc, fun b env2 F2 H2 fe2 hd P2 => q b env2 F2 H2 fe2 hd (P2.after P1.st P1.pu)⟩
  | true => exact q true env1 F1 H1 fe1 hc (P1.cast fun z => (Bool.and_eq_true _ _ ▸ z : p1 = true ∧ p2 = true).1)
theorem jw_and1 (ha : JT C p1 a ta) : JW C p1 (.BoolOp .And [a] pos) ta := fun X g => pw_and1 (ha X g)
theorem jw_or1 (ha : JT C p1 a ta) : JW C p1 (.BoolOp .Or [a] pos) ta := fun X g => pw_or1 (ha X g)
theorem jw_and {rest : List Expr} (ha : JT C p1 a ta) (hb : JW C p2 (.BoolOp .And (b :: rest) pos) tb) : JW C (p1 && p2) (.BoolOp .And (a :: b :: rest) pos) (wAnd ta tb) := fun X g => PW_imp (pw_and (ha X g) (hb X g)) fun σ H Q h => lift_and h
theorem jw_or {rest : List Expr} (ha : JT C p1 a ta) (hb : JW C p2 (.BoolOp .Or (b :: rest) pos) tb) : JW C (p1 && p2) (.BoolOp .Or (a :: b :: rest) pos) (wOr ta tb) := fun X g => PW_imp (pw_or (ha X g) (hb X g)) fun σ H Q h => lift_or h
theorem jt_w {e : Expr} (h : JW C pr e ta) : JT C pr e ta := fun X g => (h X g).pt
theorem jt_not (ha : JT C p1 a ta) : JT C p1 (.UnaryOp .Not a pos) (wNot ta) := fun X g => PT_imp (pt_not (ha X g)) fun σ H Q ⟨F, fp, env, Qd, sl, ok, hw, q⟩ =>
  ⟨F, fp, env, _, sl, ok, hw, fun c env1 F1 H1 fe1 hc P1 => q _ env1 F1 H1 fe1 hc P1⟩
def wAndV (wa wb : LE) : LE := fun env Q => wa env fun x env1 => ∃ c, x = .bl c ∧ if c = true then wb env1 Q else Q (.bl false) env1
def wOrV (wa wb : LE) : LE := fun env Q => wa env fun x env1 => ∃ c, x = .bl c ∧ if c = true then Q (.bl true) env1 else wb env1 Q
def wNotV (wa : LE) : LE := fun env Q => wa env fun x env1 => ∃ c, x = .bl c ∧ Q (.bl (!c)) env1
theorem po_bl {k : Bool} (P : Pv W pr F H fp σ env F' H' fe fd d v) : Po W pr F H fp σ env F' H' fe NoA (.bl k) (.bl k) := ⟨P.sl, rep_bl, fun _ _ z => z, P.st.sub fun a z => z.resolve_right id, P.pu⟩
theorem je_one {op : BoolOp} {w : LE} (h : JE C pr a w) : JE C pr (.BoolOp op [a] pos) w := fun X g => pe_one (h X g)
theorem je_and {rest : List Expr} (ha : JV C p1 a wa) (hb : JE C p2 (.BoolOp .And (b :: rest) pos) wb) : JE C (p1 && p2) (.BoolOp .And (a :: b :: rest) pos) (wAndV wa wb) := fun X g =>
  PE_imp (pe_and (ha X g) (hb X g)) fun σ H Q ⟨F, fp, env, Qd, sl, ok, hw, q⟩ => by
    refine ⟨F, fp, env, _, sl, ok, hw, fun x env1 F1 H1 fe1 g1 v1 hc P1 => ?_⟩
    obtain ⟨k, rfl, hc⟩ := hc
    have e := P1.rep
    cases e
    refine ⟨k, rfl, ?_⟩
    cases k with
    | true => exact ⟨F1, fe1, env1, Qd, P1.sl, P1.st.ok, hc, fun d env2 F2 H2 fe2 g2 v2 hd P2 => q d env2 F2 H2 fe2 g2 v2 hd (P2.after P1.st P1.pu)⟩
    | false => exact q _ env1 F1 H1 fe1 NoA _ hc ((po_bl P1).cast fun z => (Bool.and_eq_true _ _ ▸ z : p1 = true ∧ p2 = true).1)
theorem je_or {rest : List Expr} (ha : JV C p1 a wa) (hb : JE C p2 (.BoolOp .Or (b :: rest) pos) wb) : JE C (p1 && p2) (.BoolOp .Or (a :: b :: rest) pos) (wOrV wa wb) := fun X g =>
  PE_imp (pe_or (ha X g) (hb X g)) fun σ H Q ⟨F, fp, env, Qd, sl, ok, hw, q⟩ => by
    refine ⟨F, fp, env, _, sl, ok, hw, fun x env1 F1 H1 fe1 g1 v1 hc P1 => ?_⟩
    obtain ⟨k, rfl, hc⟩ := hc
    have e := P1.rep
    cases e
    refine ⟨k, rfl, ?_⟩
    cases k with
    | false => exact ⟨F1, fe1, env1, Qd, P1.sl, P1.st.ok, hc, fun d env2 F2 H2 fe2 g2 v2 hd P2 => q d env2 F2 H2 fe2 g2 v2 hd (P2.after P1.st P1.pu)⟩
    | true => exact q _ env1 F1 H1 fe1 NoA _ hc ((po_bl P1).cast fun z => (Bool.and_eq_true _ _ ▸ z : p1 = true ∧ p2 = true).1)
theorem je_not (ha : JV C p1 a wa) : JE C p1 (.UnaryOp .Not a pos) (wNotV wa) := fun X g =>
  PE_imp (pe_not (ha X g)) fun σ H Q ⟨F, fp, env, Qd, sl, ok, hw, q⟩ => by
    refine ⟨F, fp, env, _, sl, ok, hw, fun x env1 F1 H1 fe1 g1 v1 hc P1 => ?_⟩
    obtain ⟨k, rfl, hc⟩ := hc
    have e := P1.rep
    cases e
    exact ⟨k, rfl, q _ env1 F1 H1 fe1 NoA _ hc (po_bl P1)⟩
def wIf (t : LT) (wa wb : LE) : LE := fun env Q => t env fun c env1 => if c = true then wa env1 Q else wb env1 Q
theorem je_if (hc : JT C p1 c ta) (ha : JE C p2 a wa) (hb : JE C p3 b wb) : JE C (p1 && (p2 && p3)) (.IfExp c a b pos) (wIf ta wa wb) := fun X g =>
  PE_imp (pe_ifExp (hc X g) (ha X g) (hb X g)) fun σ H Q ⟨F, fp, env, Qd, sl, ok, hw, q⟩ => by
    refine ⟨F, fp, env, _, sl, ok, hw, fun k env1 F1 H1 fe1 hk P1 => ?_⟩
    cases k with
    | true => exact ⟨F1, fe1, env1, Qd, P1.sl, P1.st.ok, hk, fun d env2 F2 H2 fe2 g2 v2 hd P2 => q d env2 F2 H2 fe2 g2 v2 hd ((P2.after P1.st P1.pu).cast fun z => by rw [Bool.and_eq_true, Bool.and_eq_true] at z; rw [z.1, z.2.1]; rfl)⟩
    | false => exact ⟨F1, fe1, env1, Qd, P1.sl, P1.st.ok, hk, fun d env2 F2 H2 fe2 g2 v2 hd P2 => q d env2 F2 H2 fe2 g2 v2 hd ((P2.after P1.st P1.pu).cast fun z => by rw [Bool.and_eq_true, Bool.and_eq_true] at z; rw [z.1, z.2.2]; rfl)⟩
theorem jv_if (hc : JT C p1 c ta) (ha : JV C p2 a wa) (hb : JV C p3 b wb) : JV C (p1 && (p2 && p3)) (.IfExp c a b pos) (wIf ta wa wb) := fun X g =>
  PE_imp (pe_ifExp (hc X g) (ha X g) (hb X g)) fun σ H Q ⟨F, fp, env, Qd, sl, ok, hw, q⟩ => by
    refine ⟨F, fp, env, _, sl, ok, hw, fun k env1 F1 H1 fe1 hk P1 => ?_⟩
    cases k with
    | true => exact ⟨F1, fe1, env1, Qd, P1.sl, P1.st.ok, hk, fun d env2 F2 H2 fe2 g2 v2 hd P2 => q d env2 F2 H2 fe2 g2 v2 hd ((P2.after P1.st P1.pu).cast fun z => by rw [Bool.and_eq_true, Bool.and_eq_true] at z; rw [z.1, z.2.1]; rfl)⟩
    | false => exact ⟨F1, fe1, env1, Qd, P1.sl, P1.st.ok, hk, fun d env2 F2 H2 fe2 g2 v2 hd P2 => q d env2 F2 H2 fe2 g2 v2 hd ((P2.after P1.st P1.pu).cast fun z => by rw [Bool.and_eq_true, Bool.and_eq_true] at z; rw [z.1, z.2.2]; rfl)⟩
/-- a op b op' c -/
def wChain (p2 p3 : Bool) (wa wb wc : LE) (r r' : Dat → Dat → (Dat → Prop) → Prop) : LE := fun env Q => wa env fun x e1 => wb e1 fun y e2 => (p2 = true ∨ Fz x) ∧ r x y fun d => ∃ k, d = .bl k ∧
  if k = true then wc e2 fun z e3 => (p3 = true ∨ Fz y) ∧ r' y z fun d => Q d e3 else Q (.bl false) e2
theorem lift_chain {r2 r2' : R2} {r r' : Dat → Dat → (Dat → Prop) → Prop} (o : Op2 W r2 r) (o' : Op2 W r2' r') {σ : L2.St} {H : Hp} {Q : VK} (h : lift W (p1 && (p2 && p3)) (wChain p2 p3 wa wb wc r r') σ H Q) :
    tChain r2 r2' (liftV W p1 wa) (liftV W p2 wb) (liftV W p3 wc) σ H Q := by
  obtain ⟨F, fp, env, Qd, sl, ok, hw, q⟩ := h
  refine ⟨F, fp, env, _, sl, ok, hw, fun x env1 F1 H1 fe1 g1 v1 hb P1 => ?_⟩
  refine ⟨F1, fe1, env1, _, P1.sl, P1.st.ok, hb, fun y env2 F2 H2 fe2 g2 v2 hc P2 => ?_⟩
  have r1 := P1.stay P2 hc.1
  refine o F2 H2 g1 g2 x y v1 v2 _ _ P2.st.ok.lv r1 P2.rep hc.2 fun d v F3 H3 g3 hd r3 fr => ?_
  obtain ⟨k, rfl, hd⟩ := hd
  cases r3
  refine ⟨k, rfl, ?_⟩
  have P12 : Pv W (p1 && p2) F H fp σ env2 F2 H2 fe2 g2 y v2 := P2.after P1.st P1.pu
  have sl3 := P2.sl.kept fr.fx fr.kp
  have st3 : Step W F H fp F3 H3 fe2 := P12.st.trans (fr.step' (F0 := F) (H0 := H) P12.st.ok)
  have pu3 : (p1 && p2) = true → Keep H H3 := fun z => Keep.trans (P12.pu z) fr.kp
  cases k with
  | false => exact q _ env2 F3 H3 fe2 NoA _ hd ⟨sl3, rep_bl, fun _ _ z => z, st3.sub fun a z => z.resolve_right id, fun z => pu3 (by rw [Bool.and_eq_true, Bool.and_eq_true] at z; rw [z.1, z.2.1]; rfl)⟩
  | true =>
    have ry : Pv W (p1 && p2) F H fp σ env2 F3 H3 fe2 g2 y v2 := ⟨sl3, P2.rep.kept fr.fx fr.kp, st3, pu3⟩
    refine ⟨F3, fe2, env2, _, sl3, st3.ok, hd, fun z env3 F4 H4 fe4 g4 v4 hz P4 => ?_⟩
    refine o' F4 H4 g2 g4 y z v2 v4 _ Q P4.st.ok.lv (ry.stay P4 hz.1) P4.rep hz.2 fun d v F5 H5 g5 hd5 r5 fr5 => ?_
    have P5 := fr5.po P4.st.ok P4.sl r5
    refine q d env3 F5 H5 fe4 g5 v hd5 ((P5.after (st3.trans P4.st) (p1 := (p1 && p2) && p3) fun w => ?_).cast fun w => ?_)
    · have k := and_pure pu3 P4.pu w
      exact Keep.trans k.1 k.2
    · rw [Bool.and_eq_true, Bool.and_eq_true] at w; rw [w.1, w.2.1, w.2.2]; rfl
theorem je_chain {op op' : CmpOp} {r2 r2' : PySem.W.Frag → R2} {r r' : Dat → Dat → (Dat → Prop) → Prop} (ha : JV C p1 a wa) (hb : JV C p2 b wb) (hc : JV C p3 c wc) (o : Cp C op r2 r) (o' : Cp C op' r2' r') (hm : lastMarks [op, op'] [b, c] = false) :
    JE C (p1 && (p2 && p3)) (.Compare a [op, op'] [b, c] pos) (wChain p2 p3 wa wb wc r r') := fun X g =>
  PE_imp (pe_chain (o.hr X g.w (by have := g.room.un; omega)) (o'.hr X g.w (by have := g.room.un; omega)) (ha X g) (hb X g) (hc X g) hm) fun σ H Q h => by rw [g.K]; exact lift_chain o.o o'.o h
theorem jt_chain {op op' : CmpOp} {r2 r2' : PySem.W.Frag → R2} {r r' : Dat → Dat → (Dat → Prop) → Prop} (ha : JV C p1 a wa) (hb : JV C p2 b wb) (hc : JV C p3 c wc) (o : Cp C op r2 r) (o' : Cp C op' r2' r') (hm : lastMarks [op, op'] [b, c] = false) :
    JT C (p1 && (p2 && p3)) (.Compare a [op, op'] [b, c] pos) (wTest (wChain p2 p3 wa wb wc r r')) := fun X g =>
  PT_imp (pt_chain (o.hr X g.w (by have := g.room.un; omega)) (o'.hr X g.w (by have := g.room.un; omega)) (ha X g) (hb X g) (hc X g) hm) fun σ H Q h => by rw [g.K]; exact lift_chain o.o o'.o (lift_test h)
def wNil : LA := fun env Q => Q [] env
def wCons (w : LE) (ws : LA) : LA := fun env Q => w env fun d e1 => ws e1 fun ds e2 => Q (d :: ds) e2
theorem ja_nil : JA C true [] wNil := fun X g => PA_imp pa_nil fun σ H Q ⟨F, fp, env, Qd, sl, ok, hw, q⟩ =>
  q [] env F H fp NoA [] hw ⟨sl, .nil fun _ z => z, fun _ _ z => z, (Step.refl ok).sub fun a z => z.resolve_right id, fun _ => Keep.rfl⟩
theorem ja_cons {e : Expr} {es : List Expr} {w : LE} {ws : LA} (he : JE C p1 e w) (hr : JA C p2 es ws) (hs : ∀ env, starEach (e :: es) env = (false, eval e env) :: starEach es env) : JA C (p1 && p2) (e :: es) (wCons w ws) := fun X g =>
  PA_imp (pa_cons (he X g) (hr X g) (hs _)) fun σ H Q ⟨F, fp, env, Qd, sl, ok, hw, q⟩ => by
    refine ⟨F, fp, env, _, sl, ok, hw, fun x env1 F1 H1 fe1 g1 v1 hb P1 => ?_⟩
    have ok1 : Ok C.W F1 H1 fe1 := P1.st.ok.sub fun _ => .inl
    refine ⟨F1, fe1, env1, _, P1.sl, ok1, hb, fun ds env2 F2 H2 fe2 g2 vs hd P2 => ?_⟩
    have fr := P2.st.frame (g := g1) (P1.st.ok.sub fun _ => .inr) P1.dj
    have r1 := P1.rep.step P2.st ok1 fun a z q => P1.dj a q z
    refine q (x :: ds) env2 F2 H2 fe2 (fun a => g1 a ∨ g2 a) (v1 :: vs) hd ⟨P2.sl, .cons r1 P2.rep (fun a z k => fr.2 a (.inr k) z) fun a => Iff.rfl, fun a z k => ?_, (P1.st.trans fr.1).sub fun a z => ?_, fun z => ?_⟩
    · rcases k with k | k
      · exact fr.2 a (.inl z) k
      · exact P2.dj a z k
    · rcases z with z | z | z
      · exact .inl (.inl z)
      · exact .inr z
      · exact .inl (.inr z)
    · have k := and_pure P1.pu P2.pu z
      exact Keep.trans k.1 k.2
/-- what came as arguments is frozen -/
theorem Pa.freeze {ds : List Dat} {vs : List V} (P : Pa W pr F H fp σ env F' H' fe fd ds vs) :
    Sl W (fun a => F' a ∨ fd a) H' fe env σ ∧ Reps W (fun a => F' a ∨ fd a) H' NoA (frzs ds) vs ∧ Step W F H fp (fun a => F' a ∨ fd a) H' fe := by
  refine ⟨P.sl.kept (fun _ => .inl) Keep.rfl, Reps.freeze (fun _ => .inl) ds _ _ P.rep fun _ => .inr, ⟨P.st.kp, fun a z => .inl (P.st.fx a z), fun a z => ?_, fun a z => P.st.nw a (.inl z), ⟨fun a z q => ?_, fun a z => P.st.ok.own a (.inl z), fun a z => ?_, P.st.ok.tb⟩⟩⟩
  · rcases z with z | z
    · exact P.st.fb a z
    · exact .inr (P.st.nw a (.inr z))
  · rcases q with q | q
    · exact P.st.ok.nf a (.inl z) q
    · exact P.dj a z q
  · rcases z with z | z
    · exact P.st.ok.lv a z
    · intro w
      have := P.st.ok.own a (.inr z)
      rw [w] at this; exact this
theorem Po.freeze (P : Po W pr F H fp σ env F' H' fe fd d v) : Po W pr F H fp σ env (fun a => F' a ∨ fd a) H' fe NoA (frz d) v := by
  have q : Pa W pr F H fp σ env F' H' fe fd [d] [v] := ⟨P.sl, .cons P.rep (.nil (fp := NoA) fun _ z => z) (fun _ _ z => z) (fun a => ⟨.inl, fun z => z.resolve_right id⟩), P.dj, P.st, P.pu⟩
  have k := q.freeze
  exact ⟨k.1, Rep.freeze (fun _ => .inl) d _ _ P.rep fun _ => .inr, fun _ _ z => z, k.2.2.sub fun a z => z.resolve_right id, P.pu⟩
/-- the value frozen -/
def wFrz (w : LE) : LE := fun env Q => w env fun d env' => Q (frz d) env'
theorem je_frz {e : Expr} {w : LE} (h : JE C pr e w) : JE C pr e (wFrz w) := fun X g => PE_imp (h X g) fun σ H Q ⟨F, fp, env, Qd, sl, ok, hw, q⟩ =>
  ⟨F, fp, env, _, sl, ok, hw, fun d env' F' H' fe fd v hd P => q _ env' _ H' fe NoA v hd P.freeze⟩
def wTup (ws : LA) : LE := fun env Q => ws env fun ds env' => ds.length ≤ sizeLine ∧ Q (.tup .p (frzs ds)) env'
def wLst (ws : LA) : LE := fun env Q => ws env fun ds env' => ds.length ≤ sizeLine ∧ Q (.lst true (frzs ds)) env'
theorem je_tup {es : List Expr} {ws : LA} {k : Nat} (h : JA C pr es ws) : JE C pr (.Tuple es k pos) (wTup ws) := fun X g => PE_imp (pe_tup (h X g)) fun σ H Q ⟨F, fp, env, Qd, sl, ok, hw, q⟩ => by
  refine ⟨F, fp, env, _, sl, ok, hw, fun ds env' F' H' fe fd vs hd P => ⟨by rw [← P.rep.length]; exact hd.1, fun p hp => ?_⟩⟩
  have k := P.freeze
  have z := fresh_tupP hp k.2.1
  exact q _ env' _ _ fe NoA _ hd.2 ((z.2.po k.2.2.ok k.1 z.1).after k.2.2 P.pu |>.cast fun w => by rw [w]; rfl)
theorem je_lst {es : List Expr} {ws : LA} (h : JA C pr es ws) : JE C pr (.List es pos) (wLst ws) := fun X g => PE_imp (pe_lst (h X g)) fun σ H Q ⟨F, fp, env, Qd, sl, ok, hw, q⟩ => by
  refine ⟨F, fp, env, _, sl, ok, hw, fun ds env' F' H' fe fd vs hd P => ⟨by rw [← P.rep.length]; exact hd.1, fun p hp => ?_⟩⟩
  have k := P.freeze
  have z := fresh_lst hp (fun z => k.2.2.ok.lv p z hp) k.2.1
  exact q _ env' _ _ fe _ _ hd.2 ((z.2.po k.2.2.ok k.1 z.1).after k.2.2 P.pu |>.cast fun w => by rw [w]; rfl)
end
end M
namespace M
open PySem PySem.Spec PyProof.Rows L2
section
variable {C : Ctx} {W : Wd} {pr p1 p2 p3 : Bool} {F F' F1 F2 : AS} {H H' H1 H2 : Hp} {fp fp' fe fe1 fe2 fd fd1 fd2 : AS} {σ : L2.St} {env env1 env2 : Env} {d d1 d2 : Dat} {v v1 v2 : V}
variable {a b c : Expr} {pos p : Pos} {wa wb wc : LE} {ta tb : LT}
/-- an operation over one thing, told over data -/
def Op1 (W : Wd) (r1 : V → Hp → VK → Prop) (r : Dat → (Dat → Prop) → Prop) : Prop :=
  ∀ F H f x vx Qd (Q : VK), FL F H → Rep W F H f x vx → r x Qd → (∀ d v F' H' fd, Qd d → Rep W F' H' fd d v → Fresh F H F' H' fd → Q v H') → r1 vx H Q
def w1 (w : LE) (r : Dat → (Dat → Prop) → Prop) : LE := fun env Q => w env fun x env1 => r x fun d => Q d env1
theorem lift1 {w : LE} {r1 : V → Hp → VK → Prop} {r : Dat → (Dat → Prop) → Prop} (o : Op1 W r1 r) {σ : L2.St} {H : Hp} {Q : VK} (h : lift W pr (w1 w r) σ H Q) : liftV W pr w σ H fun x H1 => r1 x H1 Q := by
  obtain ⟨F, fp, env, Qd, sl, ok, hw, q⟩ := h
  refine ⟨F, fp, env, _, sl, ok, hw, fun x env1 F1 H1 fe1 g1 v1 hb P1 => ?_⟩
  refine o F1 H1 g1 x v1 _ Q P1.st.ok.lv P1.rep hb fun d v F2 H2 g2 hd r2 fr => ?_
  exact q d env1 F2 H2 fe1 g2 v hd ((fr.po P1.st.ok P1.sl r2).after P1.st P1.pu |>.cast fun z => by rw [z]; rfl)
/-- a call rule for one argument -/
def Cl1 (C : Ctx) (f : Value) (r : Dat → (Dat → Prop) → Prop) : Prop := ∃ r1 : PySem.W.Frag → V → Hp → VK → Prop, (∀ X, X.calm = true → CallR X f (fun vs H Q => ∃ x, vs = [x] ∧ r1 X.K x H Q)) ∧ Op1 C.W (r1 C.K) r
theorem gl_of {X : Cx} {x : Str} (g : Gd C X) (hg : C.sc.names.lookup x = some .globalImplicit) : Gl X x := by
  show X.env.scope.names.lookup x = _
  rw [g.sc]; exact hg
theorem sp1 {X : Cx} {r1 : V → Hp → VK → Prop} {w : LE} {σ : L2.St} {H : Hp} {Q : VK} (h : liftV W pr w σ H fun x H1 => r1 x H1 Q) : tCB (fun vs H Q => ∃ x, vs = [x] ∧ r1 x H Q) (tCons (liftV W pr w) tNil) σ H Q := by
  obtain ⟨F, fp, env, Qd, sl, ok, hw, q⟩ := h
  exact ⟨F, fp, env, Qd, sl, ok, hw, fun d env' F' H' fe fd v hd P => ⟨v, rfl, q d env' F' H' fe fd v hd P⟩⟩
theorem je_b1 {x : Str} {id : String} {w : LE} {r : Dat → (Dat → Prop) → Prop} (o : Cl1 C (.builtin id) r) (hm : C.mg x = none) (hv : bootBuiltins x = some (.builtin id)) (hg : C.sc.names.lookup x = some .globalImplicit) (ha : JV C pr a w)
    (hn : x ≠ "__name__") (hdb : (x == ("__debug__" : Str)) = false) (hs : ∀ env, starEach [a] env = (false, eval a env) :: starEach [] env) (hpl : ∀ env, (backTo pos (starEach [] env)).any (·.1) = false) (hh : C.hot = false := by rfl) : JE C pr (.Call (.Name x p) [a] [] pos) (w1 w r) := fun X g => by
  obtain ⟨r1, hc, ho⟩ := o
  refine PE_imp (pe_callB (hc X (g.calm' hh)) (gl_of g hg) (by rw [g.mg]; exact hm) hv (pa_cons (ha X g) pa_nil (hs _)) hn hdb (hs _) (hpl _)) fun σ H Q h => ?_
  rw [g.K]
  exact sp1 (X := X) (lift1 ho h)
theorem je_t1 {x : Str} {id : String} {w : LE} {r : Dat → (Dat → Prop) → Prop} (o : Cl1 C (.type id) r) (hm : C.mg x = none) (hv : bootBuiltins x = some (.type id)) (hg : C.sc.names.lookup x = some .globalImplicit) (ha : JV C pr a w)
    (hn : x ≠ "__name__") (hdb : (x == ("__debug__" : Str)) = false) (hs : ∀ env, starEach [a] env = (false, eval a env) :: starEach [] env) (hpl : ∀ env, (backTo pos (starEach [] env)).any (·.1) = false) (hh : C.hot = false := by rfl) : JE C pr (.Call (.Name x p) [a] [] pos) (w1 w r) := fun X g => by
  obtain ⟨r1, hc, ho⟩ := o
  refine PE_imp (pe_callTy (hc X (g.calm' hh)) (gl_of g hg) (by rw [g.mg]; exact hm) hv (pa_cons (ha X g) pa_nil (hs _)) hn hdb (hs _) (hpl _)) fun σ H Q h => ?_
  rw [g.K]
  exact sp1 (X := X) (lift1 ho h)
theorem seq_of {xs : List Dat} {o : Bool} {f : AS} {vx : V} (r : Rep W F H f (.lst o xs) vx) : ∃ a vs g, vx = .ref a ∧ Rd H a (.lst vs) ∧ Reps W F H g xs vs := by
  cases r with
  | lstF _ s _ r => exact ⟨_, _, _, rfl, s, r⟩
  | lstO s r _ _ => exact ⟨_, _, _, rfl, .inl s, r⟩
theorem dct_of {ks xs : List Dat} {o : Bool} {f : AS} {vx : V} (r : Rep W F H f (.dct o ks xs) vx) : ∃ a kvs g, vx = .ref a ∧ Rd H a (.dK kvs) ∧ ks = kvs.map (fun p => kD p.1) ∧ Reps W F H g xs (kvs.map (·.2)) := by
  cases r with
  | dctF _ s _ e r => exact ⟨_, _, _, rfl, s, e, r⟩
  | dctO s e r _ _ => exact ⟨_, _, _, rfl, .inl s, e, r⟩
def rLen (x : Dat) (Q : Dat → Prop) : Prop := match x with
  | .str s => s.length ≤ sizeLine ∧ Q (.int s.length)
  | .tup _ xs => Q (.int xs.length)
  | .lst _ xs => Q (.int xs.length)
  | .dct _ ks _ => Q (.int ks.length)
  | .scr ns => Q (.int ns.length)
  | _ => False
theorem cl_len : Cl1 C (.builtin "len") rLen := by
  refine ⟨fun K x H Q => (∃ n, LenV K x H n ∧ Q (.int n) H) ∨ ∃ a kvs, x = V.ref a ∧ Rd H a (.dK kvs) ∧ Q (.int kvs.length) H, fun X hc => ?_, ?_⟩
  · intro pins s σ H xs us Q I r h
    obtain ⟨x, rfl, h⟩ := h
    rcases h with ⟨n, h1, h2⟩ | ⟨a, kvs, rfl, h1, h2⟩
    · exact call_len pins s σ H _ us Q I r ⟨x, n, rfl, h1, h2⟩
    · obtain ⟨u, rfl, ru⟩ := vals1 r
      cases ru
      exact d_len I h1 fun t s' I' => ⟨.int kvs.length, H, I', ⟨t, rfl⟩, h2⟩
  · intro F H f x vx Qd Q fl r h q
    cases x with
    | str s => cases r; exact .inl ⟨_, ⟨h.1, rfl⟩, q _ _ F H NoA h.2 rep_int .refl⟩
    | tup _ xs =>
      cases r with
      | tup s z r => exact .inl ⟨_, .inr ⟨_, s, rfl⟩, by rw [← r.length]; exact q _ _ F H NoA h rep_int .refl⟩
    | lst o xs =>
      obtain ⟨a, vs, g, rfl, s, r⟩ := seq_of r
      exact .inl ⟨_, .inl ⟨_, .inl s, rfl⟩, by rw [← r.length]; exact q _ _ F H NoA h rep_int .refl⟩
    | scr ns =>
      cases r with
      | scr _ s => exact .inl ⟨_, .inl ⟨_, s.sq, rfl⟩, by rw [List.length_map]; exact q _ _ F H NoA h rep_int .refl⟩
    | dct o ks vs =>
      obtain ⟨a, kvs, g, rfl, s, e, r⟩ := dct_of r
      refine .inr ⟨_, _, rfl, s, ?_⟩
      have e' := congrArg List.length e
      rw [List.length_map] at e'
      rw [← e']
      exact q _ _ F H NoA h rep_int .refl
    | _ => exact (show False from h).elim
def rIntF (x : Dat) (Q : Dat → Prop) : Prop := match x with
  | .int i => Q (.int i)
  | .bl b => Q (.int (if b then 1 else 0))
  | .str s => ∃ n, PySem.intText? s = some n ∧ s.length ≤ 640 ∧ Q (.int n)
  | _ => False
theorem cl_int : Cl1 C (.type "int") rIntF := by
  refine ⟨fun K x H Q => ((∃ i, x = .int i ∧ Q (.int i) H) ∨ ∃ k, x = .bl k ∧ Q (.int (if k then 1 else 0)) H) ∨ ∃ a n, x = .str a ∧ PySem.intText? a = some n ∧ a.length ≤ 640 ∧ Q (.int n) H, fun X hc => ?_, ?_⟩
  · intro pins s σ H xs us Q I r h
    obtain ⟨x, rfl, h⟩ := h
    rcases h with h | ⟨a, n, rfl, h1, h2, h3⟩
    · refine call_int1 pins s σ H _ us Q I r ?_
      rcases h with ⟨i, rfl, h⟩ | ⟨i, rfl, h⟩
      · exact .inl ⟨i, rfl, h⟩
      · exact .inr ⟨i, rfl, h⟩
    · exact call_int_str pins s σ H _ us Q I r ⟨a, n, rfl, h1, h2, h3⟩
  · intro F H f x vx Qd Q fl r h q
    cases x with
    | int i => cases r; exact .inl (.inl ⟨i, rfl, q _ _ F H NoA h rep_int .refl⟩)
    | bl i => cases r; exact .inl (.inr ⟨i, rfl, q _ _ F H NoA h rep_int .refl⟩)
    | str i => cases r; obtain ⟨n, h1, h2, h⟩ := h; exact .inr ⟨i, n, rfl, h1, h2, q _ _ F H NoA h rep_int .refl⟩
    | _ => exact (show False from h).elim
def rAbs (x : Dat) (Q : Dat → Prop) : Prop := match x with
  | .int i => Q (.int (if i < 0 then -i else i))
  | _ => False
theorem cl_abs : Cl1 C (.builtin "abs") rAbs := by
  refine ⟨fun K x H Q => ∃ i, x = .int i ∧ Q (.int (if i < 0 then -i else i)) H, fun X hc => ?_, ?_⟩
  · intro pins s σ H xs us Q I r h
    obtain ⟨x, rfl, i, rfl, h⟩ := h
    exact call_abs pins s σ H _ us Q I r ⟨i, rfl, h⟩
  · intro F H f x vx Qd Q fl r h q
    cases x with
    | int i => cases r; exact ⟨i, rfl, q _ _ F H NoA h rep_int .refl⟩
    | _ => exact (show False from h).elim
def rList (x : Dat) (Q : Dat → Prop) : Prop := match x with
  | .tup _ xs => frzs xs = xs ∧ Q (.lst true xs)
  | .lst _ xs => frzs xs = xs ∧ Q (.lst true xs)
  | .dct _ ks _ => Q (.lst true ks)
  | _ => False
theorem reps_keys (kvs : List (Key × V)) : Reps W F H NoA (kvs.map fun p => kD p.1) (kvs.map fun kv => kV kv.1) := by
  induction kvs with
  | nil => exact .nil fun _ z => z
  | cons p ps ih =>
    refine .cons (f1 := NoA) (f2 := NoA) ?_ ih (fun _ z => z.elim) fun a => ⟨fun z => z.elim, fun z => z.elim id id⟩
    obtain ⟨k, x⟩ := p
    cases k with
    | inl i => exact rep_int
    | inr x => exact rep_str
theorem cl_list : Cl1 C (.type "list") rList := by
  refine ⟨fun K x H Q => (∃ p ys, x = .ref p ∧ (SqL K H p ys ∨ SqT K H p ys) ∧ ∀ l, H l = none → Q (.ref l) (upd H l (.lst ys))) ∨ ∃ a kvs, x = .ref a ∧ Rd H a (.dK kvs) ∧ ∀ p, H p = none → Q (.ref p) (upd H p (.lst (kvs.map fun kv => kV kv.1))), fun X hc => ?_, ?_⟩
  · intro pins s σ H xs us Q I r h
    obtain ⟨x, rfl, h⟩ := h
    rcases h with ⟨p, ys, rfl, h⟩ | ⟨p, ys, rfl, h⟩
    · exact call_list_of pins s σ H _ us Q I r ⟨p, ys, rfl, h⟩
    · exact call_listD hc pins s σ H _ us Q I r ⟨p, ys, rfl, h⟩
  · intro F H f x vx Qd Q fl r h q
    cases x with
    | tup _ xs =>
      cases r with
      | tup s z r => exact .inl ⟨_, _, rfl, .inr s, fun l hl => have z := fresh_lst hl (fun z => fl l z hl) (r.fz h.1); q _ _ F _ _ h.2 z.1 z.2⟩
    | lst o xs =>
      obtain ⟨a, vs, g, rfl, s, r⟩ := seq_of r
      exact .inl ⟨_, _, rfl, .inl (.inl s), fun l hl => have z := fresh_lst hl (fun z => fl l z hl) (r.fz h.1); q _ _ F _ _ h.2 z.1 z.2⟩
    | dct o ks xs =>
      obtain ⟨a, kvs, g, rfl, s, rfl, r⟩ := dct_of r
      exact .inr ⟨_, _, rfl, s, fun l hl => have z := fresh_lst hl (fun z => fl l z hl) (reps_keys kvs); q _ _ F _ _ h z.1 z.2⟩
    | _ => exact (show False from h).elim
def rTuple (x : Dat) (Q : Dat → Prop) : Prop := match x with
  | .tup k xs => frzs xs = xs ∧ Q (.tup k xs)
  | .lst _ xs => frzs xs = xs ∧ Q (.tup .u xs)
  | _ => False
theorem cl_tuple : Cl1 C (.type "tuple") rTuple := by
  refine ⟨fun K x H Q => (∃ p ys, x = .ref p ∧ ((SqL K H p ys ∧ ∀ l, H l = none → Q (.ref l) (upd H l (.tup ys))) ∨ (SqT K H p ys ∧ Q (.ref p) H))), fun X hc => ?_, ?_⟩
  · intro pins s σ H xs us Q I r h
    obtain ⟨x, rfl, p, ys, rfl, h⟩ := h
    exact call_tuple_of pins s σ H _ us Q I r ⟨p, ys, rfl, h⟩
  · intro F H f x vx Qd Q fl r h q
    cases x with
    | tup _ xs =>
      cases r with
      | tup s z r => exact ⟨_, _, rfl, .inr ⟨s, q _ _ F H NoA h.2 (.tup s z (r.fz h.1)) .refl⟩⟩
    | lst o xs =>
      obtain ⟨a, vs, g, rfl, s, r⟩ := seq_of r
      exact ⟨_, _, rfl, .inl ⟨.inl s, fun l hl => have z := fresh_tup hl (r.fz h.1); q _ _ F _ _ h.2 z.1 z.2⟩⟩
    | _ => exact (show False from h).elim
/-- ascending ints -/
def insI (x : Int) : List Int → List Int
  | [] => [x]
  | y :: ys => if x ≤ y then x :: y :: ys else y :: insI x ys
def isort : List Int → List Int
  | [] => []
  | x :: xs => insI x (isort xs)
theorem insI_perm (x : Int) : ∀ ys, (insI x ys).Perm (x :: ys)
  | [] => .refl _
  | y :: ys => by
    unfold insI
    split
    · exact .refl _
    · exact (List.Perm.cons y (insI_perm x ys)).trans (.swap x y ys)
theorem isort_perm : ∀ xs, (isort xs).Perm xs
  | [] => .refl _
  | x :: xs => (insI_perm x _).trans (.cons x (isort_perm xs))
theorem insI_sorted (x : Int) : ∀ ys : List Int, ys.Pairwise (· ≤ ·) → (insI x ys).Pairwise (· ≤ ·)
  | [], _ => by simp [insI]
  | y :: ys, h => by
    unfold insI
    rw [List.pairwise_cons] at h
    split
    · rename_i hx
      rw [List.pairwise_cons, List.pairwise_cons]
      exact ⟨fun z hz => (List.mem_cons.mp hz).elim (fun e => e ▸ hx) fun hz => Int.le_trans hx (h.1 z hz), h⟩
    · rename_i hx
      rw [List.pairwise_cons]
      refine ⟨fun z hz => ?_, insI_sorted x ys h.2⟩
      rcases List.mem_cons.mp ((insI_perm x ys).mem_iff.mp hz) with e | hz
      · subst e; exact Int.le_of_lt (Int.not_le.mp hx)
      · exact h.1 z hz
theorem isort_sorted : ∀ xs : List Int, (isort xs).Pairwise (· ≤ ·)
  | [] => .nil
  | x :: xs => insI_sorted x _ (isort_sorted xs)
theorem isort_uniq {xs ys : List Int} (h : ys.Perm xs) (p : ys.Pairwise (· ≤ ·)) : ys = isort xs :=
  List.Perm.eq_of_pairwise (le := (· ≤ ·)) (fun a b _ _ h1 h2 => Int.le_antisymm h1 h2) p (isort_sorted xs) (h.trans (isort_perm xs).symm)
theorem Reps.ints : ∀ {ns : List Int} {f : AS} {vs : List V}, Reps W F H f (ns.map Dat.int) vs → vs = ns.map V.int
  | [], _, _, h => by cases h; rfl
  | n :: ns, _, _, h => by
    cases h with
    | cons r1 r2 _ _ => cases r1; rw [Reps.ints r2]; rfl
theorem reps_ints (ns : List Int) : Reps W F H NoA (ns.map Dat.int) (ns.map V.int) := by
  induction ns with
  | nil => exact .nil fun _ z => z
  | cons p ps ih => exact .cons (f1 := NoA) (f2 := NoA) rep_int ih (fun _ z => z.elim) fun a => ⟨fun z => z.elim, fun z => z.elim id id⟩
theorem Reps.strs : ∀ {ns : List Str} {f : AS} {vs : List V}, Reps W F H f (ns.map Dat.str) vs → vs = ns.map V.str
  | [], _, _, h => by cases h; rfl
  | n :: ns, _, _, h => by
    cases h with
    | cons r1 r2 _ _ => cases r1; rw [Reps.strs r2]; rfl
theorem reps_strs (ns : List Str) : Reps W F H NoA (ns.map Dat.str) (ns.map V.str) := by
  induction ns with
  | nil => exact .nil fun _ z => z
  | cons p ps ih => exact .cons (f1 := NoA) (f2 := NoA) rep_str ih (fun _ z => z.elim) fun a => ⟨fun z => z.elim, fun z => z.elim id id⟩
theorem Reps.bls : ∀ {ns : List Bool} {f : AS} {vs : List V}, Reps W F H f (ns.map Dat.bl) vs → vs = ns.map V.bl
  | [], _, _, h => by cases h; rfl
  | n :: ns, _, _, h => by
    cases h with
    | cons r1 r2 _ _ => cases r1; rw [Reps.bls r2]; rfl
def rSorted' (x : Dat) (Q : Dat → Prop) : Prop := match x with
  | .lst _ xs => (∃ ns : List Int, xs = ns.map .int ∧ Q (.lst true ((isort ns).map .int))) ∨ ∃ ns : List Str, xs = ns.map .str ∧ ns.length < 64 ∧ ∀ ys : List Str, ys.Perm ns → sortedS ys = true → Q (.lst true (ys.map .str))
  | .dct _ ks _ => (∃ ns : List Int, ks = ns.map .int ∧ ns.length < 64 ∧ Q (.lst true ((isort ns).map .int))) ∨ ∃ ns : List Str, ks = ns.map .str ∧ ns.length < 64 ∧ ∀ ys : List Str, ys.Perm ns → sortedS ys = true → Q (.lst true (ys.map .str))
  | _ => False
theorem keys_int : ∀ {kvs : List (Key × V)} {ns : List Int}, kvs.map (fun p => kD p.1) = ns.map Dat.int → kvs.map (·.1) = ns.map Sum.inl
  | [], [], _ => rfl
  | [], _ :: _, h => by cases h
  | _ :: _, [], h => by cases h
  | (k, _) :: ps, n :: ns, h => by
    rw [List.map_cons, List.map_cons] at h
    injection h with h1 h2
    cases k with
    | inl i => cases h1; rw [List.map_cons, List.map_cons, keys_int h2]
    | inr x => cases h1
theorem keys_str : ∀ {kvs : List (Key × V)} {ns : List Str}, kvs.map (fun p => kD p.1) = ns.map Dat.str → kvs.map (·.1) = ns.map Sum.inr
  | [], [], _ => rfl
  | [], _ :: _, h => by cases h
  | _ :: _, [], h => by cases h
  | (k, _) :: ps, n :: ns, h => by
    rw [List.map_cons, List.map_cons] at h
    injection h with h1 h2
    cases k with
    | inr i => cases h1; rw [List.map_cons, List.map_cons, keys_str h2]
    | inl x => cases h1
theorem cl_sorted : Cl1 C (.builtin "sorted") rSorted' := by
  refine ⟨fun K x H Q => (∃ (a : Addr) (ns : List Int), x = V.ref a ∧ SqL K H a (ns.map V.int) ∧ ∀ (ns' : List Int) (p : Addr), ns'.Perm ns → ns'.Pairwise (· ≤ ·) → H p = none → Q (.ref p) (upd H p (.lst (ns'.map V.int)))) ∨
    ((∃ (a : Addr) (xs : List Str), x = V.ref a ∧ SqL K H a (xs.map V.str) ∧ xs.length < 64 ∧ ∀ (ys : List Str) (p : Addr), ys.Perm xs → sortedS ys = true → H p = none → Q (.ref p) (upd H p (.lst (ys.map V.str)))) ∨
    ((∃ (a : Addr) (kvs : List (Key × V)) (ks : List Int), x = .ref a ∧ Rd H a (.dK kvs) ∧ kvs.map (·.1) = ks.map Sum.inl ∧ ks.length < 64 ∧ ∀ (ys : List Int) (p : Addr), ys.Perm ks → ys.Pairwise (· ≤ ·) → H p = none → Q (.ref p) (upd H p (.lst (ys.map V.int)))) ∨
    (∃ (a : Addr) (kvs : List (Key × V)) (ks : List Str), x = .ref a ∧ Rd H a (.dK kvs) ∧ kvs.map (·.1) = ks.map Sum.inr ∧ ks.length < 64 ∧ ∀ ys p, ys.Perm ks → sortedS ys = true → H p = none → Q (.ref p) (upd H p (.lst (ys.map V.str)))))), fun X hc => ?_, ?_⟩
  · intro pins s σ H xs us Q I r h
    obtain ⟨x, rfl, h⟩ := h
    rcases h with ⟨a, ns, rfl, h⟩ | ⟨a, ns, rfl, h⟩ | ⟨a, kvs, ns, rfl, h⟩ | ⟨a, kvs, ns, rfl, h⟩
    · exact cr_sortedI pins s σ H _ us Q I r ⟨a, ns, rfl, h⟩
    · exact cr_sortedS pins s σ H _ us Q I r ⟨a, ns, rfl, h⟩
    · exact call_sortedDI hc pins s σ H _ us Q I r ⟨a, kvs, ns, rfl, h⟩
    · exact call_sortedD hc pins s σ H _ us Q I r ⟨a, kvs, ns, rfl, h⟩
  · intro F H f x vx Qd Q fl r h q
    cases x with
    | lst o xs =>
      obtain ⟨a, vs, g, rfl, s, r⟩ := seq_of r
      rcases h with ⟨ns, rfl, h⟩ | ⟨ns, rfl, hl, h⟩
      · rw [r.ints] at s
        refine .inl ⟨a, ns, rfl, .inl s, fun ns' p hp hs hn => ?_⟩
        have e := isort_uniq hp hs
        subst e
        have z := fresh_lst hn (fun z => fl p z hn) (reps_ints (W := C.W) (F := F) (isort ns))
        exact q _ _ F _ _ h z.1 z.2
      · rw [r.strs] at s
        refine .inr (.inl ⟨a, ns, rfl, .inl s, hl, fun ys p hp hs hn => ?_⟩)
        have z := fresh_lst hn (fun z => fl p z hn) (reps_strs (W := C.W) (F := F) ys)
        exact q _ _ F _ _ (h ys hp hs) z.1 z.2
    | dct o ks xs =>
      obtain ⟨a, kvs, g, rfl, s, e, r⟩ := dct_of r
      rcases h with ⟨ns, rfl, hl, h⟩ | ⟨ns, rfl, hl, h⟩
      · refine .inr (.inr (.inl ⟨a, kvs, ns, rfl, s, keys_int e.symm, hl, fun ns' p hp hs hn => ?_⟩))
        have e := isort_uniq hp hs
        subst e
        have z := fresh_lst hn (fun z => fl p z hn) (reps_ints (W := C.W) (F := F) (isort ns))
        exact q _ _ F _ _ h z.1 z.2
      · refine .inr (.inr (.inr ⟨a, kvs, ns, rfl, s, keys_str e.symm, hl, fun ys p hp hs hn => ?_⟩))
        have z := fresh_lst hn (fun z => fl p z hn) (reps_strs (W := C.W) (F := F) ys)
        exact q _ _ F _ _ (h ys hp hs) z.1 z.2
    | _ => exact (show False from h).elim
def rBools (f : List Bool → Bool) (x : Dat) (Q : Dat → Prop) : Prop := match x with
  | .lst _ xs => ∃ bs : List Bool, xs = bs.map .bl ∧ Q (.bl (f bs))
  | _ => False
theorem cl_all : Cl1 C (.builtin "all") (rBools fun bs => bs.all id) := by
  refine ⟨fun K x H Q => ∃ (a : Addr) (bs : List Bool), x = V.ref a ∧ SqL K H a (bs.map V.bl) ∧ Q (.bl (bs.all id)) H, fun X hc => ?_, ?_⟩
  · intro pins s σ H xs us Q I r h
    obtain ⟨x, rfl, a, bs, rfl, h⟩ := h
    exact cr_all hc pins s σ H _ us Q I r ⟨a, bs, rfl, h⟩
  · intro F H f x vx Qd Q fl r h q
    cases x with
    | lst o xs =>
      obtain ⟨a, vs, g, rfl, s, r⟩ := seq_of r
      obtain ⟨bs, rfl, h⟩ := h
      rw [r.bls] at s
      exact ⟨a, bs, rfl, .inl s, q _ _ F H NoA h rep_bl .refl⟩
    | _ => exact (show False from h).elim
theorem cl_any : Cl1 C (.builtin "any") (rBools fun bs => bs.any id) := by
  refine ⟨fun K x H Q => ∃ (a : Addr) (bs : List Bool), x = V.ref a ∧ SqL K H a (bs.map V.bl) ∧ Q (.bl (bs.any id)) H, fun X hc => ?_, ?_⟩
  · intro pins s σ H xs us Q I r h
    obtain ⟨x, rfl, a, bs, rfl, h⟩ := h
    exact cr_any hc pins s σ H _ us Q I r ⟨a, bs, rfl, h⟩
  · intro F H f x vx Qd Q fl r h q
    cases x with
    | lst o xs =>
      obtain ⟨a, vs, g, rfl, s, r⟩ := seq_of r
      obtain ⟨bs, rfl, h⟩ := h
      rw [r.bls] at s
      exact ⟨a, bs, rfl, .inl s, q _ _ F H NoA h rep_bl .refl⟩
    | _ => exact (show False from h).elim
end
end M
namespace M
open PySem PySem.Spec PyProof.Rows L2
/-- what of the text a class of ours must have -/
structure ClsOk (C : Ctx) (c : Nat) : Prop where
  cls : ∀ A, C.mg (C.T.cn c) = some (.ref A) → Cls C.K A
  no : ∀ A, C.mg (C.T.cn c) = some (.ref A) → ∀ f ∈ C.T.fl c, NoAttr C.K A f
  nd : (C.T.fl c).Nodup
/-- a field's place in each class -/
structure Fld (C : Ctx) (f : Str) (g : Nat → Option Nat) : Prop where
  ok : ∀ c i, g c = some i → (C.T.fl c)[i]? = some f ∧ ClsOk C c
section
variable {C : Ctx} {W : Wd} {pr p1 p2 p3 : Bool} {F F' F1 F2 : AS} {H H' H1 H2 : Hp} {fp fp' fe fe1 fe2 fd fd1 fd2 : AS} {σ : L2.St} {env env1 env2 : Env} {d d1 d2 : Dat} {v v1 v2 : V}
variable {a b c o e : Expr} {pos p : Pos} {wa wb wc : LE} {ta tb : LT}
theorem zip_lookup : ∀ {fs : List (Str × V)} {ns : List Str} {i : Nat} {f : Str} {v : V}, fs.map (·.1) = ns.take fs.length → ns.Nodup → ns[i]? = some f → (fs.map (·.2))[i]? = some v → fs.lookup f = some v
  | [], _, _, _, _, _, _, _, h => by simp at h
  | (g, x) :: fs, [], _, _, _, h, _, h2, _ => by simp at h
  | (g, x) :: fs, n :: ns, 0, f, v, h, _, h2, h3 => by
    simp at h h2 h3
    obtain ⟨rfl, _⟩ := h
    subst h2 h3
    simp [List.lookup]
  | (g, x) :: fs, n :: ns, i + 1, f, v, h, nd, h2, h3 => by
    rw [List.nodup_cons] at nd
    simp at h h2 h3
    obtain ⟨rfl, h⟩ := h
    have ne : (f == g) = false := beq_eq_false_iff_ne.mpr fun e => nd.1 (e ▸ List.mem_of_getElem? h2)
    simp only [List.lookup, ne]
    exact zip_lookup (ns := ns) h nd.2 h2 (by simpa using h3)
def wFld (g : Nat → Option Nat) (w : LE) : LE := fun env Q => w env fun d env1 => match d with
  | .obj _ c vs => ∃ i x, g c = some i ∧ vs[i]? = some x ∧ Q x env1
  | _ => False
theorem obj_of {c : Nat} {xs : List Dat} {o : Bool} {f : AS} {vx : V} (r : Rep W F H f (.obj o c xs) vx) : ∃ a A dx fs g, vx = .ref a ∧ W.mg (W.T.cn c) = some (.ref A) ∧ H a = some (.ins A dx fs) ∧ fs.map (·.1) = (W.T.fl c).take xs.length ∧ Reps W F H g xs (fs.map (·.2)) := by
  cases r with
  | objF _ m s _ e r => exact ⟨_, _, _, _, _, rfl, m, s, e, r⟩
  | objO m s e r _ _ => exact ⟨_, _, _, _, _, rfl, m, s, e, r⟩
theorem jv_fld {f : Str} {g : Nat → Option Nat} {w : LE} (hf : Fld C f g) (h : JV C pr e w) (hb : ∀ env, attributeBase e f env (eval e env) = eval e env) : JV C pr (.Attribute e f pos) (wFld g w) := fun X gd =>
  PE_imp (pe_fld (h X gd) (hb _)) fun σ H Q ⟨F, fp, env, Qd, sl, ok, hw, q⟩ => by
    refine ⟨F, fp, env, _, sl, ok, hw, fun d env' F' H' fe fd v hd P => ?_⟩
    split at hd
    · rename_i o c vs
      obtain ⟨i, x, e1, e2, hd⟩ := hd
      obtain ⟨a, A, dx, fs, f2, rfl, m, s, ee, r⟩ := obj_of P.rep
      obtain ⟨k1, k2⟩ := hf.ok c i e1
      obtain ⟨v', f3, e3, r3, _⟩ := r.get e2
      have hl : vs.length = fs.length := by rw [r.length, List.length_map]
      have lk := zip_lookup (by rw [← hl]; exact ee) k2.nd k1 e3
      have mem : f ∈ C.T.fl c := List.mem_of_getElem? k1
      rw [gd.K]
      exact ⟨a, A, dx, fs, v', rfl, s, k2.cls A m, k2.no A m f mem, lk, q x env' F' H' fe f3 v' hd ⟨P.sl, r3, P.st, P.pu⟩⟩
    · exact hd.elim
def Op2v (W : Wd) (r2 : R2) (r : Dat → Dat → (Dat → Prop) → Prop) : Prop :=
  ∀ F H f1 f2 x y vx vy Qd (Q : VK), FL F H → Rep W F H f1 x vx → Rep W F H f2 y vy → r x y Qd → (∀ d v g, Qd d → Rep W F H g d v → Q v H) → r2 vx vy H Q
theorem lift2v {r2 : R2} {r : Dat → Dat → (Dat → Prop) → Prop} (o : Op2v W r2 r) {σ : L2.St} {H : Hp} {Q : VK} (h : liftV W (p1 && p2) (w2 p2 wa wb r) σ H Q) : tOp r2 (liftV W p1 wa) (liftV W p2 wb) σ H Q := by
  obtain ⟨F, fp, env, Qd, sl, ok, hw, q⟩ := h
  refine ⟨F, fp, env, _, sl, ok, hw, fun x env1 F1 H1 fe1 g1 v1 hb P1 => ?_⟩
  refine ⟨F1, fe1, env1, _, P1.sl, P1.st.ok, hb, fun y env2 F2 H2 fe2 g2 v2 hc P2 => ?_⟩
  refine o F2 H2 g1 g2 x y v1 v2 _ Q P2.st.ok.lv (P1.stay P2 hc.1) P2.rep hc.2 fun d v g hd r3 => ?_
  exact q d env2 F2 H2 fe2 g v hd (Pv.after P1.st P1.pu ⟨P2.sl, r3, P2.st, P2.pu⟩)
def lookD : List Dat → List Dat → Dat → Option Dat
  | k :: ks, v :: vs, x => if eqF k x = true then some v else lookD ks vs x
  | _, _, _ => none
theorem lookD_val (k : Key) : ∀ {kvs : List (Key × V)} {ds : List Dat} {f : AS} {d : Dat}, Reps W F H f ds (kvs.map (·.2)) → lookD (kvs.map fun p => kD p.1) ds (kD k) = some d → ∃ v g, valV kvs k = some v ∧ Rep W F H g d v
  | [], _, _, _, h, e => by cases h; cases e
  | (j, x) :: kvs, [], _, _, h, e => by cases h
  | (j, x) :: kvs, y :: ds, _, d, h, e => by
    cases h with
    | cons r1 r2 _ _ =>
      rw [List.map_cons] at e
      show ∃ v g, valV ((j, x) :: kvs) k = some v ∧ _
      by_cases hk : j = k
      · rw [show lookD (kD j :: kvs.map fun p => kD p.1) (y :: ds) (kD k) = some y by unfold lookD; rw [eqF_k, decide_eq_true hk]; rfl] at e
        cases e
        exact ⟨_, _, valV_pos hk, r1⟩
      · rw [show lookD (kD j :: kvs.map fun p => kD p.1) (y :: ds) (kD k) = lookD (kvs.map fun p => kD p.1) ds (kD k) by
          conv => lhs; unfold lookD
          rw [eqF_k, decide_eq_false hk]; rfl] at e
        rw [valV_neg hk]
        exact lookD_val k r2 e
theorem lookD_none (k : Key) : ∀ {kvs : List (Key × V)} {ds : List Dat} {f : AS}, Reps W F H f ds (kvs.map (·.2)) → lookD (kvs.map fun p => kD p.1) ds (kD k) = none → valV kvs k = none
  | [], _, _, h, e => rfl
  | (j, x) :: kvs, [], _, h, e => by cases h
  | (j, x) :: kvs, y :: ds, _, h, e => by
    cases h with
    | cons r1 r2 _ _ =>
      rw [List.map_cons] at e
      by_cases hk : j = k
      · rw [show lookD (kD j :: kvs.map fun p => kD p.1) (y :: ds) (kD k) = some y by unfold lookD; rw [eqF_k, decide_eq_true hk]; rfl] at e
        cases e
      · rw [show lookD (kD j :: kvs.map fun p => kD p.1) (y :: ds) (kD k) = lookD (kvs.map fun p => kD p.1) ds (kD k) by
          conv => lhs; unfold lookD
          rw [eqF_k, decide_eq_false hk]; rfl] at e
        rw [valV_neg hk]
        exact lookD_none k r2 e
def rIdx (x y : Dat) (Q : Dat → Prop) : Prop := match x with
  | .tup _ xs => ∃ i d, y = .int i ∧ atI xs i = some d ∧ Q d
  | .lst _ xs => ∃ i d, y = .int i ∧ atI xs i = some d ∧ Q d
  | .str z => ∃ i c, y = .int i ∧ z.length ≤ sizeLine ∧ atI z.cps.toList i = some c ∧ Q (.str ⟨#[c]⟩)
  | .dct _ ks vs => ∃ k d, keyIs y = some k ∧ lookD ks vs y = some d ∧ Q d
  | .scr ns => ∃ i n, y = .int i ∧ atI ns i = some n ∧ Q (.int n)
  | _ => False
theorem Reps.atI {xs : List Dat} {vs : List V} {i : Int} {d : Dat} (r : Reps W F H fp xs vs) (h : L2.atI xs i = some d) : ∃ v g, L2.atI vs i = some v ∧ Rep W F H g d v := by
  unfold L2.atI at h ⊢
  rw [← r.length]
  cases e : ixN xs.length i with
  | none => rw [e] at h; cases h
  | some j =>
    rw [e] at h
    obtain ⟨v, g, e1, r1, _⟩ := r.get (i := j) h
    exact ⟨v, g, e1, r1⟩
def rDgX : R2 := fun x y H Q => ∃ a v, x = .ref a ∧ DGet H a y (some v) ∧ Q v H
theorem ix_dct {X : Cx} (hu : X.A.units + 1 < cLine) : IxR X rDgX := by
  intro value slice pins s σ H x y v u Q I rx ry ⟨a, z, ex, g, q⟩ hs
  subst ex
  cases rx
  have hT := dict_typeIs I g
  unfold subscriptTail
  refine wpAny_bind ?_
  rw [getitemInPython_of_ne hT.not_modules]
  refine wpAny_bind (wpAny_specialOf hT PySem.F.slot_dict_getitem.lookup ?_)
  have fin : wpAny (model X.prog X.w) X.A (subscripted slice false (.ref a) u) (fun r s₃ => wpAny (model X.prog X.w) X.A (letTemporaryGo value (.ref a) r >>= fun _ => pure r) (EP X pins σ Q) X.xe s₃) X.xe s := by
    rw [hs]
    exact wpAny_operating (wpAny_mono (d_getItem hu I g ry fun w' s3 I3 rw' => (⟨z, H, I3, rw', q⟩ : EP X pins σ Q w' s3)) (fun r s₃ h₃ => wpAny_bind (wpAny_letTemporaryGo (wpAny_pure h₃))) fun _ _ x => x)
  first
    | exact wpAny_pure (wpAny_bind fin)
    | exact wpAny_bind (wpAny_pure (wpAny_bind fin))
    | exact wpAny_bind fin
def r2Ix (K : PySem.W.Frag) : R2 := fun x y H Q => rIx K x y H Q ∨ rDgX x y H Q
theorem o_idx : Op2v W (r2Ix W.K) rIdx := by
  intro F H f1 f2 x y vx vy Qd Q fl rx ry h q
  cases x with
  | tup _ xs =>
    obtain ⟨i, d, rfl, h1, h⟩ := h
    cases ry
    cases rx with
    | tup s _ r =>
      obtain ⟨v, g, e, r1⟩ := r.atI h1
      exact .inl (.inr (.inl ⟨_, _, i, v, rfl, rfl, s, e, q _ _ g h r1⟩))
  | lst o xs =>
    obtain ⟨i, d, rfl, h1, h⟩ := h
    cases ry
    obtain ⟨a, vs, g0, rfl, s, r⟩ := seq_of rx
    obtain ⟨v, g, e, r1⟩ := r.atI h1
    exact .inl (.inl ⟨_, _, i, v, rfl, rfl, .inl s, e, q _ _ g h r1⟩)
  | str z =>
    obtain ⟨i, c, rfl, hz, h1, h⟩ := h
    cases ry
    cases rx
    exact .inl (.inr (.inr ⟨z, i, c, rfl, rfl, hz, h1, q _ _ NoA h rep_str⟩))
  | dct o ks vs =>
    obtain ⟨k, d, ek, h1, h⟩ := h
    obtain ⟨rfl, rfl⟩ := keyIs_k ek ry
    obtain ⟨a, kvs, g, rfl, s, rfl, r⟩ := dct_of rx
    obtain ⟨v, g2, e, r1⟩ := lookD_val k r h1
    exact .inr ⟨a, v, rfl, .inl ⟨kvs, k, s, rfl, e.symm⟩, q _ _ g2 h r1⟩
  | scr ns =>
    obtain ⟨i, n, rfl, h1, h⟩ := h
    cases ry
    cases rx with
    | scr _ s =>
      have e : atI (ns.map V.int) i = some (.int n) := by
        unfold L2.atI at h1 ⊢
        rw [List.length_map]
        cases z : ixN ns.length i with
        | none => rw [z] at h1; cases h1
        | some j =>
          rw [z] at h1
          show (ns.map V.int)[j]? = _
          rw [List.getElem?_map]
          rw [show ns[j]? = some n from h1]; rfl
      exact .inl (.inl ⟨_, _, i, _, rfl, rfl, s.sq, e, q _ _ NoA h rep_int⟩)
  | _ => exact (show False from h).elim
theorem jv_idx (ha : JV C p1 a wa) (hb : JV C p2 b wb) (hs : PlainIx b) : JV C (p1 && p2) (.Subscript a b pos) (w2 p2 wa wb rIdx) := fun X g =>
  PE_imp (pe_ix (IxR.or ix_seq (ix_dct (by have := g.room.un; omega))) (ha X g) (hb X g) hs) fun σ H Q h => by
    rw [g.K]
    exact lift2v (r2 := r2Ix C.K) (W := C.W) o_idx h
abbrev LO := Env → (Option Int → Env → Prop) → Prop
/-- a part of a slice: nothing, or an int -/
def JO (C : Ctx) (pr : Bool) (e : Option Expr) (w : LO) : Prop := ∀ X, Gd C X → PO X e (fun σ H Q => ∃ F fp env Qd, Sl C.W F H fp env σ ∧ Ok C.W F H fp ∧ w env Qd ∧ ∀ i env' F' H' fe, Qd i env' → Pt C.W pr F H fp σ env' F' H' fe → Q i H')
def wNoPart : LO := fun env Q => Q none env
def wPart (w : LE) : LO := fun env Q => w env fun d env' => ∃ i, d = .int i ∧ Q (some i) env'
theorem PO_imp {X : Cx} {e : Option Expr} {t t' : TO} (h : PO X e t) (i : ∀ σ H Q, t' σ H Q → t σ H Q) : PO X e t' := ⟨fun pins s σ H Q I q => h.run pins s σ H Q I (i σ H Q q)⟩
theorem jo_none : JO C true none wNoPart := fun X g => PO_imp po_none fun σ H Q ⟨F, fp, env, Qd, sl, ok, hw, q⟩ => q none env F H fp hw ⟨sl, Step.refl ok, fun _ => Keep.rfl⟩
theorem jo_some (h : JV C pr e wa) : JO C pr (some e) (wPart wa) := fun X g => PO_imp (po_some (h X g)) fun σ H Q ⟨F, fp, env, Qd, sl, ok, hw, q⟩ => by
  refine ⟨F, fp, env, _, sl, ok, hw, fun d env' F' H' fe fd v hd P => ?_⟩
  obtain ⟨i, rfl, hd⟩ := hd
  have r := P.rep
  cases r
  exact ⟨i, rfl, q _ env' F' H' fe hd ⟨P.sl, P.st, P.pu⟩⟩
/-- the items of xs[lo:hi] -/
def cutD (xs : List Dat) (lo hi : Option Int) : List Dat := (xs.drop (HT.sIx xs.length 0 lo)).take (HT.sIx xs.length xs.length hi - HT.sIx xs.length 0 lo)
def rSl (x : Dat) (lo hi : Option Int) (Q : Dat → Prop) : Prop := match x with
  | .tup _ xs => frzs xs = xs ∧ Q (.tup .u (cutD xs lo hi))
  | .lst _ xs => frzs xs = xs ∧ Q (.lst true (cutD xs lo hi))
  | .scr ns => Q (.lst true (cutD (ns.map .int) lo hi))
  | _ => False
theorem Reps.drop : ∀ (n : Nat) {ds : List Dat} {vs : List V}, Reps W F H NoA ds vs → Reps W F H NoA (ds.drop n) (vs.drop n)
  | 0, _, _, h => h
  | n + 1, [], _, h => by cases h; exact .nil fun _ z => z
  | n + 1, d :: ds, _, h => by
    cases h with
    | cons r1 r2 m i => exact Reps.drop n (Reps.eqv _ _ _ _ r2 fun a => ⟨fun z => z.elim, fun z => (i a).mpr (.inr z)⟩)
theorem Reps.take : ∀ (n : Nat) {ds : List Dat} {vs : List V}, Reps W F H NoA ds vs → Reps W F H NoA (ds.take n) (vs.take n)
  | 0, _, _, h => .nil fun _ z => z
  | n + 1, [], _, h => by cases h; exact .nil fun _ z => z
  | n + 1, d :: ds, _, h => by
    cases h with
    | cons r1 r2 m i => exact .cons (f1 := NoA) (f2 := NoA) (Rep.eqv _ _ _ _ r1 fun a => ⟨fun z => z.elim, fun z => (i a).mpr (.inl z)⟩) (Reps.take n (Reps.eqv _ _ _ _ r2 fun a => ⟨fun z => z.elim, fun z => (i a).mpr (.inr z)⟩)) (fun _ z => z.elim) fun a => ⟨fun z => z.elim, fun z => z.elim id id⟩
theorem Reps.cut {xs : List Dat} {vs : List V} (r : Reps W F H NoA xs vs) (lo hi : Option Int) : Reps W F H NoA (cutD xs lo hi) (cutV vs lo hi) := by
  unfold cutD cutV
  rw [r.length]
  exact (r.drop _).take _
def wSl (ph : Bool) (wa : LE) (wl wh : LO) : LE := fun env Q => wa env fun x e1 => wl e1 fun l e2 => wh e2 fun h e3 => (ph = true ∨ Fz x) ∧ rSl x l h fun d => Q d e3
theorem je_slice {lo hi : Option Expr} {pp : Pos} {wl wh : LO} (ha : JV C p1 a wa) (hl : JO C p2 lo wl) (hh : JO C p3 hi wh) : JE C (p1 && (p2 && p3)) (.Subscript a (.Slice lo hi none pp) pos) (wSl (p2 && p3) wa wl wh) := fun X g =>
  PE_imp (pe_slice (SlR.or sl_tupA sl_list) (ha X g) (hl X g) (hh X g)) fun σ H Q ⟨F, fp, env, Qd, sl, ok, hw, q⟩ => by
    refine ⟨F, fp, env, _, sl, ok, hw, fun x env1 F1 H1 fe1 g1 v1 h1 P1 => ?_⟩
    refine ⟨F1, fe1, env1, _, P1.sl, P1.st.ok, h1, fun l env2 F2 H2 fe2 h2 P2 => ?_⟩
    refine ⟨F2, fe2, env2, _, P2.sl, P2.st.ok, h2, fun h env3 F3 H3 fe3 h3 P3 => ?_⟩
    obtain ⟨cnd, h3⟩ := h3
    have P23 : Pt C.W (p2 && p3) F1 H1 fe1 σ env3 F3 H3 fe3 := P3.after P2.st P2.pu
    have rx : Rep C.W F3 H3 g1 x v1 := by
      rcases cnd with c | c
      · exact P1.rep.kept P23.st.fx (P23.pu c)
      · exact P1.rep.step P23.st P1.st.ok fun a z => absurd z (P1.em c a)
    have fin : ∀ d v F4 H4 g4, Qd d env3 → Rep C.W F4 H4 g4 d v → Fresh F3 H3 F4 H4 g4 → Q v H4 := fun d v F4 H4 g4 hd r4 fr => by
      have P4 := fr.po P23.st.ok P23.sl r4
      exact q d env3 F4 H4 fe3 g4 v hd ((P4.after (P1.st.trans P23.st) (p1 := p1 && (p2 && p3)) fun z => have k := and_pure P1.pu P23.pu z; Keep.trans k.1 k.2).cast fun z => by rw [z]; rfl)
    unfold rSl at h3
    rw [g.K]
    split at h3
    · rename_i k xs
      cases rx with
      | @tup _ a vs _ _ s _ r =>
        have r := r.fz h3.1
        refine .inl ⟨a, vs, rfl, s, fun w => ?_, fun w p hp => ?_⟩
        · have e : cutD xs l h = xs := by
            unfold cutD
            rw [r.length, w.1, w.2, ← r.length]
            simp
          rw [e] at h3
          exact fin _ _ F3 H3 NoA h3.2 (.tup s True.intro r) .refl
        · have z := fresh_tup hp (r.cut l h)
          exact fin _ _ F3 _ _ h3.2 z.1 z.2
    · rename_i o xs
      obtain ⟨a, vs, g0, rfl, s, r⟩ := seq_of rx
      have r := r.fz h3.1
      refine .inr ⟨a, vs, rfl, .inl s, fun p hp => ?_⟩
      have z := fresh_lst hp (fun z => P23.st.ok.lv p z hp) (r.cut l h)
      exact fin _ _ F3 _ _ h3.2 z.1 z.2
    · rename_i ns
      cases rx with
      | @scr _ a _ _ s =>
        refine .inr ⟨a, _, rfl, s.sq, fun p hp => ?_⟩
        have z := fresh_lst hp (fun z => P23.st.ok.lv p z hp) ((reps_ints (W := C.W) (F := F3) (H := H3) ns).cut l h)
        exact fin _ _ F3 _ _ h3 z.1 z.2
    · exact h3.elim
end
end M
namespace M
open PySem PySem.Spec PyProof.Rows L2
section
variable {C : Ctx} {W : Wd} {pr p1 p2 p3 : Bool} {F F' F1 F2 : AS} {H H' H1 H2 : Hp} {fp fp' fe fe1 fe2 fd fd1 fd2 : AS} {σ : L2.St} {env env1 env2 : Env} {d d1 d2 : Dat} {v v1 v2 : V}
variable {a b c o e : Expr} {pos p : Pos} {wa wb wc : LE} {ta tb : LT}
theorem call_tupleK {X : Cx} : CallR X (.type "tuple") (fun xs H Q => ∃ p ys, xs = [.ref p] ∧ SqL X.K H p ys ∧ ∀ l ob, ob.dict = none → H l = none → Q (.ref l) (upd H l (.frz ob (.tup ys)))) := by
  intro pins s σ H xs us Q I r h
  obtain ⟨p, ys, rfl, hq, q⟩ := h
  obtain ⟨u, rfl, rx⟩ := vals1 r
  cases rx
  obtain ⟨its, r', pl, hz⟩ := I.list hq
  have hlen := r'.length
  refine call_tuple_list pl.isList (fun h' kp => ?_) (by simp only [List.size_toArray] <;> omega)
  have I1 : Inv X pins σ H { s with heap := h' } := I.kept (t' := s.toks) kp
  have I2 : Inv X pins σ (upd H h'.objs.size (.frz { cls := .type "tuple", data := .seq its.toArray } (.tup ys))) { s with heap := h'.push { cls := .type "tuple", data := .seq its.toArray } } :=
    I1.laid (t' := s.toks) (fun b o e => Heap.get?_push_of_some _ e) (Nat.le_refl _) (show ObjOk X.prog X.w _ _ _ (.frz _ (.tup ys)) from ⟨Heap.get?_push_size _ rfl, hz, its, r', IsTup.new _ _⟩)
  exact ⟨.ref h'.objs.size, _, I2, rfl, q _ _ rfl (I1.hok.fresh (Nat.le_refl _))⟩
theorem fresh_tupK {ds : List Dat} {vs : List V} {p : Addr} {ob : Obj} (hb : ob.dict = none) (h : H p = none) (r : Reps W F H NoA ds vs) : Rep W F (upd H p (.frz ob (.tup vs))) NoA (.tup .b ds) (.ref p) ∧ Fresh F H F (upd H p (.frz ob (.tup vs))) NoA :=
  ⟨.tup (.inl (.inr ⟨ob, upd_same⟩)) (.inl ⟨ob, _, upd_same, hb⟩) (r.kept (fun _ z => z) (keep_upd h)), ⟨keep_upd h, Tgo.new h (fun _ z => nomatch z), fun _ z => z, fun _ z => .inl z, fun _ z => z.elim, fun _ z => z.elim⟩⟩
def rTupleK (x : Dat) (Q : Dat → Prop) : Prop := match x with
  | .lst _ xs => frzs xs = xs ∧ Q (.tup .b xs)
  | _ => False
theorem cl_tupleK : Cl1 C (.type "tuple") rTupleK := by
  refine ⟨fun K x H Q => ∃ p ys, x = .ref p ∧ SqL K H p ys ∧ ∀ l ob, ob.dict = none → H l = none → Q (.ref l) (upd H l (.frz ob (.tup ys))), fun X hc => ?_, ?_⟩
  · intro pins s σ H xs us Q I r h
    obtain ⟨x, rfl, p, ys, rfl, h⟩ := h
    exact call_tupleK pins s σ H _ us Q I r ⟨p, ys, rfl, h⟩
  · intro F H f x vx Qd Q fl r h q
    cases x with
    | lst o xs =>
      obtain ⟨a, vs, g, rfl, s, r⟩ := seq_of r
      exact ⟨_, _, rfl, .inl s, fun l ob hb hl => have z := fresh_tupK hb hl (r.fz h.1); q _ _ F _ _ h.2 z.1 z.2⟩
    | _ => exact (show False from h).elim
def Cl2 (C : Ctx) (f : Value) (r : Dat → Dat → (Dat → Prop) → Prop) : Prop := ∃ r2 : PySem.W.Frag → R2, (∀ X, X.calm = true → CallR X f (fun vs H Q => ∃ x y, vs = [x, y] ∧ r2 X.K x y H Q)) ∧ Op2 C.W (r2 C.K) r
theorem je_b2 {x : Str} {id : String} {r : Dat → Dat → (Dat → Prop) → Prop} (o : Cl2 C (.builtin id) r) (hm : C.mg x = none) (hv : bootBuiltins x = some (.builtin id)) (hg : C.sc.names.lookup x = some .globalImplicit) (ha : JV C p1 a wa) (hb : JV C p2 b wb)
    (hn : x ≠ "__name__") (hdb : (x == ("__debug__" : Str)) = false) (hs : ∀ env, starEach [a, b] env = (false, eval a env) :: starEach [b] env) (hs2 : ∀ env, starEach [b] env = (false, eval b env) :: starEach [] env) (hpl : ∀ env, (backTo pos (starEach [b] env)).any (·.1) = false) (hh : C.hot = false := by rfl) :
    JE C (p1 && p2) (.Call (.Name x p) [a, b] [] pos) (w2 p2 wa wb r) := fun X g => by
  obtain ⟨r2, hc, ho⟩ := o
  refine PE_imp (pe_callB (hc X (g.calm' hh)) (gl_of g hg) (by rw [g.mg]; exact hm) hv (pa_cons (ha X g) (pa_cons (hb X g) pa_nil (hs2 _)) (hs _)) hn hdb (hs _) (hpl _)) fun σ H Q h => ?_
  rw [g.K]
  have k := lift2 ho σ H Q h
  obtain ⟨F, fp, env, Qd, sl, ok, hw, q⟩ := k
  refine ⟨F, fp, env, Qd, sl, ok, hw, fun d env' F' H' fe fd v hd P => ?_⟩
  obtain ⟨F, fp, env, Qd, sl, ok, hw, q⟩ := q d env' F' H' fe fd v hd P
  exact ⟨F, fp, env, Qd, sl, ok, hw, fun d2 env2 F2 H2 fe2 fd2 v2 hd2 P2 => ⟨v, v2, rfl, q d2 env2 F2 H2 fe2 fd2 v2 hd2 P2⟩⟩
def rDivmod : Dat → Dat → (Dat → Prop) → Prop
  | .int i, .int j, Q => CDiv i j ∧ Q (.tup .u [.int (i / j), .int (i % j)])
  | _, _, _ => False
theorem reps2 {x y : Dat} {v w : V} (h : Rep W F H NoA x v) (k : Rep W F H NoA y w) : Reps W F H NoA [x, y] [v, w] :=
  .cons (f1 := NoA) (f2 := NoA) h (.cons (f1 := NoA) (f2 := NoA) k (.nil fun _ z => z) (fun _ z => z.elim) fun a => ⟨fun z => z.elim, fun z => z.elim id id⟩) (fun _ z => z.elim) fun a => ⟨fun z => z.elim, fun z => z.elim id id⟩
theorem cl_divmod : Cl2 C (.builtin "divmod") rDivmod := by
  refine ⟨fun K x y H Q => ∃ i j, x = .int i ∧ y = .int j ∧ CDiv i j ∧ ∀ p, H p = none → Q (.ref p) (upd H p (.tup [.int (i / j), .int (i % j)])), fun X hc => ?_, ?_⟩
  · intro pins s σ H xs us Q I r h
    obtain ⟨x, y, rfl, i, j, rfl, rfl, h⟩ := h
    exact call_divmod pins s σ H _ us Q I r ⟨i, j, rfl, h⟩
  · intro F H f1 f2 x y vx vy Qd Q fl rx ry h q
    cases x with
    | int i =>
      cases y with
      | int j =>
        cases rx; cases ry
        refine ⟨i, j, rfl, rfl, h.1, fun p hp => ?_⟩
        have z := fresh_tup hp (reps2 (W := C.W) (F := F) (rep_int (i := i / j)) (rep_int (i := i % j)))
        exact q _ _ F _ _ h.2 z.1 z.2
      | _ => exact (show False from h).elim
    | _ => cases y <;> exact (show False from h).elim
theorem cl_max2 : Cl2 C (.builtin "max") (rInt (fun _ _ => True) fun i j => .int (if j > i then j else i)) :=
  ⟨fun _ => rI (fun _ _ => True) fun i j => .int (if j > i then j else i), fun X hc pins s σ H xs us Q I r h => by
    obtain ⟨x, y, rfl, i, j, rfl, rfl, _, h⟩ := h
    exact call_max2 hc pins s σ H _ us Q I r ⟨i, j, rfl, h⟩, o_int fun _ _ _ _ => rep_int⟩
theorem cl_min2 : Cl2 C (.builtin "min") (rInt (fun _ _ => True) fun i j => .int (if j < i then j else i)) :=
  ⟨fun _ => rI (fun _ _ => True) fun i j => .int (if j < i then j else i), fun X hc pins s σ H xs us Q I r h => by
    obtain ⟨x, y, rfl, i, j, rfl, rfl, _, h⟩ := h
    exact call_min2 hc pins s σ H _ us Q I r ⟨i, j, rfl, h⟩, o_int fun _ _ _ _ => rep_int⟩
def tyN : Dat → Option String
  | .non => some "NoneType" | .bl _ => some "bool" | .int _ => some "int" | .str _ => some "str"
  | .tup _ _ => some "tuple" | .lst _ _ => some "list" | .dct _ _ _ => some "dict"
  | _ => none
/-- isinstance(_, u) answered by f -/
structure Isi (C : Ctx) (u : Value) (f : Dat → Option Bool) : Prop where
  ok : ∀ F H fp d v b, Rep C.W F H fp d v → f d = some b → ∃ t, TyX C.K H v t ∧ PySem.W.kitOne C.K t u = some b
theorem tyN_ok {t : String} (r : Rep W F H fp d v) (h : tyN d = some t) : TyX W.K H v (.type t) := by
  cases r with
  | non _ => cases h; exact .base .non
  | bl _ _ => cases h; exact .base (.bl _)
  | int _ _ => cases h; exact .base (.int _)
  | str _ _ => cases h; exact .base (.str _)
  | tup s _ _ =>
    cases h
    rcases s with (s | ⟨o, s⟩) | ⟨o, its, n, e, hc, _⟩
    · exact .base (.tup s)
    · exact .fTuple s
    · exact .kTuple e hc
  | lstF _ s _ _ =>
    cases h
    rcases s with s | ⟨o, s⟩
    · exact .base (.lst s)
    · exact .base (.frz s)
  | lstO s _ _ _ => cases h; exact .base (.lst s)
  | dctF _ s _ _ _ =>
    cases h
    rcases s with s | ⟨o, s⟩
    · exact .base (.dK s)
    · exact .fDict s
  | dctO s _ _ _ _ => cases h; exact .base (.dK s)
  | _ => cases h
theorem isi_ty {T : String} : Isi C (.type T) (fun d => (tyN d).bind fun t => kitB t T) := ⟨fun F H fp d v b r h => by
  cases e : tyN d with
  | none => rw [e] at h; cases h
  | some t => rw [e] at h; exact ⟨_, tyN_ok r e, kit_ty h⟩⟩
def rIsi (f : Dat → Option Bool) (x : Dat) (Q : Dat → Prop) : Prop := ∃ b, f x = some b ∧ Q (.bl b)
/-- isinstance(e, T): T a built-in type, or a class of ours -/
theorem je_isi {x : Str} {q : Pos} {u : Value} {cv : V} {f : Dat → Option Bool} {xp : Pos} (hi : Isi C u f) (hc : ClsV cv u) (hT : (C.mg x = none ∧ bootBuiltins x = some u ∧ x ≠ "__name__") ∨ C.mg x = some u) (hgx : C.sc.names.lookup x = some .globalImplicit) (hdx : (x == ("__debug__" : Str)) = false)
    (hm : C.mg ("isinstance" : Str) = none) (hg : C.sc.names.lookup ("isinstance" : Str) = some .globalImplicit) (ha : JV C pr a wa)
    (hs : ∀ env, starEach [a, .Name x xp] env = (false, eval a env) :: starEach [.Name x xp] env) (hpl : ∀ env, (backTo pos (starEach [.Name x xp] env)).any (·.1) = false) :
    JE C pr (.Call (.Name "isinstance" p) [a, .Name x xp] [] pos) (w1 wa (rIsi f)) := fun X g => by
  have rel : RelV cv u := by cases hc <;> rfl
  have pn : PE X (.Name x xp) (tC cv) := by
    rcases hT with ⟨h1, h2, h3⟩ | h1
    · exact pe_bltn (gl_of g hgx) (by rw [g.mg]; exact h1) h2 rel h3 hdx
    · exact pe_glob (gl_of g hgx) (by rw [g.mg]; exact h1) rel hdx
  refine PE_imp (pe_callB call_isi (gl_of g hg) (by rw [g.mg]; exact hm) (by rfl) (pa_cons (ha X g) (pa_cons pn pa_nil) (hs _)) (by decide) (by decide) (hs _) (hpl _)) fun σ H Q h => ?_
  rw [g.K]
  obtain ⟨F, fp, env, Qd, sl, ok, hw, q⟩ := h
  refine ⟨F, fp, env, _, sl, ok, hw, fun d env' F' H' fe fd v hd P => ?_⟩
  obtain ⟨b, hb, hd⟩ := hd
  obtain ⟨t, h1, h2⟩ := hi.ok _ _ _ _ _ _ P.rep hb
  exact ⟨v, cv, t, u, b, rfl, hc, h1, h2, q _ env' F' H' fe NoA _ hd (po_bl P)⟩
/-- a value of a built-in type whose object has no dict -/
def TyB (C : Ctx) (T : String) (f : Dat → Prop) : Prop := ∀ {X : Cx} {pins : List (Addr × Obj)} {σ : L2.St} {H : Hp} {s : Shared} {F : AS} {fp : AS} {d : Dat} {v : V} {u : Value}, X.K = C.K → Inv X pins σ H s → Rep C.W F H fp d v → RelV v u → f d →
  s.TypeIs u T ∧ ∀ a, u = .ref a → ∃ ob, s.heap.get? a = some ob ∧ ob.dict = none
def isStr : Dat → Prop | .str _ => True | _ => False
def isLst : Dat → Prop | .lst _ _ => True | _ => False
def isTupK : Dat → Prop | .tup .b _ => True | _ => False
theorem ty_str : TyB C "str" isStr := by
  intro X pins σ H s F fp d v u hK I r ru h
  cases r <;> first
    | (obtain ⟨t, rfl⟩ := ru; exact ⟨typeIs_str s _ t, fun _ e => nomatch e⟩)
    | exact (show False from h).elim
theorem ty_lst : TyB C "list" isLst := by
  intro X pins σ H s F fp d v u hK I r ru h
  cases d with
  | lst o xs =>
    obtain ⟨a, vs, g, rfl, s', r⟩ := seq_of r
    cases ru
    obtain ⟨_, its, n, _, _, e⟩ := rd_lst I s'
    refine ⟨⟨_, e, rfl⟩, fun b q => ?_⟩
    cases q
    exact ⟨_, e, rfl⟩
  | _ => exact (show False from h).elim
theorem ty_tup : TyB C "tuple" isTupK := by
  intro X pins σ H s F fp d v u hK I r ru h
  cases d with
  | tup k xs =>
    cases k with
    | u => exact (show False from h).elim
    | p => exact (show False from h).elim
    | b =>
      cases r with
      | tup s' z r =>
        cases ru
        obtain ⟨its, _, ht, _⟩ := I.tuple (by rw [hK]; exact s')
        refine ⟨ht.typeIs, fun b q => ?_⟩
        cases q
        rcases (show Bare _ _ _ from z) with ⟨o, u, e, hd⟩ | ⟨o, e, hc, hd⟩
        · have q : ObjOk X.prog X.w _ _ _ (.frz o (.tup u)) := I.hok _ _ e
          exact ⟨o, q.1, hd⟩
        · exact ⟨o, I.kIn _ o (by rw [hK]; exact e), hd⟩
  | _ => exact (show False from h).elim
/-- o.m(e), m a method of a built-in type -/
theorem pe_bmX {X : Cx} {T id : String} {name : Str} {apos cpos : Pos} {to : TE} {te : TE} {r : V → List V → Hp → VK → Prop} (ty : V → Hp → Prop)
    (hty : ∀ {pins : List (Addr × Obj)} {σ : L2.St} {H : Hp} {s : Shared} {v : V} {u : Value}, Inv X pins σ H s → RelV v u → ty v H → s.TypeIs u T ∧ ∀ a, u = .ref a → ∃ ob, s.heap.get? a = some ob ∧ ob.dict = none)
    (pa : PlainAttrs T) (slot : Slot T name id) (hmd : typeOf (.builtin id) = pure (.type "method_descriptor")) (hm : MtR X id r) (ho : PE X o to) (ha : PE X e te)
    (hbase : attributeBase o name X.env (eval o X.env) = eval o X.env)
    (hfew : ((backTo cpos (starEach [e] X.env)).all (fun x => !x.1) && (backToKw cpos (keywordEach [] X.env)).all (fun x => x.1.isSome)
      && decide (([e] : List Expr).length + ([] : List Keyword).length + (if ([] : List Keyword).isEmpty then 0 else 1) < 30)) = true)
    (hline : (apos.endLine == cpos.line) = true) (hs : starEach [e] X.env = (false, eval e X.env) :: starEach [] X.env) (hplain : (backTo cpos (starEach [] X.env)).any (·.1) = false) :
    PE X (.Call (.Attribute o name apos) [e] [] cpos) (fun σ H Q => to σ H fun x H1 => ty x H1 ∧ te σ H1 fun y H2 => r x [y] H2 Q) := by
  refine ⟨fun pins s σ H Q I h => ?_⟩
  refine wpAny_Call_method_late hbase hfew hline rfl (thn (ho.run pins s σ H _ I h) fun v s1 ⟨x, H1, I1, r1, t1, q1⟩ => ?_)
  obtain ⟨h1, h2⟩ := hty I1 r1 t1
  refine ⟨T, id, pa, slot, hmd, h1, h2, ?_⟩
  have hA := (pa_cons ha pa_nil hs).run cpos pins s1 σ H1 (fun ys H2 => r x ys H2 Q) I1 q1
  rw [hs] at hA ⊢
  refine Calls.callWith_builtin (by show (false || (backTo cpos (starEach [] X.env)).any (·.1)) = false; rw [hplain] <;> rfl) (Calls.evalArgs_plain ?_)
  exact thn hA fun us s2 ⟨vs, H2, I2, r2, q2⟩ => hm pins s2 σ H2 x vs v us Q I2 r1 r2 q2
def wM (f : Dat → Prop) (p2 : Bool) (wa wb : LE) (r : Dat → Dat → (Dat → Prop) → Prop) : LE := fun env Q => wa env fun x e1 => f x ∧ wb e1 fun y e2 => (p2 = true ∨ Fz x) ∧ r x y fun d => Q d e2
/-- a method of a built-in type -/
structure Mt (C : Ctx) (T name id : String) (f : Dat → Prop) (rd : Dat → Dat → (Dat → Prop) → Prop) : Prop where
  ty : TyB C T f
  pa : PlainAttrs T
  slot : Slot T name id
  hmd : typeOf (.builtin id) = pure (.type "method_descriptor")
  ex : ∃ r : PySem.W.Frag → V → List V → Hp → VK → Prop, (∀ X, X.A.units + 65 < cLine → MtR X id (r X.K)) ∧ Op2 C.W (fun x y H Q => r C.K x [y] H Q) rd
theorem je_m1 {T id name : String} {nm : Str} {apos cpos : Pos} {f : Dat → Prop} {rd : Dat → Dat → (Dat → Prop) → Prop} (m : Mt C T name id f rd) (en : nm = (name : Str)) (ho : JV C p1 o wa) (ha : JV C p2 e wb)
    (hbase : ∀ env, attributeBase o nm env (eval o env) = eval o env)
    (hfew : ∀ env, ((backTo cpos (starEach [e] env)).all (fun x => !x.1) && (backToKw cpos (keywordEach [] env)).all (fun x => x.1.isSome)
      && decide (([e] : List Expr).length + ([] : List Keyword).length + (if ([] : List Keyword).isEmpty then 0 else 1) < 30)) = true)
    (hline : (apos.endLine == cpos.line) = true) (hs : ∀ env, starEach [e] env = (false, eval e env) :: starEach [] env) (hplain : ∀ env, (backTo cpos (starEach [] env)).any (·.1) = false) :
    JE C (p1 && p2) (.Call (.Attribute o nm apos) [e] [] cpos) (wM f p2 wa wb rd) := fun X g => by
  subst en
  obtain ⟨r, hm, ho2⟩ := m.ex
  refine PE_imp (pe_bmX (fun v H => ∃ F fp d, Rep C.W F H fp d v ∧ f d) (fun I ru ⟨F, fp, d, rd, fd⟩ => m.ty g.K I rd ru fd) m.pa m.slot m.hmd (hm X (by have := g.room.un; omega)) (ho X g) (ha X g) (hbase _) (hfew _) hline (hs _) (hplain _)) fun σ H Q h => ?_
  rw [g.K]
  obtain ⟨F, fp, env, Qd, sl, ok, hw, q⟩ := h
  refine ⟨F, fp, env, _, sl, ok, hw, fun x env1 F1 H1 fe1 g1 v1 hb P1 => ⟨⟨F1, g1, x, P1.rep, hb.1⟩, ?_⟩⟩
  refine ⟨F1, fe1, env1, _, P1.sl, P1.st.ok, hb.2, fun y env2 F2 H2 fe2 g2 v2 hc P2 => ?_⟩
  refine ho2 F2 H2 g1 g2 x y v1 v2 _ Q P2.st.ok.lv (P1.stay P2 hc.1) P2.rep hc.2 fun d v F3 H3 g3 hd r3 fr => ?_
  have P3 := fr.po P2.st.ok P2.sl r3
  exact q d env2 F3 H3 fe2 g3 v hd ((P3.after (P1.st.trans P2.st) (p1 := p1 && p2) fun z => have k := and_pure P1.pu P2.pu z; Keep.trans k.1 k.2).cast fun z => by rw [z]; rfl)
def rSplit : Dat → Dat → (Dat → Prop) → Prop
  | .str a, .str b, Q => (b.length == 0) = false ∧ a.length + 2 ≤ sizeLine ∧ Q (.lst true ((Txt.split a b).map .str))
  | _, _, _ => False
theorem m_split : Mt C "str" "split" "str.split" isStr rSplit where
  ty := ty_str
  pa := PySem.F.plainAttrs_str
  slot := PySem.F.slot_str_split
  hmd := PySem.F.type_str_split
  ex := ⟨fun K x xs H Q => ∃ a b, x = .str a ∧ xs = [.str b] ∧ (b.length == 0) = false ∧ a.length + 2 ≤ sizeLine ∧ rNewStrs (Txt.split a b) H Q, fun X h => mt_split, by
    intro F H f1 f2 x y vx vy Qd Q fl rx ry h q
    cases x with
    | str a =>
      cases y with
      | str b =>
        cases rx; cases ry
        refine ⟨a, b, rfl, rfl, h.1, h.2.1, fun p hp => ?_⟩
        have z := fresh_lst hp (fun z => fl p z hp) (reps_strs (W := C.W) (F := F) (Txt.split a b))
        exact q _ _ F _ _ h.2.2 z.1 z.2
      | _ => exact (show False from h).elim
    | _ => cases y <;> exact (show False from h).elim⟩
def rJoin (x y : Dat) (Q : Dat → Prop) : Prop := match x with
  | .str a => ∃ ys : List Str, ((∃ o, y = .lst o (ys.map .str)) ∨ ∃ k, y = .tup k (ys.map .str)) ∧ (ys.map (·.length)).sum + ys.length * a.length ≤ 16777216 ∧ Q (.str (Txt.join a ys))
  | _ => False
theorem m_join : Mt C "str" "join" "str.join" isStr rJoin where
  ty := ty_str
  pa := PySem.F.plainAttrs_str
  slot := PySem.F.slot_str_join
  hmd := PySem.F.type_str_join
  ex := ⟨fun K x xs H Q => ∃ a p, ∃ ys : List Str, x = .str a ∧ xs = [.ref p] ∧ (SqL K H p (ys.map V.str) ∨ SqT K H p (ys.map V.str)) ∧ (ys.map (·.length)).sum + ys.length * a.length ≤ 16777216 ∧ Q (.str (Txt.join a ys)) H, fun X h => mt_join, by
    intro F H f1 f2 x y vx vy Qd Q fl rx ry h q
    cases x with
    | str a =>
      cases rx
      obtain ⟨ys, hy, hz, h⟩ := h
      rcases hy with ⟨o, rfl⟩ | ⟨k, rfl⟩
      · obtain ⟨a', vs, g, rfl, s, r⟩ := seq_of ry
        rw [r.strs] at s
        exact ⟨a, a', ys, rfl, rfl, .inl (.inl s), hz, q _ _ F H NoA h rep_str .refl⟩
      · cases ry with
        | tup s z r =>
          rw [r.strs] at s
          exact ⟨a, _, ys, rfl, rfl, .inr s, hz, q _ _ F H NoA h rep_str .refl⟩
    | _ => exact (show False from h).elim⟩
/-- the first place of an equal one, flat things -/
def idxF (x : Dat) : List Dat → Option Nat
  | [] => none
  | y :: ys => if eqF y x = true then some 0 else (idxF x ys).map (· + 1)
theorem idxF_spec {x : Dat} : ∀ {ys : List Dat} {j : Nat}, idxF x ys = some j → ∃ z, ys[j]? = some z ∧ eqF z x = true ∧ ∀ m z', m < j → ys[m]? = some z' → eqF z' x = false
  | [], _, h => by cases h
  | y :: ys, j, h => by
    unfold idxF at h
    by_cases e : eqF y x = true
    · rw [if_pos e] at h; cases h
      exact ⟨y, rfl, e, fun m z' hm => absurd hm (Nat.not_lt_zero _)⟩
    · rw [if_neg e] at h
      cases k : idxF x ys with
      | none => rw [k] at h; cases h
      | some i =>
        rw [k] at h; cases h
        obtain ⟨z, h1, h2, h3⟩ := idxF_spec k
        refine ⟨z, by simpa using h1, h2, fun m z' hm hz => ?_⟩
        cases m with
        | zero => simp at hz; subst hz; simpa using e
        | succ m => exact h3 m z' (Nat.lt_of_succ_lt_succ hm) (by simpa using hz)
def rIdxT (x y : Dat) (Q : Dat → Prop) : Prop := match x with
  | .tup _ ys => ∃ j, flatD y = true ∧ ys.all flatD = true ∧ idxF y ys = some j ∧ Q (.int (j : Nat))
  | _ => False
theorem idx_at {ds : List Dat} {x : Dat} {j : Nat} (h : idxF x ds = some j) : ∃ z, (ds.map toV)[j]? = some z ∧ eqV z (toV x) = true ∧ ∀ (m : Nat) (z' : V), m < j → (ds.map toV)[m]? = some z' → eqV z' (toV x) = false := by
  obtain ⟨z, h1, h2, h3⟩ := idxF_spec h
  refine ⟨toV z, by rw [List.getElem?_map, h1]; rfl, h2, fun m z' hm hz => ?_⟩
  rw [List.getElem?_map] at hz
  cases e : ds[m]? with
  | none => rw [e] at hz; cases hz
  | some w => rw [e] at hz; cases hz; exact h3 m w hm e
def rIndexTu (K : PySem.W.Frag) : V → List V → Hp → VK → Prop := fun x xs H Q => ∃ (a : Addr) (ys : List V) (y : V) (j : Nat) (z : V), x = V.ref a ∧ xs = [y] ∧ SqT K H a ys ∧ flatV y = true ∧ ys.all flatV = true ∧ ys[j]? = some z ∧ eqV z y = true ∧
  (∀ (m : Nat) (z' : V), m < j → ys[m]? = some z' → eqV z' y = false) ∧ Q (.int (j : Nat)) H
theorem mt_tindex {X : Cx} : MtR X "tuple.index" (rIndexTu X.K) := by
  intro pins s σ H x xs v us Q I rx rs h
  obtain ⟨p, ys, z, j, zj, rfl, rfl, hq, fz, fys, hy, hyj, hno, q⟩ := h
  cases rx
  obtain ⟨u, rfl, ru⟩ := vals1 rs
  obtain ⟨its, r, pl, hz⟩ := I.tuple hq
  obtain ⟨⟨cls, dd, dt, sl⟩, ho, hc, n, hd⟩ := pl
  simp only at hc hd
  subst hc
  subst hd
  have hl : its.toArray.size = ys.length := by rw [List.size_toArray, ← r.length]
  have hj : j < its.toArray.size := by rw [hl]; exact (List.getElem?_eq_some_iff.mp hy).1
  have at' : ∀ (m : Nat) (hm : m < its.toArray.size), ∃ y, ys[m]? = some y ∧ eqU z its.toArray[m] = eqV y z := fun m hm => by
    have hm' : m < ys.length := by rw [← hl]; exact hm
    obtain ⟨w, hw, hw'⟩ := r.get (i := m) (x := ys[m]) (List.getElem?_eq_getElem hm')
    refine ⟨ys[m], List.getElem?_eq_getElem hm', ?_⟩
    have e := (List.getElem?_eq_some_iff.mp hw).2
    have e2 : its.toArray[m] = w := by rw [← e]; simp
    rw [e2]
    exact eqU_of hw' (List.all_eq_true.mp fys _ (List.getElem_mem hm'))
  refine call_meets PySem.F.slot_tuple_index ⟨_, ho, rfl⟩ PySem.F.entry_tuple_index (PySem.F.args_tuple_index_2 _ _) (TI.tuple_indexAt p its.toArray n dd sl u (eqU z) j hj ?_ ?_)
    ⟨ho, fun w hw => mem_eqAt (x := z) ru fz r fys w (by simpa using hw), ⟨.int (j : Nat), H, I.tok _, ⟨_, rfl⟩, q⟩⟩
  · obtain ⟨y, h1, h2⟩ := at' j hj
    rw [hy] at h1
    cases h1
    rw [h2]
    exact hyj
  · intro m hm hmj
    obtain ⟨y, h1, h2⟩ := at' m hm
    rw [h2]
    exact hno m y hmj h1
theorem m_tindex : Mt C "tuple" "index" "tuple.index" isTupK rIdxT where
  ty := ty_tup
  pa := PySem.F.plainAttrs_tuple
  slot := PySem.F.slot_tuple_index
  hmd := PySem.F.type_tuple_index
  ex := ⟨rIndexTu, fun X h => mt_tindex, by
    intro F H f1 f2 x y vx vy Qd Q fl rx ry h q
    cases x with
    | tup k ys =>
      obtain ⟨j, z1, z2, hj, h⟩ := h
      cases rx with
      | @tup _ a vs _ _ s _ r =>
        have q1 := ry.toV z1
        have q2 := r.toV z2
        obtain ⟨z, k1, k2, k3⟩ := idx_at hj
        obtain ⟨rfl, q1⟩ := q1
        obtain ⟨rfl, q2⟩ := q2
        exact ⟨a, _, _, j, z, rfl, rfl, s, q1, q2, k1, k2, k3, q _ _ F H NoA h rep_int .refl⟩
    | _ => exact (show False from h).elim⟩
/-- the first place, data of any depth -/
def idxP (x : PyData) : List PyData → Option Nat
  | [] => none
  | y :: ys => if PyData.eqv y x = true then some 0 else (idxP x ys).map (· + 1)
theorem idxP_spec {x : PyData} : ∀ {ys : List PyData} {j : Nat}, idxP x ys = some j → ∃ z, ys[j]? = some z ∧ PyData.eqv z x = true ∧ ∀ m z', m < j → ys[m]? = some z' → PyData.eqv z' x = false
  | [], _, h => by cases h
  | y :: ys, j, h => by
    unfold idxP at h
    by_cases e : PyData.eqv y x = true
    · rw [if_pos e] at h; cases h
      exact ⟨y, rfl, e, fun m z' hm => absurd hm (Nat.not_lt_zero _)⟩
    · rw [if_neg e] at h
      cases k : idxP x ys with
      | none => rw [k] at h; cases h
      | some i =>
        rw [k] at h; cases h
        obtain ⟨z, h1, h2, h3⟩ := idxP_spec k
        refine ⟨z, by simpa using h1, h2, fun m z' hm hz => ?_⟩
        cases m with
        | zero => simp at hz; subst hz; simpa using e
        | succ m => exact h3 m z' (Nat.lt_of_succ_lt_succ hm) (by simpa using hz)
def rIdxP (x y : Dat) (Q : Dat → Prop) : Prop := match x with
  | .lst _ ys => ∃ j, isPy y = true ∧ isPys ys = true ∧ SeqAt.shaped (toPy y) = true ∧ SeqAt.shaped (.list (toPys ys)) = true ∧ idxP (toPy y) (toPys ys) = some j ∧ Q (.int (j : Nat))
  | _ => False
theorem m_pindex : Mt C "list" "index" "list.index" isLst rIdxP where
  ty := ty_lst
  pa := PySem.F.plainAttrs_list
  slot := PySem.F.slot_list_index
  hmd := PySem.F.type_list_index
  ex := ⟨rIndexD, fun X h => mt_indexD h, by
    intro F H f1 f2 x y vx vy Qd Q fl rx ry h q
    cases x with
    | lst o ys =>
      obtain ⟨j, z1, z2, s1, s2, hj, h⟩ := h
      obtain ⟨a, vs, g, rfl, s, r⟩ := seq_of rx
      obtain ⟨z, k1, k2, k3⟩ := idxP_spec hj
      exact ⟨a, vy, _, _, j, z, rfl, rfl, .lst (.inl s) (Reps.dp ys _ _ r z2), Rep.dp y _ _ ry z1, s2, s1, k1, k2, k3, q _ _ F H NoA h rep_int .refl⟩
    | _ => exact (show False from h).elim⟩
def wGet (p2 p3 : Bool) (wa wb wc : LE) : LE := fun env Q => wa env fun x e1 => ∃ o ks vs, x = .dct o ks vs ∧ wb e1 fun y e2 => wc e2 fun z e3 => ∃ k, keyIs y = some k ∧ (p2 = true ∨ Fz x) ∧ (p3 = true ∨ Fz x) ∧ Q ((lookD ks vs y).getD z) e3
theorem jv_get2 {apos cpos : Pos} (ha : JV C p1 o wa) (hb : JV C p2 b wb) (hc : JV C p3 c wc) (m : ∀ X, M2 X o "get" apos b c cpos) : JV C (p1 && (p2 && p3)) (.Call (.Attribute o "get" apos) [b, c] [] cpos) (wGet p2 p3 wa wb wc) := fun X g =>
  PE_imp (pe_dget2 (by have := g.room.un; omega) (ha X g) (hb X g) (hc X g) (m X)) fun σ H Q ⟨F, fp, env, Qd, sl, ok, hw, q⟩ => by
    refine ⟨F, fp, env, _, sl, ok, hw, fun x env1 F1 H1 fe1 g1 v1 h1 P1 => ?_⟩
    obtain ⟨o, ks, vs, rfl, h1⟩ := h1
    obtain ⟨a, kvs, g0, rfl, s, e, r⟩ := dct_of P1.rep
    refine ⟨a, rfl, .inl ⟨kvs, s⟩, F1, fe1, env1, _, P1.sl, P1.st.ok, h1, fun y env2 F2 H2 fe2 g2 v2 h2 P2 => ?_⟩
    refine ⟨F2, fe2, env2, _, P2.sl, P2.st.ok, h2, fun z env3 F3 H3 fe3 g3 v3 h3 P3 => ?_⟩
    obtain ⟨k, ek, c1, c2, h3⟩ := h3
    obtain ⟨rfl, rfl⟩ := keyIs_k ek P2.rep
    have rx2 := P1.stay P2 c1
    have P12 : Pv C.W (p1 && p2) F H fp σ env2 F2 H2 fe2 g1 (.dct o ks vs) (.ref a) := ⟨P2.sl, rx2, P1.st.trans P2.st, fun z => have k := and_pure P1.pu P2.pu z; Keep.trans k.1 k.2⟩
    have rx3 := P12.stay P3 c2
    obtain ⟨a', kvs', g5, ea, s3, e3, r3⟩ := dct_of rx3
    cases ea
    subst e3
    have P123 := P3.after P12.st P12.pu
    have fin : ∀ d v g, Qd d env3 → Rep C.W F3 H3 g d v → Q v H3 := fun d v g hd r => q d env3 F3 H3 fe3 g v hd ⟨P123.sl, r, P123.st, fun z => P123.pu (by rw [Bool.and_eq_true, Bool.and_eq_true] at z; rw [z.1, z.2.1, z.2.2]; rfl)⟩
    refine ⟨valV kvs' k, .inl ⟨kvs', k, s3, rfl, rfl⟩, ?_⟩
    cases e : lookD (kvs'.map fun p => kD p.1) vs (kD k) with
    | none =>
      rw [e] at h3
      rw [lookD_none k r3 e]
      exact fin _ _ _ h3 P3.rep
    | some d =>
      rw [e] at h3
      obtain ⟨v, g6, e6, r6⟩ := lookD_val k r3 e
      rw [e6]
      exact fin _ _ _ h3 r6
end
end M
namespace M
open PySem PySem.Spec PyProof.Rows L2
/-- a def that changes nothing of what it is given: its arguments, its answer -/
abbrev SpF := List Dat → (Dat → Prop) → Prop
/-- a def whose first argument is changed: that, the others; its answer, the first one behind -/
abbrev SpM := Dat → List Dat → (Dat → Dat → Prop) → Prop
def spF (W : Wd) (sp : SpF) : Sp := fun vs H Q _ => ∃ F ds Qd, Reps W F H NoA ds vs ∧ (FL F H ∧ TbOk W.tb H) ∧ sp ds Qd ∧ ∀ r F' H' fr v, Qd r → Rep W F' H' fr r v → Step W F H NoA F' H' fr → Q v H'
def spM (W : Wd) (sp : SpM) : Sp := fun vs H Q _ => ∃ F f d ds v0 us Qd, vs = v0 :: us ∧ Rep W F H f d v0 ∧ Reps W F H NoA ds us ∧ Ok W F H f ∧ sp d ds Qd ∧
  ∀ r d' F' H' f' fr v, Qd r d' → Rep W F' H' f' d' v0 → Rep W F' H' fr r v → (∀ a, f' a → ¬ fr a) → Step W F H f F' H' (fun a => f' a ∨ fr a) → Q v H'
structure FnF (C : Ctx) (x : Str) (j : Nat) (sp : SpF) : Prop where
  ex : ∃ f fd ps, C.mg x = some (.ref f) ∧ PySem.W.keepIn C.K (.ref f) = true ∧ Binds C.K fd ps [] ∧ FnOk C.P C.w C.K C.mg C.base CX0 j f fd ps (spF C.W sp)
structure FnM (C : Ctx) (x : Str) (j : Nat) (sp : SpM) : Prop where
  ex : ∃ f fd ps, C.mg x = some (.ref f) ∧ PySem.W.keepIn C.K (.ref f) = true ∧ Binds C.K fd ps [] ∧ FnOk C.P C.w C.K C.mg C.base CX0 j f fd ps (spM C.W sp)
/-- a method that changes nothing of the object (first of the list) -/
structure MeF (C : Ctx) (c : Nat) (m : Str) (j : Nat) (sp : SpF) : Prop where
  ex : ∃ A f fd ps, C.mg (C.T.cn c) = some (.ref A) ∧ Cls C.K A ∧ Meth C.K A m f ∧ m ∉ C.T.fl c ∧ Binds C.K fd ps [] ∧ FnOk C.P C.w C.K C.mg C.base CX0 j f fd ps (spF C.W sp)
structure MeM (C : Ctx) (c : Nat) (m : Str) (j : Nat) (sp : SpM) : Prop where
  ex : ∃ A f fd ps, C.mg (C.T.cn c) = some (.ref A) ∧ Cls C.K A ∧ Meth C.K A m f ∧ m ∉ C.T.fl c ∧ Binds C.K fd ps [] ∧ FnOk C.P C.w C.K C.mg C.base CX0 j f fd ps (spM C.W sp)
/-- a class that is made by its __init__ -/
structure MkM (C : Ctx) (x : Str) (c : Nat) (j : Nat) (sp : SpM) : Prop where
  ex : ∃ A f fd ps, C.mg x = some (.ref A) ∧ C.mg (C.T.cn c) = some (.ref A) ∧ Mk C.K A f ∧ Binds C.K fd ps [] ∧ FnOk C.P C.w C.K C.mg C.base CX0 j f fd ps (spM C.W sp)
section
variable {C : Ctx} {W : Wd} {pr p1 p2 p3 : Bool} {F F' F1 F2 : AS} {H H' H1 H2 : Hp} {fp fp' fe fe1 fe2 fd fd1 fd2 : AS} {σ : L2.St} {env env1 env2 : Env} {d d1 d2 : Dat} {v v1 v2 : V}
variable {a b c o e : Expr} {es : List Expr} {pos p : Pos} {wa wb wc : LE} {ta tb : LT} {ws : LA}
theorem Gd.fnok {X : Cx} (g : Gd C X) {j : Nat} {f : Addr} {fd : FuncData} {ps : List Str} {sp : Sp} (F : FnOk C.P C.w C.K C.mg C.base CX0 j f fd ps sp) : FnOk X.prog X.w X.K X.mg X.base CX0 j f fd ps sp := by
  rw [g.prog, g.w, g.K, g.mg, g.base]; exact F
def wCall (ws : LA) (sp : SpF) : LE := fun env Q => ws env fun ds env' => sp (frzs ds) fun r => Q r env'
theorem call_post {sp : SpF} {Q : VK} {Qd : Dat → Env → Prop} {ds : List Dat} {vs : List V}
    (q : ∀ d env' F' H' fe fd v, Qd d env' → Po W pr F H fp σ env' F' H' fe fd d v → Q v H') (P : Pa W pr F H fp σ env F' H' fe fd ds vs) (h : sp (frzs ds) fun r => Qd r env) : spF W sp vs H' Q E0 := by
  have k := P.freeze
  refine ⟨_, _, _, k.2.1, ⟨k.2.2.ok.lv, k.2.2.ok.tb⟩, h, fun r F2 H2 fr v hr rr st => ?_⟩
  have fr2 := st.frame (g := fe) k.2.2.ok fun _ z => z.elim
  exact q r env F2 H2 fe fr v hr ⟨k.1.kept st.fx fun a o e => st.kp a o e fun z => z, rr, fun a z q => fr2.2 a q z, (k.2.2.trans (fr2.1.lft fun a z => z.resolve_left id)).sub fun a z => z.symm, fun z => Keep.trans (P.pu z) fun a o e => st.kp a o e fun z => z⟩
theorem je_call {x : Str} {j : Nat} {sp : SpF} (f : FnF C x j sp) (hj : j ≤ C.k) (hg : C.sc.names.lookup x = some .globalImplicit) (hdb : (x == ("__debug__" : Str)) = false) (ha : JA C pr (e :: es) ws)
    (he : ∀ env, starEach (e :: es) env = (false, eval e env) :: starEach es env) (hpl : ∀ env, (backTo pos (starEach es env)).any (·.1) = false) (hh : C.hot = false := by rfl) : JE C pr (.Call (.Name x p) (e :: es) [] pos) (wCall ws sp) := fun X g => by
  obtain ⟨f, fd, ps, hm, hk, hb, F⟩ := f.ex
  refine PE_imp (pe_call (g.fnok F) (g.roomM hh hj) (gl_of g hg) (by rw [g.mg]; exact hm) (by rw [g.K]; exact hk) (by rw [g.K]; exact hb) .nil pass0 (ha X g) hdb (he _) (hpl _)) fun σ H Q ⟨F, fp, env, Qd, sl, ok, hw, q⟩ => ?_
  refine ⟨F, fp, env, _, sl, ok, hw, fun ds env' F' H' fe fd vs hd P => ?_⟩
  show spF C.W sp (vs ++ []) H' Q E0
  rw [List.append_nil]
  exact call_post q P hd
/-- f(x, ..), x a name whose thing is changed -/
def wCallM (i : Nat) (ws : LA) (sp : SpM) : LE := fun env Q => (∃ d, env[i]? = some (some d)) ∧ ws env fun ds env1 => ∃ d, env1[i]? = some (some d) ∧ sp d (frzs ds) fun r d' => Q r (env1.set i (some d'))
theorem callM_post {sp : SpM} {Q : VK} {Qd : Dat → Env → Prop} {ds : List Dat} {vs : List V} {i : Nat} {v0 : V} (hσ : σ[i]? = some (some v0))
    (q : ∀ d env' F' H' fe fd v, Qd d env' → Po W false F H fp σ env' F' H' fe fd d v → Q v H') (P : Pa W pr F H fp σ env F' H' fe fd ds vs) (he : env[i]? = some (some d)) (h : sp d (frzs ds) fun r d' => Qd r (env.set i (some d'))) : spM W sp (v0 :: vs) H' Q E0 := by
  have k := P.freeze
  obtain ⟨v1, f, g, e1, r0, j, n, s⟩ := k.1.at_ he
  rw [hσ] at e1
  cases e1
  have ok := k.2.2.ok
  refine ⟨_, f, d, frzs ds, v0, vs, _, rfl, r0, k.2.1, ok.sub fun a z => (j a).mpr (.inl z), h, fun r d' F2 H2 f' fr v hr r1 rr dj st => ?_⟩
  have fr2 := st.frame (g := g) (ok.sub fun a z => (j a).mpr (.inr z)) n
  have sg : Sl W F2 H2 g (env.set i none) σ := s.mono st.fx (st.keepR (ok.sub fun a z => (j a).mpr (.inl z)) fun a z q => n a q z)
  have hi : i < env.length := (List.getElem?_eq_some_iff.mp he).1
  have s2 := sg.put (i := i) (by rw [List.getElem?_set_self hi]) r1 fun a z q => fr2.2 a (.inl z) q
  rw [List.set_set, set_self hσ] at s2
  refine q r _ F2 H2 _ fr v hr ⟨s2, rr, fun a z q => ?_, (k.2.2.trans (fr2.1.lft fun a z => (j a).mpr z)).sub fun a z => ?_, fun z => nomatch z⟩
  · rcases z with z | z
    · exact dj a z q
    · exact fr2.2 a (.inr q) z
  · rcases z with (z | z) | z
    · exact .inl (.inl z)
    · exact .inr z
    · exact .inl (.inr z)
theorem je_callM {x y : Str} {j i : Nat} {yp : Pos} {sp : SpM} (f : FnM C x j sp) (hj : j ≤ C.k) (hg : C.sc.names.lookup x = some .globalImplicit) (hdb : (x == ("__debug__" : Str)) = false) (hN : C.N[i]? = some y) (hv : Vis C.sc y) (hd : (y == ("__debug__" : Str)) = false) (hc : (y == ("__classdict__" : Str)) = false)
    (ha : JA C pr es ws) (he : ∀ env, starEach (.Name y yp :: es) env = (false, eval (.Name y yp) env) :: starEach es env) (hpl : ∀ env, (backTo pos (starEach es env)).any (·.1) = false) (hh : C.hot = false := by rfl) : JE C false (.Call (.Name x p) (.Name y yp :: es) [] pos) (wCallM i ws sp) := fun X g => by
  obtain ⟨f, fd, ps, hm, hk, hb, F⟩ := f.ex
  refine PE_imp (pe_call (g.fnok F) (g.roomM hh hj) (gl_of g hg) (by rw [g.mg]; exact hm) (by rw [g.K]; exact hk) (by rw [g.K]; exact hb) .nil pass0 (pa_cons (pe_slot g hN hv hd hc) (ha X g) (he _)) hdb (he _) (hpl _)) fun σ H Q ⟨F, fp, env, Qd, sl, ok, hw, q⟩ => ?_
  obtain ⟨⟨d0, e0⟩, hw⟩ := hw
  obtain ⟨v0, _, _, e1, _⟩ := sl.at_ e0
  refine ⟨v0, e1, F, fp, env, _, sl, ok, hw, fun ds env' F' H' fe fd vs hd P => ?_⟩
  obtain ⟨d, e2, hd⟩ := hd
  show spM C.W sp (v0 :: vs ++ []) H' Q E0
  rw [List.append_nil]
  exact callM_post e1 q P e2 hd
/-- f(e, ..), e a new thing of nobody else's -/
def wCallT (w : LE) (ws : LA) (sp : SpM) : LE := fun env Q => w env fun d env1 => ws env1 fun ds env2 => sp d (frzs ds) fun r _ => Q r env2
theorem no_field : ∀ {fs : List (Str × V)} {m : Str}, m ∉ fs.map (·.1) → fs.lookup m = none
  | [], _, _ => rfl
  | (g, x) :: fs, m, h => by
    rw [List.map_cons, List.mem_cons, not_or] at h
    have e : (m == g) = false := beq_eq_false_iff_ne.mpr h.1
    simp only [List.lookup, e]
    exact no_field h.2
theorem take_no {fs : List (Str × V)} {ns : List Str} {n : Nat} {m : Str} (e : fs.map (·.1) = ns.take n) (h : m ∉ ns) : fs.lookup m = none := no_field fun z => h (List.mem_of_mem_take (by rw [← e]; exact z))
/-- x.m(..), the object in the slot i is changed -/
def wMethM (c i : Nat) (ws : LA) (sp : SpM) : LE := fun env Q => (∃ k vs, env[i]? = some (some (.obj k c vs))) ∧ ws env fun ds env1 => ∃ d, env1[i]? = some (some d) ∧ sp d (frzs ds) fun r d' => Q r (env1.set i (some d'))
theorem methM_core {c i : Nat} {m : Str} {sp : SpM} {A : Addr} (hA : C.mg (C.T.cn c) = some (.ref A)) (hm : m ∉ C.T.fl c) {σ : L2.St} {H : Hp} {Q : VK} (h : lift C.W false (wMethM c i ws sp) σ H Q) :
    tMeth A m (spM C.W sp) [] E0 (tVar i) (liftA C.W p2 ws) σ H Q := by
  obtain ⟨F, fp, env, Qd, sl, ok, hw, q⟩ := h
  obtain ⟨⟨k, xs, e0⟩, hw⟩ := hw
  obtain ⟨v0, f0, g0, e1, r0, j0, n0, s0⟩ := sl.at_ e0
  obtain ⟨a, A', dx, fs, g, rfl, hA', s, e, r⟩ := obj_of r0
  have eA : A' = A := by
    have z := hA'.symm.trans hA
    injection z with z
    injection z
  subst eA
  refine ⟨.ref a, e1, a, dx, fs, rfl, s, take_no e hm, F, fp, env, _, sl, ok, hw, fun ds env' F' H' fe fd vs hd P => ?_⟩
  obtain ⟨d, e2, hd⟩ := hd
  show spM C.W sp (.ref a :: (vs ++ [])) H' Q E0
  rw [List.append_nil]
  exact callM_post e1 q P e2 hd
theorem je_methM {c i : Nat} {y m : Str} {j : Nat} {sp : SpM} {apos yp : Pos} {pl : PySem.Env → Sem Bool} (f : MeM C c m j sp) (hj : j ≤ C.k) (hN : C.N[i]? = some y) (hv : Vis C.sc y) (hd : (y == ("__debug__" : Str)) = false) (hc : (y == ("__classdict__" : Str)) = false) (ha : JA C p2 (e :: es) ws)
    (he : ∀ env, starEach (e :: es) env = (false, eval e env) :: starEach es env) (hpl : ∀ env, (backTo pos (starEach es env)).any (·.1) = false)
    (ht : ∀ env, eval (.Call (.Attribute (.Name y yp) m apos) (e :: es) [] pos) env = (do
      let ov ← eval (.Name y yp) env
      standAt apos.atName
      let (f, first) ← holding [ov] (getMethod ov m (pl env))
      callWith pos f first (backTo pos (starEach (e :: es) env)) (backToKw pos (keywordEach [] env)))) (hh : C.hot = false := by rfl) :
    JE C false (.Call (.Attribute (.Name y yp) m apos) (e :: es) [] pos) (wMethM c i ws sp) := fun X g => by
  obtain ⟨A, f, fd, ps, hA, hcl, hM, hm, hb, F⟩ := f.ex
  exact PE_imp (pe_meth (pe_slot g hN hv hd hc) (by rw [g.K]; exact hcl) (by rw [g.K]; exact hM) (g.fnok F) (g.roomM hh hj) (by rw [g.K]; exact hb) .nil pass0 (ha X g) (he _) (hpl _) (ht _)) fun σ H Q h => methM_core hA hm h
/-- C(..) -/
def wMake (c : Nat) (ws : LA) (sp : SpM) : LE := fun env Q => ws env fun ds env1 => sp (.obj true c []) (frzs ds) fun r d' => isNon r = true ∧ Q d' env1
theorem make_post {c : Nat} {sp : SpM} {A : Addr} {Q : VK} {Qd : Dat → Env → Prop} {ds : List Dat} {vs : List V} (hA : W.mg (W.T.cn c) = some (.ref A))
    (q : ∀ d env' F' H' fe fd v, Qd d env' → Po W pr F H fp σ env' F' H' fe fd d v → Q v H') (P : Pa W pr F H fp σ env F' H' fe fd ds vs) (h : sp (.obj true c []) (frzs ds) fun r d' => isNon r = true ∧ Qd d' env) :
    ∀ x dx, H' x = none → H' dx = none → dx ≠ x → spM W sp (.ref x :: vs) (upd (upd H' dx (.own x)) x (.ins A dx [])) (fun v H2 => v = .non ∧ Q (.ref x) H2) E0 := by
  intro x dx hx hdx ne
  have k := P.freeze
  have kp : Keep H' (upd (upd H' dx (.own x)) x (.ins A dx [])) := Keep.trans (keep_upd hdx) (keep_upd (by rw [upd_ne (Ne.symm ne)]; exact hx))
  have nF : ¬ (F' x ∨ fd x) := fun z => k.2.2.ok.lv x z hx
  have ro : Rep W (fun a => F' a ∨ fd a) (upd (upd H' dx (.own x)) x (.ins A dx [])) (fun a => a = x) (.obj true c []) (.ref x) := .objO hA upd_same rfl (.nil fun _ z => z) (fun z => z) fun b => ⟨.inl, fun z => z.elim id False.elim⟩
  have fr0 : Fresh (fun a => F' a ∨ fd a) H' (fun a => F' a ∨ fd a) (upd (upd H' dx (.own x)) x (.ins A dx [])) (fun a => a = x) := ⟨kp, (Tgo.new (u := .own x) hdx (fun _ z => nomatch z)).trans (Tgo.new (u := .ins A dx []) (by rw [upd_ne (Ne.symm ne)]; exact hx) (fun _ z => nomatch z)), fun _ z => z, fun _ z => .inl z, fun a z => by rw [z]; exact hx, fun a z => by rw [z]; exact nF⟩
  have P0 := fr0.po k.2.2.ok k.1 ro
  have okx : Ok W (fun a => F' a ∨ fd a) (upd (upd H' dx (.own x)) x (.ins A dx [])) (fun a => a = x) := P0.st.ok.sub fun _ => .inr
  refine ⟨_, _, _, frzs ds, _, vs, _, rfl, ro, k.2.1.kept (fun _ z => z) kp, okx, h, fun r d' F2 H2 f' fr v hr r1 rr dj st => ?_⟩
  obtain ⟨en, hr⟩ := hr
  have ev : v = .non := by simpa using (rr.isNon).trans en
  refine ⟨ev, ?_⟩
  have ok2 : Ok W (fun a => F' a ∨ fd a) (upd (upd H' dx (.own x)) x (.ins A dx [])) fe := P0.st.ok.sub fun _ => .inl
  have fr2 := st.frame (g := fe) ok2 fun a z q => P0.dj a q z
  refine q d' env F2 H2 fe f' _ hr ⟨P0.sl.mono st.fx (st.keepR okx fun a z q => P0.dj a z q), r1, fun a z w => fr2.2 a (.inl w) z, ((k.2.2.trans P0.st).trans (fr2.1.lft fun a z => z.symm)).sub fun a z => ?_, fun z => ?_⟩
  · rcases z with z | z
    · exact .inr z
    · exact .inl (.inl z)
  · intro a o e
    refine ((P.pu z a o e).trans fun o' e' => kp a o' e').trans fun o' e' => st.kp a o' e' fun w => ?_
    rw [w] at e
    exact (P.pu z x o e).no hx
theorem je_make {x : Str} {c j : Nat} {sp : SpM} (f : MkM C x c j sp) (hj : j + 1 ≤ C.k) (hg : C.sc.names.lookup x = some .globalImplicit) (hdb : (x == ("__debug__" : Str)) = false) (ha : JA C pr (e :: es) ws)
    (he : ∀ env, starEach (e :: es) env = (false, eval e env) :: starEach es env) (hpl : ∀ env, (backTo pos (starEach es env)).any (·.1) = false) (hh : C.hot = false := by rfl) : JE C pr (.Call (.Name x p) (e :: es) [] pos) (wMake c ws sp) := fun X g => by
  obtain ⟨A, f, fd, ps, hm, hA, hk, hb, F⟩ := f.ex
  refine PE_imp (pe_make (by rw [g.K]; exact hk) (g.fnok F) (g.roomM hh hj) (gl_of g hg) (by rw [g.mg]; exact hm) (by rw [g.K]; exact hb) .nil pass0 (ha X g) hdb (he _) (hpl _)) fun σ H Q ⟨F, fp, env, Qd, sl, ok, hw, q⟩ => ?_
  refine ⟨F, fp, env, _, sl, ok, hw, fun ds env' F' H' fe fd vs hd P => ?_⟩
  show ∀ x dx, _ → _ → _ → spM C.W sp (.ref x :: (vs ++ [])) _ _ _
  rw [List.append_nil]
  exact make_post hA q P hd
end
end M
namespace M
open PySem PySem.Spec PyProof.Rows L2
structure SK where
  nx : Env → Prop
  rt : Dat → Env → Prop
  bk : Env → Prop
  ct : Env → Prop
abbrev LS := Env → SK → Prop
/-- behind a statement that goes on -/
structure Sn (C : Ctx) (σ : L2.St) (F : AS) (H : Hp) (fp : AS) (env : Env) (F' : AS) (H' : Hp) (fe : AS) (σ' : L2.St) : Prop where
  sl : Sl C.W F' H' fe env σ'
  st : Step C.W F H fp F' H' fe
  pin : ∀ i ∈ C.pin, σ'[i]? = σ[i]?
  ln : σ'.length = σ.length
/-- behind a return -/
structure Sr (C : Ctx) (σ : L2.St) (F : AS) (H : Hp) (fp : AS) (env : Env) (F' : AS) (H' : Hp) (fe fd : AS) (d : Dat) (v : V) (σ' : L2.St) : Prop where
  sl : Sl C.W F' H' fe env σ'
  rep : Rep C.W F' H' fd d v
  dj : ∀ a, fe a → ¬ fd a
  st : Step C.W F H fp F' H' (fun a => fe a ∨ fd a)
  pin : ∀ i ∈ C.pin, σ'[i]? = σ[i]?
/-- what is wanted of the data leads to what is wanted of the values -/
structure Ko (C : Ctx) (D : Ends) (σ : L2.St) (F : AS) (H : Hp) (fp : AS) (k : SK) : Prop where
  nx : ∀ env F' H' fe σ', k.nx env → Sn C σ F H fp env F' H' fe σ' → D.nx σ' H'
  rt : ∀ d env F' H' fe fd v σ', k.rt d env → Sr C σ F H fp env F' H' fe fd d v σ' → D.rt v H'
  bk : ∀ env F' H' fe σ', k.bk env → Sn C σ F H fp env F' H' fe σ' → D.bk σ' H'
  ct : ∀ env F' H' fe σ', k.ct env → Sn C σ F H fp env F' H' fe σ' → D.ct σ' H'
def liftS (C : Ctx) (w : LS) : TS := fun D σ H => ∃ F fp env k, Sl C.W F H fp env σ ∧ Ok C.W F H fp ∧ w env k ∧ Ko C D σ F H fp k
def JS (C : Ctx) (st : Stmt) (w : LS) : Prop := ∀ X, Gd C X → PS X st (liftS C w)
def JSs (C : Ctx) (sts : List Stmt) (w : LS) : Prop := ∀ X, Gd C X → PSs X sts (liftS C w)
section
variable {C : Ctx} {D : Ends} {σ σ1 : L2.St} {F F1 : AS} {H H1 : Hp} {fp fe : AS} {env env1 : Env} {k : SK} {pr p1 p2 : Bool} {pos : Pos} {e a : Expr} {w wa : LE} {w1 w2 : LS} {st : Stmt} {rest : List Stmt} {t : LT}
theorem Sn.trans {env2 : Env} {F2 : AS} {H2 : Hp} {fe2 : AS} {σ2 : L2.St} (x : Sn C σ F H fp env1 F1 H1 fe σ1) (y : Sn C σ1 F1 H1 fe env2 F2 H2 fe2 σ2) : Sn C σ F H fp env2 F2 H2 fe2 σ2 :=
  ⟨y.sl, x.st.trans y.st, fun i h => (y.pin i h).trans (x.pin i h), y.ln.trans x.ln⟩
theorem Sr.after {env2 : Env} {F2 : AS} {H2 : Hp} {fe2 fd : AS} {d : Dat} {v : V} {σ2 : L2.St} (x : Sn C σ F H fp env1 F1 H1 fe σ1) (y : Sr C σ1 F1 H1 fe env2 F2 H2 fe2 fd d v σ2) : Sr C σ F H fp env2 F2 H2 fe2 fd d v σ2 :=
  ⟨y.sl, y.rep, y.dj, x.st.trans y.st, fun i h => (y.pin i h).trans (x.pin i h)⟩
/-- from a later state -/
theorem Ko.later (h : Ko C D σ F H fp k) (x : Sn C σ F H fp env1 F1 H1 fe σ1) : Ko C D σ1 F1 H1 fe k where
  nx := fun env F' H' fe' σ' hk y => h.nx env F' H' fe' σ' hk (x.trans y)
  rt := fun d env F' H' fe' fd v σ' hk y => h.rt d env F' H' fe' fd v σ' hk (y.after x)
  bk := fun env F' H' fe' σ' hk y => h.bk env F' H' fe' σ' hk (x.trans y)
  ct := fun env F' H' fe' σ' hk y => h.ct env F' H' fe' σ' hk (x.trans y)
theorem Pt.sn (P : Pt C.W pr F H fp σ env1 F1 H1 fe) : Sn C σ F H fp env1 F1 H1 fe σ := ⟨P.sl, P.st, fun _ _ => rfl, rfl⟩
theorem Pv.sn {fd : AS} {d : Dat} {v : V} (P : Pv C.W pr F H fp σ env1 F1 H1 fe fd d v) : Sn C σ F H fp env1 F1 H1 fe σ := ⟨P.sl, P.st, fun _ _ => rfl, rfl⟩
def wNext : LS := fun env k => k.nx env
def wSeq (w1 w2 : LS) : LS := fun env k => w1 env { k with nx := fun e => w2 e k }
theorem js_nil : JSs C [] wNext := fun X g => PSs_imp pss_nil fun D σ H ⟨F, fp, env, k, sl, ok, hw, q⟩ => q.nx env F H fp σ hw ⟨sl, Step.refl ok, fun _ _ => rfl, rfl⟩
theorem js_cons (h1 : JS C st w1) (h2 : JSs C rest w2) : JSs C (st :: rest) (wSeq w1 w2) := fun X g => PSs_imp (pss_cons (h1 X g) (h2 X g)) fun D σ H ⟨F, fp, env, k, sl, ok, hw, q⟩ =>
  ⟨F, fp, env, _, sl, ok, hw, ⟨fun env' F' H' fe σ' hk x => ⟨F', fe, env', k, x.sl, x.st.ok, hk, q.later x⟩, q.rt, q.bk, q.ct⟩⟩
theorem js_one (h1 : JS C st w1) : JSs C [st] w1 := fun X g => PSs_imp (pss_one (h1 X g)) fun _ _ _ h => h
def wNever : LS := fun _ _ => False
theorem js_never : JS C st wNever := fun X g => PS_imp ps_never fun D σ H ⟨F, fp, env, k, sl, ok, hw, q⟩ => hw
def wDrop (w : LE) : LS := fun env k => w env fun _ e => k.nx e
theorem js_expr (h : JV C pr e w) (hs : ∀ env, swapsWith e none pos.line env = pure false) : JS C (.Expr e pos) (wDrop w) := fun X g => PS_imp (ps_expr (h X g) (hs _)) fun D σ H ⟨F, fp, env, k, sl, ok, hw, q⟩ =>
  ⟨F, fp, env, _, sl, ok, hw, fun d env' F' H' fe fd v hd P => q.nx env' F' H' fe σ hd P.sn⟩
def wRet (w : LE) : LS := fun env k => w env k.rt
theorem js_ret (h : JE C pr e w) : JS C (.Return (some e) pos) (wRet w) := fun X g => PS_imp (ps_ret (h X g)) fun D σ H ⟨F, fp, env, k, sl, ok, hw, q⟩ =>
  ⟨F, fp, env, _, sl, ok, hw, fun d env' F' H' fe fd v hd P => q.rt d env' F' H' fe fd v σ hd ⟨P.sl, P.rep, P.dj, P.st, fun _ _ => rfl⟩⟩
/-- return of a name: what it owns goes with it -/
def wMove (i : Nat) : LS := fun env k => ∃ d, env[i]? = some (some d) ∧ k.rt d (env.set i none)
theorem js_move {i : Nat} {x : Str} {pos' : Pos} (hN : C.N[i]? = some x) (hv : Vis C.sc x) (hd : (x == ("__debug__" : Str)) = false) (hc : (x == ("__classdict__" : Str)) = false) : JS C (.Return (some (.Name x pos')) pos) (wMove i) := fun X g =>
  PS_imp (ps_ret (pe_slot g hN hv hd hc)) fun D σ H ⟨F, fp, env, k, sl, ok, ⟨d, e, hw⟩, q⟩ => by
    obtain ⟨v, f, g', e1, r, j, n, s⟩ := sl.at_ e
    exact ⟨v, e1, q.rt d _ F H g' f v σ hw ⟨s, r, fun a z w => n a w z, (Step.refl ok).sub fun a z => (j a).mpr z.symm, fun _ _ => rfl⟩⟩
def wIfS (t : LT) (w1 w2 : LS) : LS := fun env k => t env fun b e => if b = true then w1 e k else w2 e k
theorem js_if {c : Expr} {x y : List Stmt} (hc : JT C pr c t) (h1 : JSs C x w1) (h2 : JSs C y w2) : JS C (.If c x y pos) (wIfS t w1 w2) := fun X g => PS_imp (ps_if (hc X g) (h1 X g) (h2 X g)) fun D σ H ⟨F, fp, env, k, sl, ok, hw, q⟩ => by
  refine ⟨F, fp, env, _, sl, ok, hw, fun b env' F' H' fe hd P => ?_⟩
  cases b with
  | true => exact ⟨F', fe, env', k, P.sl, P.st.ok, hd, q.later P.sn⟩
  | false => exact ⟨F', fe, env', k, P.sl, P.st.ok, hd, q.later P.sn⟩
/-- a thing comes into a slot -/
theorem Sl.into {W : Wd} {fd : AS} {d : Dat} {v : V} {i : Nat} (sl : Sl W F H fe env σ) (r : Rep W F H fd d v) (dj : ∀ a, fe a → ¬ fd a) (hi : i < env.length) :
    ∃ g, Sl W F H g (env.set i (some d)) (σ.set i (some v)) ∧ (∀ a, g a → fe a ∨ fd a) := by
  obtain ⟨g, hg, s⟩ := sl.drop i
  have s2 := s.put (i := i) (by rw [List.getElem?_set_self hi]) r fun a z q => dj a (hg a q) z
  rw [List.set_set] at s2
  exact ⟨_, s2, fun a z => z.elim .inr fun z => .inl (hg a z)⟩
theorem Po.into {fd : AS} {d : Dat} {v : V} {i : Nat} (P : Po C.W pr F H fp σ env1 F1 H1 fe fd d v) (hi : i < C.N.length) (hl : σ.length = C.N.length) (hp : i ∉ C.pin) : ∃ g, Sn C σ F H fp (env1.set i (some d)) F1 H1 g (σ.set i (some v)) := by
  obtain ⟨g, s, hg⟩ := Sl.into (i := i) P.sl P.rep P.dj (by rw [P.sl.length, hl]; exact hi)
  refine ⟨g, s, P.st.sub hg, fun j hj => ?_, List.length_set⟩
  rw [List.getElem?_set_ne]
  rintro rfl
  exact hp hj
structure Nm (C : Ctx) (i : Nat) (x : Str) : Prop where
  hN : C.N[i]? = some x
  loc : Loc C.sc x
  fc : C.sc.names.lookup x = some .local ∨ C.fnc x = true
  pin : i ∉ C.pin
theorem Nm.lt {i : Nat} {x : Str} (n : Nm C i x) : i < C.N.length := (List.getElem?_eq_some_iff.mp n.hN).1
theorem Gd.fnx {X : Cx} {i : Nat} {x : Str} (g : Gd C X) (n : Nm C i x) : X.fn x = true ∨ X.env.scope.names.lookup x = some .local := by
  rcases n.fc with l | l
  · exact .inr (by rw [g.sc]; exact l)
  · exact .inl (g.fn x l)
/-- σ is as long as the names are many -/
theorem PS_len {X : Cx} {st : Stmt} {t t' : TS} (h : PS X st t) (i : ∀ D σ H, σ.length = X.N.length → t' D σ H → t D σ H) : PS X st t' := ⟨fun pins s σ H D I q => h.run pins s σ H D I (i D σ H I.len q)⟩
def wSet (i : Nat) (w : LE) : LS := fun env k => w env fun d e => k.nx (e.set i (some d))
theorem js_set {i : Nat} {x : Str} {pos' : Pos} (n : Nm C i x) (h : JE C pr e w) (hs : ∀ env, env.scope = C.sc → swapsWith e (some (.Name x pos')) pos.line env = pure false) : JS C (.Assign [.Name x pos'] e pos) (wSet i w) := fun X g =>
  PS_len (ps_set (i := i) (by rw [g.N]; exact g.nd) (by rw [g.N]; exact n.hN) (by rw [g.sc]; exact n.loc) (h X g) (hs _ g.sc) (g.fnx n)) fun D σ H hl ⟨F, fp, env, k, sl, ok, hw, q⟩ => by
    refine ⟨F, fp, env, _, sl, ok, hw, fun d env' F' H' fe fd v hd P => ?_⟩
    obtain ⟨g', s⟩ := P.into n.lt (by rw [hl, g.N]) n.pin
    exact q.nx _ F' H' g' _ hd s
abbrev LG := Dat → Env → (Env → Prop) → Prop
abbrev LGs := List Dat → Env → (Env → Prop) → Prop
/-- a thing that nobody owns comes to a target -/
def JG (C : Ctx) (tg : Expr) (w : LG) : Prop := ∀ X, Gd C X → PG X tg fun v σ H Q => ∃ F fp env d Qd, Sl C.W F H fp env σ ∧ Ok C.W F H fp ∧ σ.length = C.N.length ∧ Rep C.W F H NoA d v ∧ w d env Qd ∧ ∀ env' F' H' fe σ', Qd env' → Sn C σ F H fp env' F' H' fe σ' → Q σ' H'
def JGs (C : Ctx) (tg : List Expr) (w : LGs) : Prop := ∀ X, Gd C X → PGs X tg fun vs σ H Q => ∃ F fp env ds Qd, Sl C.W F H fp env σ ∧ Ok C.W F H fp ∧ σ.length = C.N.length ∧ Reps C.W F H NoA ds vs ∧ w ds env Qd ∧ ∀ env' F' H' fe σ', Qd env' → Sn C σ F H fp env' F' H' fe σ' → Q σ' H'
theorem PG_imp {X : Cx} {tg : Expr} {t t' : TG} (h : PG X tg t) (i : ∀ v σ H Q, t' v σ H Q → t v σ H Q) : PG X tg t' := ⟨fun pins s σ H v u Q I r q => h.run pins s σ H v u Q I r (i v σ H Q q)⟩
theorem PGs_imp {X : Cx} {tg : List Expr} {t t' : TGs} (h : PGs X tg t) (i : ∀ v σ H Q, t' v σ H Q → t v σ H Q) : PGs X tg t' := ⟨fun pins s σ H v u Q I r q => h.run pins s σ H v u Q I r (i v σ H Q q)⟩
def gNm (i : Nat) : LG := fun d env Q => Q (env.set i (some d))
theorem jg_name {i : Nat} {x : Str} (n : Nm C i x) : JG C (.Name x pos) (gNm i) := fun X g => PG_imp (pg_name (i := i) (by rw [g.N]; exact g.nd) (by rw [g.N]; exact n.hN) (by rw [g.sc]; exact n.loc) (g.fnx n)) fun v σ H Q ⟨F, fp, env, d, Qd, sl, ok, hl, r, hw, q⟩ => by
  obtain ⟨g', s, hg⟩ := Sl.into (i := i) sl r (fun _ _ z => z) (by rw [sl.length, hl]; exact n.lt)
  refine q _ F H g' _ hw ⟨s, (Step.refl ok).sub fun a z => (hg a z).resolve_right id, fun j hj => ?_, List.length_set⟩
  rw [List.getElem?_set_ne]
  rintro rfl
  exact n.pin hj
def gsNil : LGs := fun ds env Q => ds = [] ∧ Q env
def gsCons (g : LG) (gs : LGs) : LGs := fun ds env Q => ∃ d r, ds = d :: r ∧ g d env fun e => gs r e Q
theorem jgs_nil : JGs C [] gsNil := fun X g => PGs_imp pgs_nil fun vs σ H Q ⟨F, fp, env, ds, Qd, sl, ok, hl, r, ⟨e, hw⟩, q⟩ => by
  subst e
  cases r
  exact ⟨rfl, q env F H fp σ hw ⟨sl, Step.refl ok, fun _ _ => rfl, rfl⟩⟩
theorem Reps.cons1 {W : Wd} {d : Dat} {ds : List Dat} {vs : List V} (r : Reps W F H NoA (d :: ds) vs) : ∃ v us, vs = v :: us ∧ Rep W F H NoA d v ∧ Reps W F H NoA ds us := by
  cases r with
  | cons r1 r2 _ i => exact ⟨_, _, rfl, Rep.eqv _ _ _ _ r1 fun a => ⟨fun z => z.elim, fun z => (i a).mpr (.inl z)⟩, Reps.eqv _ _ _ _ r2 fun a => ⟨fun z => z.elim, fun z => (i a).mpr (.inr z)⟩⟩
theorem jgs_cons {es : List Expr} {g1 : LG} {gs : LGs} (h1 : JG C e g1) (h2 : JGs C es gs) (hs : ∀ env, (assignEach (e :: es) env).map (·.2) = assign e env :: (assignEach es env).map (·.2)) : JGs C (e :: es) (gsCons g1 gs) := fun X g =>
  PGs_imp (pgs_cons (h1 X g) (h2 X g) (hs _)) fun vs σ H Q ⟨F, fp, env, ds, Qd, sl, ok, hl, r, ⟨d, r', e, hw⟩, q⟩ => by
    subst e
    obtain ⟨v, us, rfl, r1, r2⟩ := r.cons1
    refine ⟨v, us, rfl, F, fp, env, d, _, sl, ok, hl, r1, hw, fun env' F' H' fe σ' hd s => ?_⟩
    have hl' : σ'.length = C.N.length := s.ln.trans hl
    exact ⟨F', fe, env', r', Qd, s.sl, s.st.ok, hl', r2.step s.st ok fun _ z => z.elim, hd, fun env2 F2 H2 fe2 σ2 hd2 s2 => q env2 F2 H2 fe2 σ2 hd2 (s.trans s2)⟩
def gTupD (n : Nat) (gs : LGs) : LG := fun d env Q => match d with
  | .tup _ xs => xs.length = n ∧ gs xs env Q
  | _ => False
theorem jg_tup {es : List Expr} {kk n : Nat} {gs : LGs} (h : JGs C es gs) (hn : ∀ env, (assignEach es env).length = n) (hst : ∀ env, (assignEach es env).findIdx? (·.1) = none) (hh : C.hot = false := by rfl) : JG C (.Tuple es kk pos) (gTupD n gs) := fun X g =>
  PG_imp (pg_tup (n := n) (g.calm' hh) (h X g) (hn _) (hst _)) fun v σ H Q ⟨F, fp, env, d, Qd, sl, ok, hl, r, hw, q⟩ => by
    cases d with
    | tup k xs =>
      cases r with
      | @tup _ a vs _ _ s _ r =>
        exact ⟨a, vs, rfl, by rw [g.K]; exact s, by rw [← r.length]; exact hw.1, F, fp, env, xs, Qd, sl, ok, hl, r, hw.2, q⟩
    | _ => exact (show False from hw).elim
/-- target = e, by a target of any form: what comes is frozen -/
def wAsg (w : LE) (g : LG) : LS := fun env k => w env fun d e => g (frz d) e k.nx
theorem js_asg {tg : Expr} {gl : LG} (h : JE C pr e w) (hg : JG C tg gl) (hs : ∀ env, swapsWithSole [tg] e pos.line env = pure false) (hw : ∀ env, swappedStores [tg] e env = pure none) (h1 : ∀ env, (assignEach [tg] env).map (·.2) = [assign tg env]) :
    JS C (.Assign [tg] e pos) (wAsg w gl) := fun X g => PS_len (ps_asg (h X g) (hg X g) (hs _) (hw _) (h1 _)) fun D σ H hl ⟨F, fp, env, k, sl, ok, hw, q⟩ => by
  refine ⟨F, fp, env, _, sl, ok, hw, fun d env' F' H' fe fd v hd P => ?_⟩
  have Pf := P.freeze
  have s0 : Sn C σ F H fp env' (fun a => F' a ∨ fd a) H' fe σ := ⟨Pf.sl, Pf.st.sub fun _ => .inl, fun _ _ => rfl, rfl⟩
  exact ⟨_, fe, env', frz d, _, Pf.sl, s0.st.ok, by rw [hl, g.N], Pf.rep, hd, fun env2 F2 H2 fe2 σ2 hd2 s2 => q.nx env2 F2 H2 fe2 σ2 hd2 (s0.trans s2)⟩
end
end M
namespace M
open PySem PySem.Spec PyProof.Rows L2
section
variable {C : Ctx} {D : Ends} {W : Wd} {σ σ1 : L2.St} {F F1 : AS} {H H1 : Hp} {fp fe f g fd : AS} {env env1 : Env} {k : SK} {pr p1 p2 : Bool} {pos : Pos} {e a b : Expr} {w wa wb : LE} {w1 w2 : LS} {st : Stmt} {rest : List Stmt} {t : LT} {d : Dat} {v : V}
theorem not_cod {o : HO} (h : ∀ f, o ≠ .ext f) : ¬ Cod o := fun ⟨_, _, e⟩ => h _ e
/-- a container that may be written -/
abbrev Wr (H : Hp) (A : Addr) : Prop := ∃ u, H A = some u ∧ NT u ∧ ¬ Cod u
theorem wr_lst {A : Addr} {vs : List V} (h : H A = some (.lst vs)) : Wr H A := ⟨_, h, (fun _ z => nomatch z), (not_cod fun _ z => nomatch z)⟩
theorem wr_dK {A : Addr} {vs : List (Key × V)} (h : H A = some (.dK vs)) : Wr H A := ⟨_, h, (fun _ z => nomatch z), (not_cod fun _ z => nomatch z)⟩
theorem wr_dT {A : Addr} {vs : List (List Key × V)} (h : H A = some (.dT vs)) : Wr H A := ⟨_, h, (fun _ z => nomatch z), (not_cod fun _ z => nomatch z)⟩
theorem wr_ins {A B dx : Addr} {fs : List (Str × V)} (h : H A = some (.ins B dx fs)) : Wr H A := ⟨_, h, (fun _ z => nomatch z), (not_cod fun _ z => nomatch z)⟩
theorem Wr.go {A : Addr} {o : HO} (x : Wr H A) (n : NT o) : Tgo H (L2.upd H A o) := let ⟨_, h, a, b⟩ := x; Tgo.upd h a b n
/-- the container in the slot i is changed at its address; what else there is stays -/
theorem Sl.write {i : Nat} {A : Addr} {o : HO} {f' : AS} {d' : Dat} (sl : Sl W F H fe env σ) (ok : Ok W F H fe) (hσ : σ[i]? = some (some (.ref A))) (j : ∀ a, fe a ↔ f a ∨ g a) (n : ∀ a, f a → ¬ g a) (s : Sl W F H g (env.set i none) σ) (hi : i < env.length)
    (hA : f A) (hw : Wr H A) (no : NT o) (r : Rep W F (upd H A o) f' d' (.ref A)) (sub : ∀ a, f' a → f a) : Sl W F (upd H A o) (fun a => f' a ∨ g a) (env.set i (some d')) σ ∧ Step W F H fe F (upd H A o) (fun a => f' a ∨ g a) := by
  have ne : ∀ a, g a → a ≠ A := fun a z e => n A hA (e ▸ z)
  have hm : Mut (H A) := ok.own A ((j A).mpr (.inl hA))
  have nF : ¬ F A := ok.nf A ((j A).mpr (.inl hA))
  have sg : Sl W F (upd H A o) g (env.set i none) σ := s.mono (fun _ z => z) fun a u e _ z => by
    rw [upd_ne]
    · exact e
    · rintro rfl
      rcases z with z | z | z
      · exact ne a z rfl
      · exact nF z
      · exact z (by rw [← e]; exact hm)
  have s2 := sg.put (i := i) (by rw [List.getElem?_set_self hi]) r fun a z q => n a (sub a z) q
  rw [List.set_set, set_self hσ] at s2
  refine ⟨s2, ⟨fun a u e z => ?_, fun _ z => z, fun a z => .inl z, fun a z => .inl ((j a).mpr (z.imp_left (sub a))), ⟨fun a z q => ok.nf a ((j a).mpr (z.imp_left (sub a))) q, fun a z => s2.own a z, fun a z w => ?_, ok.tb.go (hw.go no)⟩⟩⟩
  · refine .of ?_
    rw [upd_ne]
    · exact e
    · rintro rfl
      exact z ((j a).mpr (.inl hA))
  · by_cases q : a = A
    · subst q; exact nF z
    · rw [upd_ne q] at w; exact ok.lv a z w
/-- the same where a new thing d came into it -/
theorem Po.write {i : Nat} {A : Addr} {o : HO} {f' : AS} {d' : Dat} (P : Po C.W pr F H fp σ env F1 H1 fe fd d v) (hσ : σ[i]? = some (some (.ref A))) (j : ∀ a, fe a ↔ f a ∨ g a) (n : ∀ a, f a → ¬ g a) (s : Sl C.W F1 H1 g (env.set i none) σ) (hi : i < env.length)
    (hA : f A) (hw : Wr H1 A) (no : NT o) (r : Rep C.W F1 (upd H1 A o) f' d' (.ref A)) (sub : ∀ a, f' a → f a ∨ fd a) : Sn C σ F H fp (env.set i (some d')) F1 (upd H1 A o) (fun a => f' a ∨ g a) σ := by
  have ok := P.st.ok
  have ne : ∀ a, g a → a ≠ A := fun a z e => n A hA (e ▸ z)
  have hm : Mut (H1 A) := ok.own A (.inl ((j A).mpr (.inl hA)))
  have nF : ¬ F1 A := ok.nf A (.inl ((j A).mpr (.inl hA)))
  have sg : Sl C.W F1 (upd H1 A o) g (env.set i none) σ := s.mono (fun _ z => z) fun a u e _ z => by
    rw [upd_ne]
    · exact e
    · rintro rfl
      rcases z with z | z | z
      · exact ne a z rfl
      · exact nF z
      · exact z (by rw [← e]; exact hm)
  have s2 := sg.put (i := i) (by rw [List.getElem?_set_self hi]) r fun a z q => by
    rcases sub a z with z | z
    · exact n a z q
    · exact P.dj a ((j a).mpr (.inr q)) z
  rw [List.set_set, set_self hσ] at s2
  have all : ∀ a, f' a ∨ g a → fe a ∨ fd a := fun a z => by
    rcases z with z | z
    · exact (sub a z).imp_left fun z => (j a).mpr (.inl z)
    · exact .inl ((j a).mpr (.inr z))
  have st2 : Step C.W F1 H1 (fun a => fe a ∨ fd a) F1 (upd H1 A o) (fun a => f' a ∨ g a) := ⟨fun a u e z => .of (by
      rw [upd_ne]
      · exact e
      · rintro rfl
        exact z (.inl ((j a).mpr (.inl hA)))), fun _ z => z, fun a z => .inl z, fun a z => .inl (all a z), ⟨fun a z q => ok.nf a (all a z) q, fun a z => s2.own a z, fun a z w => by
      by_cases q : a = A
      · subst q; exact nF z
      · rw [upd_ne q] at w; exact ok.lv a z w, ok.tb.go (hw.go no)⟩⟩
  exact ⟨s2, P.st.trans st2, fun _ _ => rfl, rfl⟩
theorem Rep.upd {A : Addr} {o : HO} {h : AS} (r : Rep W F H h d v) (hm : Mut (H A)) (nF : ¬ F A) (nh : ¬ h A) : Rep W F (L2.upd H A o) h d v := Rep.mono (fun _ z => z) d _ _ r fun a u e _ z => by
  rw [upd_ne]
  · exact e
  · rintro rfl
    rcases z with z | z | z
    · exact nh z
    · exact nF z
    · exact z (by rw [← e]; exact hm)
theorem Reps.upd {A : Addr} {o : HO} {h : AS} {ds : List Dat} {vs : List V} (r : Reps W F H h ds vs) (hm : Mut (H A)) (nF : ¬ F A) (nh : ¬ h A) : Reps W F (L2.upd H A o) h ds vs := Reps.mono (fun _ z => z) ds _ _ r fun a u e _ z => by
  rw [upd_ne]
  · exact e
  · rintro rfl
    rcases z with z | z | z
    · exact nh z
    · exact nF z
    · exact z (by rw [← e]; exact hm)
theorem Reps.one {h : AS} (r : Rep W F H h d v) : Reps W F H h [d] [v] := .cons r (.nil (fp := NoA) fun _ z => z) (fun _ _ z => z) fun a => ⟨.inl, fun z => z.resolve_right id⟩
def wApp (i : Nat) (w : LE) : LS := fun env k => (∃ o xs, env[i]? = some (some (.lst o xs))) ∧ w env fun d e => ∃ xs, e[i]? = some (some (.lst true xs)) ∧ xs.length < sizeLine ∧ k.nx (e.set i (some (.lst true (xs ++ [d]))))
theorem js_app {i : Nat} {x : Str} {xp apos cpos : Pos} (hN : C.N[i]? = some x) (hv : Vis C.sc x) (hd : (x == ("__debug__" : Str)) = false) (hc : (x == ("__classdict__" : Str)) = false) (h : JE C pr e w)
    (hbase : ∀ env, attributeBase (.Name x xp) "append" env (eval (.Name x xp) env) = eval (.Name x xp) env)
    (hfew : ∀ env, ((backTo cpos (starEach [e] env)).all (fun x => !x.1) && (backToKw cpos (keywordEach [] env)).all (fun x => x.1.isSome)
      && decide (([e] : List Expr).length + ([] : List Keyword).length + (if ([] : List Keyword).isEmpty then 0 else 1) < 30)) = true)
    (hline : (apos.endLine == cpos.line) = true) (hs : ∀ env, starEach [e] env = (false, eval e env) :: starEach [] env) (hplain : ∀ env, (backTo cpos (starEach [] env)).any (·.1) = false)
    (hsw : ∀ env, swapsWith (.Call (.Attribute (.Name x xp) "append" apos) [e] [] cpos) none pos.line env = pure false) : JS C (.Expr (.Call (.Attribute (.Name x xp) "append" apos) [e] [] cpos) pos) (wApp i w) := fun X gd =>
  PS_imp (ps_expr (pe_bm PySem.F.plainAttrs_list PySem.F.slot_list_append PySem.F.type_list_append mt_append (pe_slot gd hN hv hd hc) (pa_cons (h X gd) pa_nil (hs _)) (hbase _) (hfew _) hline (hs _) (hplain _)) (hsw _)) fun D σ H ⟨F, fp, env, k, sl, ok, hw, q⟩ => by
    obtain ⟨⟨o0, xs0, e0⟩, hw⟩ := hw
    obtain ⟨v0, f0, g0, e1, r0, j0, n0, s0⟩ := sl.at_ e0
    obtain ⟨A, vs0, h0, rfl, rd0, _⟩ := seq_of r0
    refine ⟨.ref A, e1, .inl ⟨rfl, vs0, .inl rd0⟩, F, fp, env, _, sl, ok, hw, fun d env' F' H' fe fd v hd P => ?_⟩
    obtain ⟨xs, e2, hz, hd⟩ := hd
    obtain ⟨v1, f1, g1, e3, r1, j1, n1, s1⟩ := P.sl.at_ e2
    rw [e1] at e3
    cases e3
    cases r1 with
    | @lstO _ f2 _ vs _ hA r nA i1 =>
      refine ⟨A, vs, v, rfl, rfl, hA, by rw [← r.length]; exact hz, ?_⟩
      have hf : f1 A := (i1 A).mpr (.inl rfl)
      have hm : Mut (H' A) := by rw [hA]; exact True.intro
      have nF : ¬ F' A := P.st.ok.nf A (.inl ((j1 A).mpr (.inl hf)))
      have nfd : ¬ fd A := P.dj A ((j1 A).mpr (.inl hf))
      have hi : i < env'.length := (List.getElem?_eq_some_iff.mp e2).1
      have rs : Reps C.W F' (L2.upd H' A (.lst (vs ++ [v]))) (fun a => f2 a ∨ fd a) (xs ++ [d]) (vs ++ [v]) := Reps.append (r.upd hm nF nA) (Reps.one (P.rep.upd hm nF nfd)) fun a z w => P.dj a ((j1 a).mpr (.inl ((i1 a).mpr (.inr z)))) w
      exact q.nx _ F' _ _ σ hd (P.write e1 j1 n1 s1 hi hf (wr_lst hA) (fun _ z => nomatch z) (.lstO upd_same rs (fun z => z.elim nA nfd) fun b => Iff.rfl) fun a z => by
        rcases z with z | z | z
        · exact .inl (z ▸ hf)
        · exact .inl ((i1 a).mpr (.inr z))
        · exact .inr z)
def gIx (i : Nat) (w : LE) : LG := fun d env Q => (∃ o xs, env[i]? = some (some (.lst o xs))) ∧ w env fun y e => ∃ xs n j, y = .int n ∧ e[i]? = some (some (.lst true xs)) ∧ frzs xs = xs ∧ ixN xs.length n = some j ∧ Q (e.set i (some (.lst true (xs.set j d))))
theorem Reps.set : ∀ {ds : List Dat} {vs : List V} (j : Nat), Reps W F H NoA ds vs → Rep W F H NoA d v → Reps W F H NoA (ds.set j d) (vs.set j v)
  | [], _, _, h, _ => by cases h; exact .nil fun _ z => z
  | x :: xs, _, 0, h, r => by
    obtain ⟨u, us, rfl, r1, r2⟩ := h.cons1
    exact .cons (f1 := NoA) (f2 := NoA) r r2 (fun _ z => z.elim) fun a => ⟨fun z => z.elim, fun z => z.elim id id⟩
  | x :: xs, _, j + 1, h, r => by
    obtain ⟨u, us, rfl, r1, r2⟩ := h.cons1
    exact .cons (f1 := NoA) (f2 := NoA) r1 (Reps.set j r2 r) (fun _ z => z.elim) fun a => ⟨fun z => z.elim, fun z => z.elim id id⟩
theorem jg_ix {i : Nat} {x : Str} {xp : Pos} (hN : C.N[i]? = some x) (hv : Vis C.sc x) (hd : (x == ("__debug__" : Str)) = false) (hc : (x == ("__classdict__" : Str)) = false) (h : JV C pr b wb)
    (ha : ∀ env v, assign (.Subscript (.Name x xp) b pos) env v = (do
      let ov ← holding [v] (eval (.Name x xp) env)
      let iv ← holding [v, ov] (eval b env)
      standAt pos
      holding [v, ov, iv] (setItem ov iv v)
      release [v, ov, iv] [])) : JG C (.Subscript (.Name x xp) b pos) (gIx i wb) := fun X gd =>
  PG_imp (pg_sub (pe_slot gd hN hv hd hc) (h X gd) set_list (ha _)) fun vv σ H Q ⟨F, fp, env, d, Qd, sl, ok, hl, r, hw, q⟩ => by
    obtain ⟨⟨o0, xs0, e0⟩, hw⟩ := hw
    obtain ⟨v0, f0, g0, e1, r0, j0, n0, s0⟩ := sl.at_ e0
    obtain ⟨A, vs0, h0, rfl, rd0, _⟩ := seq_of r0
    refine ⟨.ref A, e1, F, fp, env, _, sl, ok, hw, fun y env' F' H' fe fd v2 hd P => ?_⟩
    obtain ⟨xs, n, j, rfl, e2, hz, hj, hd⟩ := hd
    have ry := P.rep
    cases ry
    obtain ⟨v1, f1, g1, e3, r1, j1, n1, s1⟩ := P.sl.at_ e2
    rw [e1] at e3
    cases e3
    cases r1 with
    | @lstO _ f2 _ vs _ hA rr nA i1 =>
      have rr := rr.fz hz
      have hf : f1 A := (i1 A).mpr (.inl rfl)
      have hm : Mut (H' A) := by rw [hA]; exact True.intro
      have nF : ¬ F' A := P.st.ok.nf A ((j1 A).mpr (.inl hf))
      have hi : i < env'.length := (List.getElem?_eq_some_iff.mp e2).1
      have rd : Rep C.W F' H' NoA d vv := r.step P.st ok fun _ z => z.elim
      refine ⟨A, vs, n, j, rfl, rfl, hA, by rw [← rr.length]; exact hj, ?_⟩
      have P2 : Po C.W pr F H fp σ env' F' H' fe NoA d vv := ⟨P.sl, rd, fun _ _ z => z, P.st.sub fun a z => z.resolve_right id, P.pu⟩
      exact q _ F' _ _ σ hd (P2.write e1 j1 n1 s1 hi hf (wr_lst hA) (fun _ z => nomatch z) (.lstO upd_same (Reps.set j (rr.upd hm nF id) (rd.upd hm nF id)) (fun z => z) fun b => Iff.rfl) fun a z => .inl (z.elim (fun z => z ▸ hf) False.elim))
theorem Reps.setg : ∀ {ds : List Dat} {vs : List V} {h : AS} (j : Nat), Reps W F H h ds vs → Rep W F H fd d v → (∀ a, h a → ¬ fd a) → ∃ h', Reps W F H h' (ds.set j d) (vs.set j v) ∧ ∀ a, h' a → h a ∨ fd a
  | [], _, h, _, r, _, _ => by cases r with | nil e => exact ⟨h, .nil e, fun _ => .inl⟩
  | x :: xs, _, _, 0, r, q, n => by
    cases r with
    | cons r1 r2 m i =>
      exact ⟨_, .cons q r2 (fun a z w => n a ((i a).mpr (.inr w)) z) fun a => Iff.rfl, fun a z => z.elim .inr fun z => .inl ((i a).mpr (.inr z))⟩
  | x :: xs, _, _, j + 1, r, q, n => by
    cases r with
    | cons r1 r2 m i =>
      obtain ⟨h', r', s'⟩ := Reps.setg j r2 q fun a z w => n a ((i a).mpr (.inr z)) w
      refine ⟨_, .cons r1 r' (fun a z w => ?_) fun a => Iff.rfl, fun a z => ?_⟩
      · rcases s' a w with w | w
        · exact m a z w
        · exact n a ((i a).mpr (.inl z)) w
      · rcases z with z | z
        · exact .inl ((i a).mpr (.inl z))
        · exact (s' a z).imp_left fun z => (i a).mpr (.inr z)
def putAt (vs : List Dat) (j : Nat) (d : Dat) : Option (List Dat) := if j < vs.length then some (vs.set j d) else if j = vs.length then some (vs ++ [d]) else none
theorem putF_old : ∀ {fs : List (Str × V)} {ns : List Str} {j : Nat} {f : Str}, fs.map (·.1) = ns.take fs.length → ns.Nodup → ns[j]? = some f → j < fs.length → (putF f v fs).map (·.1) = fs.map (·.1) ∧ (putF f v fs).map (·.2) = (fs.map (·.2)).set j v
  | [], _, _, _, _, _, _, h => absurd h (Nat.not_lt_zero _)
  | (g, x) :: fs, [], _, _, h, _, _, _ => by simp at h
  | (g, x) :: fs, n :: ns, 0, f, h, nd, h2, _ => by
    simp at h h2
    obtain ⟨rfl, _⟩ := h
    subst h2
    unfold putF
    rw [if_pos rfl]
    exact ⟨rfl, rfl⟩
  | (g, x) :: fs, n :: ns, j + 1, f, h, nd, h2, hl => by
    rw [List.nodup_cons] at nd
    simp at h h2
    obtain ⟨rfl, h⟩ := h
    have ne : ¬ g = f := fun e => nd.1 (e ▸ List.mem_of_getElem? h2)
    obtain ⟨k1, k2⟩ := putF_old (fs := fs) (ns := ns) (j := j) h nd.2 h2 (by simpa using hl)
    unfold putF
    rw [if_neg ne]
    exact ⟨by rw [List.map_cons, List.map_cons, k1], by rw [List.map_cons, List.map_cons, k2]; rfl⟩
theorem putF_new : ∀ {fs : List (Str × V)} {f : Str}, f ∉ fs.map (·.1) → putF f v fs = fs ++ [(f, v)]
  | [], _, _ => rfl
  | (g, x) :: fs, f, h => by
    rw [List.map_cons, List.mem_cons, not_or] at h
    unfold putF
    rw [if_neg fun e => h.1 e.symm, putF_new h.2]
    rfl
theorem take_nin {ns : List Str} {j : Nat} {f : Str} (nd : ns.Nodup) (h : ns[j]? = some f) : f ∉ ns.take j := by
  intro z
  obtain ⟨i, hi, e⟩ := List.getElem_of_mem z
  rw [List.length_take] at hi
  rw [List.getElem_take] at e
  obtain ⟨hj, e2⟩ := List.getElem?_eq_some_iff.mp h
  have := (List.getElem_inj nd).mp (e.trans e2.symm)
  omega
def wFs (i : Nat) (g : Nat → Option Nat) (w : LE) : LS := fun env k => (∃ o c vs, env[i]? = some (some (.obj o c vs)) ∧ (g c).isSome = true) ∧ w env fun d e => ∃ c vs j vs', e[i]? = some (some (.obj true c vs)) ∧ g c = some j ∧ putAt vs j d = some vs' ∧ vs.length < 1000 ∧ k.nx (e.set i (some (.obj true c vs')))
theorem js_fset {i : Nat} {x fn : Str} {xp apos : Pos} {gg : Nat → Option Nat} (hf : Fld C fn gg) (hN : C.N[i]? = some x) (hv : Vis C.sc x) (hd : (x == ("__debug__" : Str)) = false) (hc : (x == ("__classdict__" : Str)) = false) (h : JE C pr e w)
    (hs : ∀ env, swapsWith e (some (.Attribute (.Name x xp) fn apos)) pos.line env = pure false) : JS C (.Assign [.Attribute (.Name x xp) fn apos] e pos) (wFs i gg w) := fun X gd =>
  PS_imp (ps_fld (pe_slot gd hN hv hd hc) (h X gd) (hs _)) fun D σ H ⟨F, fp, env, k, sl, ok, ⟨_, hw⟩, q⟩ => by
    refine ⟨F, fp, env, _, sl, ok, hw, fun d env' F' H' fe fd v hd P => ?_⟩
    obtain ⟨c, vs, j, vs', e2, hg, hp, hl, hd⟩ := hd
    obtain ⟨v1, f1, g1, e3, r1, j1, n1, s1⟩ := P.sl.at_ e2
    obtain ⟨k1, k2⟩ := hf.ok c j hg
    cases r1 with
    | @objO _ f2 A Ca dx fs _ _ m hA ee r nA i1 =>
      have hfl : vs.length = fs.length := by rw [r.length, List.length_map]
      have hf1 : f1 A := (i1 A).mpr (.inl rfl)
      have hm : Mut (H' A) := by rw [hA]; exact True.intro
      have nF : ¬ F' A := P.st.ok.nf A (.inl ((j1 A).mpr (.inl hf1)))
      have nfd : ¬ fd A := P.dj A ((j1 A).mpr (.inl hf1))
      have hi : i < env'.length := (List.getElem?_eq_some_iff.mp e2).1
      have mem : fn ∈ C.T.fl c := List.mem_of_getElem? k1
      have dj2 : ∀ a, f2 a → ¬ fd a := fun a z w => P.dj a ((j1 a).mpr (.inl ((i1 a).mpr (.inr z)))) w
      refine ⟨.ref A, e3, A, Ca, dx, fs, rfl, hA, by rw [gd.K]; exact k2.cls Ca m, by rw [gd.K]; exact k2.no Ca m fn mem, by rw [← hfl]; exact hl, ?_⟩
      have rd := P.rep.upd (o := .ins Ca dx (putF fn v fs)) hm nF nfd
      have rr := r.upd (o := .ins Ca dx (putF fn v fs)) hm nF nA
      have fin : ∀ h', Reps C.W F' (L2.upd H' A (.ins Ca dx (putF fn v fs))) h' vs' ((putF fn v fs).map (·.2)) → (∀ a, h' a → f2 a ∨ fd a) → (putF fn v fs).map (·.1) = (C.T.fl c).take vs'.length → D.nx σ (L2.upd H' A (.ins Ca dx (putF fn v fs))) := fun h' r' s' e' =>
        q.nx _ F' _ _ σ hd (P.write e3 j1 n1 s1 hi hf1 (wr_ins hA) (fun _ z => nomatch z) (.objO m upd_same e' r' (fun z => (s' A z).elim nA nfd) fun b => Iff.rfl) fun a z => by
          rcases z with z | z
          · exact .inl (z ▸ hf1)
          · exact (s' a z).imp_left fun z => (i1 a).mpr (.inr z))
      unfold putAt at hp
      split at hp
      · rename_i hlt
        cases hp
        obtain ⟨h', r', s'⟩ := Reps.setg j rr rd dj2
        obtain ⟨q1, q2⟩ := putF_old (v := v) (fs := fs) (ns := C.T.fl c) (j := j) (by rw [← hfl]; exact ee) k2.nd k1 (by rw [← hfl]; exact hlt)
        exact fin h' (by rw [q2]; exact r') s' (by rw [q1, List.length_set]; exact ee)
      · split at hp
        · rename_i hge heq
          cases hp
          have nin : fn ∉ fs.map (·.1) := by rw [ee, ← heq]; exact take_nin k2.nd k1
          have ef := putF_new (v := v) nin
          have ef2 : (putF fn v fs).map (·.2) = fs.map (·.2) ++ [v] := by rw [ef, List.map_append]; rfl
          refine fin (fun a => f2 a ∨ fd a) (by rw [ef2]; exact Reps.append rr (Reps.one rd) fun a z w => dj2 a z w) (fun a z => z) ?_
          rw [ef, List.map_append, ee, List.length_append]
          show _ ++ [fn] = _
          have hj := (List.getElem?_eq_some_iff.mp k1)
          rw [List.length_singleton, List.take_add_one, ← heq, k1]
          rfl
        · cases hp
end
end M
namespace M
open PySem PySem.Spec PyProof.Rows L2
/-- what a loop walks, told over data -/
structure ItOk (W : Wd) (F : AS) (H : Hp) (J : It) (ds : List Dat) : Prop where
  go : ∀ (F' : AS) (H' : Hp), (∀ a, F a → F' a) → (∀ a o, H a = some o → NT o → F a ∨ ¬ Mut (some o) → H' a = some o) → FL F' H' → ∀ i d, ds[i]? = some d → J.go i H' ∧ ∀ x H'', J.yld i H' x H'' → ∃ F'', Rep W F'' H'' NoA d x ∧ Fresh F' H' F'' H'' NoA
  stop : ∀ (F' : AS) (H' : Hp), (∀ a, F a → F' a) → (∀ a o, H a = some o → NT o → F a ∨ ¬ Mut (some o) → H' a = some o) → J.stop ds.length H'
abbrev LI := Env → (List Dat → Env → Prop) → Prop
def liftI (W : Wd) (w : LI) : TI := fun σ H R => ∃ F fp env Qd, Sl W F H fp env σ ∧ Ok W F H fp ∧ w env Qd ∧ ∀ ds env' F' H' fe J, Qd ds env' → Pt W false F H fp σ env' F' H' fe → ItOk W F' H' J ds → R J H'
def JI (C : Ctx) (tg iter : Expr) (w : LI) : Prop := ∀ X, Gd C X → PI X tg iter (liftI C.W w)
theorem PI_imp {X : Cx} {tg e : Expr} {t t' : TI} (h : PI X tg e t) (i : ∀ σ H R, t' σ H R → t σ H R) : PI X tg e t' := ⟨fun pins s σ H R I q => h.run pins s σ H R I (i σ H R q)⟩
section
variable {C : Ctx} {D : Ends} {W : Wd} {σ σ1 : L2.St} {F F1 F' : AS} {H H1 H' : Hp} {fp fe f g fd : AS} {env env1 : Env} {k : SK} {pr p1 p2 : Bool} {pos p : Pos} {tg e a b c : Expr} {w wa wb : LE} {w1 w2 : LS} {st : Stmt} {rest body : List Stmt} {t : LT} {d : Dat} {v : V}
theorem Step.stable (st : Step W F H fp F' H' fe) (ok : Ok W F H fp) : ∀ a o, H a = some o → NT o → F a ∨ ¬ Mut (some o) → H' a = some o := fun a o e t z => st.keepR (g := NoA) ok (fun _ z => z.elim) a o e t (.inr z)
theorem Reps.rep {ds : List Dat} {vs : List V} {i : Nat} (r : Reps W F H NoA ds vs) (e : ds[i]? = some d) : ∃ v, vs[i]? = some v ∧ Rep W F H NoA d v := by
  obtain ⟨v, f, e1, r1, s⟩ := r.get e
  exact ⟨v, e1, Rep.eqv _ _ _ _ r1 fun a => ⟨fun z => z.elim, fun z => s a z⟩⟩
theorem itl_ok {A : Addr} {ds : List Dat} {vs : List V} (hF : F A) (hR : Rd H A (.lst vs)) (r : Reps W F H NoA ds vs) : ItOk W F H (Itl W.K A) ds where
  go := fun F' H' fx kp fl i d hd => by
    have hR' : SqL W.K H' A vs := .inl (Rd.keep (fun _ z => nomatch z) hR fun o e t => kp A o e t (.inl hF))
    have r' : Reps W F' H' NoA ds vs := Reps.mono fx _ _ _ r fun a o e t z => kp a o e t (z.resolve_left id)
    obtain ⟨v, e1, r1⟩ := r'.rep hd
    refine ⟨⟨vs, v, hR', e1⟩, fun x H'' ⟨eq, hx⟩ => ?_⟩
    have := hx vs hR'
    rw [e1] at this; cases this; subst eq
    exact ⟨F', r1, .refl⟩
  stop := fun F' H' fx kp => ⟨vs, .inl (Rd.keep (fun _ z => nomatch z) hR fun o e t => kp A o e t (.inl hF)), Nat.le_of_eq r.length.symm⟩
theorem itt_ok {A : Addr} {ds : List Dat} {vs : List V} (hR : SqT W.K H A vs) (r : Reps W F H NoA ds vs) : ItOk W F H (Itt W.K A) ds where
  go := fun F' H' fx kp fl i d hd => by
    have hR' : SqT W.K H' A vs := SqT.keep hR fun o e t n => kp A o e t (.inr n)
    have r' : Reps W F' H' NoA ds vs := Reps.mono fx _ _ _ r fun a o e t z => kp a o e t (z.resolve_left id)
    obtain ⟨v, e1, r1⟩ := r'.rep hd
    refine ⟨⟨vs, v, hR', e1⟩, fun x H'' ⟨eq, hx⟩ => ?_⟩
    have := hx vs hR'
    rw [e1] at this; cases this; subst eq
    exact ⟨F', r1, .refl⟩
  stop := fun F' H' fx kp => ⟨vs, SqT.keep hR fun o e t n => kp A o e t (.inr n), Nat.le_of_eq r.length.symm⟩
def rngD (lo : Int) (n : Nat) : List Dat := (List.range n).map fun (i : Nat) => .int (lo + (i : Int))
theorem itr_ok {lo : Int} {n : Nat} : ItOk W F H (Itr lo n) (rngD lo n) where
  go := fun F' H' fx kp fl i d hd => by
    simp only [rngD, List.getElem?_map, Option.map_eq_some_iff] at hd
    obtain ⟨j, hj, rfl⟩ := hd
    obtain ⟨h1, h2⟩ := List.getElem?_eq_some_iff.mp hj
    simp at h1 h2; subst h2
    refine ⟨h1, fun x H'' ⟨eq, ex⟩ => ?_⟩
    subst eq ex
    exact ⟨F', .int _ fun _ z => z, .refl⟩
  stop := fun F' H' fx kp => (by simp [rngD] : n ≤ (rngD lo n).length)
def wInL (w : LE) : LI := fun env Q => w env fun d e => ∃ o xs, d = .lst o xs ∧ Q (frzI o xs) e
def wInT (w : LE) : LI := fun env Q => w env fun d e => ∃ o xs, d = .tup o xs ∧ Q (frzs xs) e
theorem Po.pt {fd : AS} {d : Dat} {v : V} (P : Po W pr F H fp σ env1 F1 H1 fe fd d v) : Pt W false F H fp σ env1 F1 H1 fe := ⟨P.sl, P.st.sub fun _ => .inl, fun z => nomatch z⟩
theorem ji_lst (h : JE C pr e w) : JI C tg e (wInL w) := fun X g0 => PI_imp (pi_list (h X g0)) fun σ H R ⟨F, fp, env, Qd, sl, ok, hw, q⟩ =>
  ⟨F, fp, env, _, sl, ok, hw, fun d env' F' H' fe fd v hd P => by
    obtain ⟨o, xs, rfl, hd⟩ := hd
    have Pf := P.freeze
    have r := Pf.rep
    rw [frz_lst] at r
    cases r with
    | @lstF _ A vs _ em hR hF r =>
      refine ⟨A, rfl, ⟨vs, .inl hR⟩, q (frzI o xs) env' _ H' fe _ hd Pf.pt ?_⟩
      rw [g0.K]
      exact itl_ok (W := C.W) hF hR r⟩
theorem ji_tup (h : JE C pr e w) : JI C tg e (wInT w) := fun X g0 => PI_imp (pi_tup (h X g0)) fun σ H R ⟨F, fp, env, Qd, sl, ok, hw, q⟩ =>
  ⟨F, fp, env, _, sl, ok, hw, fun d env' F' H' fe fd v hd P => by
    obtain ⟨o, xs, rfl, hd⟩ := hd
    have Pf := P.freeze
    have r := Pf.rep
    cases r with
    | @tup _ A vs _ _ s _ r =>
      refine ⟨A, rfl, ⟨vs, by rw [g0.K]; exact s⟩, q (frzs xs) env' _ H' fe _ hd Pf.pt ?_⟩
      rw [g0.K]
      exact itt_ok (W := C.W) s r⟩
def wRng1 (w : LA) : LI := fun env Q => w env fun ds e => ∃ j : Int, ds = [.int j] ∧ (-(2 ^ 62) ≤ j ∧ j < 2 ^ 62) ∧ Q (rngD 0 j.toNat) e
def wRng2 (w : LA) : LI := fun env Q => w env fun ds e => ∃ i j : Int, ds = [.int i, .int j] ∧ (-(2 ^ 62) ≤ i ∧ i < 2 ^ 62 ∧ -(2 ^ 62) ≤ j ∧ j < 2 ^ 62) ∧ Q (rngD i (j - i).toNat) e
theorem Rep.int' {fp : AS} {i : Int} {v : V} (r : Rep W F H fp (.int i) v) : v = .int i := by cases r; rfl
theorem Pa.pt {fd : AS} {ds : List Dat} {vs : List V} (P : Pa W pr F H fp σ env1 F1 H1 fe fd ds vs) : Pt W false F H fp σ env1 F1 H1 fe := ⟨P.sl, P.st.sub fun _ => .inl, fun z => nomatch z⟩
theorem Reps.un1 {fp : AS} {x : Dat} {vs : List V} (r : Reps W F H fp [x] vs) : ∃ v f, vs = [v] ∧ Rep W F H f x v := by
  cases r with
  | cons r1 r2 _ _ => cases r2; exact ⟨_, _, rfl, r1⟩
theorem Reps.un2 {fp : AS} {x y : Dat} {vs : List V} (r : Reps W F H fp [x, y] vs) : ∃ v f u g, vs = [v, u] ∧ Rep W F H f x v ∧ Rep W F H g y u := by
  cases r with
  | cons r1 r2 _ _ =>
    cases r2 with
    | cons r2 r3 _ _ => cases r3; exact ⟨_, _, _, _, rfl, r1, r2⟩
theorem ji_rng1 {ws : LA} (hg : C.sc.names.lookup ("range" : Str) = some .globalImplicit) (hm : C.mg "range" = none) (ha : JA C pr [a] ws) (hs : ∀ env, starEach [a] env = [(false, eval a env)]) : JI C tg (.Call (.Name "range" p) [a] [] pos) (wRng1 ws) := fun X g0 =>
  PI_imp (pi_range1 (gl_of g0 hg) (by rw [g0.mg]; exact hm) (ha X g0) (hs _)) fun σ H R ⟨F, fp, env, Qd, sl, ok, hw, q⟩ =>
  ⟨F, fp, env, _, sl, ok, hw, fun ds env' F' H' fe fd vs hd P => by
    obtain ⟨j, rfl, hb, hd⟩ := hd
    obtain ⟨v, f, rfl, r⟩ := P.rep.un1
    cases r.int'
    exact ⟨j, rfl, hb.1, hb.2, q _ env' F' H' fe _ hd P.pt itr_ok⟩⟩
theorem ji_rng2 {ws : LA} (hg : C.sc.names.lookup ("range" : Str) = some .globalImplicit) (hm : C.mg "range" = none) (ha : JA C pr [a, b] ws) (hs : ∀ env, starEach [a, b] env = [(false, eval a env), (false, eval b env)]) (hs2 : ∀ env, starEach [b] env = [(false, eval b env)]) : JI C tg (.Call (.Name "range" p) [a, b] [] pos) (wRng2 ws) := fun X g0 =>
  PI_imp (pi_range2 (gl_of g0 hg) (by rw [g0.mg]; exact hm) (ha X g0) (hs _) (hs2 _)) fun σ H R ⟨F, fp, env, Qd, sl, ok, hw, q⟩ =>
  ⟨F, fp, env, _, sl, ok, hw, fun ds env' F' H' fe fd vs hd P => by
    obtain ⟨i, j, rfl, hb, hd⟩ := hd
    obtain ⟨v, f, u, g, rfl, r, r'⟩ := P.rep.un2
    cases r.int'
    cases r'.int'
    exact ⟨i, j, rfl, hb, q _ env' F' H' fe _ hd P.pt itr_ok⟩⟩
def wWhile (t : LT) (w : LS) : LS := fun env k => ∃ I : Nat → Env → Prop, (∃ m, I m env) ∧ ∀ m e, I m e → t e fun b e1 => if b = true then w e1 { k with nx := fun e2 => ∃ m', m' < m ∧ I m' e2, ct := fun e2 => ∃ m', m' < m ∧ I m' e2, bk := k.nx } else k.nx e1
theorem js_while (hc : JT C pr c t) (hb : JSs C body w1) : JS C (.While c body [] pos) (wWhile t w1) := fun X g0 =>
  PS_imp (ps_while g0.po (hc X g0) (hb X g0)) fun D σ0 H0 ⟨F0, fp0, env0, k, sl0, ok0, ⟨I, ⟨m0, h0⟩, hstep⟩, q⟩ => by
    refine ⟨fun m σ H => ∃ F fp env, Sn C σ0 F0 H0 fp0 env F H fp σ ∧ I m env, ⟨m0, F0, fp0, env0, ⟨sl0, Step.refl ok0, fun _ _ => rfl, rfl⟩, h0⟩, ?_⟩
    rintro m σ H ⟨F, fp, env, S, hi⟩
    refine ⟨F, fp, env, _, S.sl, S.st.ok, hstep m env hi, fun b e1 F1 H1 fe hd P => ?_⟩
    have S1 := S.trans P.sn
    cases b with
    | false => exact q.nx e1 F1 H1 fe σ hd S1
    | true =>
      refine ⟨fun σ' H' => ∃ m', m' < m ∧ ∃ F fp env, Sn C σ0 F0 H0 fp0 env F H' fp σ' ∧ I m' env, fun _ _ z => z, F1, fe, e1, _, S1.sl, S1.st.ok, hd, ⟨?_, ?_, ?_, ?_⟩⟩
      · rintro e2 F2 H2 f2 σ2 ⟨m', hm, hi'⟩ S2
        exact ⟨m', hm, F2, f2, e2, S1.trans S2, hi'⟩
      · exact fun d e2 F2 H2 f2 fd v σ2 hk S2 => q.rt d e2 F2 H2 f2 fd v σ2 hk (S2.after S1)
      · exact fun e2 F2 H2 f2 σ2 hk S2 => q.nx e2 F2 H2 f2 σ2 hk (S1.trans S2)
      · rintro e2 F2 H2 f2 σ2 ⟨m', hm, hi'⟩ S2
        exact ⟨m', hm, F2, f2, e2, S1.trans S2, hi'⟩
def forD (g : LG) (w : LS) : List Dat → Env → SK → Prop
  | [], e, k => k.nx e
  | d :: ds, e, k => g d e fun e1 => w e1 { k with nx := fun e2 => forD g w ds e2 k, ct := fun e2 => forD g w ds e2 k, bk := k.nx }
def wFor (i : LI) (g : LG) (w : LS) : LS := fun env k => i env fun ds e => forD g w ds e k
theorem forW_of {gl : LG} {J : It} {ds : List Dat} {tg' : TG} {tb : TS} {σ0 : L2.St} {env1 : Env}
    (hg : ∀ v σ H Q, (∃ F fp env d Qd, Sl C.W F H fp env σ ∧ Ok C.W F H fp ∧ σ.length = C.N.length ∧ Rep C.W F H NoA d v ∧ gl d env Qd ∧ ∀ env' F' H' fe σ', Qd env' → Sn C σ F H fp env' F' H' fe σ' → Q σ' H') → tg' v σ H Q)
    (hb : ∀ D σ H, liftS C w1 D σ H → tb D σ H) (hl : σ0.length = C.N.length) (sl : Sl C.W F1 H1 fe env1 σ0) (ok : Ok C.W F1 H1 fe) (it : ItOk C.W F1 H1 J ds) (hd : forD gl w1 ds env1 k) (q : Ko C D σ0 F1 H1 fe k) :
    ∃ W : Nat → Nat → L2.St → Hp → Prop, (∃ m, W 0 m σ0 H1) ∧ ∀ i m σ H, W i m σ H →
      (J.stop i H ∧ D.nx σ H) ∨ (J.go i H ∧ ∃ N : L2.St → Hp → Prop, (∀ σ' H', N σ' H' → ∃ m', m' < m ∧ W (i + 1) m' σ' H') ∧ ∀ x H', J.yld i H x H' → tg' x σ H' fun σ2 H2 => tb { D with nx := N, ct := N, bk := D.nx } σ2 H2) := by
    refine ⟨fun i m σ H => m = ds.length - i ∧ i ≤ ds.length ∧ ∃ F fp env, Sn C σ0 F1 H1 fe env F H fp σ ∧ forD gl w1 (ds.drop i) env k, ⟨ds.length, by simp, Nat.zero_le _, F1, fe, env1, ⟨sl, Step.refl ok, fun _ _ => rfl, rfl⟩, hd⟩, ?_⟩
    rintro i m σ H ⟨rfl, hi, F, fp, env, S, hf⟩
    have stb := S.st.stable ok
    by_cases hlt : i < ds.length
    · refine .inr ⟨(it.go F H S.st.fx stb S.st.ok.lv i ds[i] (by simp [hlt])).1, fun σ' H' => ∃ F fp env, Sn C σ0 F1 H1 fe env F H' fp σ' ∧ forD gl w1 (ds.drop (i + 1)) env k, fun σ' H' z => ⟨ds.length - (i + 1), by omega, rfl, hlt, z⟩, fun x H2 hy => ?_⟩
      obtain ⟨F2, rx, fr⟩ := (it.go F H S.st.fx stb S.st.ok.lv i ds[i] (by simp [hlt])).2 x H2 hy
      have fs := fr.step S.st.ok fun _ z => z.elim
      have S2 : Sn C σ0 F1 H1 fe env F2 H2 fp σ := ⟨S.sl.kept fr.fx fr.kp, (S.st.trans fs.1).sub fun _ => .inl, S.pin, S.ln⟩
      rw [List.drop_eq_getElem_cons hlt] at hf
      refine hg _ _ _ _ ⟨F2, fp, env, ds[i], _, S2.sl, S2.st.ok, by rw [S.ln, hl], rx, hf, fun e3 F3 H3 f3 σ3 hd3 S3 => ?_⟩
      have S3' := S2.trans S3
      refine hb _ _ _ ⟨F3, f3, e3, _, S3'.sl, S3'.st.ok, hd3, ⟨?_, ?_, ?_, ?_⟩⟩
      · exact fun e4 F4 H4 f4 σ4 hk S4 => ⟨F4, f4, e4, S3'.trans S4, hk⟩
      · exact fun d e4 F4 H4 f4 fd v σ4 hk S4 => q.rt d e4 F4 H4 f4 fd v σ4 hk (S4.after S3')
      · exact fun e4 F4 H4 f4 σ4 hk S4 => q.nx e4 F4 H4 f4 σ4 hk (S3'.trans S4)
      · exact fun e4 F4 H4 f4 σ4 hk S4 => ⟨F4, f4, e4, S3'.trans S4, hk⟩
    · have e : i = ds.length := by omega
      subst e
      rw [List.drop_length] at hf
      exact .inl ⟨it.stop F H S.st.fx stb, q.nx env F H fp σ hf S⟩
theorem js_for {wi : LI} {gl : LG} (hi : JI C tg e wi) (hg : JG C tg gl) (hb : JSs C body w1) (hs : ∀ env x, foldedSetIterable e env x = pure x) (hh : C.hot = false := by rfl) : JS C (.For tg e body [] pos) (wFor wi gl w1) := fun X g0 =>
  PS_len (ps_for g0.po (g0.calm' hh) (hi X g0) (hg X g0) (hb X g0) (hs _)) fun D σ0 H0 hl ⟨F0, fp0, env0, k, sl0, ok0, hw, q⟩ =>
    ⟨F0, fp0, env0, _, sl0, ok0, hw, fun ds env1 F1 H1 fe1 J hd P it => forW_of (fun _ _ _ _ z => z) (fun _ _ _ z => z) (by rw [hl, g0.N]) P.sl P.st.ok it hd (q.later P.sn)⟩
end
end M
namespace M
open PySem PySem.Spec PyProof.Rows L2
section
variable {C : Ctx} {D : Ends} {W : Wd} {σ σ1 σ' : L2.St} {F F1 F' : AS} {H H1 H' : Hp} {fp fe f g fd : AS} {env env1 env' : Env} {k : SK} {pr p1 p2 : Bool} {pos p : Pos} {tg e a b c elt iter kx vx : Expr} {w wa wb we wk wv : LE} {w1 w2 : LS} {st : Stmt} {rest body : List Stmt} {t : LT} {d : Dat} {v : V}
theorem PE_len {X : Cx} {e : Expr} {t t' : TE} (h : PE X e t) (i : ∀ σ H Q, σ.length = X.N.length → t' σ H Q → t σ H Q) : PE X e t' := ⟨fun pins s σ H Q I q => h.run pins s σ H Q I (i σ H Q I.len q)⟩
def wipeE (env : Env) : List Nat → Env
  | [] => env
  | v :: vs => (wipeE env vs).set v none
theorem wipeE_some {i : Nat} {x : Dat} : ∀ {vs : List Nat}, (wipeE env vs)[i]? = some (some x) → env[i]? = some (some x) ∧ i ∉ vs
  | [], h => ⟨h, by simp⟩
  | v :: vs, h => by
    unfold wipeE at h
    by_cases hi : v = i
    · subst hi
      by_cases hv : v < (wipeE env vs).length
      · rw [List.getElem?_set_self hv] at h; cases h
      · rw [List.getElem?_eq_none (by simpa using hv)] at h; cases h
    · rw [List.getElem?_set_ne hi] at h
      obtain ⟨h1, h2⟩ := wipeE_some h
      exact ⟨h1, by simp only [List.mem_cons, not_or]; exact ⟨fun e => hi e.symm, h2⟩⟩
theorem Sl.agree (h : Sl W F H fp env σ) : ∀ {σ' : L2.St}, σ'.length = σ.length → (∀ (i : Nat) (d : Dat), env[i]? = some (some d) → σ'[i]? = σ[i]?) → Sl W F H fp env σ' := by
  induction h with
  | em e =>
    intro σ' hl _
    have : σ' = [] := List.eq_nil_of_length_eq_zero hl
    subst this
    exact .em e
  | no s ih =>
    intro σ' hl hi
    cases σ' with
    | nil => simp at hl
    | cons y σ' => exact .no (ih (by simpa using hl) fun i d e => by have := hi (i + 1) d (by simpa using e); simpa using this)
  | so r s n j ih =>
    intro σ' hl hi
    cases σ' with
    | nil => simp at hl
    | cons y σ' =>
      have h0 := hi 0 _ (by simp; rfl)
      simp at h0
      subst h0
      exact .so r (ih (by simpa using hl) fun i d e => by have := hi (i + 1) d (by simpa using e); simpa using this) n j
theorem Sl.dropE (s : Sl W F H fp env σ) : ∀ vs : List Nat, ∃ g, (∀ a, g a → fp a) ∧ Sl W F H g (wipeE env vs) σ
  | [] => ⟨fp, fun _ z => z, s⟩
  | v :: vs => by
    obtain ⟨g, hg, s1⟩ := Sl.dropE s vs
    obtain ⟨g2, hg2, s2⟩ := s1.drop v
    exact ⟨g2, fun a z => hg a (hg2 a z), s2⟩
theorem Sl.wipe (s : Sl W F H fp env σ) (vs : List Nat) : ∃ g, (∀ a, g a → fp a) ∧ Sl W F H g (wipeE env vs) (L2.wipe σ vs) := by
  obtain ⟨g, hg, s1⟩ := s.dropE vs
  exact ⟨g, hg, s1.agree (wipe_length _ _) fun i d e => wipe_out (wipeE_some e).2⟩
/-- back in the frame around -/
theorem Sl.unwipe {vs : List Nat} (s : Sl W F H fp env σ') (hw : L2.wipe σ' vs = L2.wipe σ vs) : ∃ g, (∀ a, g a → fp a) ∧ Sl W F H g (wipeE env vs) σ := by
  obtain ⟨g, hg, s1⟩ := s.dropE vs
  refine ⟨g, hg, s1.agree ?_ fun i d e => ?_⟩
  · have := congrArg List.length hw
    rw [wipe_length, wipe_length] at this
    exact this.symm
  · have n := (wipeE_some e).2
    rw [← wipe_out n, ← wipe_out (σ := σ') n, hw]
theorem wipe_ext {vs : List Nat} (hl : σ'.length = σ.length) (h : ∀ i, i < σ.length → i ∉ vs → σ'[i]? = σ[i]?) : L2.wipe σ' vs = L2.wipe σ vs := by
  refine List.ext_getElem? fun i => ?_
  by_cases hi : i ∈ vs
  · by_cases hb : i < σ.length
    · have key : ∀ (τ : L2.St), i < τ.length → (L2.wipe τ vs)[i]? = some none := fun τ hτ => by
        cases e : (L2.wipe τ vs)[i]? with
        | none => rw [List.getElem?_eq_none_iff, wipe_length] at e; omega
        | some o =>
          cases o with
          | none => rfl
          | some x => exact absurd hi (wipe_some e).2
      rw [key σ hb, key σ' (by omega)]
    · rw [List.getElem?_eq_none (by rw [wipe_length]; omega), List.getElem?_eq_none (by rw [wipe_length]; omega)]
  · rw [wipe_out hi, wipe_out hi]
    by_cases hb : i < σ.length
    · exact h i hb hi
    · rw [List.getElem?_eq_none (by omega), List.getElem?_eq_none (by omega)]
theorem wipe_wipe {vs : List Nat} : L2.wipe (L2.wipe σ vs) vs = L2.wipe σ vs := wipe_ext (wipe_length _ _) fun i _ n => wipe_out n
def Ctx.blk (C : Ctx) (scope : Scope) (own : List (Str × Nat)) : Ctx := { C with sc := relS scope C.sc, pin := (List.range C.N.length).filter fun i => !(own.map (·.2)).contains i, fnc := fun x => scope.names.lookup x == some .cell }
theorem Gd.blk {X : Cx} {scope : Scope} (hh : C.hot = false) (own : List (Str × Nat)) (g : Gd C X) {s : Shared} {H : Hp} {A : Addr} {cl : List (Str × Addr)} {fp : List Addr} : Gd (C.blk scope own) (X.blk s H scope (compEnvC scope cl A X.env) fp) where
  prog := g.prog
  w := g.w
  K := g.K
  mg := g.mg
  base := g.base
  N := g.N
  nd := g.nd
  sc := by show relS scope X.env.scope = _; rw [g.sc]; rfl
  calm' := g.calm'
  room := g.room
  hd := g.hd
  fn := fun x h => h
  po := PassesOwn.never
  gu := g.gu
  cq := g.cq
  exo := fun z => by
    have z' : C.hot = true := z
    rw [hh] at z'; cases z'
theorem blk_wipe {scope : Scope} {own : List (Str × Nat)} (hl : σ.length = C.N.length) (S : Sn (C.blk scope own) (L2.wipe σ (own.map (·.2))) F H fp env F' H' fe σ') : L2.wipe σ' (own.map (·.2)) = L2.wipe σ (own.map (·.2)) := by
  refine (wipe_ext (σ := L2.wipe σ (own.map (·.2))) S.ln fun i hi n => S.pin i ?_).trans wipe_wipe
  rw [wipe_length] at hi
  show i ∈ (List.range C.N.length).filter _
  rw [List.mem_filter]
  exact ⟨List.mem_range.mpr (by omega), by simpa using n⟩
theorem mu_lst {vs : List V} : Mut (some (HO.lst vs)) ∧ ¬ Cod (.lst vs) := ⟨True.intro, not_cod fun _ z => nomatch z⟩
theorem mu_dK {vs : List (Key × V)} : Mut (some (HO.dK vs)) ∧ ¬ Cod (.dK vs) := ⟨True.intro, not_cod fun _ z => nomatch z⟩
structure DS (W : Wd) (F : AS) (H : Hp) (fp : AS) (A : Addr) (u : HO) : Prop where
  at_ : H A = some u
  nD : ¬ fp A
  mu : Mut (some u) ∧ ¬ Cod u
  ok : Ok W F H (fun a => fp a ∨ a = A)
theorem DS.go {A : Addr} {u : HO} (x : DS W F H fp A u) (sub : ∀ a, g a → fp a) (st : Step W F H g F' H' fe) : DS W F' H' fe A u ∧ Step W F H (fun a => fp a ∨ a = A) F' H' (fun a => fe a ∨ a = A) := by
  have fr := st.frame (g := fun a => a = A) (x.ok.sub fun _ => .inr) fun a z q => x.nD (q ▸ sub a z)
  refine ⟨⟨(st.kp A u x.at_ fun z => x.nD (sub A z)).nt (mut_nt x.mu.1), fun z => fr.2 A z rfl, x.mu, fr.1.ok⟩, fr.1.lft fun a z => z.imp_left (sub a)⟩
theorem DS.set {A : Addr} {u u' : HO} (x : DS W F H fp A u) (hm : Mut (some u') ∧ ¬ Cod u') : DS W F (upd H A u') fp A u' ∧ Step W F H (fun a => fp a ∨ a = A) F (upd H A u') (fun a => fp a ∨ a = A) := by
  have nF : ¬ F A := x.ok.nf A (.inr rfl)
  have ok' : Ok W F (upd H A u') (fun a => fp a ∨ a = A) := by
    refine ⟨x.ok.nf, fun a z => ?_, fun a z => ?_, x.ok.tb.go (Tgo.upd x.at_ (mut_nt x.mu.1) x.mu.2 (mut_nt hm.1))⟩
    · by_cases q : a = A
      · subst q; rw [upd_same]; exact hm.1
      · rw [upd_ne q]; exact x.ok.own a z
    · by_cases q : a = A
      · subst q; exact absurd z nF
      · rw [upd_ne q]; exact x.ok.lv a z
  refine ⟨⟨upd_same, x.nD, hm, ok'⟩, ⟨fun a o e z => ?_, fun _ z => z, fun a z => .inl z, fun a z => .inl z, ok'⟩⟩
  refine .of ?_
  rw [upd_ne (fun q => z (.inr q))]; exact e
theorem DS.sl {A : Addr} {u u' : HO} (x : DS W F H fp A u) (s : Sl W F H fp env σ) : Sl W F (upd H A u') fp env σ := s.mono (fun _ z => z) fun a o e _ z => by
  rw [upd_ne]
  · exact e
  · rintro rfl
    rcases z with z | z | z
    · exact x.nD z
    · exact x.ok.nf a (.inr rfl) z
    · rw [x.at_] at e; cases e; exact z x.mu.1
theorem DS.reps {A : Addr} {u u' : HO} {ds : List Dat} {vs : List V} (x : DS W F H fp A u) (s : Reps W F H NoA ds vs) : Reps W F (upd H A u') NoA ds vs :=
  s.upd (by rw [x.at_]; exact x.mu.1) (x.ok.nf A (.inr rfl)) fun z => z
def JTs (C : Ctx) (pr : Bool) (es : List Expr) (t : LT) : Prop := ∀ X, Gd C X → PTs X es (liftT C.W pr t)
def wYes : LT := fun env Q => Q true env
theorem PTs_imp {X : Cx} {e : List Expr} {t t' : TT} (h : PTs X e t) (i : ∀ σ H Q, t' σ H Q → t σ H Q) : PTs X e t' := ⟨fun pins s σ H Q I q => h.run pins s σ H Q I (i σ H Q q)⟩
theorem jts_nil : JTs C true [] wYes := fun X g => PTs_imp pts_nil fun σ H Q ⟨F, fp, env, Qd, sl, ok, hw, q⟩ => q true env F H fp hw ⟨sl, Step.refl ok, fun _ => Keep.rfl⟩
theorem jts_one (h : JT C pr c t) : JTs C pr [c] t := fun X g => pts_one (h X g)
def lcD (vs : List Nat) (gl : LG) (t : LT) (w : LE) : List Dat → List Dat → Env → (List Dat → Env → Prop) → Prop
  | [], acc, e, Q => Q acc e
  | d :: ds, acc, e, Q => gl d (wipeE e vs) fun e1 => t e1 fun b e2 => if b = true then w e2 fun y e3 => lcD vs gl t w ds (acc ++ [frz y]) (wipeE e3 vs) Q else lcD vs gl t w ds acc (wipeE e2 vs) Q
def wLc (i : LI) (gl : LG) (t : LT) (w : LE) (vs : List Nat) : LE := fun env Q => i env fun ds e => ds.length < sizeLine ∧ lcD vs gl t w ds [] e fun acc e' => Q (.lst true acc) e'
/-- one turn's target and tests: the state behind them -/
structure LcSt (C : Ctx) (σ : L2.St) (F : AS) (H : Hp) (fp : AS) (A : Addr) (acc : List Dat) (vs : List V) (env : Env) : Prop where
  sl : Sl C.W F H fp env σ
  ds : DS C.W F H fp A (.lst vs)
  reps : Reps C.W F H NoA acc vs
theorem lcW_of {gl : LG} {scope : Scope} {own : List (Str × Nat)} {te : TE} {tt : TT} {tg' : TG} {J : It} {ds : List Dat} {F1 : AS} {H1 : Hp} {fe1 : AS} {env1 : Env}
    (Tg : ∀ v σ H Q, (∃ F fp env d Qd, Sl C.W F H fp env σ ∧ Ok C.W F H fp ∧ σ.length = C.N.length ∧ Rep C.W F H NoA d v ∧ gl d env Qd ∧ ∀ env' F' H' fe σ', Qd env' → Sn (C.blk scope own) σ F H fp env' F' H' fe σ' → Q σ' H') → tg' v σ H Q)
    (Tt : ∀ σ H Q, liftT C.W p1 t σ H Q → tt σ H Q) (Te : ∀ σ H Q, lift C.W p2 we σ H Q → te σ H Q) {Q : VK} (hl : σ.length = C.N.length) {Qd : List Dat → Env → Prop}
    (sl : Sl C.W F1 H1 fe1 env1 σ) (ok : Ok C.W F1 H1 fe1) (it : ItOk C.W F1 H1 J ds) (hz : ds.length < sizeLine) (hd : lcD (own.map (·.2)) gl t we ds [] env1 Qd)
    (q : ∀ acc e F' H' fe fd v, Qd acc e → Po C.W false F1 H1 fe1 σ e F' H' fe fd (.lst true acc) v → Q v H') :
    ∀ A, H1 A = none → ∃ W : Nat → Nat → Hp → Prop, (∃ m, W 0 m (upd H1 A (.lst []))) ∧ ∀ i m H, W i m H →
      (J.stop i H ∧ Q (.ref A) H) ∨ (J.go i H ∧ ∃ Nx : Hp → Prop, (∀ H', Nx H' → ∃ m', m' < m ∧ W (i + 1) m' H') ∧ ∀ x H', J.yld i H x H' → tg' x (L2.wipe σ (own.map (·.2))) H' fun σ2 H2 => L2.wipe σ2 (own.map (·.2)) = L2.wipe σ (own.map (·.2)) ∧ tt σ2 H2 fun b H3 =>
        if b = true then te σ2 H3 fun y H4 => ∃ acc, H4 A = some (.lst acc) ∧ acc.length < sizeLine ∧ Nx (upd H4 A (.lst (acc ++ [y]))) else Nx H3) := by
  intro A hA
  have fr0 : Fresh F1 H1 F1 (upd H1 A (.lst [])) (fun a => a = A) := ⟨keep_upd hA, Tgo.new hA (fun _ z => nomatch z), fun _ z => z, fun _ z => .inl z, fun a z => by rw [z]; exact hA, fun a z q => ok.lv a q (by rw [z]; exact hA)⟩
  have fs0 := fr0.step ok fun a z => by rw [z, upd_same]; exact True.intro
  have nA : ¬ fe1 A := fun z => fs0.2 A z rfl
  have D0 : DS C.W F1 (upd H1 A (.lst [])) fe1 A (.lst []) := ⟨upd_same, nA, mu_lst, fs0.1.ok⟩
  refine ⟨fun i m H2 => m = ds.length - i ∧ i ≤ ds.length ∧ ∃ F2 f2 e2 acc vs, LcSt C σ F2 H2 f2 A acc vs e2 ∧ acc.length ≤ i ∧ Step C.W F1 H1 fe1 F2 H2 (fun a => f2 a ∨ a = A) ∧ lcD (own.map (·.2)) gl t we (ds.drop i) acc e2 Qd,
    ⟨ds.length, by simp, Nat.zero_le _, F1, fe1, env1, [], [], ⟨sl.kept (fun _ z => z) (keep_upd hA), D0, .nil fun _ z => z⟩, Nat.le_refl _, fs0.1, hd⟩, ?_⟩
  rintro i m H2 ⟨rfl, hi, F2, f2, e2, acc, vs, S, ha, st, hf⟩
  have stb := st.stable ok
  by_cases hlt : i < ds.length
  · refine .inr ⟨(it.go F2 H2 st.fx stb st.ok.lv i ds[i] (by simp [hlt])).1, fun H' => ∃ F2 f2 e2 acc vs, LcSt C σ F2 H' f2 A acc vs e2 ∧ acc.length ≤ i + 1 ∧ Step C.W F1 H1 fe1 F2 H' (fun a => f2 a ∨ a = A) ∧ lcD (own.map (·.2)) gl t we (ds.drop (i + 1)) acc e2 Qd, fun H' z => ⟨ds.length - (i + 1), by omega, rfl, hlt, z⟩, fun x H3 hy => ?_⟩
    obtain ⟨F3, rx, fr⟩ := (it.go F2 H2 st.fx stb st.ok.lv i ds[i] (by simp [hlt])).2 x H3 hy
    have fs := fr.step S.ds.ok fun _ z => z.elim
    have ok3 : Ok C.W F3 H3 (fun a => f2 a ∨ a = A) := fs.1.ok.sub fun _ => .inl
    have st3 : Step C.W F1 H1 fe1 F3 H3 (fun a => f2 a ∨ a = A) := (st.trans fs.1).sub fun _ => .inl
    have D3 : DS C.W F3 H3 f2 A (.lst vs) := ⟨(fr.kp _ _ S.ds.at_).nt (mut_nt S.ds.mu.1), S.ds.nD, mu_lst, ok3⟩
    obtain ⟨g3, sub3, sl3⟩ := (S.sl.kept fr.fx fr.kp).wipe (own.map (·.2))
    have r3 : Reps C.W F3 H3 NoA acc vs := S.reps.kept fr.fx fr.kp
    have okg : Ok C.W F3 H3 g3 := ok3.sub fun a z => .inl (sub3 a z)
    rw [List.drop_eq_getElem_cons hlt] at hf
    refine Tg _ _ _ _ ⟨F3, g3, _, ds[i], _, sl3, okg, by rw [wipe_length]; exact hl, rx, hf, fun e4 F4 H4 f4 σ4 hd4 S4 => ⟨blk_wipe hl S4, ?_⟩⟩
    refine Tt _ _ _ ⟨F4, f4, e4, _, S4.sl, S4.st.ok, hd4, fun bb e5 F5 H5 f5 hd5 P5 => ?_⟩
    have st35 := S4.st.trans P5.st
    have fin : ∀ {F6 : AS} {H6 : Hp} {f6 : AS} {e6 : Env}, Step C.W F3 H3 g3 F6 H6 f6 → Sl C.W F6 H6 f6 e6 σ4 → LcSt C σ F6 H6 f6 A acc vs e6 → True := fun _ _ _ => trivial
    cases bb with
    | false =>
      have D5 := D3.go sub3 st35
      obtain ⟨g5, sub5, sl5⟩ := P5.sl.unwipe (blk_wipe hl S4)
      refine ⟨F5, g5, _, acc, vs, ⟨sl5, ⟨D5.1.at_, fun z => D5.1.nD (sub5 A z), mu_lst, D5.1.ok.sub fun a z => z.imp_left (sub5 a)⟩, r3.step st35 okg fun _ z => z.elim⟩, by omega, (st3.trans D5.2).sub fun a z => z.imp_left (sub5 a), hd5⟩
    | true =>
      refine (show te σ4 H5 _ from ?_)
      refine Te _ _ _ ⟨F5, f5, e5, _, P5.sl, P5.st.ok, hd5, fun y e6 F6 H6 f6 fy vy hd6 P6 => ?_⟩
      have Pf := P6.freeze
      have st36 := st35.trans (Pf.st.sub fun _ => .inl)
      have D6 := D3.go sub3 st36
      obtain ⟨g6, sub6, sl6⟩ := Pf.sl.unwipe (blk_wipe hl S4)
      have D6' : DS C.W (fun a => F6 a ∨ fy a) H6 g6 A (.lst vs) := ⟨D6.1.at_, fun z => D6.1.nD (sub6 A z), mu_lst, D6.1.ok.sub fun a z => z.imp_left (sub6 a)⟩
      have D7 := D6'.set (u' := .lst (vs ++ [vy])) mu_lst
      have r6 : Reps C.W (fun a => F6 a ∨ fy a) H6 NoA acc vs := r3.step st36 okg fun _ z => z.elim
      have r7 : Reps C.W (fun a => F6 a ∨ fy a) H6 NoA (acc ++ [frz y]) (vs ++ [vy]) := Reps.eqv _ _ _ _ (Reps.append r6 (Reps.one Pf.rep) fun _ z => z.elim) fun a => ⟨fun z => z.elim, fun z => z.elim id id⟩
      refine ⟨vs, D6.1.at_, by rw [← r3.length]; omega, ?_⟩
      refine ⟨fun a => F6 a ∨ fy a, g6, _, acc ++ [frz y], vs ++ [vy], ⟨D6'.sl sl6, D7.1, D6'.reps r7⟩, by simp; omega, (st3.trans (D6.2.sub fun a z => z.imp_left (sub6 a))).trans D7.2, hd6⟩
  · have e : i = ds.length := by omega
    subst e
    rw [List.drop_length] at hf
    refine .inl ⟨it.stop F2 H2 st.fx stb, q _ e2 F2 H2 f2 (fun a => a = A) _ hf ⟨S.sl, .lstO S.ds.at_ S.reps (fun z => z) fun b => ⟨.inl, fun z => z.elim id False.elim⟩, fun a z q => S.ds.nD (q ▸ z), st, fun z => nomatch z⟩⟩
theorem tLc_of {wi : LI} {gl : LG} {scope : Scope} {own : List (Str × Nat)} {te : TE} {tt : TT} {tg' : TG}
    (Tg : ∀ v σ H Q, (∃ F fp env d Qd, Sl C.W F H fp env σ ∧ Ok C.W F H fp ∧ σ.length = C.N.length ∧ Rep C.W F H NoA d v ∧ gl d env Qd ∧ ∀ env' F' H' fe σ', Qd env' → Sn (C.blk scope own) σ F H fp env' F' H' fe σ' → Q σ' H') → tg' v σ H Q)
    (Tt : ∀ σ H Q, liftT C.W p1 t σ H Q → tt σ H Q) (Te : ∀ σ H Q, lift C.W p2 we σ H Q → te σ H Q) (Q : VK) (hl : σ.length = C.N.length)
    (h : lift C.W false (wLc wi gl t we (own.map (·.2))) σ H Q) : tLc (liftI C.W wi) tg' tt te (own.map (·.2)) σ H Q := by
  obtain ⟨F, fp, env, Qd, sl, ok, hw, q⟩ := h
  refine ⟨F, fp, env, _, sl, ok, hw, fun ds env1 F1 H1 fe1 J hd P it => ?_⟩
  obtain ⟨hz, hd⟩ := hd
  exact lcW_of Tg Tt Te hl P.sl P.st.ok it hz hd fun acc e F' H' fe fd v hq P2 => q _ e F' H' fe fd v hq ⟨P2.sl, P2.rep, P2.dj, P.st.trans P2.st, fun z => nomatch z⟩
theorem je_lc {wi : LI} {gl : LG} {scope : Scope} {own : List (Str × Nat)} {ifs : List Expr} (hi : JI C tg iter wi) (okb : BlkOk C.N C.sc scope own) (hg : JG (C.blk scope own) tg gl) (ht : JTs (C.blk scope own) p1 ifs t) (he : JE (C.blk scope own) p2 elt we) (hs : ∀ env x, foldedSetIterable iter env x = pure x) (hh : C.hot = false := by rfl) :
    JE C false (.ListComp elt [⟨tg, iter, ifs, 0⟩] scope pos) (wLc wi gl t we (own.map (·.2))) := fun X g0 =>
  PE_len (pe_lc (g0.calm' hh) (by rw [g0.N]; exact g0.nd) (hi X g0) (by rw [g0.N, g0.sc]; exact okb) (fun _ _ _ _ _ => hg _ (g0.blk hh own)) (fun _ _ _ _ _ => ht _ (g0.blk hh own)) (fun _ _ _ _ _ => he _ (g0.blk hh own)) (hs _)) fun σ H Q hl h =>
    tLc_of (C := C) (fun _ _ _ _ z => z) (fun _ _ _ z => z) (fun _ _ _ z => z) Q (by rw [hl, g0.N]) h
/-- x = [..] on one line, x a local -/
theorem js_setLc {i : Nat} {y : Str} {py spos : Pos} {wi : LI} {gl : LG} {scope : Scope} {own : List (Str × Nat)} {ifs : List Expr} (n : Nm C i y) (hyl : C.sc.names.lookup y = some .local) (hi : JI C tg iter wi) (okb : BlkOk C.N C.sc scope own) (hg : JG (C.blk scope own) tg gl) (ht : JTs (C.blk scope own) p1 ifs t) (he : JE (C.blk scope own) p2 elt we)
    (hsw : ∀ env, env.scope = C.sc → swapsWith (.ListComp elt [⟨tg, iter, ifs, 0⟩] scope pos) (some (.Name y py)) spos.line env = pure true) (hs : ∀ env x, foldedSetIterable iter env x = pure x) (hh : C.hot = false := by rfl) :
    JS C (.Assign [.Name y py] (.ListComp elt [⟨tg, iter, ifs, 0⟩] scope pos) spos) (wSet i (wLc wi gl t we (own.map (·.2)))) := fun X g0 =>
  PS_len (ps_setLc (i := i) (g0.calm' hh) (by rw [g0.N]; exact g0.nd) (by rw [g0.N]; exact n.hN) (by rw [g0.sc]; exact hyl) (hsw _ g0.sc) (hi X g0) (by rw [g0.N, g0.sc]; exact okb) (fun _ _ _ _ _ => hg _ (g0.blk hh own)) (fun _ _ _ _ _ => ht _ (g0.blk hh own)) (fun _ _ _ _ _ => he _ (g0.blk hh own)) (hs _)) fun D σ H hl ⟨F, fp, env, k, sl, ok, hw, q⟩ =>
    tLc_of (C := C) (fun _ _ _ _ z => z) (fun _ _ _ z => z) (fun _ _ _ z => z) _ (by rw [hl, g0.N]) ⟨F, fp, env, _, sl, ok, hw, fun d env' F' H' fe fd v hd P => by
      obtain ⟨g', s⟩ := P.into n.lt (by rw [hl, g0.N]) n.pin
      exact q.nx _ F' H' g' _ hd s⟩
end
end M
namespace M
open PySem PySem.Spec PyProof.Rows L2
/-- the context of a def's body -/
def Ctx.fn (C : Ctx) (N : List Str) (sc : Scope) (k : Nat) (pin : List Nat) : Ctx := { C with N := N, sc := sc, k := k, pin := pin, fnc := fun _ => true, cq := none, hot := false }
/-- the same without, with the knowledge that no repr is under way -/
def Ctx.ng (C : Ctx) : Ctx := { C with gd := false }
def startE (n : Nat) (ds : List Dat) : Env := ds.map some ++ List.replicate (n - ds.length) none
/-- what the body's term promises -/
def spOf (np n : Nat) (w : LS) : SpF := fun ds Q => ds.length = np ∧ w (startE n ds) ⟨fun _ => Q .non, fun d _ => Q d, fun _ => False, fun _ => False⟩
def spOfM (np n : Nat) (w : LS) : SpM := fun d ds Q => ds.length + 1 = np ∧ w (startE n (d :: ds)) ⟨fun e => ∃ d', e[0]? = some (some d') ∧ Q .non d', fun r e => ∃ d', e[0]? = some (some d') ∧ Q r d', fun _ => False, fun _ => False⟩
section
variable {C : Ctx} {W : Wd} {σ : L2.St} {F F' : AS} {H H' : Hp} {fp fe f g fd : AS} {env : Env} {d : Dat} {v : V} {w : LS}
theorem sl_nones : ∀ n : Nat, Sl W F H NoA (List.replicate n none) (List.replicate n none)
  | 0 => .em fun _ z => z
  | n + 1 => .no (sl_nones n)
theorem sl_start : ∀ {ds : List Dat} {vs : List V} {fp : AS} (n : Nat), Reps W F H fp ds vs → Sl W F H fp (ds.map some ++ List.replicate n none) (vs.map some ++ List.replicate n none)
  | [], _, _, n, r => by cases r with | nil e => exact (sl_nones n).eqv fun a => ⟨fun z => absurd z (e a), fun z => z.elim⟩
  | d :: ds, _, _, n, r => by
    cases r with
    | cons r1 r2 dj i => exact .so r1 (sl_start n r2) dj i
theorem start_eq (N : List Str) (vs : List V) : L2.start N vs = vs.map some ++ List.replicate (N.length - vs.length) none := rfl
theorem ok_no (fl : FL F H ∧ TbOk W.tb H) : Ok W F H NoA := ⟨fun _ z => z.elim, fun _ z => z.elim, fl.1, fl.2⟩
theorem gd_def {N ps : List Str} {st : Stmt} {qual : Str} {f : Addr} {k : Nat} {cdv : Value} {A : Around} {outer : List PySem.Env} {s : Shared} {H : Hp} {E : XK} (pin : List Nat) (hG : C.gd = true → A.guards = some []) (S : FnScope N ps (defScope st)) (hr : Room k (A.deeper (envOfC qual (defScope st) s.heap.objs.size f cdv))) :
    Gd (C.fn N (defScope st) k pin) (cxOf CX0 C.P C.w C.K C.mg C.base N qual (defScope st) f cdv A outer s H E).nox where
  prog := rfl
  w := rfl
  K := rfl
  mg := rfl
  base := rfl
  N := rfl
  nd := S.nd
  sc := rfl
  calm' := fun _ => rfl
  room := ⟨hr.dp, hr.un⟩
  hd := fun _ => hr.hd
  fn := fun _ _ => rfl
  po := PassesOwn.never
  gu := hG
  cq := fun _ _ e => nomatch e
  exo := fun z => Bool.noConfusion z
/-- a def that changes nothing of what it is given -/
theorem fnOkF (hz : C.gd = false) {x qual : Str} {st : Stmt} {f : Addr} {fd : FuncData} {N ps : List Str} {k : Nat} (F : Fun C.K x qual st f fd) (S : FnScope N ps (defScope st)) (h : JSs (C.fn N (defScope st) k []) (defBody st) w) :
    FnOk C.P C.w C.K C.mg C.base CX0 (k + 1) f fd ps (spF C.W (spOf ps.length N.length w)) := by
  refine F.ok S (fun vs H Q E ⟨F', ds, Qd, r, fl, sp, q⟩ => ?_) (fun cdv A outer s H vs Q E hr ⟨F', ds, Qd, r, fl, sp, q⟩ => ?_)
  · rw [← r.length]; exact sp.1
  · refine ⟨_, h _ (gd_def [] (fun e => by rw [hz] at e; cases e) S hr), F', NoA, _, _, ?_, ok_no fl, sp.2, ⟨?_, ?_, ?_, ?_⟩⟩
    · rw [start_eq, ← r.length]; exact sl_start _ r
    · exact fun env F2 H2 fe σ' hk s => q .non F2 H2 NoA .non hk rep_non (s.st.sub fun _ z => z.elim)
    · exact fun d env F2 H2 fe fd v σ' hk s => q d F2 H2 fd v hk s.rep (s.st.sub fun _ => .inr)
    · exact fun _ _ _ _ _ hk => hk.elim
    · exact fun _ _ _ _ _ hk => hk.elim
/-- a def whose first argument is changed -/
theorem fnOkM (hz : C.gd = false) {x qual : Str} {st : Stmt} {f : Addr} {fd : FuncData} {N ps : List Str} {k : Nat} (F : Fun C.K x qual st f fd) (S : FnScope N ps (defScope st)) (h : JSs (C.fn N (defScope st) k [0]) (defBody st) w) :
    FnOk C.P C.w C.K C.mg C.base CX0 (k + 1) f fd ps (spM C.W (spOfM ps.length N.length w)) := by
  refine F.ok S (fun vs H Q E ⟨F', f0, d, ds, v0, us, Qd, e, r0, r, ok, sp, q⟩ => ?_) (fun cdv A outer s H vs Q E hr ⟨F', f0, d, ds, v0, us, Qd, e, r0, r, ok, sp, q⟩ => ?_)
  · subst e; rw [List.length_cons, ← r.length]; exact sp.1
  · subst e
    have rr : Reps C.W F' H f0 (d :: ds) (v0 :: us) := .cons r0 r (fun _ _ z => z) fun a => ⟨.inl, fun z => z.resolve_right id⟩
    have h0 : (L2.start N (v0 :: us))[0]? = some (some v0) := rfl
    refine ⟨_, h _ (gd_def [0] (fun e => by rw [hz] at e; cases e) S hr), F', f0, _, _, ?_, ok, sp.2, ⟨?_, ?_, ?_, ?_⟩⟩
    · rw [start_eq, ← rr.length]; exact sl_start _ rr
    · rintro env F2 H2 fe σ' ⟨d', e0, hk⟩ s
      obtain ⟨v1, f1, g1, e1, r1, j, n, _⟩ := s.sl.at_ e0
      rw [s.pin 0 (by simp [Ctx.fn]), h0] at e1
      cases e1
      exact q .non d' F2 H2 f1 NoA .non hk r1 rep_non (fun _ _ z => z) (s.st.sub fun a z => (j a).mpr (.inl (z.resolve_right id)))
    · rintro d env F2 H2 fe fd v σ' ⟨d', e0, hk⟩ s
      obtain ⟨v1, f1, g1, e1, r1, j, n, _⟩ := s.sl.at_ e0
      rw [s.pin 0 (by simp [Ctx.fn]), h0] at e1
      cases e1
      exact q d d' F2 H2 f1 fd v hk r1 s.rep (fun a z => s.dj a ((j a).mpr (.inl z))) (s.st.sub fun a z => z.imp_left fun z => (j a).mpr (.inl z))
    · exact fun _ _ _ _ _ hk => hk.elim
    · exact fun _ _ _ _ _ hk => hk.elim
theorem FnOk.imp {P : Program} {w : World} {K : PySem.W.Frag} {mg : Str → Option Value} {base : Heap} {CX : CXT} {k : Nat} {f : Addr} {fd : FuncData} {ps : List Str} {sp sp' : Sp} (h : FnOk P w K mg base CX k f fd ps sp) (i : ∀ vs H Q E, sp' vs H Q E → sp vs H Q E) : FnOk P w K mg base CX k f fd ps sp' :=
  ⟨fun vs H Q E z => h.len vs H Q E (i vs H Q E z), fun A outer s H args us vs Q E r e b v z => h.run A outer s H args us vs Q E r e b v (i vs H Q E z)⟩
theorem spF_imp {sp sp' : SpF} (i : ∀ ds Q, sp' ds Q → sp ds Q) : ∀ vs H Q E, spF W sp' vs H Q E → spF W sp vs H Q E := fun vs H Q E ⟨F, ds, Qd, a, b, c, q⟩ => ⟨F, ds, Qd, a, b, i ds Qd c, q⟩
theorem spM_imp {sp sp' : SpM} (i : ∀ d ds Q, sp' d ds Q → sp d ds Q) : ∀ vs H Q E, spM W sp' vs H Q E → spM W sp vs H Q E := fun vs H Q E ⟨F, f, d, ds, v0, us, Qd, a, b, c, o, x, q⟩ => ⟨F, f, d, ds, v0, us, Qd, a, b, c, o, i d ds Qd x, q⟩
theorem FnF.imp {x : Str} {j : Nat} {sp sp' : SpF} (h : FnF C x j sp) (i : ∀ ds Q, sp' ds Q → sp ds Q) : FnF C x j sp' := let ⟨f, fd, ps, a, b, c, o⟩ := h.ex; ⟨f, fd, ps, a, b, c, FnOk.imp o (spF_imp i)⟩
theorem FnM.imp {x : Str} {j : Nat} {sp sp' : SpM} (h : FnM C x j sp) (i : ∀ d ds Q, sp' d ds Q → sp d ds Q) : FnM C x j sp' := let ⟨f, fd, ps, a, b, c, o⟩ := h.ex; ⟨f, fd, ps, a, b, c, FnOk.imp o (spM_imp i)⟩
theorem MeF.imp {x : Str} {c j : Nat} {sp sp' : SpF} (h : MeF C c x j sp) (i : ∀ ds Q, sp' ds Q → sp ds Q) : MeF C c x j sp' := let ⟨A, f, fd, ps, a, b, c, e, g, o⟩ := h.ex; ⟨A, f, fd, ps, a, b, c, e, g, FnOk.imp o (spF_imp i)⟩
theorem MeM.imp {x : Str} {c j : Nat} {sp sp' : SpM} (h : MeM C c x j sp) (i : ∀ d ds Q, sp' d ds Q → sp d ds Q) : MeM C c x j sp' := let ⟨A, f, fd, ps, a, b, c, e, g, o⟩ := h.ex; ⟨A, f, fd, ps, a, b, c, e, g, FnOk.imp o (spM_imp i)⟩
theorem MkM.imp {x : Str} {c j : Nat} {sp sp' : SpM} (h : MkM C x c j sp) (i : ∀ d ds Q, sp' d ds Q → sp d ds Q) : MkM C x c j sp' := let ⟨A, f, fd, ps, a, b, e, g, o⟩ := h.ex; ⟨A, f, fd, ps, a, b, e, g, FnOk.imp o (spM_imp i)⟩
theorem FnF.fn {x : Str} {j k : Nat} {sp : SpF} {N : List Str} {sc : Scope} {pin : List Nat} (h : FnF C x j sp) : FnF (C.fn N sc k pin) x j sp := ⟨h.ex⟩
theorem FnF.blk {x : Str} {j : Nat} {sp : SpF} {sc : Scope} {own : List (Str × Nat)} (h : FnF C x j sp) : FnF (C.blk sc own) x j sp := ⟨h.ex⟩
theorem FnM.fn {x : Str} {j k : Nat} {sp : SpM} {N : List Str} {sc : Scope} {pin : List Nat} (h : FnM C x j sp) : FnM (C.fn N sc k pin) x j sp := ⟨h.ex⟩
theorem FnM.blk {x : Str} {j : Nat} {sp : SpM} {sc : Scope} {own : List (Str × Nat)} (h : FnM C x j sp) : FnM (C.blk sc own) x j sp := ⟨h.ex⟩
theorem MeF.fn {x : Str} {c j k : Nat} {sp : SpF} {N : List Str} {sc : Scope} {pin : List Nat} (h : MeF C c x j sp) : MeF (C.fn N sc k pin) c x j sp := ⟨h.ex⟩
theorem MeF.blk {x : Str} {c j : Nat} {sp : SpF} {sc : Scope} {own : List (Str × Nat)} (h : MeF C c x j sp) : MeF (C.blk sc own) c x j sp := ⟨h.ex⟩
theorem MeM.fn {x : Str} {c j k : Nat} {sp : SpM} {N : List Str} {sc : Scope} {pin : List Nat} (h : MeM C c x j sp) : MeM (C.fn N sc k pin) c x j sp := ⟨h.ex⟩
theorem MkM.fn {x : Str} {c j k : Nat} {sp : SpM} {N : List Str} {sc : Scope} {pin : List Nat} (h : MkM C x c j sp) : MkM (C.fn N sc k pin) x c j sp := ⟨h.ex⟩
theorem MkM.blk {x : Str} {c j : Nat} {sp : SpM} {sc : Scope} {own : List (Str × Nat)} (h : MkM C x c j sp) : MkM (C.blk sc own) x c j sp := ⟨h.ex⟩
end
end M
namespace PySem
open Sem (wp)
open AutoSeq1 (wpAny_loadPart')
theorem meets_enumerate_newTu (l : Addr) (items : Array Value) (o : Obj) (ho : o.cls = .type "tuple") (hd : ∃ n, o.data = .seq items n) :
    Meets (Builtin.«enumerate.__new__» ⟨[.type "enumerate", .ref l], []⟩) (fun _ R s => s.heap.get? l = some o ∧
      R (.ok (.ret (.ref (s.heap.push { cls := .type "tuple_iterator", data := .fields #[.ref l, .int 0 0] }).objs.size)))
        { s with heap := (s.heap.push { cls := .type "tuple_iterator", data := .fields #[.ref l, .int 0 0] }).push { cls := .type "enumerate", data := .fields #[.none, .bool false, .ref s.heap.objs.size, rawInt 0, .none, .none] } }) :=
  .of_wp fun prog w A R s h => by
    obtain ⟨hp, g, d, tk, os⟩ := s; obtain ⟨hl, h⟩ := h
    obtain ⟨n, hd⟩ := hd
    have hsub := sub_enumerate
    have hL : Heap.IsTuple (Shared.heap ⟨hp, g, d, tk, os⟩) l items := ⟨_, hl, ho, n, hd⟩
    wp_walk using wpAny_loadPart' hl
    refine wpAny_stack_any fun st => wpAny_pure ?_
    split
    · rename_i c _ _ _ _ _
      cases (c == Value.type "enumerate")
      · wp_walk using wpAny_loadPart' hl, wpAny_pyIter_tuple hL
        exact ⟨_, rfl, h⟩
      · wp_walk using wpAny_loadPart' hl, wpAny_pyIter_tuple hL
        exact ⟨_, rfl, h⟩
    · wp_walk using wpAny_loadPart' hl, wpAny_pyIter_tuple hL
      exact ⟨_, rfl, h⟩
section
variable {prog : Program} {w : World} {A : Around} {E : Value → Shared → Prop} {s : Shared}
theorem call_enumerate_tuple {l : Addr} {items : Array Value} {Q : Value → Shared → Prop} (hL : s.heap.IsTuple l items)
    (h : ∀ h', IsEnum h' (s.heap.objs.size + 1) s.heap.objs.size 0 .none → h'.IsTupleIter s.heap.objs.size l 0 → h'.objs.size = s.heap.objs.size + 2 →
      (∀ b o, s.heap.get? b = some o → h'.get? b = some o) → Q (.ref (s.heap.objs.size + 1)) { s with heap := h' }) :
    wpAny (model prog w) A (call (.type "enumerate") [.ref l]) Q E s := by
  obtain ⟨o, hl, hc, n, hd⟩ := hL
  refine callType_new F.called_enumerate (by decide) (F.typeCall_enumerate_1 _) (F.newCall_enumerate_1 _) (fun obj => F.args_object_init_2 obj _) F.entry_enumerate_new
    (meets_enumerate_newTu l items o hc ⟨n, hd⟩) ⟨hl, ?_⟩
  have hz : (s.heap.push { cls := .type "tuple_iterator", data := .fields #[.ref l, .int 0 0] }).objs.size = s.heap.objs.size + 1 := Heap.size_push ..
  show _ ∧ _
  rw [hz]
  have he : IsEnum ((s.heap.push { cls := .type "tuple_iterator", data := .fields #[.ref l, .int 0 0] }).push
      { cls := .type "enumerate", data := .fields #[.none, .bool false, .ref s.heap.objs.size, rawInt 0, .none, .none] }) (s.heap.objs.size + 1) s.heap.objs.size 0 .none := by
    have := Heap.get?_push_size (s.heap.push { cls := .type "tuple_iterator", data := .fields #[.ref l, .int 0 0] })
      (o := { cls := .type "enumerate", data := .fields #[.none, .bool false, .ref s.heap.objs.size, rawInt 0, .none, .none] }) rfl
    rw [hz] at this; exact this
  refine ⟨⟨_, he, rfl⟩, h _ he ⟨_, Heap.get?_push_of_some _ (Heap.get?_push_size _ rfl), rfl, rfl⟩ (by rw [Heap.size_push, hz]) fun b o x => Heap.get?_push_of_some _ (Heap.get?_push_of_some _ x)⟩
end
end PySem
namespace M
open PySem PySem.Spec PyProof.Rows L2
def IteT (K : PySem.W.Frag) (a : Addr) : It :=
  ⟨fun i H => ∃ (xs : List V) (x : V), SqT K H a xs ∧ xs[i]? = some x, fun i H v H' => ∃ T x, v = .ref T ∧ H T = none ∧ H' = upd H T (.tup [.int (i : Nat), x]) ∧ ∀ xs, SqT K H a xs → xs[i]? = some x, fun i H => ∃ xs : List V, SqT K H a xs ∧ xs.length = i⟩
theorem tuple_inj {X : Cx} {pins : List (Addr × Obj)} {σ : L2.St} {H : Hp} {s : Shared} {a : Addr} {xs ys : List V} (I : Inv X pins σ H s) (h : SqT X.K H a xs) (k : SqT X.K H a ys) : xs = ys := by
  obtain ⟨its, r, ⟨o, e, _, n, d⟩, _⟩ := I.tuple h
  obtain ⟨its', r', ⟨o', e', _, n', d'⟩, _⟩ := I.tuple k
  rw [e] at e'; cases e'
  rw [d] at d'
  injection d' with d1 _
  have : its = its' := by simpa using congrArg Array.toList d1
  subst this
  exact r.inj r'
theorem turn_enumT {P : Program} {w : World} {K : PySem.W.Frag} {elts : List Expr} {kk : Nat} {tpos : Pos} (a e it : Addr) :
    Turn P w K (.Tuple elts kk tpos) (IteT K a) [e, it] e (fun i h => (∃ old, IsEnum h e it ((i : Nat) : Int) old) ∧ h.IsTupleIter it a i ∧ e ≠ it ∧ e ≠ a ∧ a ≠ it) where
  mem := by simp
  obj := fun i h st b hb => by
    obtain ⟨⟨old, he⟩, ⟨o, ho, hc, hd⟩, _⟩ := st
    have e' : b = e ∨ b = it := by simpa using hb
    rcases e' with z | z
    · rw [z]; exact ⟨_, he, fun v q => nomatch q⟩
    · rw [z]; exact ⟨o, ho, fun v q => by rw [hd] at q; cases q⟩
  keep := fun i h h' st k => by
    obtain ⟨⟨old, he⟩, ⟨o, ho, hc, hd⟩, hne⟩ := st
    exact ⟨⟨old, k e (by simp) _ he⟩, ⟨o, k it (by simp) _ ho, hc, hd⟩, hne⟩
  item := by
    intro X hP hw hK hc i pins s σ H E I hf st hg
    subst hP hw hK
    obtain ⟨⟨old, he⟩, hit, hne, hea, hai⟩ := st
    obtain ⟨xs, x, hq, hx⟩ := hg
    obtain ⟨its, rv, p, hz⟩ := I.tuple hq
    obtain ⟨u, hu, ru⟩ := rv.get hx
    have hel : e < s.heap.objs.size := Heap.lt_size he
    have hil : it < s.heap.objs.size := by obtain ⟨_, q, _⟩ := hit; exact Heap.lt_size q
    have hlt : i < its.toArray.size := by
      have := (List.getElem?_eq_some_iff.mp hu).1
      simpa using this
    refine wpAny_pyNext_enum_itemD (Draws.tuple (prog := X.prog) (w := X.w) (A := X.A.in1) (I.ok.hd hc) it a hai its.toArray) he ⟨hit, show s.heap.IsTuple a its.toArray from p⟩ hlt hne (by simp [hne, hea]) fun u' h' tk hP ho hst' hT hsz hk => ?_
    obtain ⟨hit', _⟩ := hst'
    have eu : u' = u := by
      have : its.toArray[i]? = some u := by simpa using hu
      rw [this] at hP; exact (Option.some.inj hP).symm
    subst eu
    refine ⟨_, rfl, wpAny_letOwnedTupleGo_enum (s := { s with heap := h', toks := tk + 1 }) ho fun h'' he' sb => ?_⟩
    have hT2 : h''.get? s.heap.objs.size = some { cls := .type "tuple", data := .seq #[.int i tk, u'] } := (sb.2 _ (Nat.ne_of_gt hel)).trans hT
    have new : ObjOk X.prog X.w (upd H s.heap.objs.size (.tup [.int (i : Nat), x])) h'' s.heap.objs.size (.tup [.int (i : Nat), x]) :=
      ⟨by show 2 ≤ sizeLine; decide, [.int i tk, u'], .cons ⟨_, rfl⟩ (.cons ru .nil), ⟨_, hT2, rfl, _, rfl⟩⟩
    have I1 : Inv X pins σ (upd H s.heap.objs.size (.tup [.int (i : Nat), x])) { s with heap := h'', toks := tk + 1 } :=
      I.turnedNew (ch := [e, it]) (fun b ob hb q => (sb.2 b (fun z => hb (by simp [z]))).trans (hk b ob (fun z => hb (by simp [z])) (fun z => hb (by simp [z])) q)) hf (Nat.le_refl _) new
    obtain ⟨oi, hoi, hci, hdi⟩ := hit'
    refine ⟨.ref s.heap.objs.size, _, I1, rfl, ⟨_, x, rfl, I.hok.fresh (Nat.le_refl _), rfl, fun ys hy => by rw [tuple_inj I hy hq]; exact hx⟩, ⟨⟨u', ?_⟩, ⟨oi, (sb.2 it (Ne.symm hne)).trans hoi, hci, hdi⟩, hne, hea, hai⟩, fun b hb => ?_⟩
    · have e1 : ((i + 1 : Nat) : Int) = (i : Int) + 1 := by omega
      rw [e1]; exact he'
    · have hb' : b < s.heap.objs.size := by
        have e' : b = e ∨ b = it := by simpa using hb
        rcases e' with z | z
        · rw [z]; exact hel
        · rw [z]; exact hil
      rw [upd_ne (Nat.ne_of_lt hb')]
      exact (hf b hb).1
  done := by
    intro X hP hw hK hc i pins s σ H E I hf st hg
    subst hP hw hK
    obtain ⟨⟨old, he⟩, hit, hne, hea, hai⟩ := st
    obtain ⟨xs, hq, hx⟩ := hg
    obtain ⟨its, rv, p, hz⟩ := I.tuple hq
    obtain ⟨f0, f1, f2, f3, f4, f5⟩ := hf it (by simp)
    have hl := rv.length
    subst hx
    refine wpAny_pyNext_enum_endD (Draws.tuple (prog := X.prog) (w := X.w) (A := X.A.in1) (I.ok.hd hc) it a hai its.toArray) he ⟨?_, show s.heap.IsTuple a its.toArray from p⟩ fun h' eb => ⟨rfl, I.turned (t' := s.toks) (fun b o hb q => eb b o hb q) f0 f1 f3 f4 f5⟩
    rw [hl] at hit
    simpa using hit
  self := fun A i s Q E st h => let ⟨⟨_, he⟩, _⟩ := st; wpAny_pyIter_enum he h
section
variable {C : Ctx} {W : Wd} {F F' : AS} {H H' : Hp} {pr p1 p2 : Bool} {pos p : Pos} {e e2 : Expr} {es : List Expr} {ws : LA} {w : LE} {kk : Nat} {tpos : Pos}
theorem pi_enumT {X : Cx} {e : Expr} {ta : TA} {p pos tpos : Pos} {elts : List Expr} {kk : Nat} (hg : Gl X "enumerate") (hm : X.mg "enumerate" = none) (ha : PA X [e] ta) (hs : starEach [e] X.env = [(false, eval e X.env)] := by rfl) :
    PI X (.Tuple elts kk tpos) (.Call (.Name "enumerate" p) [e] [] pos) (fun σ H R => ta σ H fun vs H1 => ∃ a xs, vs = [.ref a] ∧ SqT X.K H1 a xs ∧ R (IteT X.K a) H1) := by
  refine ⟨fun pins s σ H R I h => ?_⟩
  refine Call_ (ld_blt I hg hm boot_enumerate (PyProof.Rows.callWith_type1 (thn (ha.run pos pins s σ H _ I h) fun us s1 ⟨vs, H1, I1, r1, q1⟩ => ?_) hs rfl))
  obtain ⟨a, xs, ex, hq, q⟩ := q1
  subst ex
  cases r1 with
  | cons r rr =>
    cases rr
    cases r
    obtain ⟨its, rv, p', hz⟩ := I1.tuple hq
    have hla : a < s1.heap.objs.size := by obtain ⟨o, e, _⟩ := p'; exact Heap.lt_size e
    refine call_enumerate_tuple (show s1.heap.IsTuple a its.toArray from p') fun h' he hit hsz hk => wpAny_pyIter_enum he ?_
    have I2 : Inv X pins σ H1 { s1 with heap := h' } := I1.kept (t' := s1.toks) hk
    refine ⟨s1.heap.objs.size + 1, [s1.heap.objs.size + 1, s1.heap.objs.size], _, _, H1, rfl, I2, turn_enumT a (s1.heap.objs.size + 1) s1.heap.objs.size, ⟨⟨.none, he⟩, hit, Nat.succ_ne_self _, Nat.ne_of_gt (Nat.lt_succ_of_lt hla), Nat.ne_of_lt hla⟩, fun b hb => ?_, q⟩
    have e' : b = s1.heap.objs.size + 1 ∨ b = s1.heap.objs.size := by simpa using hb
    have hle : s1.heap.objs.size ≤ b := by
      rcases e' with z | z
      · rw [z]; exact Nat.le_add_right _ _
      · rw [z]; exact Nat.le_refl _
    exact I1.fpOk hle (I1.hok.fresh hle)
def enumD : Nat → List Dat → List Dat
  | _, [] => []
  | i, d :: ds => .tup .u [.int (i : Nat), d] :: enumD (i + 1) ds
theorem enumD_length : ∀ (i : Nat) (ds : List Dat), (enumD i ds).length = ds.length
  | _, [] => rfl
  | i, d :: ds => by simp [enumD, enumD_length]
theorem enumD_get : ∀ (j : Nat) (ds : List Dat) (i : Nat) (d : Dat), (enumD j ds)[i]? = some d → ∃ x, ds[i]? = some x ∧ d = .tup .u [.int ((j + i : Nat) : Int), x]
  | _, [], _, _, h => by simp [enumD] at h
  | j, y :: ds, 0, d, h => by simp [enumD] at h; exact ⟨y, rfl, by rw [← h]; rfl⟩
  | j, y :: ds, i + 1, d, h => by
    simp only [enumD, List.getElem?_cons_succ] at h
    obtain ⟨x, hx, e⟩ := enumD_get (j + 1) ds i d h
    exact ⟨x, by simpa using hx, by rw [e]; have : j + 1 + i = j + (i + 1) := by omega
                                    rw [this]⟩
theorem fresh_pair {T : Addr} {x y : Dat} {v u : V} (hT : H T = none) (fl : FL F H) (r1 : Rep W F H NoA x v) (r2 : Rep W F H NoA y u) : Rep W F (upd H T (.tup [v, u])) NoA (.tup .u [x, y]) (.ref T) ∧ Fresh F H F (upd H T (.tup [v, u])) NoA := by
  have kp : Keep H (upd H T (.tup [v, u])) := keep_upd hT
  exact ⟨.tup (.inl (.inl upd_same)) True.intro ((reps2 r1 r2).kept (fun _ z => z) kp), ⟨kp, Tgo.new hT (fun _ z => nomatch z), fun _ z => z, fun _ z => .inl z, fun _ z => z.elim, fun _ z => z.elim⟩⟩
theorem itet_ok {A : Addr} {ds : List Dat} {vs : List V} (hR : SqT W.K H A vs) (r : Reps W F H NoA ds vs) : ItOk W F H (IteT W.K A) (enumD 0 ds) where
  go := fun F' H' fx kp fl i d hd => by
    have hR' : SqT W.K H' A vs := SqT.keep hR fun o e t n => kp A o e t (.inr n)
    have r' : Reps W F' H' NoA ds vs := Reps.mono fx _ _ _ r fun a o e t z => kp a o e t (z.resolve_left id)
    obtain ⟨x, hx, rfl⟩ := enumD_get 0 ds i d hd
    obtain ⟨v, e1, r1⟩ := r'.rep hx
    refine ⟨⟨vs, v, hR', e1⟩, fun u H'' ⟨T, y, eu, hT, eH, hy⟩ => ?_⟩
    have := hy vs hR'
    rw [e1] at this; cases this; subst eu eH
    have := fresh_pair hT fl (rep_int (i := ((0 + i : Nat) : Int))) r1
    rw [Nat.zero_add] at this ⊢
    exact ⟨F', this⟩
  stop := fun F' H' fx kp => ⟨vs, SqT.keep hR fun o e t n => kp A o e t (.inr n), by rw [enumD_length, r.length]⟩
def wEnumT (w : LE) : LI := fun env Q => w env fun d e => ∃ o xs, d = .tup o xs ∧ Q (enumD 0 (frzs xs)) e
theorem ji_enumT (hg : C.sc.names.lookup ("enumerate" : Str) = some .globalImplicit) (hm : C.mg "enumerate" = none) (ha : JE C pr e w) (hs : ∀ env, starEach [e] env = [(false, eval e env)]) : JI C (.Tuple es kk tpos) (.Call (.Name "enumerate" p) [e] [] pos) (wEnumT w) := fun X g0 =>
  PI_imp (pi_enumT (gl_of g0 hg) (by rw [g0.mg]; exact hm) (pa_cons (ha X g0) pa_nil (by rw [hs]; rfl)) (hs _)) fun σ H R ⟨F, fp, env, Qd, sl, ok, hw, q⟩ =>
  ⟨F, fp, env, _, sl, ok, hw, fun d env' F' H' fe fd v hd P => by
    obtain ⟨o, xs, rfl, hd⟩ := hd
    have Pf := P.freeze
    have r := Pf.rep
    cases r with
    | @tup _ A vs _ _ s _ r =>
      refine ⟨A, vs, rfl, by rw [g0.K]; exact s, q _ env' _ H' fe _ hd Pf.pt ?_⟩
      rw [g0.K]
      exact itet_ok (W := C.W) s r⟩
end
end M
namespace M
open PySem PySem.Spec PyProof.Rows L2
section
variable {C : Ctx} {D : Ends} {W : Wd} {σ σ' : L2.St} {F F' : AS} {H H' : Hp} {fp fp' fe f g fd : AS} {env env' : Env} {d : Dat} {v : V} {A : Addr} {u : HO} {od : Obj} {k : SK} {pr : Bool}
/-- a dict of the heap -/
def IsDk (u : HO) : Prop := (∃ kvs, u = .dK kvs) ∨ (∃ kvs, u = .dT kvs) ∨ ∃ φ : {φ : Heap → Prop // ¬ Cod (.ext φ)}, u = .ext φ.1
theorem IsDk.nt {u : HO} (h : IsDk u) : NT u := by
  rcases h with ⟨_, rfl⟩ | ⟨_, rfl⟩ | ⟨_, rfl⟩ <;> exact fun _ z => nomatch z
theorem IsDk.nc {u : HO} (h : IsDk u) : ¬ Cod u := by
  rcases h with ⟨_, rfl⟩ | ⟨_, rfl⟩ | ⟨φ, rfl⟩
  · exact not_cod fun _ z => nomatch z
  · exact not_cod fun _ z => nomatch z
  · exact φ.2
theorem IsDk.mut (h : IsDk u) : Mut (some u) := by rcases h with ⟨_, rfl⟩ | ⟨_, rfl⟩ | ⟨_, rfl⟩ <;> exact True.intro
/-- the same things, the dict at A locked (or not) -/
structure Lk (H H' : Hp) (A : Addr) (u : HO) : Prop where
  h : Rd H A u
  h' : Rd H' A u
  o : ∀ a, a ≠ A → H' a = H a
theorem Rd.one {u w : HO} {a : Addr} (hu : IsDk u) (r : Rd H a u) (s : Rd H a w) (hw : (∃ xs, w = .lst xs) ∨ (∃ xs, w = .tup xs) ∨ (∃ kvs, w = .dK kvs) ∨ (∃ kvs, w = .dT kvs) ∨ ∃ φ, w = .ext φ) : w = u := by
  rcases r with r | ⟨o, r⟩ <;> rcases s with s | ⟨o', s⟩ <;> rw [r] at s
  · exact (Option.some.inj s).symm
  · rcases hu with ⟨_, rfl⟩ | ⟨_, rfl⟩ | ⟨_, rfl⟩ <;> cases s
  · rcases hw with ⟨_, rfl⟩ | ⟨_, rfl⟩ | ⟨_, rfl⟩ | ⟨_, rfl⟩ | ⟨_, rfl⟩ <;> cases s
  · have := Option.some.inj s
    injection this with _ e
    exact e.symm
theorem Lk.rd {w : HO} {a : Addr} (l : Lk H H' A u) (hu : IsDk u) (s : Rd H a w) (hw : (∃ xs, w = .lst xs) ∨ (∃ xs, w = .tup xs) ∨ (∃ kvs, w = .dK kvs) ∨ (∃ kvs, w = .dT kvs) ∨ ∃ φ, w = .ext φ) : Rd H' a w := by
  by_cases e : a = A
  · subst e
    rw [Rd.one hu l.h s hw]; exact l.h'
  · rcases s with s | ⟨o, s⟩
    · exact .inl ((l.o a e).trans s)
    · exact .inr ⟨o, (l.o a e).trans s⟩
theorem Lk.at_ {a : Addr} {o : HO} (l : Lk H H' A u) (e : H a = some o) (n : a ≠ A) : H' a = some o := (l.o a n).trans e
theorem Lk.neA {a : Addr} {w : HO} (l : Lk H H' A u) (hu : IsDk u) (e : H a = some w) (h1 : ∀ kvs, w ≠ .dK kvs) (h2 : ∀ kvs, w ≠ .dT kvs) (h4 : ∀ φ, w ≠ .ext φ) (h3 : ∀ o x, w ≠ .frz o x) : a ≠ A := by
  rintro rfl
  rcases l.h with q | ⟨o, q⟩ <;> rw [e] at q <;> cases q
  · rcases hu with ⟨_, rfl⟩ | ⟨_, rfl⟩ | ⟨_, rfl⟩
    · exact h1 _ rfl
    · exact h2 _ rfl
    · exact h4 _ rfl
  · exact h3 _ _ rfl
theorem Lk.rdX {φ : Heap → Prop} {a : Addr} (l : Lk H H' A u) (hu : IsDk u) (s : Rd H a (.ext φ)) : Rd H' a (.ext φ) := l.rd hu s (.inr (.inr (.inr (.inr ⟨_, rfl⟩))))
theorem TupK.lk {K : PySem.W.Frag} {vs : List V} {b : TK} {a : Addr} (l : Lk H H' A u) (hu : IsDk u) (z : TupK K H a vs b) : TupK K H' a vs b := by
  cases b with
  | u => exact True.intro
  | b =>
    rcases (show Bare _ _ _ from z) with ⟨o, x, q, hn⟩ | q
    · refine .inl ⟨o, x, l.at_ q ?_, hn⟩
      rintro rfl
      have := Rd.one hu l.h (.inr ⟨o, q⟩) (.inr (.inl ⟨_, rfl⟩))
      rcases hu with ⟨_, rfl⟩ | ⟨_, rfl⟩ | ⟨_, rfl⟩ <;> cases this
    · exact .inr q
  | p =>
    refine l.at_ z ?_
    rintro rfl
    have := Rd.one hu l.h (.inl z) (.inr (.inl ⟨_, rfl⟩))
    rcases hu with ⟨_, rfl⟩ | ⟨_, rfl⟩ | ⟨_, rfl⟩ <;> cases this
mutual
theorem Rep.lk (l : Lk H H' A u) (hu : IsDk u) : ∀ (d : Dat) (fp : AS) (v : V), Rep W F H fp d v → ¬ fp A → Rep W F H' fp d v
  | .non, _, _, h, _ => by cases h with | non e => exact .non e
  | .bl _, _, _, h, _ => by cases h with | bl _ e => exact .bl _ e
  | .int _, _, _, h, _ => by cases h with | int _ e => exact .int _ e
  | .str _, _, _, h, _ => by cases h with | str _ e => exact .str _ e
  | .tup _ ds, _, _, h, n => by
    cases h with
    | tup s z r =>
      refine .tup ?_ ?_ (Reps.lk l hu ds _ _ r n)
      · rcases s with s | s
        · exact .inl (l.rd hu s (.inr (.inl ⟨_, rfl⟩)))
        · exact .inr s
      · exact TupK.lk l hu z
  | .lst _ ds, _, _, h, n => by
    cases h with
    | lstF e s f r => exact .lstF e (l.rd hu s (.inl ⟨_, rfl⟩)) f (Reps.lk l hu ds _ _ r n)
    | lstO e r m i => exact .lstO (l.at_ e (fun z => n ((i _).mpr (.inl z.symm)))) (Reps.lk l hu ds _ _ r fun z => n ((i _).mpr (.inr z))) m i
  | .dct _ ks vs, _, _, h, n => by
    cases h with
    | dctF e s f x r => exact .dctF e (l.rd hu s (.inr (.inr (.inl ⟨_, rfl⟩)))) f x (Reps.lk l hu vs _ _ r n)
    | dctO e x r m i => exact .dctO (l.at_ e (fun z => n ((i _).mpr (.inl z.symm)))) x (Reps.lk l hu vs _ _ r fun z => n ((i _).mpr (.inr z))) m i
  | .dtt _ ks vs, _, _, h, n => by
    cases h with
    | dttF e s f x r => exact .dttF e (l.rd hu s (.inr (.inr (.inr (.inl ⟨_, rfl⟩))))) f x (Reps.lk l hu vs _ _ r n)
    | dttO e x r m i => exact .dttO (l.at_ e (fun z => n ((i _).mpr (.inl z.symm)))) x (Reps.lk l hu vs _ _ r fun z => n ((i _).mpr (.inr z))) m i
  | .dxt _ ks vs, _, _, h, n => by
    cases h with
    | dxtF e s f x rk r => exact .dxtF e (l.rdX hu s) f x (Reps.lk l hu ks _ _ rk fun z => z) (Reps.lk l hu vs _ _ r n)
    | dxtO e x rk r m i => exact .dxtO (l.at_ e (fun z => n ((i _).mpr (.inl z.symm)))) x (Reps.lk l hu ks _ _ rk fun z => z) (Reps.lk l hu vs _ _ r fun z => n ((i _).mpr (.inr z))) m i
  | .obj _ c vs, _, _, h, n => by
    cases h with
    | objF e m s f x r => exact .objF e m (l.at_ s (l.neA hu s (fun _ z => nomatch z) (fun _ z => nomatch z) (fun _ z => nomatch z) fun _ _ z => nomatch z)) f x (Reps.lk l hu vs _ _ r n)
    | objO m e x r k i => exact .objO m (l.at_ e (fun z => n ((i _).mpr (.inl z.symm)))) x (Reps.lk l hu vs _ _ r fun z => n ((i _).mpr (.inr z))) k i
  | .scr ns, _, _, h, n => by
    cases h with
    | scr e s =>
      refine .scr e (s.imp_left fun ⟨o, q⟩ => ⟨o, l.at_ q ?_⟩)
      rintro rfl
      have := Rd.one hu l.h (.inr ⟨o, q⟩) (.inl ⟨_, rfl⟩)
      rcases hu with ⟨_, rfl⟩ | ⟨_, rfl⟩ | ⟨_, rfl⟩ <;> cases this
  | .exn c vs, _, _, h, n => by
    cases h with
    | exn e x d f r => exact .exn e x (d.imp_right fun ⟨da, e1, e2⟩ => ⟨da, e1, l.at_ e2 (l.neA hu e2 (fun _ z => nomatch z) (fun _ z => nomatch z) (fun _ z => nomatch z) fun _ _ z => nomatch z)⟩) f (Reps.lk l hu vs _ _ r n)
theorem Reps.lk (l : Lk H H' A u) (hu : IsDk u) : ∀ (ds : List Dat) (fp : AS) (vs : List V), Reps W F H fp ds vs → ¬ fp A → Reps W F H' fp ds vs
  | [], _, _, h, _ => by cases h with | nil e => exact .nil e
  | d :: ds, _, _, h, n => by
    cases h with
    | cons r1 r2 m i => exact .cons (Rep.lk l hu d _ _ r1 fun z => n ((i _).mpr (.inl z))) (Reps.lk l hu ds _ _ r2 fun z => n ((i _).mpr (.inr z))) m i
end
theorem Sl.lk (l : Lk H H' A u) (hu : IsDk u) {fp : AS} {env : Env} {σ : L2.St} (h : Sl W F H fp env σ) (n : ¬ fp A) : Sl W F H' fp env σ := by
  induction h with
  | em e => exact .em e
  | no _ ih => exact .no (ih n)
  | so r s m j ih => exact .so (Rep.lk l hu _ _ _ r fun z => n ((j _).mpr (.inl z))) (ih fun z => n ((j _).mpr (.inr z))) m j
theorem Ok.lk (l : Lk H H' A u) (x : Ok W F H fp) (n : ¬ fp A) (tg : Tgo H H') : Ok W F H' fp := ⟨x.nf, fun a z => by
    rw [l.o a (fun e => n (e ▸ z))]; exact x.own a z, fun a z w => by
  by_cases e : a = A
  · subst e
    rcases l.h' with q | ⟨o, q⟩ <;> rw [w] at q <;> cases q
  · rw [l.o a e] at w; exact x.lv a z w, x.tb.go tg⟩
theorem lk_tgo (e : H A = some u) (hu : IsDk u) : Tgo H (upd H A (.frz od u)) := Tgo.upd e hu.nt hu.nc fun _ z => nomatch z
theorem unlk_tgo (e : H A = some (.frz od u)) (hu : IsDk u) : Tgo H (upd H A u) := Tgo.upd e (fun _ z => nomatch z) (not_cod fun _ z => nomatch z) hu.nt
theorem lk_lock (e : H A = some u) : Lk H (upd H A (.frz od u)) A u := ⟨.inl e, .inr ⟨od, upd_same⟩, fun a n => upd_ne n⟩
theorem lk_unlock (e : H A = some (.frz od u)) : Lk H (upd H A u) A u := ⟨.inr ⟨od, e⟩, .inl upd_same, fun a n => upd_ne n⟩
/-- a step in the locked heap, told of the unlocked one -/
theorem Step.unlk (hA : H A = some u) (hu : IsDk u) (st : Step W F (upd H A (.frz od u)) fp F' H' fp') (n : ¬ fp A) (ok : Ok W F (upd H A (.frz od u)) fp) : H' A = some (.frz od u) ∧ ¬ fp' A ∧ Step W F H fp F' (upd H' A u) fp' := by
  have e' : H' A = some (.frz od u) := (st.kp A _ upd_same n).nt fun _ z => nomatch z
  have n' : ¬ fp' A := fun z => by
    have := st.ok.own A z
    rw [e'] at this; exact this
  refine ⟨e', n', ⟨fun a o e z => ?_, st.fx, fun a z => ?_, fun a z => ?_, st.ok.lk (lk_unlock e') n' (unlk_tgo e' hu)⟩⟩
  · by_cases q : a = A
    · subst q; rw [hA] at e; rw [upd_same]; exact .of e
    · rw [upd_ne q]; exact st.kp a o (by rw [upd_ne q]; exact e) z
  · rcases st.fb a z with q | q | q
    · exact .inl q
    · exact .inr (.inl q)
    · by_cases w : a = A
      · subst w; rw [upd_same] at q; cases q
      · rw [upd_ne w] at q; exact .inr (.inr q)
  · rcases st.nw a z with q | q
    · exact .inl q
    · by_cases w : a = A
      · subst w; rw [upd_same] at q; cases q
      · rw [upd_ne w] at q; exact .inr q
theorem Sn.unlk (hA : H A = some u) (hu : IsDk u) (ok : Ok C.W F (upd H A (.frz od u)) fp) (n : ¬ fp A) (s : Sn C σ F (upd H A (.frz od u)) fp env F' H' fe σ') : H' A = some (.frz od u) ∧ Sn C σ F H fp env F' (upd H' A u) fe σ' := by
  obtain ⟨e, n', st⟩ := s.st.unlk hA hu n ok
  exact ⟨e, s.sl.lk (lk_unlock e) hu n', st, s.pin, s.ln⟩
theorem Sr.unlk (hA : H A = some u) (hu : IsDk u) (ok : Ok C.W F (upd H A (.frz od u)) fp) (n : ¬ fp A) (s : Sr C σ F (upd H A (.frz od u)) fp env F' H' fe fd d v σ') : H' A = some (.frz od u) ∧ Sr C σ F H fp env F' (upd H' A u) fe fd d v σ' := by
  obtain ⟨e, n', st⟩ := s.st.unlk hA hu n ok
  exact ⟨e, s.sl.lk (lk_unlock e) hu (fun z => n' (.inl z)), Rep.lk (lk_unlock e) hu _ _ _ s.rep (fun z => n' (.inr z)), s.dj, st, s.pin⟩
theorem Ko.lk (hA : H A = some u) (hu : IsDk u) (ok : Ok C.W F (upd H A (.frz od u)) fp) (n : ¬ fp A) (q : Ko C D σ F H fp k) :
    Ko C ⟨fun σ' H' => H' A = some (.frz od u) ∧ D.nx σ' (upd H' A u), fun v H' => H' A = some (.frz od u) ∧ D.rt v (upd H' A u), fun σ' H' => H' A = some (.frz od u) ∧ D.bk σ' (upd H' A u), fun σ' H' => H' A = some (.frz od u) ∧ D.ct σ' (upd H' A u)⟩ σ F (upd H A (.frz od u)) fp k where
  nx := fun env F' H' fe σ' hk s => have z := s.unlk hA hu ok n; ⟨z.1, q.nx env F' _ fe σ' hk z.2⟩
  rt := fun d env F' H' fe fd v σ' hk s => have z := s.unlk hA hu ok n; ⟨z.1, q.rt d env F' _ fe fd v σ' hk z.2⟩
  bk := fun env F' H' fe σ' hk s => have z := s.unlk hA hu ok n; ⟨z.1, q.bk env F' _ fe σ' hk z.2⟩
  ct := fun env F' H' fe σ' hk s => have z := s.unlk hA hu ok n; ⟨z.1, q.ct env F' _ fe σ' hk z.2⟩
theorem Po.unlk (hA : H A = some u) (hu : IsDk u) (ok : Ok C.W F (upd H A (.frz od u)) fp) (n : ¬ fp A) (s : Po C.W pr F (upd H A (.frz od u)) fp σ env F' H' fe fd d v) : H' A = some (.frz od u) ∧ Po C.W false F H fp σ env F' (upd H' A u) fe fd d v := by
  obtain ⟨e, n', st⟩ := s.st.unlk hA hu n ok
  exact ⟨e, s.sl.lk (lk_unlock e) hu (fun z => n' (.inl z)), Rep.lk (lk_unlock e) hu _ _ _ s.rep (fun z => n' (.inr z)), s.dj, st, fun z => nomatch z⟩
theorem itk_ok {kvs : List (Key × V)} (e : H A = some (.frz od (.dK kvs))) : ItOk W F H (Itk A od kvs) (kvs.map fun p => kD p.1) where
  go := fun F' H' fx kp fl i d hd => by
    have e' := kp A _ e (fun _ z => nomatch z) (.inr fun z => z)
    rw [List.getElem?_map, Option.map_eq_some_iff] at hd
    obtain ⟨⟨k, v⟩, hk, rfl⟩ := hd
    refine ⟨⟨e', (List.getElem?_eq_some_iff.mp hk).1⟩, fun x H'' ⟨eH, k', v', hk', ex⟩ => ?_⟩
    subst eH ex
    rw [hk] at hk'; cases hk'
    exact ⟨F', by cases k <;> first | exact rep_int | exact rep_str, .refl⟩
  stop := fun F' H' fx kp => ⟨kp A _ e (fun _ z => nomatch z) (.inr fun z => z), by rw [List.length_map]; exact Nat.le_refl _⟩
theorem rep_kD {k : Key} {fp : AS} (e : Em fp) : Rep W F H fp (kD k) (kV k) := by cases k <;> first | exact .int _ e | exact .str _ e
theorem reps_kD : ∀ k : List Key, Reps W F H NoA (k.map kD) (k.map kV)
  | [] => .nil fun _ z => z
  | k :: ks => .cons (f1 := NoA) (f2 := NoA) (rep_kD fun _ z => z) (reps_kD ks) (fun _ z => z.elim) fun a => ⟨fun z => z.elim, fun z => z.elim id id⟩
theorem itkt_ok {kvs : List (List Key × V)} (e : H A = some (.frz od (.dT kvs))) : ItOk W F H (Itkt A od kvs) (kvs.map fun p => Dat.tup .p (p.1.map kD)) where
  go := fun F' H' fx kp fl i d hd => by
    have e' := kp A _ e (fun _ z => nomatch z) (.inr fun z => z)
    rw [List.getElem?_map, Option.map_eq_some_iff] at hd
    obtain ⟨⟨k, v⟩, hk, rfl⟩ := hd
    refine ⟨⟨e', (List.getElem?_eq_some_iff.mp hk).1⟩, fun x H'' ⟨eH, k', v', q, hk', ex, hq⟩ => ?_⟩
    subst eH ex
    rw [hk] at hk'; cases hk'
    exact ⟨F', .tup (.inl (.inl hq)) hq (reps_kD k), .refl⟩
  stop := fun F' H' fx kp => ⟨kp A _ e (fun _ z => nomatch z) (.inr fun z => z), by rw [List.length_map]; exact Nat.le_refl _⟩
/-- the keys of a dict -/
def keysD : Dat → Option (Bool × List Dat)
  | .dct o ks _ => some (o, ks)
  | .dtt o ks _ => some (o, ks)
  | _ => none
theorem dk_of {fp : AS} (r : Rep W F H fp d v) {ks : List Dat} (e : keysD d = some (false, ks)) : ∃ a u, v = .ref a ∧ IsDk u ∧ Rd H a u ∧ F a ∧ Em fp ∧ ((∃ kvs, u = .dK kvs ∧ ks = kvs.map fun p => kD p.1) ∨ ∃ kvs, u = .dT kvs ∧ ks = kvs.map fun p => Dat.tup .p (p.1.map kD)) := by
  cases r with
  | dctF e' s f x r => cases e; exact ⟨_, _, rfl, .inl ⟨_, rfl⟩, s, f, e', .inl ⟨_, rfl, x⟩⟩
  | dttF e' s f x r => cases e; exact ⟨_, _, rfl, .inr (.inl ⟨_, rfl⟩), s, f, e', .inr ⟨_, rfl, x⟩⟩
  | _ => cases e
end
end M
namespace M
open PySem PySem.Spec PyProof.Rows L2
section
variable {C : Ctx} {D : Ends} {W : Wd} {σ σ' : L2.St} {F F' : AS} {H H' : Hp} {fp fp' fe f g fd : AS} {env env' : Env} {d : Dat} {v : V} {A : Addr} {u : HO} {od : Obj} {k : SK} {pr p1 p2 : Bool} {pos p : Pos} {tg e a b c elt iter : Expr} {we : LE} {w1 : LS} {t : LT} {body : List Stmt}
theorem PS_or {X : Cx} {st : Stmt} {t t1 t2 : TS} (h1 : PS X st t1) (h2 : PS X st t2) (i : ∀ D σ H, σ.length = X.N.length → t D σ H → t1 D σ H ∨ t2 D σ H) : PS X st t := ⟨fun pins s σ H D I q => (i D σ H I.len q).elim (h1.run pins s σ H D I) (h2.run pins s σ H D I)⟩
theorem PE_or {X : Cx} {e : Expr} {t t1 t2 : TE} (h1 : PE X e t1) (h2 : PE X e t2) (i : ∀ σ H Q, σ.length = X.N.length → t σ H Q → t1 σ H Q ∨ t2 σ H Q) : PE X e t := ⟨fun pins s σ H Q I q => (i σ H Q I.len q).elim (h1.run pins s σ H Q I) (h2.run pins s σ H Q I)⟩
theorem iKeys_of {i : Nat} {ks : List Dat} (e1 : σ[i]? = some (some (.ref A))) (hl : H A = some (.frz od u)) (hu : (∃ kvs, u = .dK kvs ∧ ks = kvs.map fun p => kD p.1) ∨ ∃ kvs, u = .dT kvs ∧ ks = kvs.map fun p => Dat.tup .p (p.1.map kD)) {R : It → Hp → Prop} (q : ∀ J, ItOk W F H J ks → R J H) :
    iKeys (tVar i) σ H R := by
  refine ⟨.ref A, e1, ?_⟩
  rcases hu with ⟨kvs, rfl, rfl⟩ | ⟨kvs, rfl, rfl⟩
  · exact ⟨A, od, rfl, .inl ⟨kvs, hl, q _ (itk_ok hl)⟩⟩
  · exact ⟨A, od, rfl, .inr ⟨kvs, hl, q _ (itkt_ok hl)⟩⟩
/-- [.. for .. in x ..], x a frozen dict -/
def wLcK (i : Nat) (gl : LG) (t : LT) (w : LE) (vs : List Nat) : LE := fun env Q => ∃ d ks, env[i]? = some (some d) ∧ keysD d = some (false, ks) ∧ ks.length < sizeLine ∧ lcD vs gl t w ks [] env fun acc e' => Q (.lst true acc) e'
theorem je_lcK {i : Nat} {x : Str} {xp : Pos} {gl : LG} {scope : Scope} {own : List (Str × Nat)} {ifs : List Expr} (hN : C.N[i]? = some x) (hv : Vis C.sc x) (hd : (x == ("__debug__" : Str)) = false) (hc : (x == ("__classdict__" : Str)) = false) (okb : BlkOk C.N C.sc scope own) (hg : JG (C.blk scope own) tg gl) (ht : JTs (C.blk scope own) p1 ifs t) (he : JE (C.blk scope own) p2 elt we)
    (hs : ∀ env z, foldedSetIterable (.Name x xp) env z = pure z) (hh : C.hot = false := by rfl) : JE C false (.ListComp elt [⟨tg, .Name x xp, ifs, 0⟩] scope pos) (wLcK i gl t we (own.map (·.2))) := fun X g0 => by
  have h1 := pe_lc (pos := pos) (g0.calm' hh) (by rw [g0.N]; exact g0.nd) (pi_keys (tg := tg) (pe_slot (pos := xp) g0 hN hv hd hc)) (by rw [g0.N, g0.sc]; exact okb) (fun _ _ _ _ _ => hg _ (g0.blk hh own)) (fun _ _ _ _ _ => ht _ (g0.blk hh own)) (fun _ _ _ _ _ => he _ (g0.blk hh own)) (hs _)
  refine PE_or h1 (pe_lock h1) fun σ H Q hl ⟨F, fp, env, Qd, sl, ok, ⟨d, ks, e, hk, hz, hw⟩, q⟩ => ?_
  obtain ⟨v, f, g, e1, r, j, n, s⟩ := sl.at_ e
  obtain ⟨A, u, rfl, hu, hR, hF, em, hx⟩ := dk_of r hk
  have nA : ¬ fp A := fun z => ok.nf A z hF
  rcases hR with hA | ⟨od, hA⟩
  · refine .inr ⟨A, u, hA, hu.mut, fun od => ?_⟩
    have okl := ok.lk (lk_lock (od := od) hA) nA (lk_tgo hA hu)
    unfold tLc
    exact iKeys_of (W := C.W) (F := F) e1 upd_same hx fun J it => lcW_of (Q := fun v H' => H' A = some (.frz od u) ∧ Q v (L2.upd H' A u)) (fun _ _ _ _ z => z) (fun _ _ _ z => z) (fun _ _ _ z => z) (by rw [hl, g0.N]) (sl.lk (lk_lock hA) hu nA) okl it hz hw fun acc e F' H' fe fd v hq P =>
      have z := P.unlk hA hu okl nA
      ⟨z.1, q _ e F' _ fe fd v hq z.2⟩
  · refine .inl ?_
    unfold tLc
    exact iKeys_of (W := C.W) (F := F) e1 hA hx fun J it => lcW_of (fun _ _ _ _ z => z) (fun _ _ _ z => z) (fun _ _ _ z => z) (by rw [hl, g0.N]) sl ok it hz hw fun acc e F' H' fe fd v hq P => q _ e F' H' fe fd v hq P
theorem dk_own {fp : AS} (r : Rep W F H fp d v) {ks : List Dat} (e : keysD d = some (true, ks)) : ∃ a u f2, v = .ref a ∧ IsDk u ∧ H a = some u ∧ ¬ f2 a ∧ (∀ b, fp b ↔ b = a ∨ f2 b) ∧ ((∃ kvs, u = .dK kvs ∧ ks = kvs.map fun p => kD p.1) ∨ ∃ kvs, u = .dT kvs ∧ ks = kvs.map fun p => Dat.tup .p (p.1.map kD)) ∧
    ∃ vs ws, Reps W F H f2 vs ws ∧ ∀ F' H', H' a = some u → Reps W F' H' f2 vs ws → Rep W F' H' fp d (.ref a) := by
  cases r with
  | dctO s x r n i => cases e; exact ⟨_, _, _, rfl, .inl ⟨_, rfl⟩, s, n, i, .inl ⟨_, rfl, x⟩, _, _, r, fun F' H' e r' => .dctO e x r' n i⟩
  | dttO s x r n i => cases e; exact ⟨_, _, _, rfl, .inr (.inl ⟨_, rfl⟩), s, n, i, .inr ⟨_, rfl, x⟩, _, _, r, fun F' H' e r' => .dttO e x r' n i⟩
  | _ => cases e
def wLcKO (i : Nat) (gl : LG) (t : LT) (w : LE) (vs : List Nat) : LE := fun env Q => ∃ d ks, env[i]? = some (some d) ∧ keysD d = some (true, ks) ∧ ks.length < sizeLine ∧ lcD vs gl t w ks [] (env.set i none) fun acc e' => e'[i]? = some none ∧ Q (.lst true acc) (e'.set i (some d))
theorem je_lcKO {i : Nat} {x : Str} {xp : Pos} {gl : LG} {scope : Scope} {own : List (Str × Nat)} {ifs : List Expr} (hN : C.N[i]? = some x) (hv : Vis C.sc x) (hd : (x == ("__debug__" : Str)) = false) (hc : (x == ("__classdict__" : Str)) = false) (okb : BlkOk C.N C.sc scope own) (hg : JG (C.blk scope own) tg gl) (ht : JTs (C.blk scope own) p1 ifs t) (he : JE (C.blk scope own) p2 elt we)
    (hs : ∀ env z, foldedSetIterable (.Name x xp) env z = pure z) (hh : C.hot = false := by rfl) : JE C false (.ListComp elt [⟨tg, .Name x xp, ifs, 0⟩] scope pos) (wLcKO i gl t we (own.map (·.2))) := fun X g0 => by
  have h1 := pe_lc (pos := pos) (g0.calm' hh) (by rw [g0.N]; exact g0.nd) (pi_keys (tg := tg) (pe_slot (pos := xp) g0 hN hv hd hc)) (by rw [g0.N, g0.sc]; exact okb) (fun _ _ _ _ _ => hg _ (g0.blk hh own)) (fun _ _ _ _ _ => ht _ (g0.blk hh own)) (fun _ _ _ _ _ => he _ (g0.blk hh own)) (hs _)
  refine PE_len (pe_lock h1) fun σ H Q hl ⟨F, fp, env, Qd, sl, ok, ⟨d, ks, e, hk, hz, hw⟩, q⟩ => ?_
  obtain ⟨v, f, g, e1, r, j, n, s⟩ := sl.at_ e
  obtain ⟨A, u, f2, rfl, hu, hA, nA, hf, hx, vs, ws, rv, back⟩ := dk_own r hk
  have fA : f A := (hf A).mpr (.inl rfl)
  have gA : ¬ g A := n A fA
  refine ⟨A, u, hA, hu.mut, fun od => ?_⟩
  have okg : Ok C.W F (upd H A (.frz od u)) g := (ok.sub fun a z => (j a).mpr (.inr z)).lk (lk_lock hA) gA (lk_tgo hA hu)
  have okf2 : Ok C.W F (upd H A (.frz od u)) f2 := (ok.sub fun a z => (j a).mpr (.inl ((hf a).mpr (.inr z)))).lk (lk_lock hA) nA (lk_tgo hA hu)
  have rv' := Reps.lk (lk_lock (od := od) hA) hu _ _ _ rv nA
  have gf2 : ∀ a, g a → ¬ f2 a := fun a z w => n a ((hf a).mpr (.inr w)) z
  unfold tLc
  exact iKeys_of (W := C.W) (F := F) e1 upd_same hx fun J it => lcW_of (Q := fun v H' => H' A = some (.frz od u) ∧ Q v (L2.upd H' A u)) (fun _ _ _ _ z => z) (fun _ _ _ z => z) (fun _ _ _ z => z) (by rw [hl, g0.N]) (s.lk (lk_lock hA) hu gA) okg it hz hw fun acc e' F' H' fe fd v hq P => by
    have fr := P.st.frame okf2 gf2
    have rv2 := rv'.step P.st okg fun a z w => gf2 a w z
    obtain ⟨eA, P2⟩ := P.unlk hA hu okg gA
    have nA' : ¬ (fe A ∨ fd A) := fun z => by
      have := P.st.ok.own A z
      rw [eA] at this; exact this
    refine ⟨eA, ?_⟩
    have rv3 : Reps C.W F' (upd H' A u) f2 vs ws := Reps.lk (lk_unlock eA) hu _ _ _ rv2 nA
    have rd := back F' (upd H' A u) upd_same rv3
    have hi : i < e'.length := (List.getElem?_eq_some_iff.mp hq.1).1
    have dj : ∀ a, f a → ¬ fe a := fun a z w => by
      rcases (hf a).mp z with z | z
      · subst z; exact nA' (.inl w)
      · exact fr.2 a (.inl w) z
    have s2 := P2.sl.put (i := i) hq.1 rd dj
    rw [set_self e1] at s2
    -- the step of the whole
    have okA : Ok C.W F H f := ok.sub fun a z => (j a).mpr (.inl z)
    have frA := P2.st.frame (g := f) okA fun a z w => n a w z
    refine q _ _ F' _ _ fd v hq.2 ⟨s2, P2.rep, fun a z w => ?_, ((frA.1).lft fun a z => (j a).mpr z.symm).sub fun a z => ?_, fun z => nomatch z⟩
    · rcases z with z | z
      · exact frA.2 a (.inr w) z
      · exact P2.dj a z w
    · rcases z with (z | z) | z
      · exact .inr z
      · exact .inl (.inl z)
      · exact .inl (.inr z)
end
end M
namespace M
open PySem PySem.Spec PyProof.Rows L2
section
variable {C : Ctx} {D : Ends} {W : Wd} {σ σ' : L2.St} {F F' F1 : AS} {H H' H1 : Hp} {fp fp' fe f g fd : AS} {env env' : Env} {d : Dat} {v : V} {A : Addr} {u : HO} {k : SK} {pr p1 p2 : Bool} {pos p : Pos} {e a b c : Expr} {wa wb we wk : LE} {rest : List Expr}
def rNeg (x : Dat) (Q : Dat → Prop) : Prop := match x with
  | .int i => Q (.int (-i))
  | _ => False
theorem je_neg (ha : JV C pr a wa) : JE C pr (.UnaryOp .USub a pos) (w1 wa rNeg) := fun X g => PE_imp (pe_un un_neg (ha X g)) fun σ H Q h => by
  refine lift1 (W := C.W) (r1 := rU fun i => .int (-i)) ?_ h
  intro F H f x vx Qd Q fl r h q
  cases x with
  | int i => cases r; exact ⟨i, rfl, q _ _ F H NoA h rep_int .refl⟩
  | _ => exact (show False from h).elim
/-- a or b, a of any kind -/
def wOrT (wa wb : LE) : LE := fun env Q => wa env fun x e1 => truD x fun c => if c = true then Q x e1 else wb e1 Q
theorem je_orT (ha : JE C p1 a wa) (hb : JE C p2 (.BoolOp .Or (b :: rest) pos) wb) : JE C (p1 && p2) (.BoolOp .Or (a :: b :: rest) pos) (wOrT wa wb) := fun X g =>
  PE_imp (pe_orT (ha X g) (hb X g)) fun σ H Q ⟨F, fp, env, Qd, sl, ok, hw, q⟩ => by
    refine ⟨F, fp, env, _, sl, ok, hw, fun x e1 F1 H1 fe1 f1 v1 hd P => ?_⟩
    obtain ⟨c, hc, hd⟩ := truD_ok P.rep hd
    rw [g.K]
    refine ⟨c, hc, ?_⟩
    cases c with
    | true => exact q x e1 F1 H1 fe1 f1 v1 hd (P.cast fun z => (Bool.and_eq_true _ _ ▸ z : p1 = true ∧ p2 = true).1)
    | false =>
      have P' := P.pv
      exact ⟨F1, fe1, e1, Qd, P.sl, P'.st.ok, hd, fun d env' F' H' fe fd v hd P2 => q d env' F' H' fe fd v hd (P2.after P'.st P'.pu)⟩
/-- x.f += e, x.f -= e -/
def wFAug (i : Nat) (gg : Nat → Option Nat) (f : Int → Int → Int) (w : LE) : LS := fun env k => (∃ o c vs j n, env[i]? = some (some (.obj o c vs)) ∧ gg c = some j ∧ vs[j]? = some (.int n) ∧
  w env fun d e => ∃ m vs2, d = .int m ∧ e[i]? = some (some (.obj true c vs2)) ∧ j < vs2.length ∧ vs2.length < 1000 ∧ k.nx (e.set i (some (.obj true c (vs2.set j (.int (f n m)))))))
theorem js_faug {op : Operator} {i : Nat} {x fn : Str} {xp tpos : Pos} {gg : Nat → Option Nat} {f : Int → Int → Int} (hop : ∀ X, PIp X op (ipI f)) (hf : Fld C fn gg) (hN : C.N[i]? = some x) (hv : Vis C.sc x) (hd : (x == ("__debug__" : Str)) = false) (hc : (x == ("__classdict__" : Str)) = false) (h : JV C pr e we) :
    JS C (.AugAssign (.Attribute (.Name x xp) fn tpos) op e pos) (wFAug i gg f we) := fun X gd =>
  PS_imp (ps_fldaug (rd := ipI f) (pe_slot gd hN hv hd hc) (h X gd) (fun pins s σ H x y u v Q I r1 r2 z => hop X pins s σ H x y u v Q I r1 r2 z)) fun D σ H ⟨F, fp, env, k, sl, ok, ⟨o, c, vs, j, n, e0, hg, hj, hw⟩, q⟩ => by
    obtain ⟨v0, f0, g0, e1, r0, j0, n0, s0⟩ := sl.at_ e0
    obtain ⟨k1, k2⟩ := hf.ok c j hg
    obtain ⟨A, Ca, dx, fs, g1, rfl, m, hA, ee, r⟩ := obj_of r0
    obtain ⟨vn, fn', h1, h2, h3⟩ := r.get hj
    have hl : fs.lookup fn = some vn := zip_lookup (by rw [ee, r.length, List.length_map]) k2.nd k1 h1
    cases h2
    refine ⟨_, e1, A, Ca, dx, fs, .int n, rfl, hA, by rw [gd.K]; exact k2.cls Ca m, by rw [gd.K]; exact k2.no Ca m _ (List.mem_of_getElem? k1), hl, F, fp, env, _, sl, ok, hw, fun d env' F' H' fe fd v hd P => ?_⟩
    obtain ⟨mi, vs2, rfl, e2, hj2, hlen, hd⟩ := hd
    have rm := P.rep
    cases rm
    obtain ⟨v1, f1, g1, e3, r1, j1, n1, s1⟩ := P.sl.at_ e2
    rw [e1] at e3
    cases e3
    cases r1 with
    | @objO _ f2 _ Ca' dx' fs' _ _ m' hA' ee' r' nA i1 =>
      have ec : Ca' = Ca := by
        have z := m'.symm.trans m
        injection z with z; injection z
      subst ec
      have hfl : vs2.length = fs'.length := by rw [r'.length, List.length_map]
      have hf1 : f1 A := (i1 A).mpr (.inl rfl)
      have hm : Mut (H' A) := by rw [hA']; exact True.intro
      have nF : ¬ F' A := P.st.ok.nf A ((j1 A).mpr (.inl hf1))
      have hi : i < env'.length := (List.getElem?_eq_some_iff.mp e2).1
      refine ⟨n, mi, rfl, rfl, dx', fs', hA', by rw [← hfl]; exact hlen, ?_⟩
      have P' : Po C.W pr F H fp σ env' F' H' fe NoA (.int (f n mi)) (.int (f n mi)) := ⟨P.sl, rep_int, fun _ _ z => z, P.st.sub fun a z => z.resolve_right id, P.pu⟩
      have rr := r'.upd (o := .ins Ca' dx' (putF fn (.int (f n mi)) fs')) hm nF nA
      obtain ⟨h', r2, s'⟩ := Reps.setg (d := .int (f n mi)) (v := .int (f n mi)) (fd := NoA) j rr rep_int fun _ _ z => z
      obtain ⟨q1, q2⟩ := putF_old (v := .int (f n mi)) (fs := fs') (ns := C.T.fl c) (j := j) (by rw [← hfl]; exact ee') k2.nd k1 (by rw [← hfl]; exact hj2)
      have s'' : ∀ a, h' a → f2 a := fun a z => (s' a z).resolve_right id
      exact q.nx _ F' _ _ σ hd (P'.write e1 j1 n1 s1 hi hf1 (wr_ins hA') (fun _ z => nomatch z) (.objO m' upd_same (by rw [q1, List.length_set]; exact ee') (by rw [q2]; exact r2) (fun z => nA (s'' A z)) fun b => Iff.rfl) fun a z => by
        rcases z with z | z
        · exact .inl (z ▸ hf1)
        · exact .inl ((i1 a).mpr (.inr (s'' a z))))
def rFmt (x : Dat) (Q : Dat → Prop) : Prop := match x with
  | .int i => i.natAbs.log2 < 1920 ∧ Q (.str (toString i))
  | .str y => y.length ≤ sizeLine ∧ Q (.str y)
  | _ => False
theorem je_fmt {pos2 : Pos} (ha : JV C pr a wa) : JE C pr (.JoinedStr [.FormattedValue a (-1) none pos2] pos) (w1 wa rFmt) := fun X g => PE_imp (pe_joined1 (pe_fmt (ha X g))) fun σ H Q h => by
  refine lift1 (W := C.W) (r1 := fun x H1 Q => (∃ y : Str, x = .str y ∧ y.length ≤ sizeLine ∧ Q (.str y) H1) ∨ ∃ i : Int, x = .int i ∧ i.natAbs.log2 < 1920 ∧ Q (.str (toString i)) H1) ?_ h
  intro F H f x vx Qd Q fl r h q
  cases x with
  | int i => cases r; exact .inr ⟨i, rfl, h.1, q _ _ F H NoA h.2 rep_str .refl⟩
  | str i => cases r; exact .inl ⟨i, rfl, h.1, q _ _ F H NoA h.2 rep_str .refl⟩
  | _ => exact (show False from h).elim
theorem je_dnew : JE C true (.Dict [] [] pos) (wC (.dct true [] [])) := fun X g => PE_imp pe_dnewK fun σ H Q ⟨F, fp, env, Qd, sl, ok, hw, q⟩ => fun p hp => by
  have fr : Fresh F H F (upd H p (.dK [])) (fun a => a = p) := ⟨keep_upd hp, Tgo.new hp (fun _ z => nomatch z), fun _ z => z, fun _ z => .inl z, fun a z => by rw [z]; exact hp, fun a z w => ok.lv a w (by rw [z]; exact hp)⟩
  exact q _ env F _ fp _ _ hw (fr.po ok sl (.dctO upd_same rfl (.nil (fp := NoA) fun _ z => z) (fun z => z) fun b => ⟨.inl, fun z => z.elim id False.elim⟩))
theorem je_dnewT : JE C true (.Dict [] [] pos) (wC (.dtt true [] [])) := fun X g => PE_imp pe_dnewT fun σ H Q ⟨F, fp, env, Qd, sl, ok, hw, q⟩ => fun p hp => by
  have fr : Fresh F H F (upd H p (.dT [])) (fun a => a = p) := ⟨keep_upd hp, Tgo.new hp (fun _ z => nomatch z), fun _ z => z, fun _ z => .inl z, fun a z => by rw [z]; exact hp, fun a z w => ok.lv a w (by rw [z]; exact hp)⟩
  exact q _ env F _ fp _ _ hw (fr.po ok sl (.dttO upd_same rfl (.nil (fp := NoA) fun _ z => z) (fun z => z) fun b => ⟨.inl, fun z => z.elim id False.elim⟩))
def putKs (ks : List Dat) (k : Dat) : List Dat := if hasKey k ks = true then ks else ks ++ [k]
def repV : List Dat → List Dat → Dat → Dat → List Dat
  | j :: ks, x :: vs, k, d => (if eqF j k = true then d else x) :: repV ks vs k d
  | _, _, _, _ => []
def putVs (ks vs : List Dat) (k d : Dat) : List Dat := if hasKey k ks = true then repV ks vs k d else vs ++ [d]
theorem repV_ok {k : Key} {v : V} {d : Dat} (rv : Rep W F H NoA d v) : ∀ {kvs : List (Key × V)} {vs : List Dat}, Reps W F H NoA vs (kvs.map (·.2)) → Reps W F H NoA (repV (kvs.map fun p => kD p.1) vs (kD k) d) ((kvs.map fun kv => if kv.1 = k then (kv.1, v) else kv).map (·.2))
  | [], vs, r => by cases r; exact .nil fun _ z => z
  | (j, x) :: kvs, vs, r => by
    cases vs with
    | nil => cases r
    | cons y vs =>
      obtain ⟨v', us, e, r1, r2⟩ := r.cons1
      cases e
      have ih := repV_ok (k := k) rv r2
      have hk : eqF (kD j) (kD k) = decide (j = k) := eqF_k k j
      by_cases q : j = k
      · simp only [List.map_cons, repV, hk, decide_eq_true q, if_pos q, if_true]
        exact .cons (f1 := NoA) (f2 := NoA) rv ih (fun _ z => z.elim) fun a => ⟨fun z => z.elim, fun z => z.elim id id⟩
      · simp only [List.map_cons, repV, hk, decide_eq_false q, if_neg q]
        exact .cons (f1 := NoA) (f2 := NoA) r1 ih (fun _ z => z.elim) fun a => ⟨fun z => z.elim, fun z => z.elim id id⟩
theorem putK_keys {k : Key} {v : V} (kvs : List (Key × V)) : (putK kvs k v).map (fun p => kD p.1) = putKs (kvs.map fun p => kD p.1) (kD k) := by
  unfold putK putKs
  rw [hasKey_val, ← valV_any]
  split
  · rw [List.map_map]
    refine List.map_congr_left fun p _ => ?_
    simp only [Function.comp]
    split <;> rfl
  · rw [List.map_append]; rfl
theorem putK_vals {k : Key} {v : V} {d : Dat} {kvs : List (Key × V)} {vs : List Dat} (rv : Rep W F H NoA d v) (r : Reps W F H NoA vs (kvs.map (·.2))) : Reps W F H NoA (putVs (kvs.map fun p => kD p.1) vs (kD k) d) ((putK kvs k v).map (·.2)) := by
  unfold putK putVs
  rw [hasKey_val, ← valV_any]
  split
  · exact repV_ok rv r
  · rw [List.map_append]
    exact Reps.eqv _ _ _ _ (Reps.append r (Reps.one rv) fun _ z => z.elim) fun a => ⟨fun z => z.elim, fun z => z.elim id id⟩
/-- x[k] = e, x a dict of ints and texts in a slot; what is stored is frozen -/
def wDPut (i : Nat) (we wk : LE) : LS := fun env k => we env fun d e1 => (∃ z, e1[i]? = some (some z)) ∧ wk e1 fun y e2 => ∃ ks vs, e2[i]? = some (some (.dct true ks vs)) ∧ (keyIs y).isSome = true ∧ frzs vs = vs ∧ ks.length < sizeLine ∧ k.nx (e2.set i (some (.dct true (putKs ks y) (putVs ks vs y (frz d)))))
theorem js_dput {i : Nat} {x : Str} {xp pos' : Pos} (hN : C.N[i]? = some x) (hv : Vis C.sc x) (hd : (x == ("__debug__" : Str)) = false) (hc : (x == ("__classdict__" : Str)) = false) (he : JE C p1 e we) (hk : JV C p2 b wk)
    (hs : ∀ env, swapsWith e (some (.Subscript (.Name x xp) b pos')) pos.line env = pure false) : JS C (.Assign [.Subscript (.Name x xp) b pos'] e pos) (wDPut i we wk) := fun X gd =>
  PS_imp (ps_dput (by have := gd.room.un; omega) (pe_slot gd hN hv hd hc) (hk X gd) (he X gd) (hs _)) fun D σ H ⟨F, fp, env, k, sl, ok, hw, q⟩ => by
    refine ⟨F, fp, env, _, sl, ok, hw, fun d e1 F1 H1 fe1 fd1 v hd1 P1 => ?_⟩
    obtain ⟨⟨z, ez⟩, hd1⟩ := hd1
    have P := P1.freeze
    obtain ⟨vx, _, _, ex, _⟩ := P.sl.at_ ez
    have ok1 : Ok C.W (fun a => F1 a ∨ fd1 a) H1 fe1 := P.st.ok.sub fun _ => .inl
    refine ⟨vx, ex, _, fe1, e1, _, P.sl, ok1, hd1, fun y e2 F2 H2 fe2 fd2 vy hd2 P2 => ?_⟩
    obtain ⟨ks, vs, e3, hy, hz, hl, hd2⟩ := hd2
    obtain ⟨kk, hkk⟩ := Option.isSome_iff_exists.mp hy
    obtain ⟨rfl, rfl⟩ := keyIs_k hkk P2.rep
    obtain ⟨v1, f1, g1, e4, r1, j1, n1, s1⟩ := P2.sl.at_ e3
    rw [ex] at e4
    cases e4
    cases r1 with
    | @dctO _ f2 A kvs _ _ hA ek r nA i1 =>
      subst ek
      have r0 := r.fz hz
      have hf1 : f1 A := (i1 A).mpr (.inl rfl)
      have hm : Mut (H2 A) := by rw [hA]; exact True.intro
      have nF : ¬ F2 A := P2.st.ok.nf A ((j1 A).mpr (.inl hf1))
      have hi : i < e2.length := (List.getElem?_eq_some_iff.mp e3).1
      have rd : Rep C.W F2 H2 NoA (frz d) v := P.rep.step P2.st ok1 fun _ z => z.elim
      have rd' := rd.upd (o := .dK (putK kvs kk v)) hm nF (fun z => z)
      have rr := r0.upd (o := .dK (putK kvs kk v)) hm nF (fun z => z)
      refine ⟨A, _, rfl, DPut.k hA (by simpa using hl), ?_⟩
      have Sn0 : Sn C σ F H fp e1 (fun a => F1 a ∨ fd1 a) H1 fe1 σ := ⟨P.sl, P.st.sub fun _ => .inl, fun _ _ => rfl, rfl⟩
      have P3 : Po C.W p2 (fun a => F1 a ∨ fd1 a) H1 fe1 σ e2 F2 H2 fe2 NoA (.int 0) (.int 0) := ⟨P2.sl, rep_int, fun _ _ z => z, P2.st.sub fun a z => z.resolve_right id, P2.pu⟩
      have w := P3.write (o := .dK (putK kvs kk v)) (f' := fun a => a = A) (d' := .dct true (putKs (kvs.map fun p => kD p.1) (kD kk)) (putVs (kvs.map fun p => kD p.1) vs (kD kk) (frz d))) ex j1 n1 s1 hi hf1 (wr_dK hA) (fun _ z => nomatch z)
        (.dctO upd_same (putK_keys kvs).symm (putK_vals rd' rr) (fun z => z) fun b => ⟨.inl, fun z => z.elim id False.elim⟩) fun a z => .inl (z ▸ hf1)
      exact q.nx _ F2 _ _ σ hd2 (Sn0.trans w)
end
end M
namespace M
open PySem PySem.Spec PyProof.Rows L2
section
variable {C : Ctx} {D : Ends} {W : Wd} {σ σ' : L2.St} {F F' F1 : AS} {H H' H1 : Hp} {fp fp' fe f g fd : AS} {env env' : Env} {d : Dat} {v : V} {A : Addr} {u : HO} {k : SK} {pr p1 p2 : Bool} {pos p : Pos} {e a b c elt tg : Expr} {wa wb we wk : LE} {rest : List Expr} {t : LT}
def rGeSI (K : PySem.W.Frag) : R2 := fun x y H Q => ∃ (a b : Addr) (s t : Str) (i j : Int), x = .ref a ∧ y = .ref b ∧ SqT K H a [.str s, .int i] ∧ SqT K H b [.str t, .int j] ∧
  Q (.bl (if s = t then (if i = j then true else decide (j ≤ i)) else !decide (s.cps.toList < t.cps.toList))) H
theorem op_geSI {X : Cx} (hu : X.A.units < cLine) : OpR X (compareOp .GtE) (rGeSI X.K) := by
  intro pins s σ H x y v u Q I rx ry h
  obtain ⟨a, b, s1, s2, i1, i2, rfl, rfl, ha, hb, q⟩ := h
  cases rx
  cases ry
  obtain ⟨its, r1, p1, _⟩ := I.tuple ha
  obtain ⟨its2, r2, p2, _⟩ := I.tuple hb
  cases r1 with
  | cons r11 r12 =>
  cases r12 with
  | cons r12 r13 =>
  cases r13
  cases r2 with
  | cons r21 r22 =>
  cases r22 with
  | cons r22 r23 =>
  cases r23
  obtain ⟨t1, rfl⟩ := r11
  obtain ⟨t2, rfl⟩ := r12
  obtain ⟨t3, rfl⟩ := r21
  obtain ⟨t4, rfl⟩ := r22
  have R := Ob.RcOp.tuples_ge (A := X.A) (s := s) (e := fun j => if j = 0 then s1 == s2 else i1 == i2) (r := fun j => if j = 0 then !decide (s1.cps.toList < s2.cps.toList) else decide (i2 ≤ i1)) p1 p2 hu (fun j h1 h2 => by
    have h1 : j < 2 := h1
    rcases (show j = 0 ∨ j = 1 by omega) with rfl | rfl
    · exact SeqAt.EqAt.str_str _ _ _ _
    · exact SeqAt.EqAt.int_int _ _ _ _) (fun j h1 h2 _ => by
    have h1 : j < 2 := h1
    rcases (show j = 0 ∨ j = 1 by omega) with rfl | rfl
    · exact fun prog w E Q h => PySem.P.ge_str h
    · exact Ob.RcOp.ge_int _ _ _ _)
  refine R X.prog X.w X.xe (EP X pins σ Q) ⟨.bl _, H, I, rfl, ?_⟩
  have e0 : Ob.lexAt (fun j => if j = 0 then s1 == s2 else i1 == i2) (fun j => if j = 0 then !decide (s1.cps.toList < s2.cps.toList) else decide (i2 ≤ i1)) (decide (2 ≥ 2)) 0 2 = (if s1 = s2 then (if i1 = i2 then true else decide (i2 ≤ i1)) else !decide (s1.cps.toList < s2.cps.toList)) := by
    rw [Ob.lexAt_succ, Ob.lexAt_succ, Ob.lexAt_zero]
    by_cases q1 : s1 = s2
    · by_cases q2 : i1 = i2
      · simp [q1, q2]
      · simp [q1, q2]
    · simp [q1]
  rw [← e0] at q
  exact q
def rGeT (x y : Dat) (Q : Dat → Prop) : Prop := match x, y with
  | .tup _ [.str s, .int i], .tup _ [.str t, .int j] => Q (.bl (if s = t then (if i = j then true else decide (j ≤ i)) else !decide (s.cps.toList < t.cps.toList)))
  | _, _ => False
theorem o_geT : Op2 W (rGeSI W.K) rGeT := by
  intro F H f1 f2 x y vx vy Qd Q fl rx ry h q
  unfold rGeT at h
  split at h
  · cases rx with
    | tup sx _ rx =>
      cases ry with
      | tup sy _ ry =>
        obtain ⟨u1, _, _⟩ := id rx
        cases rx with
        | cons a1 a2 _ _ =>
        cases a2 with
        | cons a2 a3 _ _ =>
        cases a3
        cases ry with
        | cons b1 b2 _ _ =>
        cases b2 with
        | cons b2 b3 _ _ =>
        cases b3
        cases a1; cases a2; cases b1; cases b2
        exact ⟨_, _, _, _, _, _, rfl, rfl, sx, sy, q _ _ F H NoA h rep_bl .refl⟩
  · exact h.elim
theorem cp_geT : Cp C .GtE (fun K => rGeSI K) rGeT := ⟨fun X _ h => op_geSI (by omega), o_geT⟩
def keysOf : List Dat → Option (List Key)
  | [] => some []
  | d :: ds => (keyIs d).bind fun k => (keysOf ds).map (k :: ·)
theorem keysOf_ok : ∀ {ds : List Dat} {ks : List Key}, keysOf ds = some ks → ds = ks.map kD
  | [], _, h => by cases h; rfl
  | d :: ds, _, h => by
    unfold keysOf at h
    obtain ⟨k, hk, h⟩ := Option.bind_eq_some_iff.mp h
    obtain ⟨ks, hks, rfl⟩ := Option.map_eq_some_iff.mp h
    rw [List.map_cons, ← keysOf_ok hks]
    cases d <;> simp [keyIs] at hk <;> subst hk <;> rfl
theorem reps_tkeys : ∀ {ks : List Key} {fp : AS} {vs : List V}, Reps W F H fp (ks.map kD) vs → vs = ks.map kV
  | [], _, _, h => by cases h; rfl
  | k :: ks, _, _, h => by
    cases h with
    | cons r1 r2 _ _ =>
      rw [List.map_cons, ← reps_tkeys r2]
      cases k <;> cases r1 <;> rfl
/-- the key that a plain tuple is -/
def tkey (y : Dat) : Option (List Key) := match y with
  | .tup .p xs => keysOf xs
  | _ => none
theorem tkey_ok {y : Dat} {kk : List Key} (e : tkey y = some kk) (r : Rep W F H fp y v) : ∃ b, v = .ref b ∧ H b = some (.tup (kk.map kV)) ∧ y = .tup .p (kk.map kD) := by
  unfold tkey at e
  split at e
  · have := keysOf_ok e
    subst this
    cases r with
    | tup s z r => exact ⟨_, rfl, by rw [← reps_tkeys r]; exact z, rfl⟩
  · cases e
def eqT (x y : Dat) : Bool := match tkey x, tkey y with
  | some a, some b => decide (a = b)
  | _, _ => false
theorem keysOf_map : ∀ k : List Key, keysOf (k.map kD) = some k
  | [] => rfl
  | k :: ks => by
    simp only [List.map_cons, keysOf, keysOf_map ks]
    cases k <;> rfl
theorem tkey_k (k : List Key) : tkey (.tup .p (k.map kD)) = some k := keysOf_map k
theorem eqT_k (k j : List Key) : eqT (.tup .p (j.map kD)) (.tup .p (k.map kD)) = decide (j = k) := by
  unfold eqT; rw [tkey_k, tkey_k]
def lookT : List Dat → List Dat → Dat → Option Dat
  | k :: ks, v :: vs, x => if eqT k x = true then some v else lookT ks vs x
  | _, _, _ => none
theorem lookT_ok {kk : List Key} : ∀ {kvs : List (List Key × V)} {ds : List Dat} {f : AS} {d : Dat}, Reps W F H f ds (kvs.map (·.2)) → lookT (kvs.map fun p => Dat.tup .p (p.1.map kD)) ds (.tup .p (kk.map kD)) = some d → ∃ v g, valV kvs kk = some v ∧ Rep W F H g d v
  | [], _, _, _, r, h => by cases r; cases h
  | (j, x) :: kvs, ds, _, d, r, h => by
    cases r with
    | cons r1 r2 _ _ =>
      simp only [List.map_cons, lookT, eqT_k] at h
      by_cases q : j = kk
      · rw [if_pos (by simp [q])] at h
        cases h
        exact ⟨x, _, valV_pos q, r1⟩
      · rw [if_neg (by simp [q])] at h
        obtain ⟨v, g, h1, h2⟩ := lookT_ok r2 h
        exact ⟨v, g, by rw [valV_neg q]; exact h1, h2⟩
def rIdxT2 (x y : Dat) (Q : Dat → Prop) : Prop := match x with
  | .dtt _ ks vs => ∃ d kk, tkey y = some kk ∧ lookT ks vs y = some d ∧ Q d
  | _ => False
theorem o_idxT : Op2v W (rDgX) rIdxT2 := by
  intro F H f1 f2 x y vx vy Qd Q fl rx ry h q
  cases x with
  | dtt o ks vs =>
    obtain ⟨d, kk, hk, hl, h⟩ := h
    obtain ⟨b, rfl, hb, rfl⟩ := tkey_ok hk ry
    cases rx with
    | dttF _ s _ e r =>
      subst e
      obtain ⟨v, g, h1, h2⟩ := lookT_ok r hl
      exact ⟨_, v, rfl, .inr ⟨_, kk, b, s, rfl, hb, h1.symm⟩, q d v g h h2⟩
    | dttO s e r _ _ =>
      subst e
      obtain ⟨v, g, h1, h2⟩ := lookT_ok r hl
      exact ⟨_, v, rfl, .inr ⟨_, kk, b, .inl s, rfl, hb, h1.symm⟩, q d v g h h2⟩
  | _ => exact (show False from h).elim
theorem jv_idxT (ha : JV C p1 a wa) (hb : JV C p2 b wb) (hs : PlainIx b) : JV C (p1 && p2) (.Subscript a b pos) (w2 p2 wa wb rIdxT2) := fun X g =>
  PE_imp (pe_ix (ix_dct (by have := g.room.un; omega)) (ha X g) (hb X g) hs) fun σ H Q h => lift2v (r2 := rDgX) (W := C.W) o_idxT h
/-- a constant subscript -/
def CI (C : Ctx) (b : Expr) (j : Int) : Prop := ∀ X, Gd C X → PE X b fun σ H Q => Q (.int j) H
theorem ci_neg {j : Int} {m : Nat} {pos2 : Pos} : CI C (.UnaryOp .USub (.Constant (.int j) m pos) pos2) (-j) := fun X g => PE_imp (pe_un un_neg pe_int) fun σ H Q h => ⟨j, rfl, h⟩
/-- a part of a row, and the rest -/
theorem Reps.split : ∀ {ds : List Dat} {vs : List V} {fp : AS} {j : Nat} {d : Dat}, Reps W F H fp ds vs → ds[j]? = some d → ∃ (v : V) (f g : AS), vs[j]? = some v ∧ Rep W F H f d v ∧ (∀ a, fp a ↔ f a ∨ g a) ∧ (∀ a, f a → ¬ g a) ∧
    ∀ F' H' d' f', Rep W F' H' f' d' v → (∀ a, f' a → ¬ g a) → (∀ a, F a → F' a) → (∀ a o, H a = some o → NT o → (g a ∨ F a ∨ ¬ Mut (some o)) → H' a = some o) → Reps W F' H' (fun a => f' a ∨ g a) (ds.set j d') vs
  | [], _, _, _, _, h, e => by simp at e
  | x :: ds, _, _, 0, d, h, e => by
    cases h with
    | @cons _ f1 f2 _ v _ vs r1 r2 n i =>
      simp at e; subst e
      exact ⟨v, f1, f2, rfl, r1, i, n, fun F' H' d' f' r nn fx kp => .cons r (Reps.mono fx _ _ _ r2 kp) nn fun a => Iff.rfl⟩
  | x :: ds, _, _, j + 1, d, h, e => by
    cases h with
    | @cons _ f1 f2 _ v _ vs r1 r2 n i =>
      obtain ⟨w, f, g, e1, r, hi, nn, back⟩ := Reps.split (j := j) r2 (by simpa using e)
      refine ⟨w, f, fun a => f1 a ∨ g a, by simpa using e1, r, fun a => ?_, fun a z q => ?_, fun F' H' d' f' r' n' fx kp => ?_⟩
      · rw [i a, hi a]
        exact ⟨fun z => by rcases z with z | z | z; exact .inr (.inl z); exact .inl z; exact .inr (.inr z), fun z => by rcases z with z | z | z; exact .inr (.inl z); exact .inl z; exact .inr (.inr z)⟩
      · rcases q with q | q
        · exact n a q ((hi a).mpr (.inl z))
        · exact nn a z q
      · refine .cons (Rep.mono fx _ _ _ r1 fun a o e t z => kp a o e t (z.imp_left .inl)) (back F' H' d' f' r' (fun a z q => n' a z (.inr q)) fx fun a o e t z => kp a o e t (z.imp_left .inr)) (fun a z q => ?_) fun a => ?_
        · rcases q with q | q
          · exact n' a q (.inl z)
          · exact n a z ((hi a).mpr (.inr q))
        · exact ⟨fun z => by rcases z with z | z | z; exact .inr (.inl z); exact .inl z; exact .inr (.inr z), fun z => by rcases z with z | z | z; exact .inr (.inl z); exact .inl z; exact .inr (.inr z)⟩
/-- a container within the slot's thing is written -/
theorem Po.write2 {i : Nat} {B : Addr} {o : HO} {f' : AS} {d d' : Dat} {v0 : V} {fd : AS} {v : V} (P : Po C.W pr F H fp σ env F1 H1 fe fd d v) (hσ : σ[i]? = some (some v0)) (j : ∀ a, fe a ↔ f a ∨ g a) (n : ∀ a, f a → ¬ g a) (s : Sl C.W F1 H1 g (env.set i none) σ) (hi : i < env.length)
    (hA : f B) (hw : Wr H1 B) (no : NT o) (r : Rep C.W F1 (upd H1 B o) f' d' v0) (sub : ∀ a, f' a → f a ∨ fd a) : Sn C σ F H fp (env.set i (some d')) F1 (upd H1 B o) (fun a => f' a ∨ g a) σ := by
  have ok := P.st.ok
  have ne : ∀ a, g a → a ≠ B := fun a z e => n B hA (e ▸ z)
  have hm : Mut (H1 B) := ok.own B (.inl ((j B).mpr (.inl hA)))
  have nF : ¬ F1 B := ok.nf B (.inl ((j B).mpr (.inl hA)))
  have sg : Sl C.W F1 (upd H1 B o) g (env.set i none) σ := s.mono (fun _ z => z) fun a u e _ z => by
    rw [upd_ne]
    · exact e
    · rintro rfl
      rcases z with z | z | z
      · exact ne a z rfl
      · exact nF z
      · exact z (by rw [← e]; exact hm)
  have s2 := sg.put (i := i) (by rw [List.getElem?_set_self hi]) r fun a z q => by
    rcases sub a z with z | z
    · exact n a z q
    · exact P.dj a ((j a).mpr (.inr q)) z
  rw [List.set_set, set_self hσ] at s2
  have all : ∀ a, f' a ∨ g a → fe a ∨ fd a := fun a z => by
    rcases z with z | z
    · exact (sub a z).imp_left fun z => (j a).mpr (.inl z)
    · exact .inl ((j a).mpr (.inr z))
  have st2 : Step C.W F1 H1 (fun a => fe a ∨ fd a) F1 (upd H1 B o) (fun a => f' a ∨ g a) := ⟨fun a u e z => .of (by
      rw [upd_ne]
      · exact e
      · rintro rfl
        exact z (.inl ((j a).mpr (.inl hA)))), fun _ z => z, fun a z => .inl z, fun a z => .inl (all a z), ⟨fun a z q => ok.nf a (all a z) q, fun a z => s2.own a z, fun a z w => by
      by_cases q : a = B
      · subst q; exact nF z
      · rw [upd_ne q] at w; exact ok.lv a z w, ok.tb.go (hw.go no)⟩⟩
  exact ⟨s2, P.st.trans st2, fun _ _ => rfl, rfl⟩
def hasT (k : Dat) (ks : List Dat) : Bool := ks.any fun z => eqT z k
def putTs (ks : List Dat) (k : Dat) : List Dat := if hasT k ks = true then ks else ks ++ [k]
def repT : List Dat → List Dat → Dat → Dat → List Dat
  | j :: ks, x :: vs, k, d => (if eqT j k = true then d else x) :: repT ks vs k d
  | _, _, _, _ => []
def putTv (ks vs : List Dat) (k d : Dat) : List Dat := if hasT k ks = true then repT ks vs k d else vs ++ [d]
theorem hasT_val (k : List Key) (kvs : List (List Key × V)) : hasT (.tup .p (k.map kD)) (kvs.map fun p => Dat.tup .p (p.1.map kD)) = (valV kvs k).isSome := by
  rw [← valV_any]
  unfold hasT
  rw [List.any_map]
  congr 1
  funext p
  exact eqT_k k p.1
theorem putT_keys {k : List Key} {v : V} (kvs : List (List Key × V)) : (putK kvs k v).map (fun p => Dat.tup .p (p.1.map kD)) = putTs (kvs.map fun p => Dat.tup .p (p.1.map kD)) (.tup .p (k.map kD)) := by
  unfold putK putTs
  rw [hasT_val, ← valV_any]
  split
  · rw [List.map_map]
    refine List.map_congr_left fun p _ => ?_
    simp only [Function.comp]
    split <;> rfl
  · rw [List.map_append]; rfl
theorem repT_ok {k : List Key} {v : V} {d : Dat} (rv : Rep W F H NoA d v) : ∀ {kvs : List (List Key × V)} {vs : List Dat}, Reps W F H NoA vs (kvs.map (·.2)) → Reps W F H NoA (repT (kvs.map fun p => Dat.tup .p (p.1.map kD)) vs (.tup .p (k.map kD)) d) ((kvs.map fun kv => if kv.1 = k then (kv.1, v) else kv).map (·.2))
  | [], vs, r => by cases r; exact .nil fun _ z => z
  | (j, x) :: kvs, vs, r => by
    cases vs with
    | nil => cases r
    | cons y vs =>
      obtain ⟨v', us, e, r1, r2⟩ := r.cons1
      cases e
      have ih := repT_ok (k := k) rv r2
      have hk := eqT_k k j
      by_cases q : j = k
      · simp only [List.map_cons, repT, hk, decide_eq_true q, if_pos q, if_true]
        exact .cons (f1 := NoA) (f2 := NoA) rv ih (fun _ z => z.elim) fun a => ⟨fun z => z.elim, fun z => z.elim id id⟩
      · simp only [List.map_cons, repT, hk, decide_eq_false q, if_neg q]
        exact .cons (f1 := NoA) (f2 := NoA) r1 ih (fun _ z => z.elim) fun a => ⟨fun z => z.elim, fun z => z.elim id id⟩
theorem putT_vals {k : List Key} {v : V} {d : Dat} {kvs : List (List Key × V)} {vs : List Dat} (rv : Rep W F H NoA d v) (r : Reps W F H NoA vs (kvs.map (·.2))) : Reps W F H NoA (putTv (kvs.map fun p => Dat.tup .p (p.1.map kD)) vs (.tup .p (k.map kD)) d) ((putK kvs k v).map (·.2)) := by
  unfold putK putTv
  rw [hasT_val, ← valV_any]
  split
  · exact repT_ok rv r
  · rw [List.map_append]
    exact Reps.eqv _ _ _ _ (Reps.append r (Reps.one rv) fun _ z => z.elim) fun a => ⟨fun z => z.elim, fun z => z.elim id id⟩
/-- xs[j][k] = e -/
def wDPut2 (i : Nat) (j : Int) (we wk : LE) : LS := fun env k => we env fun d e1 => (∃ xs m x, e1[i]? = some (some (.lst true xs)) ∧ ixN xs.length j = some m ∧ xs[m]? = some x) ∧ wk e1 fun y e2 => ∃ xs m ks vs, e2[i]? = some (some (.lst true xs)) ∧ ixN xs.length j = some m ∧ xs[m]? = some (.dtt true ks vs) ∧
  (tkey y).isSome = true ∧ frzs vs = vs ∧ ks.length < sizeLine ∧ k.nx (e2.set i (some (.lst true (xs.set m (.dtt true (putTs ks y) (putTv ks vs y (frz d)))))))
theorem js_dput2 {i : Nat} {j : Int} {x : Str} {xp pos' ipos : Pos} {bj : Expr} (hN : C.N[i]? = some x) (hv : Vis C.sc x) (hd : (x == ("__debug__" : Str)) = false) (hc : (x == ("__classdict__" : Str)) = false) (hj : CI C bj j) (hpl : PlainIx bj) (he : JE C p1 e we) (hk : JV C true b wk)
    (hs : ∀ env, swapsWith e (some (.Subscript (.Subscript (.Name x xp) bj ipos) b pos')) pos.line env = pure false) : JS C (.Assign [.Subscript (.Subscript (.Name x xp) bj ipos) b pos'] e pos) (wDPut2 i j we wk) := fun X gd =>
  PS_imp (ps_dput (by have := gd.room.un; omega) (pe_ix ix_seq (pe_slot gd hN hv hd hc) (hj X gd) hpl) (hk X gd) (he X gd) (hs _)) fun D σ H ⟨F, fp, env, k, sl, ok, hw, q⟩ => by
    refine ⟨F, fp, env, _, sl, ok, hw, fun d e1 F1 H1 fe1 fd1 v hd1 P1 => ?_⟩
    obtain ⟨⟨xs0, m0, x0, ez, hm0, hx0⟩, hd1⟩ := hd1
    have P := P1.freeze
    obtain ⟨vx, _, _, ex, rx0, _⟩ := P.sl.at_ ez
    cases rx0 with
    | @lstO _ f20 A vs0 _ hA0 r20 nA0 i10 =>
    have ok1 : Ok C.W (fun a => F1 a ∨ fd1 a) H1 fe1 := P.st.ok.sub fun _ => .inl
    obtain ⟨v0, _, ev0, _, _⟩ := r20.get hx0
    have hat : atI vs0 j = some v0 := by
      unfold atI
      rw [← r20.length, hm0]; exact ev0
    refine ⟨_, ex, .inl ⟨A, vs0, j, v0, rfl, rfl, .inl (.inl hA0), hat, ?_⟩⟩
    refine ⟨_, fe1, e1, _, P.sl, ok1, hd1, fun y e2 F2 H2 fe2 fd2 vy hd2 P2 => ?_⟩
    obtain ⟨xs, m, ks, vs, e3, hm, hxm, hy, hz, hl, hd2⟩ := hd2
    obtain ⟨kk, hkk⟩ := Option.isSome_iff_exists.mp hy
    obtain ⟨b', rfl, hb, rfl⟩ := tkey_ok hkk P2.rep
    obtain ⟨v1, f1, g1, e4, r1, j1, n1, s1⟩ := P2.sl.at_ e3
    rw [ex] at e4
    cases e4
    have hA2 : H2 A = some (.lst vs0) := (P2.pu rfl _ _ hA0).nt fun _ z => nomatch z
    cases r1 with
    | @lstO _ f2 _ vs2 _ hA r nA i1 =>
      have evs : vs2 = vs0 := by rw [hA2] at hA; cases hA; rfl
      subst evs
      obtain ⟨w0, fi, gi, ew, ri, hfi, nni, back⟩ := r.split hxm
      have e00 : w0 = v0 := by
        have hlen : xs.length = xs0.length := by rw [r.length, r20.length]
        have : m = m0 := by rw [hlen, hm0] at hm; exact (Option.some.inj hm).symm
        subst this
        rw [ew] at ev0; exact Option.some.inj ev0
      subst e00
      cases ri with
      | @dttO _ fk B kvs _ _ hB ek rk nB ib =>
        subst ek
        have r0 := rk.fz hz
        have fB : fi B := (ib B).mpr (.inl rfl)
        have f2B : f2 B := (hfi B).mpr (.inl fB)
        have f1B : f1 B := (i1 B).mpr (.inr f2B)
        have nAB : A ≠ B := fun e => nA (e ▸ f2B)
        have hmB : Mut (H2 B) := by rw [hB]; exact True.intro
        have nF : ¬ F2 B := P2.st.ok.nf B ((j1 B).mpr (.inl f1B))
        have hi : i < e2.length := (List.getElem?_eq_some_iff.mp e3).1
        have rd : Rep C.W F2 H2 NoA (frz d) v := P.rep.step P2.st ok1 fun _ z => z.elim
        have rd' := rd.upd (o := .dT (putK kvs kk v)) hmB nF (fun z => z)
        have rr := r0.upd (o := .dT (putK kvs kk v)) hmB nF (fun z => z)
        refine ⟨B, _, rfl, DPut.t hB hb (by simpa using hl), ?_⟩
        have Sn0 : Sn C σ F H fp e1 (fun a => F1 a ∨ fd1 a) H1 fe1 σ := ⟨P.sl, P.st.sub fun _ => .inl, fun _ _ => rfl, rfl⟩
        have P3 : Po C.W true (fun a => F1 a ∨ fd1 a) H1 fe1 σ e2 F2 H2 fe2 NoA (.int 0) (.int 0) := ⟨P2.sl, rep_int, fun _ _ z => z, P2.st.sub fun a z => z.resolve_right id, P2.pu⟩
        have newB : Rep C.W F2 (L2.upd H2 B (.dT (putK kvs kk v))) (fun a => a = B) (.dtt true (putTs (kvs.map fun p => Dat.tup .p (p.1.map kD)) (.tup .p (kk.map kD))) (putTv (kvs.map fun p => Dat.tup .p (p.1.map kD)) vs (.tup .p (kk.map kD)) (frz d))) (.ref B) :=
          .dttO upd_same (putT_keys kvs).symm (putT_vals rd' rr) (fun z => z) fun b => ⟨.inl, fun z => z.elim id False.elim⟩
        have newL := back F2 (L2.upd H2 B (.dT (putK kvs kk v))) _ _ newB (fun a z w => nni B fB (z ▸ w)) (fun _ z => z) fun a o e _ z => by
          rw [upd_ne]
          · exact e
          · rintro rfl
            rcases z with z | z | z
            · exact nni a fB z
            · exact nF z
            · exact z (by rw [← e]; exact hmB)
        have w := P3.write2 (B := B) (o := .dT (putK kvs kk v)) ex j1 n1 s1 hi f1B (wr_dT hB) (fun _ z => nomatch z) (.lstO (by rw [upd_ne nAB]; exact hA) newL (fun z => by
          rcases z with z | z
          · exact nAB z
          · exact nA ((hfi A).mpr (.inr z))) fun b => Iff.rfl) fun a z => by
            rcases z with z | z | z
            · exact .inl ((i1 a).mpr (.inl z))
            · exact .inl ((i1 a).mpr (.inr ((hfi a).mpr (.inl (z ▸ fB)))))
            · exact .inl ((i1 a).mpr (.inr ((hfi a).mpr (.inr z))))
        exact q.nx _ F2 _ _ σ hd2 (Sn0.trans w)
end
end M
namespace M
open PySem PySem.Spec PyProof.Rows L2
section
variable {C : Ctx} {D : Ends} {W : Wd} {σ σ' : L2.St} {F F' F1 : AS} {H H' H1 : Hp} {fp fp' fe f g fd : AS} {env env' : Env} {d : Dat} {v : V} {A : Addr} {u : HO} {k : SK} {pr p1 p2 p3 : Bool} {pos p : Pos} {e a b c elt tg iter kx vx : Expr} {wa wb we wk wv : LE} {rest : List Expr} {t : LT}
theorem iKeys_ofX {td : TE} {od : Obj} {ks : List Dat} (e1 : ∀ Q : VK, Q (.ref A) H → td σ H Q) (hl : H A = some (.frz od u)) (hu : (∃ kvs, u = .dK kvs ∧ ks = kvs.map fun p => kD p.1) ∨ ∃ kvs, u = .dT kvs ∧ ks = kvs.map fun p => Dat.tup .p (p.1.map kD)) {R : It → Hp → Prop} (q : ∀ J, ItOk W F H J ks → R J H) :
    iKeys td σ H R := by
  refine e1 _ ?_
  rcases hu with ⟨kvs, rfl, rfl⟩ | ⟨kvs, rfl, rfl⟩
  · exact ⟨A, od, rfl, .inl ⟨kvs, hl, q _ (itk_ok hl)⟩⟩
  · exact ⟨A, od, rfl, .inr ⟨kvs, hl, q _ (itkt_ok hl)⟩⟩
/-- [.. for .. in xs[j] ..], the list in the slot i, its dict owned; the slot is empty meanwhile -/
def wLcKI (i : Nat) (j : Int) (gl : LG) (t : LT) (w : LE) (vs : List Nat) : LE := fun env Q => ∃ xs m d ks, env[i]? = some (some (.lst true xs)) ∧ ixN xs.length j = some m ∧ xs[m]? = some d ∧ keysD d = some (true, ks) ∧ ks.length < sizeLine ∧
  lcD vs gl t w ks [] (env.set i none) fun acc e' => e'[i]? = some none ∧ Q (.lst true acc) (e'.set i (some (.lst true xs)))
theorem je_lcKI {i : Nat} {j : Int} {x : Str} {xp ipos : Pos} {bj : Expr} {gl : LG} {scope : Scope} {own : List (Str × Nat)} {ifs : List Expr} (hN : C.N[i]? = some x) (hv : Vis C.sc x) (hd : (x == ("__debug__" : Str)) = false) (hc : (x == ("__classdict__" : Str)) = false) (hj : CI C bj j) (hpl : PlainIx bj) (okb : BlkOk C.N C.sc scope own) (hg : JG (C.blk scope own) tg gl) (ht : JTs (C.blk scope own) p1 ifs t) (he : JE (C.blk scope own) p2 elt we)
    (hs : ∀ env z, foldedSetIterable (.Subscript (.Name x xp) bj ipos) env z = pure z) (hh : C.hot = false := by rfl) : JE C false (.ListComp elt [⟨tg, .Subscript (.Name x xp) bj ipos, ifs, 0⟩] scope pos) (wLcKI i j gl t we (own.map (·.2))) := fun X g0 => by
  have h1 := pe_lc (pos := pos) (g0.calm' hh) (by rw [g0.N]; exact g0.nd) (pi_keys (tg := tg) (pe_ix (pos := ipos) ix_seq (pe_slot (pos := xp) g0 hN hv hd hc) (hj X g0) hpl)) (by rw [g0.N, g0.sc]; exact okb) (fun _ _ _ _ _ => hg _ (g0.blk hh own)) (fun _ _ _ _ _ => ht _ (g0.blk hh own)) (fun _ _ _ _ _ => he _ (g0.blk hh own)) (hs _)
  refine PE_len (pe_lock h1) fun σ H Q hl ⟨F, fp, env, Qd, sl, ok, ⟨xs, m, d, ks, e, hm, hxm, hk, hz, hw⟩, q⟩ => ?_
  obtain ⟨v, f, g, e1, r, jj, n, s⟩ := sl.at_ e
  cases id r with
  | @lstO _ fl L vs0 _ hL rl nL il =>
  obtain ⟨v0, fi, gi, ev0, ri, hfi, nni, _⟩ := rl.split hxm
  obtain ⟨B, u, f2, rfl, hu, hB, nB, hf, hx, vs, ws, rv, _⟩ := dk_own ri hk
  have flB : fl B := (hfi B).mpr (.inl ((hf B).mpr (.inl rfl)))
  have fB : f B := (il B).mpr (.inr flB)
  have gB : ¬ g B := n B fB
  have nLB : L ≠ B := fun z => nL (z ▸ flB)
  refine ⟨B, u, hB, hu.mut, fun od => ?_⟩
  have okg : Ok C.W F (upd H B (.frz od u)) g := (ok.sub fun a z => (jj a).mpr (.inr z)).lk (lk_lock hB) gB (lk_tgo hB hu)
  have hat : atI vs0 j = some (.ref B) := by
    unfold atI
    rw [← rl.length, hm]; exact ev0
  have ev : ∀ Q : VK, Q (.ref B) (upd H B (.frz od u)) → tOp (rIx X.K) (tVar i) (fun σ H Q => Q (.int j) H) σ (upd H B (.frz od u)) Q := fun Q hq =>
    ⟨_, e1, .inl ⟨L, vs0, j, .ref B, rfl, rfl, .inl (.inl (by rw [upd_ne nLB]; exact hL)), hat, hq⟩⟩
  unfold tLc
  exact iKeys_ofX (W := C.W) (F := F) ev upd_same hx fun J it => lcW_of (Q := fun v H' => H' B = some (.frz od u) ∧ Q v (L2.upd H' B u)) (fun _ _ _ _ z => z) (fun _ _ _ z => z) (fun _ _ _ z => z) (by rw [hl, g0.N]) (s.lk (lk_lock hB) hu gB) okg it hz hw fun acc e' F' H' fe fd v hq P => by
    obtain ⟨eA, P2⟩ := P.unlk hB hu okg gB
    refine ⟨eA, ?_⟩
    have okA : Ok C.W F H f := ok.sub fun a z => (jj a).mpr (.inl z)
    have frA := P2.st.frame (g := f) okA fun a z w => n a w z
    have rd : Rep C.W F' (upd H' B u) f (.lst true xs) (.ref L) := r.step P2.st (ok.sub fun a z => (jj a).mpr (.inr z)) fun a z w => n a z w
    have hi : i < e'.length := (List.getElem?_eq_some_iff.mp hq.1).1
    have dj : ∀ a, f a → ¬ fe a := fun a z w => frA.2 a (.inl w) z
    have s2 := P2.sl.put (i := i) hq.1 rd dj
    rw [set_self e1] at s2
    refine q _ _ F' _ _ fd v hq.2 ⟨s2, P2.rep, fun a z w => ?_, ((frA.1).lft fun a z => (jj a).mpr z.symm).sub fun a z => ?_, fun z => nomatch z⟩
    · rcases z with z | z
      · exact frA.2 a (.inr w) z
      · exact P2.dj a z w
    · rcases z with (z | z) | z
      · exact .inr z
      · exact .inl (.inl z)
      · exact .inl (.inr z)
def dcD (vs : List Nat) (gl : LG) (t : LT) (wk wv : LE) : List Dat → List Dat → List Dat → Env → (List Dat → List Dat → Env → Prop) → Prop
  | [], ks, xs, e, Q => Q ks xs e
  | d :: ds, ks, xs, e, Q => gl d (wipeE e vs) fun e1 => t e1 fun b e2 => if b = true then wk e2 fun y e3 => wv e3 fun z e4 => (keyIs y).isSome = true ∧ dcD vs gl t wk wv ds (putKs ks y) (putVs ks xs y (frz z)) (wipeE e4 vs) Q else dcD vs gl t wk wv ds ks xs (wipeE e2 vs) Q
theorem dcW_of {gl : LG} {scope : Scope} {own : List (Str × Nat)} {tk te : TE} {tt : TT} {tg' : TG} {J : It} {ds : List Dat} {F1 : AS} {H1 : Hp} {fe1 : AS} {env1 : Env}
    (Tg : ∀ v σ H Q, (∃ F fp env d Qd, Sl C.W F H fp env σ ∧ Ok C.W F H fp ∧ σ.length = C.N.length ∧ Rep C.W F H NoA d v ∧ gl d env Qd ∧ ∀ env' F' H' fe σ', Qd env' → Sn (C.blk scope own) σ F H fp env' F' H' fe σ' → Q σ' H') → tg' v σ H Q)
    (Tt : ∀ σ H Q, liftT C.W p1 t σ H Q → tt σ H Q) (Tk : ∀ σ H Q, liftV C.W p2 wk σ H Q → tk σ H Q) (Te : ∀ σ H Q, lift C.W p3 wv σ H Q → te σ H Q) {Q : VK} (hl : σ.length = C.N.length) {Qd : List Dat → List Dat → Env → Prop}
    (sl : Sl C.W F1 H1 fe1 env1 σ) (ok : Ok C.W F1 H1 fe1) (it : ItOk C.W F1 H1 J ds) (hz : ds.length < sizeLine) (hd : dcD (own.map (·.2)) gl t wk wv ds [] [] env1 Qd)
    (q : ∀ ks xs e F' H' fe fd v, Qd ks xs e → Po C.W false F1 H1 fe1 σ e F' H' fe fd (.dct true ks xs) v → Q v H') :
    ∀ A, H1 A = none → ∃ W : Nat → Nat → Hp → Prop, (∃ m, W 0 m (upd H1 A (.dK []))) ∧ ∀ i m H, W i m H →
      (J.stop i H ∧ Q (.ref A) H) ∨ (J.go i H ∧ ∃ Nx : Hp → Prop, (∀ H', Nx H' → ∃ m', m' < m ∧ W (i + 1) m' H') ∧ ∀ x H', J.yld i H x H' → tg' x (L2.wipe σ (own.map (·.2))) H' fun σ2 H2 => L2.wipe σ2 (own.map (·.2)) = L2.wipe σ (own.map (·.2)) ∧ tt σ2 H2 fun b H3 =>
        if b = true then tk σ2 H3 fun y H4 => te σ2 H4 fun z H5 => ∃ kvs k, y = kV k ∧ H5 A = some (.dK kvs) ∧ kvs.length < sizeLine ∧ Nx (upd H5 A (.dK (putK kvs k z))) else Nx H3) := by
  intro A hA
  have fr0 : Fresh F1 H1 F1 (upd H1 A (.dK [])) (fun a => a = A) := ⟨keep_upd hA, Tgo.new hA (fun _ z => nomatch z), fun _ z => z, fun _ z => .inl z, fun a z => by rw [z]; exact hA, fun a z q => ok.lv a q (by rw [z]; exact hA)⟩
  have fs0 := fr0.step ok fun a z => by rw [z, upd_same]; exact True.intro
  have nA : ¬ fe1 A := fun z => fs0.2 A z rfl
  have D0 : DS C.W F1 (upd H1 A (.dK [])) fe1 A (.dK []) := ⟨upd_same, nA, mu_dK, fs0.1.ok⟩
  refine ⟨fun i m H2 => m = ds.length - i ∧ i ≤ ds.length ∧ ∃ F2 f2 e2 kvs xs, Sl C.W F2 H2 f2 e2 σ ∧ DS C.W F2 H2 f2 A (.dK kvs) ∧ Reps C.W F2 H2 NoA xs (kvs.map (·.2)) ∧ kvs.length ≤ i ∧ Step C.W F1 H1 fe1 F2 H2 (fun a => f2 a ∨ a = A) ∧ dcD (own.map (·.2)) gl t wk wv (ds.drop i) (kvs.map fun p => kD p.1) xs e2 Qd,
    ⟨ds.length, by simp, Nat.zero_le _, F1, fe1, env1, [], [], sl.kept (fun _ z => z) (keep_upd hA), D0, .nil fun _ z => z, Nat.le_refl _, fs0.1, hd⟩, ?_⟩
  rintro i m H2 ⟨rfl, hi, F2, f2, e2, kvs, xs, Ssl, Sds, Srep, ha, st, hf⟩
  have stb := st.stable ok
  by_cases hlt : i < ds.length
  · refine .inr ⟨(it.go F2 H2 st.fx stb st.ok.lv i ds[i] (by simp [hlt])).1, fun H' => ∃ F2 f2 e2 kvs xs, Sl C.W F2 H' f2 e2 σ ∧ DS C.W F2 H' f2 A (.dK kvs) ∧ Reps C.W F2 H' NoA xs (kvs.map (·.2)) ∧ kvs.length ≤ i + 1 ∧ Step C.W F1 H1 fe1 F2 H' (fun a => f2 a ∨ a = A) ∧ dcD (own.map (·.2)) gl t wk wv (ds.drop (i + 1)) (kvs.map fun p => kD p.1) xs e2 Qd, fun H' z => ⟨ds.length - (i + 1), by omega, rfl, hlt, z⟩, fun x H3 hy => ?_⟩
    obtain ⟨F3, rx, fr⟩ := (it.go F2 H2 st.fx stb st.ok.lv i ds[i] (by simp [hlt])).2 x H3 hy
    have fs := fr.step Sds.ok fun _ z => z.elim
    have ok3 : Ok C.W F3 H3 (fun a => f2 a ∨ a = A) := fs.1.ok.sub fun _ => .inl
    have st3 : Step C.W F1 H1 fe1 F3 H3 (fun a => f2 a ∨ a = A) := (st.trans fs.1).sub fun _ => .inl
    have D3 : DS C.W F3 H3 f2 A (.dK kvs) := ⟨(fr.kp _ _ Sds.at_).nt (mut_nt Sds.mu.1), Sds.nD, mu_dK, ok3⟩
    obtain ⟨g3, sub3, sl3⟩ := (Ssl.kept fr.fx fr.kp).wipe (own.map (·.2))
    have r3 : Reps C.W F3 H3 NoA xs (kvs.map (·.2)) := Srep.kept fr.fx fr.kp
    have okg : Ok C.W F3 H3 g3 := ok3.sub fun a z => .inl (sub3 a z)
    rw [List.drop_eq_getElem_cons hlt] at hf
    refine Tg _ _ _ _ ⟨F3, g3, _, ds[i], _, sl3, okg, by rw [wipe_length]; exact hl, rx, hf, fun e4 F4 H4 f4 σ4 hd4 S4 => ⟨blk_wipe hl S4, ?_⟩⟩
    refine Tt _ _ _ ⟨F4, f4, e4, _, S4.sl, S4.st.ok, hd4, fun bb e5 F5 H5 f5 hd5 P5 => ?_⟩
    have st35 := S4.st.trans P5.st
    cases bb with
    | false =>
      have D5 := D3.go sub3 st35
      obtain ⟨g5, sub5, sl5⟩ := P5.sl.unwipe (blk_wipe hl S4)
      exact ⟨F5, g5, _, kvs, xs, sl5, ⟨D5.1.at_, fun z => D5.1.nD (sub5 A z), mu_dK, D5.1.ok.sub fun a z => z.imp_left (sub5 a)⟩, r3.step st35 okg fun _ z => z.elim, by omega, (st3.trans D5.2).sub fun a z => z.imp_left (sub5 a), hd5⟩
    | true =>
      refine (show tk σ4 H5 _ from ?_)
      refine Tk _ _ _ ⟨F5, f5, e5, _, P5.sl, P5.st.ok, hd5, fun y e6 F6 H6 f6 fy vy hd6 P6 => ?_⟩
      have st36 := st35.trans P6.st
      refine Te _ _ _ ⟨F6, f6, e6, _, P6.sl, P6.st.ok, hd6, fun z e7 F7 H7 f7 fz vz hd7 P7 => ?_⟩
      obtain ⟨hkey, hd7⟩ := hd7
      obtain ⟨k, hk⟩ := Option.isSome_iff_exists.mp hkey
      obtain ⟨rfl, rfl⟩ := keyIs_k hk P6.rep
      have Pf := P7.freeze
      have st37 := st36.trans (Pf.st.sub fun _ => .inl)
      have D7 := D3.go sub3 st37
      obtain ⟨g7, sub7, sl7⟩ := Pf.sl.unwipe (blk_wipe hl S4)
      have D7' : DS C.W (fun a => F7 a ∨ fz a) H7 g7 A (.dK kvs) := ⟨D7.1.at_, fun z => D7.1.nD (sub7 A z), mu_dK, D7.1.ok.sub fun a z => z.imp_left (sub7 a)⟩
      have D8 := D7'.set (u' := .dK (putK kvs k vz)) mu_dK
      have r7 : Reps C.W (fun a => F7 a ∨ fz a) H7 NoA xs (kvs.map (·.2)) := r3.step st37 okg fun _ z => z.elim
      have r8 := putK_vals (k := k) Pf.rep r7
      have hlen := length_putK kvs k vz
      refine ⟨kvs, k, rfl, D7.1.at_, by omega, ?_⟩
      refine ⟨fun a => F7 a ∨ fz a, g7, _, putK kvs k vz, _, D7'.sl sl7, D8.1, D7'.reps r8, by omega, (st3.trans (D7.2.sub fun a z => z.imp_left (sub7 a))).trans D8.2, ?_⟩
      rw [putK_keys]
      exact hd7
  · have e : i = ds.length := by omega
    subst e
    rw [List.drop_length] at hf
    refine .inl ⟨it.stop F2 H2 st.fx stb, q _ _ e2 F2 H2 f2 (fun a => a = A) _ hf ⟨Ssl, .dctO Sds.at_ rfl Srep (fun z => z) fun b => ⟨.inl, fun z => z.elim id False.elim⟩, fun a z q => Sds.nD (q ▸ z), st, fun z => nomatch z⟩⟩
def wDc (i : LI) (gl : LG) (t : LT) (wk wv : LE) (vs : List Nat) : LE := fun env Q => i env fun ds e => ds.length < sizeLine ∧ dcD vs gl t wk wv ds [] [] e fun ks xs e' => Q (.dct true ks xs) e'
theorem je_dc {wi : LI} {gl : LG} {scope : Scope} {own : List (Str × Nat)} {ifs : List Expr} (hi : JI C tg iter wi) (okb : BlkOk C.N C.sc scope own) (hg : JG (C.blk scope own) tg gl) (ht : JTs (C.blk scope own) p1 ifs t) (hk : JV (C.blk scope own) p2 kx wk) (he : JE (C.blk scope own) p3 vx wv) (hs : ∀ env x, foldedSetIterable iter env x = pure x) (hh : C.hot = false := by rfl) :
    JE C false (.DictComp kx vx [⟨tg, iter, ifs, 0⟩] scope pos) (wDc wi gl t wk wv (own.map (·.2))) := fun X g0 =>
  PE_len (pe_dc (g0.calm' hh) (by rw [g0.N]; exact g0.nd) (hi X g0) (by rw [g0.N, g0.sc]; exact okb) (fun _ _ _ _ _ => hg _ (g0.blk hh own)) (fun _ _ _ _ _ => ht _ (g0.blk hh own)) (fun _ _ _ _ _ => hk _ (g0.blk hh own)) (fun _ _ _ _ _ => he _ (g0.blk hh own)) (hs _)) fun σ H Q hl ⟨F, fp, env, Qd, sl, ok, hw, q⟩ =>
    ⟨F, fp, env, _, sl, ok, hw, fun ds env1 F1 H1 fe1 J ⟨hz, hd⟩ P it => dcW_of (fun _ _ _ _ z => z) (fun _ _ _ z => z) (fun _ _ _ z => z) (fun _ _ _ z => z) (by rw [hl, g0.N]) P.sl P.st.ok it hz hd fun ks xs e F' H' fe fd v hq P2 => q _ e F' H' fe fd v hq ⟨P2.sl, P2.rep, P2.dj, P.st.trans P2.st, fun z => nomatch z⟩⟩
/-- over a frozen dict in a slot -/
def wDcK (i : Nat) (gl : LG) (t : LT) (wk wv : LE) (vs : List Nat) : LE := fun env Q => ∃ d ks, env[i]? = some (some d) ∧ keysD d = some (false, ks) ∧ ks.length < sizeLine ∧ dcD vs gl t wk wv ks [] [] env fun ks xs e' => Q (.dct true ks xs) e'
theorem je_dcK {i : Nat} {x : Str} {xp : Pos} {gl : LG} {scope : Scope} {own : List (Str × Nat)} {ifs : List Expr} (hN : C.N[i]? = some x) (hv : Vis C.sc x) (hd : (x == ("__debug__" : Str)) = false) (hc : (x == ("__classdict__" : Str)) = false) (okb : BlkOk C.N C.sc scope own) (hg : JG (C.blk scope own) tg gl) (ht : JTs (C.blk scope own) p1 ifs t) (hk' : JV (C.blk scope own) p2 kx wk) (he : JE (C.blk scope own) p3 vx wv)
    (hs : ∀ env z, foldedSetIterable (.Name x xp) env z = pure z) (hh : C.hot = false := by rfl) : JE C false (.DictComp kx vx [⟨tg, .Name x xp, ifs, 0⟩] scope pos) (wDcK i gl t wk wv (own.map (·.2))) := fun X g0 => by
  have h1 := pe_dc (pos := pos) (g0.calm' hh) (by rw [g0.N]; exact g0.nd) (pi_keys (tg := tg) (pe_slot (pos := xp) g0 hN hv hd hc)) (by rw [g0.N, g0.sc]; exact okb) (fun _ _ _ _ _ => hg _ (g0.blk hh own)) (fun _ _ _ _ _ => ht _ (g0.blk hh own)) (fun _ _ _ _ _ => hk' _ (g0.blk hh own)) (fun _ _ _ _ _ => he _ (g0.blk hh own)) (hs _)
  refine PE_or h1 (pe_lock h1) fun σ H Q hl ⟨F, fp, env, Qd, sl, ok, ⟨d, ks, e, hk, hz, hw⟩, q⟩ => ?_
  obtain ⟨v, f, g, e1, r, j, n, s⟩ := sl.at_ e
  obtain ⟨A, u, rfl, hu, hR, hF, em, hx⟩ := dk_of r hk
  have nA : ¬ fp A := fun z => ok.nf A z hF
  rcases hR with hA | ⟨od, hA⟩
  · refine .inr ⟨A, u, hA, hu.mut, fun od => ?_⟩
    have okl := ok.lk (lk_lock (od := od) hA) nA (lk_tgo hA hu)
    unfold tDc
    exact iKeys_of (W := C.W) (F := F) e1 upd_same hx fun J it => dcW_of (Q := fun v H' => H' A = some (.frz od u) ∧ Q v (L2.upd H' A u)) (fun _ _ _ _ z => z) (fun _ _ _ z => z) (fun _ _ _ z => z) (fun _ _ _ z => z) (by rw [hl, g0.N]) (sl.lk (lk_lock hA) hu nA) okl it hz hw fun ks xs e F' H' fe fd v hq P =>
      have z := P.unlk hA hu okl nA
      ⟨z.1, q _ e F' _ fe fd v hq z.2⟩
  · refine .inl ?_
    unfold tDc
    exact iKeys_of (W := C.W) (F := F) e1 hA hx fun J it => dcW_of (fun _ _ _ _ z => z) (fun _ _ _ z => z) (fun _ _ _ z => z) (fun _ _ _ z => z) (by rw [hl, g0.N]) sl ok it hz hw fun ks xs e F' H' fe fd v hq P => q _ e F' H' fe fd v hq P
end
end M
namespace M
open PySem PySem.Spec PyProof.Rows L2
section
variable {C : Ctx} {D : Ends} {W : Wd} {σ σ' : L2.St} {F F' F1 : AS} {H H' H1 : Hp} {fp fp' fe f g fd : AS} {env env' : Env} {d : Dat} {v : V} {A : Addr} {u : HO} {k : SK} {pr p1 p2 p3 : Bool} {pos p : Pos} {e a b c elt tg tg1 iter : Expr} {we : LE}
inductive LockP (t : TE) : L2.St → Hp → VK → Prop
  | base {σ : L2.St} {H : Hp} {Q : VK} : t σ H Q → LockP t σ H Q
  | step {σ : L2.St} {H : Hp} {Q : VK} {d : Addr} {u : HO} : H d = some u → Mut (some u) → (∀ od, LockP t σ (upd H d (.frz od u)) fun v H' => H' d = some (.frz od u) ∧ Q v (upd H' d u)) → LockP t σ H Q
theorem pe_lockP {X : Cx} {e : Expr} {t : TE} (h : PE X e t) : PE X e (LockP t) := by
  refine ⟨fun pins s σ H Q I hw => ?_⟩
  induction hw generalizing s with
  | base hb => exact h.run pins s _ _ _ I hb
  | @step H Q d u hd mu hw ih =>
    obtain ⟨od, I1⟩ := I.lock hd mu
    refine thn (ih od s I1) fun v s1 ⟨x, H1, I2, r, e2, q⟩ => ?_
    exact ⟨x, _, I2.unlock e2 (I.nofrz hd mu), r, q⟩
def LkV (H : Hp) (v : V) : Prop := ∃ a u od, v = .ref a ∧ IsDk u ∧ H a = some (.frz od u)
theorem lockAll {t : TE} {ds : List Dat} {vs : List V} {Qd : Dat → Env → Prop} (hds : ∀ d ∈ ds, ∃ ks, keysD d = some (false, ks)) : ∀ (as : List V) (H : Hp) (Q : VK), (∀ v ∈ as, v ∈ vs) → Reps C.W F H NoA ds vs → Sl C.W F H fp env σ → Ok C.W F H fp → (∀ v ∈ vs, v ∈ as ∨ LkV H v) →
    (∀ Hl Ql, (∀ v ∈ vs, LkV Hl v) → (∀ a ys, Rd H a (.lst ys) → Rd Hl a (.lst ys)) → Reps C.W F Hl NoA ds vs → Sl C.W F Hl fp env σ → Ok C.W F Hl fp → (∀ e F' H' fe fd d v, Qd d e → Po C.W false F Hl fp σ e F' H' fe fd d v → Ql v H') → t σ Hl Ql) →
    (∀ e F' H' fe fd d v, Qd d e → Po C.W false F H fp σ e F' H' fe fd d v → Q v H') → LockP t σ H Q
  | [], H, Q, _, rs, sl, ok, hl, cont, post => .base (cont H Q (fun v hv => (hl v hv).resolve_left (by simp)) (fun _ _ z => z) rs sl ok post)
  | v :: as, H, Q, ha, rs, sl, ok, hl, cont, post => by
    obtain ⟨i, hi⟩ := List.mem_iff_getElem?.mp (ha v (by simp))
    obtain ⟨d, f, hd, r, _⟩ := rs.get' hi
    obtain ⟨ks, hk⟩ := hds d (List.mem_of_getElem? hd)
    obtain ⟨a, u, rfl, hu, hR, hF, em, hx⟩ := dk_of r hk
    have na : ¬ fp a := fun z => ok.nf a z hF
    rcases hR with hA | ⟨od, hA⟩
    · refine .step hA hu.mut fun od => ?_
      have okl := ok.lk (lk_lock (od := od) hA) na (lk_tgo hA hu)
      refine lockAll hds as _ _ (fun w hw => ha w (by simp [hw])) (Reps.lk (lk_lock hA) hu _ _ _ rs fun z => z) (sl.lk (lk_lock hA) hu na) okl (fun w hw => ?_) (fun Hl Ql hlk kp => cont Hl Ql hlk fun b ys z => kp b ys ((lk_lock (od := od) hA).rd hu z (.inl ⟨_, rfl⟩))) fun e F' H' fe fd d v hq P => ?_
      · rcases hl w hw with z | ⟨a', u', od', rfl, hu', h'⟩
        · rcases List.mem_cons.mp z with z | z
          · exact .inr ⟨a, u, od, z, hu, upd_same⟩
          · exact .inl z
        · by_cases q : a' = a
          · subst q; exact .inr ⟨a', u, od, rfl, hu, upd_same⟩
          · exact .inr ⟨a', u', od', rfl, hu', by rw [upd_ne q]; exact h'⟩
      · have z := P.unlk hA hu okl na
        exact ⟨z.1, post e F' _ fe fd d v hq z.2⟩
    · refine lockAll hds as H Q (fun w hw => ha w (by simp [hw])) rs sl ok (fun w hw => ?_) cont post
      rcases hl w hw with z | z
      · rcases List.mem_cons.mp z with z | z
        · exact .inr ⟨a, u, od, z, hu, hA⟩
        · exact .inl z
      · exact .inr z
def Ctx.blk1 (C : Ctx) (scope : Scope) (own : List (Str × Nat)) (vs1 : List Nat) : Ctx := { C.blk scope own with pin := (List.range C.N.length).filter fun i => !vs1.contains i }
theorem Gd.blk1 {X : Cx} {scope : Scope} (hh : C.hot = false) (own : List (Str × Nat)) (vs1 : List Nat) (g : Gd C X) {s : Shared} {H : Hp} {A : Addr} {cl : List (Str × Addr)} {fp : List Addr} : Gd (C.blk1 scope own vs1) (X.blk s H scope (compEnvC scope cl A X.env) fp) :=
  have z := Gd.blk (scope := scope) hh own g (s := s) (H := H) (A := A) (cl := cl) (fp := fp)
  ⟨z.prog, z.w, z.K, z.mg, z.base, z.N, z.nd, z.sc, z.calm', z.room, z.hd, z.fn, z.po, z.gu, z.cq, z.exo⟩
theorem blk1_wipe {scope : Scope} {own : List (Str × Nat)} {vs1 : List Nat} (hl : σ.length = C.N.length) (S : Sn (C.blk1 scope own vs1) (L2.wipe σ vs1) F H fp env F' H' fe σ') : L2.wipe σ' vs1 = L2.wipe σ vs1 := by
  refine (wipe_ext (σ := L2.wipe σ vs1) S.ln fun i hi n => S.pin i ?_).trans wipe_wipe
  rw [wipe_length] at hi
  show i ∈ (List.range C.N.length).filter _
  rw [List.mem_filter]
  exact ⟨List.mem_range.mpr (by omega), by simpa using n⟩
def lc2I (vs1 : List Nat) (g1 : LG) (w : LE) : List Dat → List Dat → Env → (List Dat → Env → Prop) → Prop
  | [], acc, e, K => K acc e
  | x :: xs, acc, e, K => g1 x (wipeE e vs1) fun e2 => w e2 fun y e3 => acc.length < sizeLine ∧ lc2I vs1 g1 w xs (acc ++ [frz y]) (wipeE e3 vs1) K
def lc2D (vs vs1 : List Nat) (j : Nat) (g1 : LG) (w : LE) : List Dat → List Dat → Env → (List Dat → Env → Prop) → Prop
  | [], acc, e, Q => Q acc e
  | d :: ds, acc, e, Q => ∃ ks, keysD d = some (false, ks) ∧ lc2I vs1 g1 w ks acc ((wipeE e vs).set j (some d)) fun acc' e2 => lc2D vs vs1 j g1 w ds acc' (wipeE e2 vs) Q
theorem wipeE_none {j : Nat} : ∀ {vs : List Nat} {env : Env}, j ∈ vs → j < env.length → (wipeE env vs)[j]? = some none := fun {vs} {env} h hl => by
  have hlen : ∀ vs : List Nat, (wipeE env vs).length = env.length := fun vs => by
    induction vs with
    | nil => rfl
    | cons v vs ih => unfold wipeE; rw [List.length_set, ih]
  cases e : (wipeE env vs)[j]? with
  | none => rw [List.getElem?_eq_none_iff, hlen] at e; omega
  | some o =>
    cases o with
    | none => rfl
    | some x => exact absurd h (wipeE_some e).2
/-- the second loop -/
theorem lc2W1_of {g1 : LG} {scope : Scope} {own : List (Str × Nat)} {vs1 : List Nat} {te : TE} {tg' : TG} {J : It} {ks : List Dat} {σ2 : L2.St} {A : Addr} {F0 F1 : AS} {H0 H1 : Hp} {fp0 fe1 : AS} {acc1 : List Dat} {us1 : List V} {env1 : Env} {K : List Dat → Env → Prop} {Nx : Hp → Prop}
    (Tg : ∀ v σ H Q, (∃ F fp env d Qd, Sl C.W F H fp env σ ∧ Ok C.W F H fp ∧ σ.length = C.N.length ∧ Rep C.W F H NoA d v ∧ g1 d env Qd ∧ ∀ env' F' H' fe σ', Qd env' → Sn (C.blk1 scope own vs1) σ F H fp env' F' H' fe σ' → Q σ' H') → tg' v σ H Q)
    (Te : ∀ σ H Q, lift C.W p2 we σ H Q → te σ H Q) (hl : σ2.length = C.N.length)
    (sl : Sl C.W F1 H1 fe1 env1 σ2) (ds : DS C.W F1 H1 fe1 A (.lst us1)) (rep : Reps C.W F1 H1 NoA acc1 us1) (st0 : Step C.W F0 H0 fp0 F1 H1 (fun a => fe1 a ∨ a = A)) (it : ItOk C.W F1 H1 J ks) (hd : lc2I vs1 g1 we ks acc1 env1 K)
    (fin : ∀ F2 H2 f2 e2 acc us, Sl C.W F2 H2 f2 e2 σ2 → DS C.W F2 H2 f2 A (.lst us) → Reps C.W F2 H2 NoA acc us → Step C.W F0 H0 fp0 F2 H2 (fun a => f2 a ∨ a = A) → K acc e2 → Nx H2) :
    ∃ W1 : Nat → Nat → Hp → Prop, (∃ m, W1 0 m H1) ∧ ∀ j k H, W1 j k H →
      (J.stop j H ∧ Nx H) ∨ (J.go j H ∧ ∃ Nx1 : Hp → Prop, (∀ H', Nx1 H' → ∃ k', k' < k ∧ W1 (j + 1) k' H') ∧ ∀ x H', J.yld j H x H' → tg' x (L2.wipe σ2 vs1) H' fun σ3 H5 => L2.wipe σ3 vs1 = L2.wipe σ2 vs1 ∧ tYes σ3 H5 fun b H6 =>
        if b = true then te σ3 H6 fun y H7 => ∃ acc, H7 A = some (.lst acc) ∧ acc.length < sizeLine ∧ Nx1 (upd H7 A (.lst (acc ++ [y]))) else Nx1 H6) := by
  refine ⟨fun i m H2 => m = ks.length - i ∧ i ≤ ks.length ∧ ∃ F2 f2 e2 acc us, Sl C.W F2 H2 f2 e2 σ2 ∧ DS C.W F2 H2 f2 A (.lst us) ∧ Reps C.W F2 H2 NoA acc us ∧ Step C.W F1 H1 (fun a => fe1 a ∨ a = A) F2 H2 (fun a => f2 a ∨ a = A) ∧ lc2I vs1 g1 we (ks.drop i) acc e2 K,
    ⟨ks.length, by simp, Nat.zero_le _, F1, fe1, env1, acc1, us1, sl, ds, rep, Step.refl ds.ok, hd⟩, ?_⟩
  rintro i m H2 ⟨rfl, hi, F2, f2, e2, acc, us, Ssl, Sds, Srep, st, hf⟩
  have stb := st.stable ds.ok
  by_cases hlt : i < ks.length
  · refine .inr ⟨(it.go F2 H2 st.fx stb st.ok.lv i ks[i] (by simp [hlt])).1, fun H' => ∃ F2 f2 e2 acc us, Sl C.W F2 H' f2 e2 σ2 ∧ DS C.W F2 H' f2 A (.lst us) ∧ Reps C.W F2 H' NoA acc us ∧ Step C.W F1 H1 (fun a => fe1 a ∨ a = A) F2 H' (fun a => f2 a ∨ a = A) ∧ lc2I vs1 g1 we (ks.drop (i + 1)) acc e2 K, fun H' z => ⟨ks.length - (i + 1), by omega, rfl, hlt, z⟩, fun x H3 hy => ?_⟩
    obtain ⟨F3, rx, fr⟩ := (it.go F2 H2 st.fx stb st.ok.lv i ks[i] (by simp [hlt])).2 x H3 hy
    have fs := fr.step Sds.ok fun _ z => z.elim
    have ok3 : Ok C.W F3 H3 (fun a => f2 a ∨ a = A) := fs.1.ok.sub fun _ => .inl
    have st3 : Step C.W F1 H1 (fun a => fe1 a ∨ a = A) F3 H3 (fun a => f2 a ∨ a = A) := (st.trans fs.1).sub fun _ => .inl
    have D3 : DS C.W F3 H3 f2 A (.lst us) := ⟨(fr.kp _ _ Sds.at_).nt (mut_nt Sds.mu.1), Sds.nD, mu_lst, ok3⟩
    obtain ⟨g3, sub3, sl3⟩ := (Ssl.kept fr.fx fr.kp).wipe vs1
    have r3 : Reps C.W F3 H3 NoA acc us := Srep.kept fr.fx fr.kp
    have okg : Ok C.W F3 H3 g3 := ok3.sub fun a z => .inl (sub3 a z)
    rw [List.drop_eq_getElem_cons hlt] at hf
    refine Tg _ _ _ _ ⟨F3, g3, _, ks[i], _, sl3, okg, by rw [wipe_length]; exact hl, rx, hf, fun e4 F4 H4 f4 σ4 hd4 S4 => ⟨blk1_wipe hl S4, ?_⟩⟩
    refine (show te σ4 H4 _ from ?_)
    refine Te _ _ _ ⟨F4, f4, e4, _, S4.sl, S4.st.ok, hd4, fun y e6 F6 H6 f6 fy vy hd6 P6 => ?_⟩
    obtain ⟨hz, hd6⟩ := hd6
    have Pf := P6.freeze
    have st36 := S4.st.trans (Pf.st.sub fun _ => .inl)
    have D6 := D3.go sub3 st36
    obtain ⟨g6, sub6, sl6⟩ := Pf.sl.unwipe (blk1_wipe hl S4)
    have D6' : DS C.W (fun a => F6 a ∨ fy a) H6 g6 A (.lst us) := ⟨D6.1.at_, fun z => D6.1.nD (sub6 A z), mu_lst, D6.1.ok.sub fun a z => z.imp_left (sub6 a)⟩
    have D7 := D6'.set (u' := .lst (us ++ [vy])) mu_lst
    have r6 : Reps C.W (fun a => F6 a ∨ fy a) H6 NoA acc us := r3.step st36 okg fun _ z => z.elim
    have r7 : Reps C.W (fun a => F6 a ∨ fy a) H6 NoA (acc ++ [frz y]) (us ++ [vy]) := Reps.eqv _ _ _ _ (Reps.append r6 (Reps.one Pf.rep) fun _ z => z.elim) fun a => ⟨fun z => z.elim, fun z => z.elim id id⟩
    refine ⟨us, D6.1.at_, by rw [← r3.length]; exact hz, ?_⟩
    exact ⟨fun a => F6 a ∨ fy a, g6, _, acc ++ [frz y], us ++ [vy], D6'.sl sl6, D7.1, D6'.reps r7, (st3.trans (D6.2.sub fun a z => z.imp_left (sub6 a))).trans D7.2, hd6⟩
  · have e : i = ks.length := by omega
    subst e
    rw [List.drop_length] at hf
    exact .inl ⟨it.stop F2 H2 st.fx stb, fin F2 H2 f2 e2 acc us Ssl Sds Srep (st0.trans st) hf⟩
def wLc2K (i j : Nat) (vs vs1 : List Nat) (g1 : LG) (w : LE) : LE := fun env Q => ∃ xs, env[i]? = some (some (.lst false xs)) ∧ (∀ d ∈ xs, ∃ ks, keysD d = some (false, ks)) ∧ lc2D vs vs1 j g1 w xs [] env fun acc e => Q (.lst true acc) e
theorem je_lc2K {i j : Nat} {x y : Str} {xp yp py : Pos} {g1 : LG} {scope : Scope} {own : List (Str × Nat)} {vs1 : List Nat} (hN : C.N[i]? = some x) (hv : Vis C.sc x) (hd : (x == ("__debug__" : Str)) = false) (hc : (x == ("__classdict__" : Str)) = false) (okb : BlkOk C.N C.sc scope own) (hv1 : ∀ i ∈ vs1, i ∈ own.map (·.2))
    (nj : Nm (C.blk scope own) j y) (hj : j ∈ own.map (·.2)) (hvy : Vis (relS scope C.sc) y) (hdy : (y == ("__debug__" : Str)) = false) (hcy : (y == ("__classdict__" : Str)) = false) (hg : JG (C.blk1 scope own vs1) tg1 g1) (he : JE (C.blk1 scope own vs1) pr elt we)
    (hs : ∀ env z, foldedSetIterable (.Name x xp) env z = pure z) (hs1 : ∀ env z, foldedSetIterable (.Name y yp) env z = pure z) (hh : C.hot = false := by rfl) :
    JE C false (.ListComp elt [⟨.Name y py, .Name x xp, [], 0⟩, ⟨tg1, .Name y yp, [], 0⟩] scope pos) (wLc2K i j (own.map (·.2)) vs1 g1 we) := fun X g0 => by
  have h1 := pe_lc2 (pos := pos) (vs1 := vs1) (g0.calm' hh) (by rw [g0.N]; exact g0.nd) (pi_list (tg := .Name y py) (pe_slot (pos := xp) g0 hN hv hd hc)) (by rw [g0.N, g0.sc]; exact okb) hv1
    (fun s H A cl fp => have gb := Gd.blk (scope := scope) hh own g0 (s := s) (H := H) (A := A) (cl := cl) (fp := fp); pg_name (i := j) (by rw [gb.N]; exact gb.nd) (by rw [gb.N]; exact nj.hN) (by rw [gb.sc]; exact nj.loc) (gb.fnx nj))
    (fun _ _ _ _ _ => pts_nil)
    (fun s H A cl fp => pi_keys (tg := tg1) (pe_slot (C := C.blk scope own) (pos := yp) (Gd.blk hh own g0) nj.hN hvy hdy hcy))
    (fun _ _ _ _ _ => hg _ (Gd.blk1 hh own vs1 g0)) (fun _ _ _ _ _ => pts_nil) (fun _ _ _ _ _ => he _ (Gd.blk1 hh own vs1 g0)) (hs _) hs1
  refine PE_len (pe_lockP h1) fun σ H Q hl ⟨F, fp, env, Qd, sl, ok, ⟨xs, e, hks, hw⟩, q⟩ => ?_
  have hlN : σ.length = C.N.length := by rw [hl, g0.N]
  obtain ⟨v, f, g, e1, r, jj, n, s⟩ := sl.at_ e
  cases r with
  | @lstF _ L vs0 _ em hR hF r =>
  have r : Reps C.W F H NoA xs vs0 := Reps.eqv _ _ _ _ r fun a => ⟨fun z => z.elim, fun z => em a z⟩
  refine lockAll (Qd := fun d e => Qd d e) hks vs0 H Q (fun _ z => z) r sl ok (fun _ z => .inl z) (fun Hl Ql hlk kpl rl sll okl post => ?_) fun e F' H' fe fd d v hq P => q d e F' H' fe fd v hq P
  have hRl : Rd Hl L (.lst vs0) := kpl L vs0 hR
  have itL := itl_ok (W := C.W) hF hRl rl
  refine ⟨_, e1, L, rfl, ⟨vs0, .inl hRl⟩, ?_⟩
  intro A hA
  have fr0 : Fresh F Hl F (upd Hl A (.lst [])) (fun a => a = A) := ⟨keep_upd hA, Tgo.new hA (fun _ z => nomatch z), fun _ z => z, fun _ z => .inl z, fun a z => by rw [z]; exact hA, fun a z q => okl.lv a q (by rw [z]; exact hA)⟩
  have fs0 := fr0.step okl fun a z => by rw [z, upd_same]; exact True.intro
  have nA : ¬ fp A := fun z => fs0.2 A z rfl
  have D0 : DS C.W F (upd Hl A (.lst [])) fp A (.lst []) := ⟨upd_same, nA, mu_lst, fs0.1.ok⟩
  rw [g0.K]
  refine ⟨fun i m H2 => m = xs.length - i ∧ i ≤ xs.length ∧ ∃ F2 f2 e2 acc us, Sl C.W F2 H2 f2 e2 σ ∧ DS C.W F2 H2 f2 A (.lst us) ∧ Reps C.W F2 H2 NoA acc us ∧ Step C.W F Hl fp F2 H2 (fun a => f2 a ∨ a = A) ∧ lc2D (own.map (·.2)) vs1 j g1 we (xs.drop i) acc e2 (fun acc e => Qd (.lst true acc) e),
    ⟨xs.length, by simp, Nat.zero_le _, F, fp, env, [], [], sll.kept (fun _ z => z) (keep_upd hA), D0, .nil fun _ z => z, fs0.1, hw⟩, ?_⟩
  rintro i m H2 ⟨rfl, hi, F2, f2, e2, acc, us, Ssl, Sds, Srep, st, hf⟩
  have stb := st.stable okl
  by_cases hlt : i < xs.length
  · refine .inr ⟨(itL.go F2 H2 st.fx stb st.ok.lv i xs[i] (by simp [hlt])).1, fun H' => ∃ F2 f2 e2 acc us, Sl C.W F2 H' f2 e2 σ ∧ DS C.W F2 H' f2 A (.lst us) ∧ Reps C.W F2 H' NoA acc us ∧ Step C.W F Hl fp F2 H' (fun a => f2 a ∨ a = A) ∧ lc2D (own.map (·.2)) vs1 j g1 we (xs.drop (i + 1)) acc e2 (fun acc e => Qd (.lst true acc) e), fun H' z => ⟨xs.length - (i + 1), by omega, rfl, hlt, z⟩, fun x H3 hy => ?_⟩
    have hyx : vs0[i]? = some x := hy.2 vs0 (.inl (Rd.keep (fun _ z => nomatch z) hRl fun o e t => stb L o e t (.inl hF)))
    obtain ⟨F3, rx, fr⟩ := (itL.go F2 H2 st.fx stb st.ok.lv i xs[i] (by simp [hlt])).2 x H3 hy
    have fs := fr.step Sds.ok fun _ z => z.elim
    have ok3 : Ok C.W F3 H3 (fun a => f2 a ∨ a = A) := fs.1.ok.sub fun _ => .inl
    have st3 : Step C.W F Hl fp F3 H3 (fun a => f2 a ∨ a = A) := (st.trans fs.1).sub fun _ => .inl
    obtain ⟨g3, sub3, sl3⟩ := (Ssl.kept fr.fx fr.kp).wipe (own.map (·.2))
    have D3 : DS C.W F3 H3 g3 A (.lst us) := ⟨(fr.kp _ _ Sds.at_).nt (mut_nt Sds.mu.1), fun z => Sds.nD (sub3 A z), mu_lst, ok3.sub fun a z => z.imp_left (sub3 a)⟩
    have r3 : Reps C.W F3 H3 NoA acc us := Srep.kept fr.fx fr.kp
    rw [List.drop_eq_getElem_cons hlt] at hf
    obtain ⟨ks, hks1, hf⟩ := hf
    have hjl : j < (L2.wipe σ (own.map (·.2))).length := by rw [wipe_length, hlN]; exact nj.lt
    have sl4 := sl3.put (i := j) (wipeE_none hj (by rw [Ssl.length, hlN]; exact nj.lt)) rx fun _ z => z.elim
    have sl4 : Sl C.W F3 H3 g3 ((wipeE e2 (own.map (·.2))).set j (some xs[i])) ((L2.wipe σ (own.map (·.2))).set j (some x)) := sl4.eqv fun a => ⟨.inr, fun z => z.elim False.elim id⟩
    have hwp : L2.wipe ((L2.wipe σ (own.map (·.2))).set j (some x)) (own.map (·.2)) = L2.wipe σ (own.map (·.2)) := (wipe_ext (σ := L2.wipe σ (own.map (·.2))) List.length_set fun a _ n => by
      rw [List.getElem?_set_ne]
      rintro rfl; exact n hj).trans wipe_wipe
    refine ⟨hwp, ?_⟩
    -- the dict is locked
    obtain ⟨a, u, ea, hu, hRa, hFa, _, hx⟩ := dk_of rx hks1
    obtain ⟨a', u', od, ea', hu', hl'⟩ := hlk x (List.mem_of_getElem? hyx)
    rw [ea] at ea'; cases ea'
    have h3 : H3 a = some (.frz od u') := (fr.kp _ _ (stb a _ hl' (fun _ z => nomatch z) (.inr fun z => z))).nt fun _ z => nomatch z
    have eu : u' = u := Rd.one hu hRa (.inr ⟨od, h3⟩) (.inr (.inr (hu'.imp id (Or.imp id fun ⟨φ, e⟩ => ⟨φ.1, e⟩))))
    subst eu
    subst ea
    have e1j : ((L2.wipe σ (own.map (·.2))).set j (some (.ref a)))[j]? = some (some (.ref a)) := by rw [List.getElem?_set_self hjl]
    simp only [tYes, if_true]
    refine iKeys_of (W := C.W) (F := F3) e1j h3 hx fun J it => ?_
    refine lc2W1_of (scope := scope) (own := own) (p2 := pr) (we := we) (F0 := F) (H0 := Hl) (fp0 := fp) (fun _ _ _ _ z => z) (fun _ _ _ z => z) (by rw [List.length_set, wipe_length, hlN]) sl4 D3 r3 (st3.sub fun a z => z.imp_left (sub3 a)) it hf fun F5 H5 f5 e5 acc5 us5 s5 d5 r5 st5 hk5 => ?_
    obtain ⟨g6, sub6, sl6⟩ := s5.unwipe (vs := own.map (·.2)) (σ := σ) hwp
    exact ⟨F5, g6, _, acc5, us5, sl6, ⟨d5.at_, fun z => d5.nD (sub6 A z), mu_lst, d5.ok.sub fun a z => z.imp_left (sub6 a)⟩, r5, st5.sub fun a z => z.imp_left (sub6 a), hk5⟩
  · have e : i = xs.length := by omega
    subst e
    rw [List.drop_length] at hf
    exact .inl ⟨itL.stop F2 H2 st.fx stb, post e2 F2 H2 f2 (fun a => a = A) _ _ hf ⟨Ssl, .lstO Sds.at_ Srep (fun z => z) fun b => ⟨.inl, fun z => z.elim id False.elim⟩, fun a z q => Sds.nD (q ▸ z), st, fun z => nomatch z⟩⟩
end
end M
namespace M
open PySem PySem.Spec PyProof.Rows L2
theorem sw_false {v : Expr} {py : Pos} {y : Str} {l : Nat} {env : PySem.Env} (hy : (env.scope.names.lookup y == some .local) = false) : swapsWith v (some (.Name y py)) l env = pure false := by
  have ky : (env.kindOf y == some .local) = false := hy
  unfold swapsWith
  cases v <;> first | rfl | (simp only [ky, Bool.and_false, Bool.false_and]; done) | (simp only [ky, Bool.and_false, Bool.false_and]; rfl)
theorem sw_trueD {kx vx : Expr} {gs : List Comprehension} {scope : Scope} {pos py : Pos} {y : Str} {l : Nat} {env : PySem.Env} (hk : env.scope.kind = .function) (hy : env.scope.names.lookup y = some .local) (hl : (py.line == pos.line) = true)
    (ha : (scope.names.any fun (n, k) => n == y && (k == .local || k == .cell)) = false) : swapsWith (.DictComp kx vx gs scope pos) (some (.Name y py)) l env = pure true := by
  have ky : env.kindOf y = some .local := hy
  have hb : env.blockKind = .function := by unfold PySem.Env.blockKind; rw [hk]; rfl
  unfold swapsWith
  simp only [hb, ky, ha, Expr.pos, hl]
  rfl
section
variable {X : Cx}
theorem ps_setDc {i : Nat} {y : Str} {py : Pos} {kx vx tg iter : Expr} {ifs : List Expr} {scope : Scope} {own : List (Str × Nat)} {pos spos : Pos} {wi : TI} {g : TG} {tt : TT} {tk tv : TE} (hc : X.calm = true) (hN : X.N.Nodup) (hy : X.N[i]? = some y) (hyl : X.env.scope.names.lookup y = some .local)
    (hsw : swapsWith (.DictComp kx vx [⟨tg, iter, ifs, 0⟩] scope pos) (some (.Name y py)) spos.line X.env = pure true) (hi : PI X tg iter wi) (ok : BlkOk X.N X.env.scope scope own)
    (hg : ∀ (s : Shared) (H : Hp) (C : Addr) (cl : List (Str × Addr)) (fp : List Addr), PG (X.blk s H scope (compEnvC scope cl C X.env) fp) tg g) (ht : ∀ (s : Shared) (H : Hp) (C : Addr) (cl : List (Str × Addr)) (fp : List Addr), PTs (X.blk s H scope (compEnvC scope cl C X.env) fp) ifs tt)
    (hk : ∀ (s : Shared) (H : Hp) (C : Addr) (cl : List (Str × Addr)) (fp : List Addr), PE (X.blk s H scope (compEnvC scope cl C X.env) fp) kx tk)
    (he : ∀ (s : Shared) (H : Hp) (C : Addr) (cl : List (Str × Addr)) (fp : List Addr), PE (X.blk s H scope (compEnvC scope cl C X.env) fp) vx tv) (hs : ∀ x, foldedSetIterable iter X.env x = pure x := by intro _; rfl) :
    PS X (.Assign [.Name y py] (.DictComp kx vx [⟨tg, iter, ifs, 0⟩] scope pos) spos) (tAsg (tDc wi g tt tk tv (own.map (·.2))) (gName i)) := by
  refine ⟨fun pins s σ H D I h => ?_⟩
  rw [exec_Assign_Name_used _ _ _ _ hsw]
  refine wpAny_bind (wpAny_standAt (wpAny_bind ?_))
  show wpAny _ X.A (do let _ ← comprehension (.DictComp kx vx [⟨tg, iter, ifs, 0⟩] scope pos) scope X.env (firstIterPos [⟨tg, iter, ifs, 0⟩] pos) newDict false (eval iter X.env) (some (assign (.Name y py) X.env))) _ _ s
  have h : tDc wi g tt tk tv (own.map (·.2)) σ H (fun x H1 => gName i x σ H1 D.nx) := h
  refine wpAny_bind (thn (dc_core (Qf := fun _ s' => SP X pins D .next s') hc hN I hi ok hg ht hk he hs h fun L C s' m H' I' q hn f => ?_) fun _ s' hq => wpAny_pure (wpAny_pure hq))
  show wpAny _ _ (assign (.Name y py) X.env (.ref L)) _ _ _
  refine wpAny_assign_Name (store_ok2 (v := V.ref L) I' hN hy (.inl hyl) rfl (fun s2 I2 ⟨a, sb, ha⟩ => ?_) (.inr hyl))
  obtain ⟨f0, f1, f2, f3, f4, f5⟩ := f
  have haC : C ≠ a := by
    rcases ha with z | z
    · rw [z]; exact f1
    · exact fun e => f4 y a z e.symm
  refine ⟨m, hn.sameBut sb haC, fun h3 sb3 => ?_⟩
  exact ⟨_, H', I2.turned (t' := s2.toks) (fun b o hb e => (sb3.2 b hb).trans e) f0 f1 f3 f4 f5, q⟩
end
section
variable {C : Ctx} {D : Ends} {W : Wd} {σ σ' : L2.St} {F F' F1 : AS} {H H' H1 : Hp} {fp fp' fe f g fd : AS} {env env' : Env} {d : Dat} {v : V} {A : Addr} {u : HO} {k : SK} {pr p1 p2 p3 : Bool} {pos p : Pos} {e a b c elt tg tg1 iter kx vx : Expr} {we wk wv : LE} {t : LT}
theorem js_setDcK {i j : Nat} {y x : Str} {py spos xp : Pos} {gl : LG} {scope : Scope} {own : List (Str × Nat)} {ifs : List Expr} (n : Nm C i y) (hyl : C.sc.names.lookup y = some .local) (hN : C.N[j]? = some x) (hv : Vis C.sc x) (hd : (x == ("__debug__" : Str)) = false) (hc : (x == ("__classdict__" : Str)) = false) (okb : BlkOk C.N C.sc scope own) (hg : JG (C.blk scope own) tg gl) (ht : JTs (C.blk scope own) p1 ifs t) (hk' : JV (C.blk scope own) p2 kx wk) (he : JE (C.blk scope own) p3 vx wv)
    (hsw : ∀ env, env.scope = C.sc → swapsWith (.DictComp kx vx [⟨tg, .Name x xp, ifs, 0⟩] scope pos) (some (.Name y py)) spos.line env = pure true) (hs : ∀ env z, foldedSetIterable (.Name x xp) env z = pure z) (hh : C.hot = false := by rfl) :
    JS C (.Assign [.Name y py] (.DictComp kx vx [⟨tg, .Name x xp, ifs, 0⟩] scope pos) spos) (wSet i (wDcK j gl t wk wv (own.map (·.2)))) := fun X g0 => by
  have h1 := ps_setDc (i := i) (py := py) (pos := pos) (spos := spos) (g0.calm' hh) (by rw [g0.N]; exact g0.nd) (by rw [g0.N]; exact n.hN) (by rw [g0.sc]; exact hyl) (hsw _ g0.sc) (pi_keys (tg := tg) (pe_slot (pos := xp) g0 hN hv hd hc)) (by rw [g0.N, g0.sc]; exact okb) (fun _ _ _ _ _ => hg _ (g0.blk hh own)) (fun _ _ _ _ _ => ht _ (g0.blk hh own)) (fun _ _ _ _ _ => hk' _ (g0.blk hh own)) (fun _ _ _ _ _ => he _ (g0.blk hh own)) (hs _)
  refine PS_or h1 (ps_lock h1) fun D σ H hl ⟨F, fp, env, k, sl, ok, ⟨d, ks, e, hk, hz, hw⟩, q⟩ => ?_
  obtain ⟨v, f, g, e1, r, jj, nn, s⟩ := sl.at_ e
  obtain ⟨A, u, rfl, hu, hR, hF, em, hx⟩ := dk_of r hk
  have nA : ¬ fp A := fun z => ok.nf A z hF
  rcases hR with hA | ⟨od, hA⟩
  · refine .inr ⟨A, u, hA, hu.mut, fun od => ?_⟩
    have okl := ok.lk (lk_lock (od := od) hA) nA (lk_tgo hA hu)
    unfold tAsg tDc
    exact iKeys_of (W := C.W) (F := F) e1 upd_same hx fun J it => dcW_of (Q := fun v H' => H' A = some (.frz od u) ∧ D.nx (σ.set i (some v)) (L2.upd H' A u)) (fun _ _ _ _ z => z) (fun _ _ _ z => z) (fun _ _ _ z => z) (fun _ _ _ z => z) (by rw [hl, g0.N]) (sl.lk (lk_lock hA) hu nA) okl it hz hw fun ks xs e F' H' fe fd v hq P => by
      have z := P.unlk hA hu okl nA
      obtain ⟨g', s⟩ := z.2.into n.lt (by rw [hl, g0.N]) n.pin
      exact ⟨z.1, q.nx _ F' _ g' _ hq s⟩
  · refine .inl ?_
    unfold tAsg tDc
    exact iKeys_of (W := C.W) (F := F) e1 hA hx fun J it => dcW_of (Q := fun v H' => D.nx (σ.set i (some v)) H') (fun _ _ _ _ z => z) (fun _ _ _ z => z) (fun _ _ _ z => z) (fun _ _ _ z => z) (by rw [hl, g0.N]) sl ok it hz hw fun ks xs e F' H' fe fd v hq P => by
      obtain ⟨g', s⟩ := P.into n.lt (by rw [hl, g0.N]) n.pin
      exact q.nx _ F' _ g' _ hq s
end
end M
namespace M
open PySem PySem.Spec PyProof.Rows L2
def valN (kvs : List NKV) (k : NestedKey) : Option V := (kvs.find? fun p => decide (p.1 = k)).map (·.2.2)
def putN (kvs : List NKV) (k : NestedKey) (a : Addr) (v : V) : List NKV := if (valN kvs k).isSome = true then kvs.map (fun p => if p.1 = k then (p.1, p.2.1, v) else p) else kvs ++ [(k, a, v)]
def NTk (kvs : List NKV) (xs : List (NestedKey × Addr × Value)) : Prop := Paired (fun (p : NKV) (q : NestedKey × Addr × Value) => p.1 = q.1 ∧ p.2.1 = q.2.1 ∧ RelV p.2.2 q.2.2) kvs xs
theorem NTk.val : ∀ {kvs : List NKV} {xs : List (NestedKey × Addr × Value)} (k : NestedKey), NTk kvs xs → RelO (valN kvs k) ((atKey xs k).map (·.2))
  | _, _, k, .nil => True.intro
  | _, _, k, .cons (a := (j, a, v)) (b := (j', a', u)) r t => by
    obtain ⟨e1, e2, r⟩ := r
    simp only at e1 e2
    subst e1 e2
    have ih := NTk.val k t
    by_cases c : j = k
    · simp only [valN, atKey, List.find?_cons, c, decide_true, Option.map_some]; exact r
    · simp only [valN, atKey, List.find?_cons, c, decide_false] at ih ⊢; exact ih
theorem NTk.map (k : NestedKey) {v : V} {u : Value} (rv : RelV v u) : ∀ {kvs : List NKV} {xs : List (NestedKey × Addr × Value)}, NTk kvs xs → NTk (kvs.map fun p => if p.1 = k then (p.1, p.2.1, v) else p) (xs.map (PySem.putAt k u))
  | _, _, .nil => .nil
  | _, _, .cons (a := (j, a, v)) (b := (j', a', u)) r t => by
    obtain ⟨e1, e2, r⟩ := r
    simp only at e1 e2
    subst e1 e2
    refine .cons ?_ (NTk.map k rv t)
    unfold PySem.putAt
    by_cases c : j = k
    · simp only [c, if_true]; exact ⟨trivial, trivial, rv⟩
    · simp only [c, if_false]; exact ⟨trivial, trivial, r⟩
theorem NTk.append : ∀ {xs ys : List NKV} {us ws : List (NestedKey × Addr × Value)}, NTk xs us → NTk ys ws → NTk (xs ++ ys) (us ++ ws)
  | _, _, _, _, .nil, s => s
  | _, _, _, _, .cons r t, s => .cons r (NTk.append t s)
theorem RelO.isS {o : Option V} {o' : Option Value} (h : RelO o o') : o.isSome = o'.isSome := by
  cases o <;> cases o' <;> first | rfl | exact h.elim
theorem NTk.put {kvs : List NKV} {xs : List (NestedKey × Addr × Value)} {k : NestedKey} {a : Addr} {v : V} {u : Value} (h : NTk kvs xs) (rv : RelV v u) : NTk (putN kvs k a v) (storedH xs k a u) := by
  have q := RelO.isS (NTk.val k h)
  rw [Option.isSome_map] at q
  unfold putN storedH
  rw [q]
  split
  · exact NTk.map k rv h
  · exact NTk.append h (.cons ⟨rfl, rfl, rv⟩ .nil)
section
variable {X : Cx} {pins : List (Addr × Obj)} {σ : L2.St} {H : Hp} {s : Shared} {a b : Addr} {kvs : List NKV} {k : NestedKey} {u r : Value} {v : V} {A : Around} {E : Value → Shared → Prop}
theorem NTk.mem : ∀ {kvs : List NKV} {xs : List (NestedKey × Addr × Value)}, NTk kvs xs → ∀ x ∈ xs, ∃ p ∈ kvs, p.1 = x.1 ∧ p.2.1 = x.2.1
  | _, _, .nil, _, h => by cases h
  | _, _, .cons r t, x, h => by
    rcases List.mem_cons.mp h with e | h
    · subst e; exact ⟨_, List.mem_cons_self, r.1, r.2.1⟩
    · obtain ⟨p, hp, q⟩ := NTk.mem t x h
      exact ⟨p, List.mem_cons_of_mem _ hp, q⟩
end
end M
namespace M
noncomputable section
open PySem PySem.Spec PyProof.Rows L2
/-- a slot, a slot stored: made so that the kernel goes through them quickly -/
def getE (env : Env) : Nat → Option (Option Dat) := List.rec (motive := fun _ => Nat → Option (Option Dat)) (fun _ => none) (fun x _ ih i => Nat.rec (motive := fun _ => Option (Option Dat)) (some x) (fun j _ => ih j) i) env
def setE (env : Env) : Nat → Option Dat → Env := List.rec (motive := fun _ => Nat → Option Dat → Env) (fun _ _ => []) (fun x xs ih i d => Nat.rec (motive := fun _ => Env) (d :: xs) (fun j _ => x :: ih j d) i) env
@[simp] theorem getE_eq : ∀ (env : Env) (i : Nat), getE env i = env[i]?
  | [], _ => rfl
  | _ :: _, 0 => rfl
  | x :: env, i + 1 => by
    rw [List.getElem?_cons_succ, ← getE_eq env i]; rfl
@[simp] theorem setE_eq : ∀ (env : Env) (i : Nat) (d : Option Dat), setE env i d = env.set i d
  | [], _, _ => rfl
  | _ :: _, 0, _ => rfl
  | x :: env, i + 1, d => by
    rw [List.set_cons_succ, ← setE_eq env i d]; rfl
def wipeX (env : Env) (vs : List Nat) : Env := List.rec (motive := fun _ => Env) env (fun v _ ih => setE ih v none) vs
@[simp] theorem wipeX_eq (env : Env) : ∀ vs : List Nat, wipeX env vs = wipeE env vs
  | [] => rfl
  | v :: vs => by
    show setE (wipeX env vs) v none = _
    rw [setE_eq, wipeX_eq env vs]; rfl
abbrev XE := Env → Option (Dat × Env)
abbrev XT := Env → Option (Bool × Env)
abbrev XA := Env → Option (List Dat × Env)
abbrev XO := Env → Option (Option Int × Env)
/-- what is wanted of an x's answer -/
def xw {α : Type} (x : Env → Option (α × Env)) : Env → (α → Env → Prop) → Prop := fun env Q => ∃ d e, x env = some (d, e) ∧ Q d e
inductive Out where
  | nx (e : Env)
  | rt (d : Dat) (e : Env)
  | bk (e : Env)
  | ct (e : Env)
abbrev XS := Env → Option Out
def Out.fits : Out → SK → Prop
  | .nx e, k => k.nx e
  | .rt d e, k => k.rt d e
  | .bk e, k => k.bk e
  | .ct e, k => k.ct e
def xwS (x : XS) : LS := fun env k => ∃ o, x env = some o ∧ o.fits k
abbrev XG := Dat → Env → Option Env
def xwG (x : XG) : LG := fun d env Q => ∃ e, x d env = some e ∧ Q e
abbrev XGs := List Dat → Env → Option Env
def xwGs (x : XGs) : LGs := fun d env Q => ∃ e, x d env = some e ∧ Q e
structure DE (C : Ctx) (e : Expr) where
  pr : Bool
  x : XE
  ok : JE C pr e (xw x)
structure DV (C : Ctx) (e : Expr) where
  pr : Bool
  x : XE
  ok : JV C pr e (xw x)
structure DT (C : Ctx) (e : Expr) where
  pr : Bool
  x : XT
  ok : JT C pr e (xw x)
structure DW (C : Ctx) (e : Expr) where
  pr : Bool
  x : XT
  ok : JW C pr e (xw x)
structure DA (C : Ctx) (es : List Expr) where
  pr : Bool
  x : XA
  ok : JA C pr es (xw x)
structure DO (C : Ctx) (e : Option Expr) where
  pr : Bool
  x : XO
  ok : JO C pr e (xw x)
structure DI (C : Ctx) (tg e : Expr) where
  x : XA
  ok : JI C tg e (xw x)
structure DG (C : Ctx) (e : Expr) where
  x : XG
  ok : JG C e (xwG x)
structure DGs (C : Ctx) (es : List Expr) where
  x : XGs
  ok : JGs C es (xwGs x)
structure DS_ (C : Ctx) (s : Stmt) where
  x : XS
  ok : JS C s (xwS x)
structure DSs (C : Ctx) (ss : List Stmt) where
  x : XS
  ok : JSs C ss (xwS x)
section
variable {C : Ctx} {pr : Bool} {e : Expr} {es : List Expr} {w w' : LE} {t t' : LT}
theorem JE.imp (h : JE C pr e w) (i : ∀ env Q, w' env Q → w env Q) : JE C pr e w' := fun X g => PE_imp (h X g) fun σ H Q ⟨F, fp, env, Qd, sl, ok, hw, q⟩ => ⟨F, fp, env, Qd, sl, ok, i _ _ hw, q⟩
theorem JV.imp (h : JV C pr e w) (i : ∀ env Q, w' env Q → w env Q) : JV C pr e w' := fun X g => PE_imp (h X g) fun σ H Q ⟨F, fp, env, Qd, sl, ok, hw, q⟩ => ⟨F, fp, env, Qd, sl, ok, i _ _ hw, q⟩
theorem JT.imp (h : JT C pr e t) (i : ∀ env Q, t' env Q → t env Q) : JT C pr e t' := fun X g => PT_imp (h X g) fun σ H Q ⟨F, fp, env, Qd, sl, ok, hw, q⟩ => ⟨F, fp, env, Qd, sl, ok, i _ _ hw, q⟩
theorem JW.imp (h : JW C pr e t) (i : ∀ env Q, t' env Q → t env Q) : JW C pr e t' := fun X g => PW_imp (h X g) fun σ H Q ⟨F, fp, env, Qd, sl, ok, hw, q⟩ => ⟨F, fp, env, Qd, sl, ok, i _ _ hw, q⟩
theorem JA.imp {w w' : LA} (h : JA C pr es w) (i : ∀ env Q, w' env Q → w env Q) : JA C pr es w' := fun X g => PA_imp (h X g) fun σ H Q ⟨F, fp, env, Qd, sl, ok, hw, q⟩ => ⟨F, fp, env, Qd, sl, ok, i _ _ hw, q⟩
theorem JI.imp {tg : Expr} {w w' : LI} (h : JI C tg e w) (i : ∀ env Q, w' env Q → w env Q) : JI C tg e w' := fun X g => PI_imp (h X g) fun σ H Q ⟨F, fp, env, Qd, sl, ok, hw, q⟩ => ⟨F, fp, env, Qd, sl, ok, i _ _ hw, q⟩
theorem JO.imp {e : Option Expr} {w w' : LO} (h : JO C pr e w) (i : ∀ env Q, w' env Q → w env Q) : JO C pr e w' := fun X g => PO_imp (h X g) fun σ H Q ⟨F, fp, env, Qd, sl, ok, hw, q⟩ => ⟨F, fp, env, Qd, sl, ok, i _ _ hw, q⟩
theorem JG.imp {w w' : LG} (h : JG C e w) (i : ∀ d env Q, w' d env Q → w d env Q) : JG C e w' := fun X g => PG_imp (h X g) fun v σ H Q ⟨F, fp, env, d, Qd, sl, ok, hl, r, hw, q⟩ => ⟨F, fp, env, d, Qd, sl, ok, hl, r, i _ _ _ hw, q⟩
theorem JGs.imp {w w' : LGs} (h : JGs C es w) (i : ∀ d env Q, w' d env Q → w d env Q) : JGs C es w' := fun X g => PGs_imp (h X g) fun v σ H Q ⟨F, fp, env, d, Qd, sl, ok, hl, r, hw, q⟩ => ⟨F, fp, env, d, Qd, sl, ok, hl, r, i _ _ _ hw, q⟩
theorem JS.imp {s : Stmt} {w w' : LS} (h : JS C s w) (i : ∀ env k, w' env k → w env k) : JS C s w' := fun X g => PS_imp (h X g) fun D σ H ⟨F, fp, env, k, sl, ok, hw, q⟩ => ⟨F, fp, env, k, sl, ok, i _ _ hw, q⟩
theorem JSs.imp {s : List Stmt} {w w' : LS} (h : JSs C s w) (i : ∀ env k, w' env k → w env k) : JSs C s w' := fun X g => PSs_imp (h X g) fun D σ H ⟨F, fp, env, k, sl, ok, hw, q⟩ => ⟨F, fp, env, k, sl, ok, i _ _ hw, q⟩
end
mutual
def isFz : Dat → Bool
  | .non => true
  | .bl _ => true
  | .int _ => true
  | .str _ => true
  | .tup _ xs => isFzs xs
  | .lst o xs => !o
  | .dct o _ vs => !o
  | .dtt o _ vs => !o
  | .dxt o _ vs => !o
  | .obj o _ vs => !o
  | .scr _ => true
  | .exn _ _ => true
def isFzs : List Dat → Bool
  | [] => true
  | d :: ds => isFz d && isFzs ds
end
mutual
theorem isFz_ok : ∀ d : Dat, isFz d = true → frz d = d
  | .non, _ => rfl
  | .bl _, _ => rfl
  | .int _, _ => rfl
  | .str _, _ => rfl
  | .tup k xs, h => by simp only [frz]; rw [isFzs_ok xs h]
  | .lst o xs, h => by simp only [isFz, Bool.not_eq_true'] at h; subst h; rfl
  | .dct o _ xs, h => by simp only [isFz, Bool.not_eq_true'] at h; subst h; rfl
  | .dxt o _ xs, h => by simp only [isFz, Bool.not_eq_true'] at h; subst h; rfl
  | .dtt o _ xs, h => by simp only [isFz, Bool.not_eq_true'] at h; subst h; rfl
  | .obj o _ xs, h => by simp only [isFz, Bool.not_eq_true'] at h; subst h; rfl
  | .scr _, _ => rfl
  | .exn _ _, _ => rfl
theorem isFzs_ok : ∀ ds : List Dat, isFzs ds = true → frzs ds = ds
  | [], _ => rfl
  | d :: ds, h => by simp only [isFzs, Bool.and_eq_true] at h; simp only [frzs]; rw [isFz_ok d h.1, isFzs_ok ds h.2]
end
end
end M
namespace M
noncomputable section
open PySem PySem.Spec PyProof.Rows L2
abbrev X2 := Dat → Dat → Option Dat
abbrev X1 := Dat → Option Dat
abbrev R2D := Dat → Dat → (Dat → Prop) → Prop
abbrev R1D := Dat → (Dat → Prop) → Prop
def Ok2 (f : X2) (r : R2D) : Prop := ∀ x y d Q, f x y = some d → Q d → r x y Q
def Ok1 (f : X1) (r : R1D) : Prop := ∀ x d Q, f x = some d → Q d → r x Q
theorem bind_ok {α β : Type} {o : Option α} {f : α → Option β} {y : β} (h : o.bind f = some y) : ∃ a, o = some a ∧ f a = some y := Option.bind_eq_some_iff.mp h
theorem ite_ok {β : Type} {c : Prop} [Decidable c] {o : Option β} {y : β} (h : (if c then o else none) = some y) : c ∧ o = some y := by
  by_cases z : c
  · rw [if_pos z] at h; exact ⟨z, h⟩
  · rw [if_neg z] at h; cases h
def xAdd : X2
  | .int i, .int j => some (.int (i + j))
  | .str a, .str b => if a.length + b.length ≤ sizeLine then some (.str (a ++ b)) else none
  | .tup _ xs, .tup _ ys => if isFzs xs = true ∧ isFzs ys = true ∧ xs.length + ys.length ≤ sizeLine then some (.tup .u (xs ++ ys)) else none
  | .lst _ xs, .lst _ ys => if isFzs xs = true ∧ isFzs ys = true ∧ xs.length + ys.length ≤ sizeLine then some (.lst true (xs ++ ys)) else none
  | _, _ => none
theorem xAdd_ok : Ok2 xAdd rAdd := by
  intro x y d Q h q
  unfold xAdd at h
  split at h
  · cases h; exact q
  · obtain ⟨c, h⟩ := ite_ok h; cases h; exact ⟨c, q⟩
  · obtain ⟨c, h⟩ := ite_ok h; cases h; exact ⟨isFzs_ok _ c.1, isFzs_ok _ c.2.1, c.2.2, q⟩
  · obtain ⟨c, h⟩ := ite_ok h; cases h; exact ⟨isFzs_ok _ c.1, isFzs_ok _ c.2.1, c.2.2, q⟩
  · cases h
def xInt (c : Int → Int → Bool) (f : Int → Int → Dat) : X2
  | .int i, .int j => if c i j = true then some (f i j) else none
  | _, _ => none
theorem xInt_ok {c : Int → Int → Bool} {cnd : Int → Int → Prop} {f : Int → Int → Dat} (hc : ∀ i j, c i j = true → cnd i j) : Ok2 (xInt c f) (rInt cnd f) := by
  intro x y d Q h q
  unfold xInt at h
  split at h
  · obtain ⟨z, h⟩ := ite_ok h; cases h; exact ⟨hc _ _ z, q⟩
  · cases h
def xSub := xInt (fun _ _ => true) fun i j => .int (i - j)
theorem xSub_ok : Ok2 xSub rSub := xInt_ok fun _ _ _ => True.intro
instance : ∀ i j, Decidable (CDiv i j) := fun i j => by unfold CDiv; infer_instance
instance : ∀ i j, Decidable (CMul i j) := fun i j => by unfold CMul; infer_instance
def xFdiv := xInt (fun i j => decide (CDiv i j)) fun i j => .int (i / j)
theorem xFdiv_ok : Ok2 xFdiv rFdiv := xInt_ok fun _ _ h => of_decide_eq_true h
def xMod := xInt (fun _ j => decide (0 < j)) fun i j => .int (i % j)
theorem xMod_ok : Ok2 xMod rMod := xInt_ok fun _ _ h => of_decide_eq_true h
instance : ∀ i j, Decidable (CPow i j) := fun i j => by unfold CPow; infer_instance
def xPow := xInt (fun i j => decide (CPow i j)) fun i j => .int (i ^ j.toNat)
theorem xPow_ok : Ok2 xPow rPow := xInt_ok fun _ _ h => of_decide_eq_true h
def xMul : X2
  | .int i, .int j => if CMul i j then some (.int (i * j)) else none
  | .lst true xs, .int k => if isFzs xs = true ∧ -(2 ^ 63) ≤ k ∧ k < 2 ^ 63 ∧ xs.length * k.toNat ≤ sizeLine then some (.lst true (List.replicate k.toNat xs).flatten) else none
  | _, _ => none
theorem xMul_ok : Ok2 xMul rMul := by
  intro x y d Q h q
  unfold xMul at h
  split at h
  · obtain ⟨c, h⟩ := ite_ok h; cases h; exact ⟨c, q⟩
  · obtain ⟨c, h⟩ := ite_ok h; cases h; exact ⟨isFzs_ok _ c.1, c.2.1, c.2.2.1, c.2.2.2, q⟩
  · cases h
def eqB (x y : Dat) : Option Bool := match x, y with
  | .int i, .int j => some (decide (i = j))
  | .str i, .str j => some (decide (i = j))
  | .bl i, .bl j => some (decide (i = j))
  | .non, .str _ => some false
  | .str _, .non => some false
  | .non, .int _ => some false
  | .int _, .non => some false
  | .int _, .str _ => some false
  | .str _, .int _ => some false
  | x, y => if isPy x = true ∧ isPy y = true ∧ SeqAt.shaped (toPy x) = true ∧ SeqAt.shaped (toPy y) = true then some (PyData.eqv (toPy x) (toPy y)) else none
theorem eqB_ok {x y : Dat} {b : Bool} {Q : Bool → Prop} (h : eqB x y = some b) (q : Q b) : eqSome x y Q := by
  cases x <;> cases y <;> simp only [eqB, eqSome] at h ⊢ <;> first
    | (cases h; exact q)
    | (obtain ⟨c, h⟩ := ite_ok h; cases h; exact ⟨c.1, c.2.1, c.2.2.1, c.2.2.2, q⟩)
def xEq : X2 := fun x y => (eqB x y).map .bl
def xNe : X2 := fun x y => (eqB x y).map fun b => .bl (!b)
theorem map_ok {α β : Type} {o : Option α} {f : α → β} {y : β} (h : o.map f = some y) : ∃ a, o = some a ∧ f a = y := Option.map_eq_some_iff.mp h
theorem xEq_ok : Ok2 xEq rEqq := fun x y d Q h q => by
  obtain ⟨b, e, rfl⟩ := map_ok h
  exact eqB_ok (Q := fun b => Q (.bl b)) e q
theorem xNe_ok : Ok2 xNe rNee := fun x y d Q h q => by
  obtain ⟨b, e, rfl⟩ := map_ok h
  exact eqB_ok (Q := fun b => Q (.bl (!b))) e q
def xOrd (f : Int → Int → Bool) (g : List Nat → List Nat → Bool) : X2
  | .int i, .int j => some (.bl (f i j))
  | .str i, .str j => some (.bl (g i.cps.toList j.cps.toList))
  | _, _ => none
theorem xOrd_ok {f g} : Ok2 (xOrd f g) (rOrd f g) := by
  intro x y d Q h q
  unfold xOrd at h
  split at h
  · cases h; exact q
  · cases h; exact q
  · cases h
def xLt := xOrd (fun i j => decide (i < j)) fun a b => decide (a < b)
def xLe := xOrd (fun i j => decide (i ≤ j)) fun a b => !decide (b < a)
def xGt := xOrd (fun i j => decide (j < i)) fun a b => decide (b < a)
def xGe := xOrd (fun i j => decide (j ≤ i)) fun a b => !decide (a < b)
def xIs (neg : Bool) : X2 := fun x y => if isNon y = true then some (.bl (if neg then !isNon x else isNon x)) else none
theorem xIs_ok {neg} : Ok2 (xIs neg) (rIs neg) := fun x y d Q h q => by
  obtain ⟨c, h⟩ := ite_ok h; cases h; exact ⟨c, q⟩
def inB (x y : Dat) : Option Bool := match y with
  | .lst _ ys => if flatD x = true ∧ ys.all flatD = true then some (ys.any fun z => eqF z x)
      else if isPy x = true ∧ isPys ys = true ∧ SeqAt.shaped (toPy x) = true ∧ SeqAt.shaped (.list (toPys ys)) = true then some ((toPys ys).any fun z => PyData.eqv z (toPy x)) else none
  | .tup _ ys => if flatD x = true ∧ ys.all flatD = true then some (ys.any fun z => eqF z x) else none
  | .str b => match x with
    | .str a => match a.cps.toList with
      | [c] => some (decide (c ∈ b.cps.toList))
      | _ => some (!(Builtin.Str.occurrences b a 0 b.length 1).isEmpty)
    | _ => none
  | .dct _ ks _ => if (keyIs x).isSome = true ∧ ks.all flatD = true then some (hasKey x ks) else none
  | _ => none
theorem inB_ok {x y : Dat} {b : Bool} {Q : Bool → Prop} (h : inB x y = some b) (q : Q b) : inSome x y Q := by
  unfold inB at h
  unfold inSome
  split at h
  · split at h
    · rename_i z; cases h; exact .inl ⟨z.1, z.2, q⟩
    · obtain ⟨c, h⟩ := ite_ok h; cases h
      exact .inr ⟨c.1, c.2.1, c.2.2.1, c.2.2.2, q⟩
  · obtain ⟨c, h⟩ := ite_ok h; cases h; exact ⟨c.1, c.2, q⟩
  · split at h
    · rename_i a
      split at h
      · rename_i c hc
        cases h
        refine .inl ⟨c, ?_, q⟩
        obtain ⟨⟨l⟩⟩ := a
        have : l = [c] := hc
        subst this; rfl
      · cases h; exact .inr ⟨_, rfl, q⟩
    · cases h
  · obtain ⟨c, h⟩ := ite_ok h; cases h
    obtain ⟨k, hk⟩ := Option.isSome_iff_exists.mp c.1
    exact ⟨k, hk, c.2, q⟩
  · cases h
def xIn : X2 := fun x y => (inB x y).map .bl
def xNotIn : X2 := fun x y => (inB x y).map fun b => .bl (!b)
theorem xIn_ok : Ok2 xIn (rInn false) := fun x y d Q h q => by
  obtain ⟨b, e, rfl⟩ := map_ok h
  exact inB_ok (Q := fun b => Q (.bl (if false = true then !b else b))) e q
theorem xNotIn_ok : Ok2 xNotIn (rInn true) := fun x y d Q h q => by
  obtain ⟨b, e, rfl⟩ := map_ok h
  exact inB_ok (Q := fun b => Q (.bl (if true = true then !b else b))) e q
theorem cp_in {C : Ctx} : Cp C .In (r2In false) (rInn false) := ⟨fun X _ h => or_in h, o_in false⟩
theorem cp_notIn {C : Ctx} : Cp C .NotIn (r2In true) (rInn true) := ⟨fun X _ h => or_notIn h, o_in true⟩
structure XC (C : Ctx) (op : CmpOp) where
  r2 : PySem.W.Frag → R2
  r : R2D
  cp : Cp C op r2 r
  x : X2
  ok : Ok2 x r
def c_eq {C : Ctx} : XC C .Eq := ⟨_, _, cp_eq, xEq, xEq_ok⟩
def c_ne {C : Ctx} : XC C .NotEq := ⟨_, _, cp_ne, xNe, xNe_ok⟩
def c_lt {C : Ctx} : XC C .Lt := ⟨_, _, cp_lt, xLt, xOrd_ok⟩
def c_le {C : Ctx} : XC C .LtE := ⟨_, _, cp_le, xLe, xOrd_ok⟩
def c_gt {C : Ctx} : XC C .Gt := ⟨_, _, cp_gt, xGt, xOrd_ok⟩
def c_ge {C : Ctx} : XC C .GtE := ⟨_, _, cp_ge, xGe, xOrd_ok⟩
def c_is {C : Ctx} : XC C .Is := ⟨_, _, cp_is, xIs false, xIs_ok⟩
def c_isn {C : Ctx} : XC C .IsNot := ⟨_, _, cp_isn, xIs true, xIs_ok⟩
def c_in {C : Ctx} : XC C .In := ⟨_, _, cp_in, xIn, xIn_ok⟩
def c_nin {C : Ctx} : XC C .NotIn := ⟨_, _, cp_notIn, xNotIn, xNotIn_ok⟩
def xVar (i : Nat) : XE := fun env => (getE env i).bind fun o => o.map fun d => (d, env)
def xTake (i : Nat) : XE := fun env => (getE env i).bind fun o => o.map fun d => if isFz d = true then (d, env) else (frz d, setE env i (some (frz d)))
def xC (d : Dat) : XE := fun env => some (d, env)
def x2 (p2 : Bool) (xa xb : XE) (f : X2) : XE := fun env => (xa env).bind fun p => (xb p.2).bind fun q => if p2 = true ∨ isFz p.1 = true then (f p.1 q.1).map fun d => (d, q.2) else none
theorem x2_ok {p2 : Bool} {xa xb : XE} {f : X2} {r : R2D} (h : Ok2 f r) : ∀ env Q, xw (x2 p2 xa xb f) env Q → w2 p2 (xw xa) (xw xb) r env Q := by
  rintro env Q ⟨d, e, h1, q⟩
  obtain ⟨⟨a, e1⟩, ha, h1⟩ := bind_ok h1
  obtain ⟨⟨b, e2⟩, hb, h1⟩ := bind_ok h1
  obtain ⟨c, h1⟩ := ite_ok h1
  obtain ⟨z, hz, h1⟩ := map_ok h1
  cases h1
  exact ⟨a, e1, ha, b, e2, hb, c.imp_right fun z => isFz_ok _ z, h _ _ _ _ hz q⟩
def x1 (xa : XE) (f : X1) : XE := fun env => (xa env).bind fun p => (f p.1).map fun d => (d, p.2)
theorem x1_ok {xa : XE} {f : X1} {r : R1D} (h : Ok1 f r) : ∀ env Q, xw (x1 xa f) env Q → w1 (xw xa) r env Q := by
  rintro env Q ⟨d, e, h1, q⟩
  obtain ⟨⟨a, e1⟩, ha, h1⟩ := bind_ok h1
  obtain ⟨z, hz, h1⟩ := map_ok h1
  cases h1
  exact ⟨a, e1, ha, h _ _ _ hz q⟩
def xTest (xa : XE) : XT := fun env => (xa env).bind fun p => match p.1 with | .bl k => some (k, p.2) | _ => none
theorem xTest_ok {xa : XE} {w : LE} (h : ∀ env Q, xw xa env Q → w env Q) : ∀ env Q, xw (xTest xa) env Q → wTest w env Q := by
  rintro env Q ⟨d, e, h1, q⟩
  obtain ⟨⟨a, e1⟩, ha, h1⟩ := bind_ok h1
  refine h _ _ ⟨a, e1, ha, ?_⟩
  split at h1
  · cases h1; exact ⟨_, by assumption, q⟩
  · cases h1
def truB (d : Dat) : Option Bool := match d with
  | .non => some false
  | .bl b => some b
  | .int i => some (i != 0)
  | .str x => if x.length ≤ sizeLine then some ((x.length : Int) != 0) else none
  | .tup _ xs => some (!xs.isEmpty)
  | .lst _ xs => some (!xs.isEmpty)
  | _ => none
theorem truB_ok {d : Dat} {b : Bool} {Q : Bool → Prop} (h : truB d = some b) (q : Q b) : truD d Q := by
  cases d <;> simp only [truB] at h <;> first | (cases h; exact q) | (cases h; done) | (obtain ⟨c, h⟩ := ite_ok h; cases h; exact ⟨c, q⟩)
def xTru (xa : XE) : XT := fun env => (xa env).bind fun p => (truB p.1).map fun b => (b, p.2)
def xAnd (a b : XT) : XT := fun env => (a env).bind fun p => if p.1 = true then b p.2 else some (false, p.2)
def xOr (a b : XT) : XT := fun env => (a env).bind fun p => if p.1 = true then some (true, p.2) else b p.2
def xNot (a : XT) : XT := fun env => (a env).map fun p => (!p.1, p.2)
def xAndV (a b : XE) : XE := fun env => (a env).bind fun p => match p.1 with | .bl c => if c = true then b p.2 else some (.bl false, p.2) | _ => none
def xOrV (a b : XE) : XE := fun env => (a env).bind fun p => match p.1 with | .bl c => if c = true then some (.bl true, p.2) else b p.2 | _ => none
def xNotV (a : XE) : XE := fun env => (a env).bind fun p => match p.1 with | .bl c => some (.bl (!c), p.2) | _ => none
def xIf (t : XT) (a b : XE) : XE := fun env => (t env).bind fun p => if p.1 = true then a p.2 else b p.2
def xNil : XA := fun env => some ([], env)
def xCons (a : XE) (b : XA) : XA := fun env => (a env).bind fun p => (b p.2).map fun q => (p.1 :: q.1, q.2)
def xTup (a : XA) : XE := fun env => (a env).bind fun p => if p.1.length ≤ sizeLine then some (.tup .p (frzs p.1), p.2) else none
def xLst (a : XA) : XE := fun env => (a env).bind fun p => if p.1.length ≤ sizeLine then some (.lst true (frzs p.1), p.2) else none
def xFrz (a : XE) : XE := fun env => (a env).map fun p => (frz p.1, p.2)
def xChain (p2 p3 : Bool) (xa xb xc : XE) (f g : X2) : XE := fun env => (xa env).bind fun p => (xb p.2).bind fun q => if p2 = true ∨ isFz p.1 = true then (f p.1 q.1).bind fun d => match d with
  | .bl k => if k = true then (xc q.2).bind fun r => if p3 = true ∨ isFz q.1 = true then (g q.1 r.1).bind fun d => match d with | .bl k => some (.bl k, r.2) | _ => none else none else some (.bl false, q.2)
  | _ => none else none
section
variable {C : Ctx} {a b c o e iter elt kx vx tg : Expr} {es rest : List Expr} {pos p : Pos}
def de_of (a : DV C e) : DE C e := ⟨a.pr, fun env => (a.x env).bind fun p => if isFz p.1 = true then some p else none, (je_of a.ok).imp fun env Q ⟨d, e1, h, q⟩ => by
  obtain ⟨p, h1, h⟩ := bind_ok h
  obtain ⟨c, h⟩ := ite_ok h
  cases h
  exact ⟨d, e1, h1, isFz_ok _ c, q⟩⟩
def dv (a : DE C e) : DV C e := ⟨a.pr, a.x, jv_of a.ok⟩
def de_frz (a : DE C e) : DE C e := ⟨a.pr, xFrz a.x, (je_frz a.ok).imp fun env Q ⟨d, e1, h, q⟩ => by
  obtain ⟨p, h1, h⟩ := map_ok h
  cases h
  exact ⟨_, _, h1, q⟩⟩
def dv_var (i : Nat) {x : Str} (hN : C.N[i]? = some x := by rfl) (hv : Vis C.sc x := by first | exact Or.inl rfl | exact Or.inr (Or.inl rfl) | exact Or.inr (Or.inr rfl)) (hd : (x == ("__debug__" : Str)) = false := by rfl) (hc : (x == ("__classdict__" : Str)) = false := by rfl) : DV C (.Name x pos) :=
  ⟨true, xVar i, (jv_var hN hv hd hc).imp fun env Q ⟨d, e1, h, q⟩ => by
    obtain ⟨o, h1, h⟩ := bind_ok h
    rw [getE_eq] at h1
    obtain ⟨z, rfl, h⟩ := map_ok h
    cases h
    exact ⟨_, h1, q⟩⟩
def de_var (i : Nat) {x : Str} (hN : C.N[i]? = some x := by rfl) (hv : Vis C.sc x := by first | exact Or.inl rfl | exact Or.inr (Or.inl rfl) | exact Or.inr (Or.inr rfl)) (hd : (x == ("__debug__" : Str)) = false := by rfl) (hc : (x == ("__classdict__" : Str)) = false := by rfl) : DE C (.Name x pos) :=
  ⟨true, xTake i, (je_var hN hv hd hc).imp fun env Q ⟨d, e1, h, q⟩ => by
    obtain ⟨o, ho, h⟩ := bind_ok h
    rw [getE_eq] at ho
    obtain ⟨z, rfl, h⟩ := map_ok h
    by_cases c : isFz z = true
    · rw [Option.map_some, if_pos c] at h
      cases h
      exact ⟨_, ho, .inl ⟨isFz_ok _ c, q⟩⟩
    · rw [Option.map_some, if_neg c] at h
      cases h
      rw [setE_eq] at q
      exact ⟨_, ho, .inr q⟩⟩
theorem xC_ok {d : Dat} : ∀ env Q, xw (xC d) env Q → wC d env Q := fun env Q ⟨z, e1, h, q⟩ => by cases h; exact q
def de_int {i : Int} {j : Nat} : DE C (.Constant (.int i) j pos) := ⟨true, xC (.int i), je_int.imp xC_ok⟩
def de_bl {i : Bool} {j : Nat} : DE C (.Constant (.bool i) j pos) := ⟨true, xC (.bl i), je_bl.imp xC_ok⟩
def de_non {j : Nat} : DE C (.Constant .none j pos) := ⟨true, xC .non, je_non.imp xC_ok⟩
def de_glb {x : Str} {d : Dat} (c : Cn C x d) (hg : C.sc.names.lookup x = some .globalImplicit := by rfl) (hd : (x == ("__debug__" : Str)) = false := by rfl) : DE C (.Name x pos) := ⟨true, xC d, (je_glb c hg hd).imp xC_ok⟩
def de_add (a' : DV C a) (b' : DV C b) : DE C (.BinOp a .Add b pos) := ⟨_, x2 b'.pr a'.x b'.x xAdd, (je_add a'.ok b'.ok).imp (x2_ok xAdd_ok)⟩
def de_sub (a' : DV C a) (b' : DV C b) : DE C (.BinOp a .Sub b pos) := ⟨_, x2 b'.pr a'.x b'.x xSub, (je_sub a'.ok b'.ok).imp (x2_ok xSub_ok)⟩
def de_mul (a' : DV C a) (b' : DV C b) : DE C (.BinOp a .Mult b pos) := ⟨_, x2 b'.pr a'.x b'.x xMul, (je_mul a'.ok b'.ok).imp (x2_ok xMul_ok)⟩
def de_fdiv (a' : DV C a) (b' : DV C b) : DE C (.BinOp a .FloorDiv b pos) := ⟨_, x2 b'.pr a'.x b'.x xFdiv, (je_fdiv a'.ok b'.ok).imp (x2_ok xFdiv_ok)⟩
def de_mod (a' : DV C a) (b' : DV C b) : DE C (.BinOp a .Mod b pos) := ⟨_, x2 b'.pr a'.x b'.x xMod, (je_mod a'.ok b'.ok).imp (x2_ok xMod_ok)⟩
def de_pow (a' : DV C a) (b' : DV C b) : DE C (.BinOp a .Pow b pos) := ⟨_, x2 b'.pr a'.x b'.x xPow, (je_pow a'.ok b'.ok).imp (x2_ok xPow_ok)⟩
def de_cmp {op : CmpOp} (o : XC C op) (a' : DV C a) (b' : DV C b) (hm : behindInMarks op b = false := by rfl) : DE C (.Compare a [op] [b] pos) := ⟨_, x2 b'.pr a'.x b'.x o.x, (je_cm a'.ok b'.ok o.cp hm).imp (x2_ok o.ok)⟩
def dt_cmp {op : CmpOp} (o : XC C op) (a' : DV C a) (b' : DV C b) (hm : behindInMarks op b = false := by rfl) : DT C (.Compare a [op] [b] pos) := ⟨_, xTest (x2 b'.pr a'.x b'.x o.x), (jt_cmp a'.ok b'.ok o.cp hm).imp (xTest_ok (x2_ok o.ok))⟩
theorem xChain_ok {p2 p3 : Bool} {xa xb xc : XE} {f g : X2} {r r' : R2D} (hf : Ok2 f r) (hg : Ok2 g r') : ∀ env Q, xw (xChain p2 p3 xa xb xc f g) env Q → wChain p2 p3 (xw xa) (xw xb) (xw xc) r r' env Q := by
  rintro env Q ⟨d, e, h1, q⟩
  obtain ⟨⟨a, e1⟩, ha, h1⟩ := bind_ok h1
  obtain ⟨⟨b, e2⟩, hb, h1⟩ := bind_ok h1
  obtain ⟨c, h1⟩ := ite_ok h1
  obtain ⟨z, hz, h1⟩ := bind_ok h1
  refine ⟨a, e1, ha, b, e2, hb, c.imp_right fun z => isFz_ok _ z, hf _ _ _ _ hz ?_⟩
  split at h1
  · rename_i k
    refine ⟨k, rfl, ?_⟩
    by_cases hk : k = true
    · rw [if_pos hk] at h1 ⊢
      obtain ⟨⟨u, e3⟩, hu, h1⟩ := bind_ok h1
      obtain ⟨c3, h1⟩ := ite_ok h1
      obtain ⟨y, hy, h1⟩ := bind_ok h1
      refine ⟨u, e3, hu, c3.imp_right fun z => isFz_ok _ z, hg _ _ _ _ hy ?_⟩
      split at h1
      · cases h1; exact q
      · cases h1
    · rw [if_neg hk] at h1 ⊢
      cases h1; exact q
  · cases h1
def de_chain {op op' : CmpOp} (o : XC C op) (o' : XC C op') (a' : DV C a) (b' : DV C b) (c' : DV C c) (hm : lastMarks [op, op'] [b, c] = false := by rfl) : DE C (.Compare a [op, op'] [b, c] pos) := ⟨_, xChain b'.pr c'.pr a'.x b'.x c'.x o.x o'.x, (je_chain a'.ok b'.ok c'.ok o.cp o'.cp hm).imp (xChain_ok o.ok o'.ok)⟩
def dt_chain {op op' : CmpOp} (o : XC C op) (o' : XC C op') (a' : DV C a) (b' : DV C b) (c' : DV C c) (hm : lastMarks [op, op'] [b, c] = false := by rfl) : DT C (.Compare a [op, op'] [b, c] pos) := ⟨_, xTest (xChain b'.pr c'.pr a'.x b'.x c'.x o.x o'.x), (jt_chain a'.ok b'.ok c'.ok o.cp o'.cp hm).imp (xTest_ok (xChain_ok o.ok o'.ok))⟩
def dt_tru (a' : DV C e) (he : ∀ env whole, isTrue e env whole = (do let v ← whole; standAt e.pos; holding [v] (truthy v)) := by intro _ _; rfl) : DT C e := ⟨_, xTru a'.x, (jt_tru a'.ok he).imp fun env Q ⟨d, e1, h, q⟩ => by
  obtain ⟨⟨a, e1⟩, ha, h⟩ := bind_ok h
  obtain ⟨z, hz, h⟩ := map_ok h
  cases h
  exact ⟨a, e1, ha, truB_ok (Q := fun k => Q k e1) hz q⟩⟩
def dw_and1 (a' : DT C a) : DW C (.BoolOp .And [a] pos) := ⟨_, a'.x, jw_and1 a'.ok⟩
def dw_or1 (a' : DT C a) : DW C (.BoolOp .Or [a] pos) := ⟨_, a'.x, jw_or1 a'.ok⟩
def dw_and (a' : DT C a) (b' : DW C (.BoolOp .And (b :: rest) pos)) : DW C (.BoolOp .And (a :: b :: rest) pos) := ⟨_, xAnd a'.x b'.x, (jw_and a'.ok b'.ok).imp fun env Q ⟨d, e1, h, q⟩ => by
  obtain ⟨⟨u, e2⟩, ha, h⟩ := bind_ok h
  refine ⟨u, e2, ha, ?_⟩
  cases u with
  | true => exact ⟨d, e1, h, q⟩
  | false => cases h; exact q⟩
def dw_or (a' : DT C a) (b' : DW C (.BoolOp .Or (b :: rest) pos)) : DW C (.BoolOp .Or (a :: b :: rest) pos) := ⟨_, xOr a'.x b'.x, (jw_or a'.ok b'.ok).imp fun env Q ⟨d, e1, h, q⟩ => by
  obtain ⟨⟨u, e2⟩, ha, h⟩ := bind_ok h
  refine ⟨u, e2, ha, ?_⟩
  cases u with
  | false => exact ⟨d, e1, h, q⟩
  | true => cases h; exact q⟩
def dt_w (a' : DW C e) : DT C e := ⟨_, a'.x, jt_w a'.ok⟩
def dt_not (a' : DT C a) : DT C (.UnaryOp .Not a pos) := ⟨_, xNot a'.x, (jt_not a'.ok).imp fun env Q ⟨d, e1, h, q⟩ => by
  obtain ⟨⟨u, e2⟩, ha, h⟩ := map_ok h
  cases h
  exact ⟨u, e2, ha, q⟩⟩
def de_one {op : BoolOp} (a' : DE C a) : DE C (.BoolOp op [a] pos) := ⟨_, a'.x, je_one a'.ok⟩
def de_and (a' : DV C a) (b' : DE C (.BoolOp .And (b :: rest) pos)) : DE C (.BoolOp .And (a :: b :: rest) pos) := ⟨_, xAndV a'.x b'.x, (je_and a'.ok b'.ok).imp fun env Q ⟨d, e1, h, q⟩ => by
  obtain ⟨⟨u, e2⟩, ha, h⟩ := bind_ok h
  refine ⟨u, e2, ha, ?_⟩
  split at h
  · rename_i k hk0
    refine ⟨k, hk0, ?_⟩
    by_cases hk : k = true
    · rw [if_pos hk] at h ⊢; exact ⟨d, e1, h, q⟩
    · rw [if_neg hk] at h ⊢; cases h; exact q
  · cases h⟩
def de_or (a' : DV C a) (b' : DE C (.BoolOp .Or (b :: rest) pos)) : DE C (.BoolOp .Or (a :: b :: rest) pos) := ⟨_, xOrV a'.x b'.x, (je_or a'.ok b'.ok).imp fun env Q ⟨d, e1, h, q⟩ => by
  obtain ⟨⟨u, e2⟩, ha, h⟩ := bind_ok h
  refine ⟨u, e2, ha, ?_⟩
  split at h
  · rename_i k hk0
    refine ⟨k, hk0, ?_⟩
    by_cases hk : k = true
    · rw [if_pos hk] at h ⊢; cases h; exact q
    · rw [if_neg hk] at h ⊢; exact ⟨d, e1, h, q⟩
  · cases h⟩
def de_not (a' : DV C a) : DE C (.UnaryOp .Not a pos) := ⟨_, xNotV a'.x, (je_not a'.ok).imp fun env Q ⟨d, e1, h, q⟩ => by
  obtain ⟨⟨u, e2⟩, ha, h⟩ := bind_ok h
  refine ⟨u, e2, ha, ?_⟩
  split at h
  · rename_i k hk0; cases h; exact ⟨k, hk0, q⟩
  · cases h⟩
theorem xIf_ok {t : XT} {xa xb : XE} : ∀ env Q, xw (xIf t xa xb) env Q → wIf (xw t) (xw xa) (xw xb) env Q := fun env Q ⟨d, e1, h, q⟩ => by
  obtain ⟨⟨u, e2⟩, ha, h⟩ := bind_ok h
  refine ⟨u, e2, ha, ?_⟩
  cases u with
  | true => exact ⟨d, e1, h, q⟩
  | false => exact ⟨d, e1, h, q⟩
def de_if (c' : DT C c) (a' : DE C a) (b' : DE C b) : DE C (.IfExp c a b pos) := ⟨_, xIf c'.x a'.x b'.x, (je_if c'.ok a'.ok b'.ok).imp xIf_ok⟩
def dv_if (c' : DT C c) (a' : DV C a) (b' : DV C b) : DV C (.IfExp c a b pos) := ⟨_, xIf c'.x a'.x b'.x, (jv_if c'.ok a'.ok b'.ok).imp xIf_ok⟩
def da_nil : DA C [] := ⟨true, xNil, ja_nil.imp fun env Q ⟨d, e1, h, q⟩ => by cases h; exact q⟩
def da_cons (a' : DE C e) (b' : DA C es) (hs : ∀ env, starEach (e :: es) env = (false, eval e env) :: starEach es env := by intro _; rfl) : DA C (e :: es) := ⟨_, xCons a'.x b'.x, (ja_cons a'.ok b'.ok hs).imp fun env Q ⟨d, e1, h, q⟩ => by
  obtain ⟨⟨u, e2⟩, ha, h⟩ := bind_ok h
  obtain ⟨⟨v, e3⟩, hb, h⟩ := map_ok h
  cases h
  exact ⟨u, e2, ha, v, e3, hb, q⟩⟩
def de_tup {k : Nat} (a' : DA C es) : DE C (.Tuple es k pos) := ⟨_, xTup a'.x, (je_tup a'.ok).imp fun env Q ⟨d, e1, h, q⟩ => by
  obtain ⟨⟨u, e2⟩, ha, h⟩ := bind_ok h
  obtain ⟨c, h⟩ := ite_ok h
  cases h
  exact ⟨u, e2, ha, c, q⟩⟩
def de_lst (a' : DA C es) : DE C (.List es pos) := ⟨_, xLst a'.x, (je_lst a'.ok).imp fun env Q ⟨d, e1, h, q⟩ => by
  obtain ⟨⟨u, e2⟩, ha, h⟩ := bind_ok h
  obtain ⟨c, h⟩ := ite_ok h
  cases h
  exact ⟨u, e2, ha, c, q⟩⟩
end
end
end M
namespace M
noncomputable section
open PySem PySem.Spec PyProof.Rows L2
structure XL1 (C : Ctx) (f : Value) where
  r : R1D
  cl : Cl1 C f r
  x : X1
  ok : Ok1 x r
def xLen : X1
  | .str s => if s.length ≤ sizeLine then some (.int s.length) else none
  | .tup _ xs => some (.int xs.length)
  | .lst _ xs => some (.int xs.length)
  | .dct _ ks _ => some (.int ks.length)
  | .scr ns => some (.int ns.length)
  | _ => none
theorem xLen_ok : Ok1 xLen rLen := by
  intro x d Q h q
  unfold xLen at h
  unfold rLen
  split at h
  · obtain ⟨c, h⟩ := ite_ok h; cases h; exact ⟨c, q⟩
  · cases h; exact q
  · cases h; exact q
  · cases h; exact q
  · cases h; exact q
  · cases h
def xIntF : X1
  | .int i => some (.int i)
  | .bl b => some (.int (if b then 1 else 0))
  | .str s => if s.length ≤ 640 then (PySem.intText? s).map .int else none
  | _ => none
theorem xIntF_ok : Ok1 xIntF rIntF := by
  intro x d Q h q
  unfold xIntF at h
  unfold rIntF
  split at h
  · cases h; exact q
  · cases h; exact q
  · obtain ⟨c, h⟩ := ite_ok h; obtain ⟨n, hn, rfl⟩ := map_ok h; exact ⟨n, hn, c, q⟩
  · cases h
def xAbs : X1
  | .int i => some (.int (if i < 0 then -i else i))
  | _ => none
theorem xAbs_ok : Ok1 xAbs rAbs := by
  intro x d Q h q
  unfold xAbs at h
  unfold rAbs
  split at h
  · cases h; exact q
  · cases h
def xList : X1
  | .tup _ xs => if isFzs xs = true then some (.lst true xs) else none
  | .lst _ xs => if isFzs xs = true then some (.lst true xs) else none
  | .dct _ ks _ => some (.lst true ks)
  | _ => none
theorem xList_ok : Ok1 xList rList := by
  intro x d Q h q
  unfold xList at h
  unfold rList
  split at h
  · obtain ⟨c, h⟩ := ite_ok h; cases h; exact ⟨isFzs_ok _ c, q⟩
  · obtain ⟨c, h⟩ := ite_ok h; cases h; exact ⟨isFzs_ok _ c, q⟩
  · cases h; exact q
  · cases h
/-- a tuple out of a tuple -/
def xTuple : X1
  | .tup k xs => if isFzs xs = true then some (.tup k xs) else none
  | .lst _ xs => if isFzs xs = true then some (.tup .u xs) else none
  | _ => none
theorem xTuple_ok : Ok1 xTuple rTuple := by
  intro x d Q h q
  unfold xTuple at h
  unfold rTuple
  split at h
  · obtain ⟨c, h⟩ := ite_ok h; cases h; exact ⟨isFzs_ok _ c, q⟩
  · obtain ⟨c, h⟩ := ite_ok h; cases h; exact ⟨isFzs_ok _ c, q⟩
  · cases h
def xTupleK : X1
  | .lst _ xs => if isFzs xs = true then some (.tup .b xs) else none
  | _ => none
theorem xTupleK_ok : Ok1 xTupleK rTupleK := by
  intro x d Q h q
  unfold xTupleK at h
  unfold rTupleK
  split at h
  · obtain ⟨c, h⟩ := ite_ok h; cases h; exact ⟨isFzs_ok _ c, q⟩
  · cases h
def allI : List Dat → Option (List Int)
  | [] => some []
  | .int i :: r => (allI r).map (i :: ·)
  | _ :: _ => none
theorem allI_ok : ∀ {xs : List Dat} {ns : List Int}, allI xs = some ns → xs = ns.map .int
  | [], _, h => by cases h; rfl
  | .int i :: r, _, h => by
    unfold allI at h
    obtain ⟨n, hn, rfl⟩ := map_ok h
    rw [List.map_cons, ← allI_ok hn]
  | .non :: _, _, h => by cases h
  | .bl _ :: _, _, h => by cases h
  | .str _ :: _, _, h => by cases h
  | .tup _ _ :: _, _, h => by cases h
  | .lst _ _ :: _, _, h => by cases h
  | .dct _ _ _ :: _, _, h => by cases h
  | .dtt _ _ _ :: _, _, h => by cases h
  | .dxt _ _ _ :: _, _, h => by cases h
  | .obj _ _ _ :: _, _, h => by cases h
  | .scr _ :: _, _, h => by cases h
  | .exn _ _ :: _, _, h => by cases h
def allS : List Dat → Option (List Str)
  | [] => some []
  | .str i :: r => (allS r).map (i :: ·)
  | _ :: _ => none
theorem allS_ok : ∀ {xs : List Dat} {ns : List Str}, allS xs = some ns → xs = ns.map .str
  | [], _, h => by cases h; rfl
  | .str i :: r, _, h => by
    unfold allS at h
    obtain ⟨n, hn, rfl⟩ := map_ok h
    rw [List.map_cons, ← allS_ok hn]
  | .non :: _, _, h => by cases h
  | .bl _ :: _, _, h => by cases h
  | .int _ :: _, _, h => by cases h
  | .tup _ _ :: _, _, h => by cases h
  | .lst _ _ :: _, _, h => by cases h
  | .dct _ _ _ :: _, _, h => by cases h
  | .dtt _ _ _ :: _, _, h => by cases h
  | .dxt _ _ _ :: _, _, h => by cases h
  | .obj _ _ _ :: _, _, h => by cases h
  | .scr _ :: _, _, h => by cases h
  | .exn _ _ :: _, _, h => by cases h
def allB : List Dat → Option (List Bool)
  | [] => some []
  | .bl i :: r => (allB r).map (i :: ·)
  | _ :: _ => none
theorem allB_ok : ∀ {xs : List Dat} {ns : List Bool}, allB xs = some ns → xs = ns.map .bl
  | [], _, h => by cases h; rfl
  | .bl i :: r, _, h => by
    unfold allB at h
    obtain ⟨n, hn, rfl⟩ := map_ok h
    rw [List.map_cons, ← allB_ok hn]
  | .non :: _, _, h => by cases h
  | .str _ :: _, _, h => by cases h
  | .int _ :: _, _, h => by cases h
  | .tup _ _ :: _, _, h => by cases h
  | .lst _ _ :: _, _, h => by cases h
  | .dct _ _ _ :: _, _, h => by cases h
  | .dtt _ _ _ :: _, _, h => by cases h
  | .dxt _ _ _ :: _, _, h => by cases h
  | .obj _ _ _ :: _, _, h => by cases h
  | .scr _ :: _, _, h => by cases h
  | .exn _ _ :: _, _, h => by cases h
/-- texts: at most one so far -/
def sort1 : List Str → Option (List Str)
  | [] => some []
  | [x] => some [x]
  | _ => none
def xSorted : X1
  | .lst _ xs => match allI xs with
    | some ns => some (.lst true ((isort ns).map .int))
    | none => ((allS xs).bind sort1).map fun ys => .lst true (ys.map .str)
  | .dct _ ks _ => if ks.length < 64 then (match allI ks with
    | some ns => some (.lst true ((isort ns).map .int))
    | none => ((allS ks).bind sort1).map fun ys => .lst true (ys.map .str)) else none
  | _ => none
theorem sort1_ok {ns ys : List Str} (h : sort1 ns = some ys) : ns.length < 64 ∧ ∀ zs : List Str, zs.Perm ns → zs = ys := by
  unfold sort1 at h
  split at h
  · cases h; exact ⟨by decide, fun zs p => List.perm_nil.mp p⟩
  · cases h; exact ⟨by simp, fun zs p => List.perm_singleton.mp p⟩
  · cases h
theorem xSorted_ok : Ok1 xSorted rSorted' := by
  intro x d Q h q
  unfold xSorted at h
  unfold rSorted'
  split at h
  · split at h
    · rename_i e; cases h; exact .inl ⟨_, allI_ok e, q⟩
    · obtain ⟨ys, h2, rfl⟩ := map_ok h
      obtain ⟨ns, hn, h3⟩ := bind_ok h2
      have k := sort1_ok h3
      exact .inr ⟨ns, allS_ok hn, k.1, fun zs p _ => by rw [k.2 zs p]; exact q⟩
  · obtain ⟨c, h⟩ := ite_ok h
    split at h
    · rename_i e; cases h
      have := allI_ok e
      exact .inl ⟨_, this, by rw [this, List.length_map] at c; exact c, q⟩
    · obtain ⟨ys, h2, rfl⟩ := map_ok h
      obtain ⟨ns, hn, h3⟩ := bind_ok h2
      have k := sort1_ok h3
      exact .inr ⟨ns, allS_ok hn, k.1, fun zs p _ => by rw [k.2 zs p]; exact q⟩
  · cases h
def xBools (f : List Bool → Bool) : X1
  | .lst _ xs => (allB xs).map fun bs => .bl (f bs)
  | _ => none
theorem xBools_ok {f} : Ok1 (xBools f) (rBools f) := by
  intro x d Q h q
  unfold xBools at h
  unfold rBools
  split at h
  · obtain ⟨bs, hb, rfl⟩ := map_ok h; exact ⟨bs, allB_ok hb, q⟩
  · cases h
section
variable {C : Ctx} {a b c o e iter elt kx vx tg : Expr} {es rest : List Expr} {pos p : Pos}
def l_len : XL1 C (.builtin "len") := ⟨_, cl_len, xLen, xLen_ok⟩
def l_int : XL1 C (.type "int") := ⟨_, cl_int, xIntF, xIntF_ok⟩
def l_abs : XL1 C (.builtin "abs") := ⟨_, cl_abs, xAbs, xAbs_ok⟩
def l_list : XL1 C (.type "list") := ⟨_, cl_list, xList, xList_ok⟩
def l_tuple : XL1 C (.type "tuple") := ⟨_, cl_tuple, xTuple, xTuple_ok⟩
def l_tupleK : XL1 C (.type "tuple") := ⟨_, cl_tupleK, xTupleK, xTupleK_ok⟩
def l_sorted : XL1 C (.builtin "sorted") := ⟨_, cl_sorted, xSorted, xSorted_ok⟩
def l_all : XL1 C (.builtin "all") := ⟨_, cl_all, _, xBools_ok⟩
def l_any : XL1 C (.builtin "any") := ⟨_, cl_any, _, xBools_ok⟩
def de_b1 {x : Str} {id : String} (l : XL1 C (.builtin id)) (hm : C.mg x = none) (a' : DV C a) (hv : bootBuiltins x = some (.builtin id) := by rfl) (hg : C.sc.names.lookup x = some .globalImplicit := by rfl)
    (hn : x ≠ "__name__" := by decide) (hdb : (x == ("__debug__" : Str)) = false := by rfl) (hs : ∀ env, starEach [a] env = (false, eval a env) :: starEach [] env := by intro _; rfl) (hpl : ∀ env, (backTo pos (starEach [] env)).any (·.1) = false := by intro _; rfl) (hh : C.hot = false := by rfl) : DE C (.Call (.Name x p) [a] [] pos) :=
  ⟨_, x1 a'.x l.x, (je_b1 (hh := hh) l.cl hm hv hg a'.ok hn hdb hs hpl).imp (x1_ok l.ok)⟩
def de_t1 {x : Str} {id : String} (l : XL1 C (.type id)) (hm : C.mg x = none) (a' : DV C a) (hv : bootBuiltins x = some (.type id) := by rfl) (hg : C.sc.names.lookup x = some .globalImplicit := by rfl)
    (hn : x ≠ "__name__" := by decide) (hdb : (x == ("__debug__" : Str)) = false := by rfl) (hs : ∀ env, starEach [a] env = (false, eval a env) :: starEach [] env := by intro _; rfl) (hpl : ∀ env, (backTo pos (starEach [] env)).any (·.1) = false := by intro _; rfl) (hh : C.hot = false := by rfl) : DE C (.Call (.Name x p) [a] [] pos) :=
  ⟨_, x1 a'.x l.x, (je_t1 (hh := hh) l.cl hm hv hg a'.ok hn hdb hs hpl).imp (x1_ok l.ok)⟩
structure XL2 (C : Ctx) (f : Value) where
  r : R2D
  cl : Cl2 C f r
  x : X2
  ok : Ok2 x r
def xDivmod : X2
  | .int i, .int j => if CDiv i j then some (.tup .u [.int (i / j), .int (i % j)]) else none
  | _, _ => none
theorem xDivmod_ok : Ok2 xDivmod rDivmod := by
  intro x y d Q h q
  unfold xDivmod at h
  split at h
  · obtain ⟨c, h⟩ := ite_ok h; cases h; exact ⟨c, q⟩
  · cases h
def l_divmod : XL2 C (.builtin "divmod") := ⟨_, cl_divmod, xDivmod, xDivmod_ok⟩
def l_max2 : XL2 C (.builtin "max") := ⟨_, cl_max2, xInt (fun _ _ => true) fun i j => .int (if j > i then j else i), xInt_ok fun _ _ _ => True.intro⟩
def l_min2 : XL2 C (.builtin "min") := ⟨_, cl_min2, xInt (fun _ _ => true) fun i j => .int (if j < i then j else i), xInt_ok fun _ _ _ => True.intro⟩
def de_b2 {x : Str} {id : String} (l : XL2 C (.builtin id)) (hm : C.mg x = none) (a' : DV C a) (b' : DV C b) (hv : bootBuiltins x = some (.builtin id) := by rfl) (hg : C.sc.names.lookup x = some .globalImplicit := by rfl)
    (hn : x ≠ "__name__" := by decide) (hdb : (x == ("__debug__" : Str)) = false := by rfl) (hs : ∀ env, starEach [a, b] env = (false, eval a env) :: starEach [b] env := by intro _; rfl) (hs2 : ∀ env, starEach [b] env = (false, eval b env) :: starEach [] env := by intro _; rfl) (hpl : ∀ env, (backTo pos (starEach [b] env)).any (·.1) = false := by intro _; rfl) (hh : C.hot = false := by rfl) : DE C (.Call (.Name x p) [a, b] [] pos) :=
  ⟨_, x2 b'.pr a'.x b'.x l.x, (je_b2 (hh := hh) l.cl hm hv hg a'.ok b'.ok hn hdb hs hs2 hpl).imp (x2_ok l.ok)⟩
def xFld (g : Nat → Option Nat) (xa : XE) : XE := fun env => (xa env).bind fun p => match p.1 with
  | .obj _ c vs => (g c).bind fun i => (vs[i]?).map fun d => (d, p.2)
  | _ => none
def dv_fld {f : Str} {g : Nat → Option Nat} (hf : Fld C f g) (a' : DV C e) (hb : ∀ env, attributeBase e f env (eval e env) = eval e env := by intro _; rfl) : DV C (.Attribute e f pos) := ⟨_, xFld g a'.x, (jv_fld hf a'.ok hb).imp fun env Q ⟨d, e1, h, q⟩ => by
  obtain ⟨⟨u, e2⟩, ha, h⟩ := bind_ok h
  refine ⟨u, e2, ha, ?_⟩
  simp only at h
  split at h
  · obtain ⟨i, hi, h⟩ := bind_ok h
    obtain ⟨z, hz, h⟩ := map_ok h
    cases h
    exact ⟨i, _, hi, hz, q⟩
  · cases h⟩
def xIdx : X2 := fun x y => match x with
  | .tup _ xs => match y with | .int i => atI xs i | _ => none
  | .lst _ xs => match y with | .int i => atI xs i | _ => none
  | .str z => match y with | .int i => if z.length ≤ sizeLine then (atI z.cps.toList i).map fun c => .str ⟨#[c]⟩ else none | _ => none
  | .dct _ ks vs => if (keyIs y).isSome = true then lookD ks vs y else none
  | .scr ns => match y with | .int i => (atI ns i).map .int | _ => none
  | _ => none
theorem xIdx_ok : Ok2 xIdx rIdx := by
  intro x y d Q h q
  unfold xIdx at h
  unfold rIdx
  split at h
  · split at h
    · exact ⟨_, _, rfl, h, q⟩
    · cases h
  · split at h
    · exact ⟨_, _, rfl, h, q⟩
    · cases h
  · split at h
    · obtain ⟨c, h⟩ := ite_ok h
      obtain ⟨z, hz, rfl⟩ := map_ok h
      exact ⟨_, _, rfl, c, hz, q⟩
    · cases h
  · obtain ⟨c, h⟩ := ite_ok h
    obtain ⟨k, hk⟩ := Option.isSome_iff_exists.mp c
    exact ⟨k, _, hk, h, q⟩
  · split at h
    · obtain ⟨z, hz, rfl⟩ := map_ok h
      exact ⟨_, _, rfl, hz, q⟩
    · cases h
  · cases h
def dv_idx (a' : DV C a) (b' : DV C b) (hs : PlainIx b := by intro _ _; rfl) : DV C (.Subscript a b pos) := ⟨_, x2 b'.pr a'.x b'.x xIdx, (jv_idx a'.ok b'.ok hs).imp (x2_ok xIdx_ok)⟩
def xNoPart : XO := fun env => some (none, env)
def xPart (xa : XE) : XO := fun env => (xa env).bind fun p => match p.1 with | .int i => some (some i, p.2) | _ => none
def do_none : DO C none := ⟨true, xNoPart, jo_none.imp fun env Q ⟨d, e1, h, q⟩ => by cases h; exact q⟩
def do_some (a' : DV C e) : DO C (some e) := ⟨_, xPart a'.x, (jo_some a'.ok).imp fun env Q ⟨d, e1, h, q⟩ => by
  obtain ⟨⟨u, e2⟩, ha, h⟩ := bind_ok h
  refine ⟨u, e2, ha, ?_⟩
  split at h
  · rename_i i hi; cases h; exact ⟨i, hi, q⟩
  · cases h⟩
def slD (x : Dat) (lo hi : Option Int) : Option Dat := match x with
  | .tup _ xs => if isFzs xs = true then some (.tup .u (cutD xs lo hi)) else none
  | .lst _ xs => if isFzs xs = true then some (.lst true (cutD xs lo hi)) else none
  | .scr ns => some (.lst true (cutD (ns.map .int) lo hi))
  | _ => none
def xSl (ph : Bool) (xa : XE) (xl xh : XO) : XE := fun env => (xa env).bind fun p => (xl p.2).bind fun l => (xh l.2).bind fun h => if ph = true ∨ isFz p.1 = true then (slD p.1 l.1 h.1).map fun d => (d, h.2) else none
def de_slice {lo hi : Option Expr} {pp : Pos} (a' : DV C a) (l' : DO C lo) (h' : DO C hi) : DE C (.Subscript a (.Slice lo hi none pp) pos) := ⟨_, xSl (l'.pr && h'.pr) a'.x l'.x h'.x, (je_slice a'.ok l'.ok h'.ok).imp fun env Q ⟨d, e1, h, q⟩ => by
  obtain ⟨⟨u, e2⟩, ha, h⟩ := bind_ok h
  obtain ⟨⟨l, e3⟩, hl, h⟩ := bind_ok h
  obtain ⟨⟨k, e4⟩, hk, h⟩ := bind_ok h
  obtain ⟨c, h⟩ := ite_ok h
  obtain ⟨z, hz, h⟩ := map_ok h
  cases h
  refine ⟨u, e2, ha, l, e3, hl, k, e4, hk, c.imp_right fun z => isFz_ok _ z, ?_⟩
  cases u <;> simp only [slD] at hz <;> first
    | (obtain ⟨c, hz⟩ := ite_ok hz; cases hz; exact ⟨isFzs_ok _ c, q⟩)
    | (cases hz; done)
    | (cases hz; exact q)⟩
def isStrB : Dat → Bool | .str _ => true | _ => false
def isLstB : Dat → Bool | .lst _ _ => true | _ => false
def isTupKB : Dat → Bool | .tup .b _ => true | _ => false
structure XM (C : Ctx) (T name id : String) where
  f : Dat → Prop
  r : R2D
  mt : Mt C T name id f r
  g : Dat → Bool
  hg : ∀ d, g d = true → f d
  x : X2
  ok : Ok2 x r
def xSplit : X2
  | .str a, .str b => if (b.length == 0) = false ∧ a.length + 2 ≤ sizeLine then some (.lst true ((Txt.split a b).map .str)) else none
  | _, _ => none
theorem xSplit_ok : Ok2 xSplit rSplit := by
  intro x y d Q h q
  unfold xSplit at h
  split at h
  · obtain ⟨c, h⟩ := ite_ok h; cases h; exact ⟨c.1, c.2, q⟩
  · cases h
def xJoin : X2 := fun x y => match x with
  | .str a => (match y with | .lst _ ys => allS ys | .tup _ ys => allS ys | _ => none).bind fun (ys : List Str) => if (ys.map fun (y : Str) => y.length).sum + ys.length * a.length ≤ 16777216 then some (.str (Txt.join a ys)) else none
  | _ => none
theorem xJoin_ok : Ok2 xJoin rJoin := by
  intro x y d Q h q
  unfold xJoin at h
  unfold rJoin
  split at h
  · obtain ⟨ys, hy, h⟩ := bind_ok h
    obtain ⟨c, h⟩ := ite_ok h; cases h
    refine ⟨ys, ?_, c, q⟩
    split at hy
    · exact .inl ⟨_, by rw [allS_ok hy]⟩
    · exact .inr ⟨_, by rw [allS_ok hy]⟩
    · cases hy
  · cases h
def xIdxT : X2
  | .tup _ ys, y => if flatD y = true ∧ ys.all flatD = true then (idxF y ys).map fun j => .int (j : Nat) else none
  | _, _ => none
theorem xIdxT_ok : Ok2 xIdxT rIdxT := by
  intro x y d Q h q
  unfold xIdxT at h
  split at h
  · obtain ⟨c, h⟩ := ite_ok h; obtain ⟨j, hj, rfl⟩ := map_ok h; exact ⟨j, c.1, c.2, hj, q⟩
  · cases h
def xIdxP : X2
  | .lst _ ys, y => if isPy y = true ∧ isPys ys = true ∧ SeqAt.shaped (toPy y) = true ∧ SeqAt.shaped (.list (toPys ys)) = true then (idxP (toPy y) (toPys ys)).map fun j => .int (j : Nat) else none
  | _, _ => none
theorem xIdxP_ok : Ok2 xIdxP rIdxP := by
  intro x y d Q h q
  unfold xIdxP at h
  split at h
  · obtain ⟨c, h⟩ := ite_ok h; obtain ⟨j, hj, rfl⟩ := map_ok h; exact ⟨j, c.1, c.2.1, c.2.2.1, c.2.2.2, hj, q⟩
  · cases h
def t_split : XM C "str" "split" "str.split" := ⟨_, _, m_split, isStrB, fun d h => (by cases d <;> first | trivial | cases h), xSplit, xSplit_ok⟩
def t_join : XM C "str" "join" "str.join" := ⟨_, _, m_join, isStrB, fun d h => (by cases d <;> first | trivial | cases h), xJoin, xJoin_ok⟩
def t_pindex : XM C "list" "index" "list.index" := ⟨_, _, m_pindex, isLstB, fun d h => (by cases d <;> first | trivial | cases h), xIdxP, xIdxP_ok⟩
def t_tindex : XM C "tuple" "index" "tuple.index" := ⟨_, _, m_tindex, isTupKB, fun d h => (by
  cases d with
  | tup k xs => cases k <;> first | (exact True.intro) | cases h
  | _ => cases h), xIdxT, xIdxT_ok⟩
def xM (g : Dat → Bool) (p2 : Bool) (xa xb : XE) (f : X2) : XE := fun env => (xa env).bind fun p => if g p.1 = true then (xb p.2).bind fun q => if p2 = true ∨ isFz p.1 = true then (f p.1 q.1).map fun d => (d, q.2) else none else none
def de_m1 {T id name : String} {nm : Str} {apos cpos : Pos} (m : XM C T name id) (o' : DV C o) (a' : DV C e) (en : nm = (name : Str) := by rfl)
    (hbase : ∀ env, attributeBase o nm env (eval o env) = eval o env := by intro _; rfl)
    (hfew : ∀ env, ((backTo cpos (starEach [e] env)).all (fun x => !x.1) && (backToKw cpos (keywordEach [] env)).all (fun x => x.1.isSome)
      && decide (([e] : List Expr).length + ([] : List Keyword).length + (if ([] : List Keyword).isEmpty then 0 else 1) < 30)) = true := by intro _; rfl)
    (hline : (apos.endLine == cpos.line) = true := by rfl) (hs : ∀ env, starEach [e] env = (false, eval e env) :: starEach [] env := by intro _; rfl) (hplain : ∀ env, (backTo cpos (starEach [] env)).any (·.1) = false := by intro _; rfl) :
    DE C (.Call (.Attribute o nm apos) [e] [] cpos) := ⟨_, xM m.g a'.pr o'.x a'.x m.x, (je_m1 m.mt en o'.ok a'.ok hbase hfew hline hs hplain).imp fun env Q ⟨d, e1, h, q⟩ => by
  obtain ⟨⟨u, e2⟩, ha, h⟩ := bind_ok h
  obtain ⟨c, h⟩ := ite_ok h
  obtain ⟨⟨v, e3⟩, hb, h⟩ := bind_ok h
  obtain ⟨c2, h⟩ := ite_ok h
  obtain ⟨z, hz, h⟩ := map_ok h
  cases h
  exact ⟨u, e2, ha, m.hg _ c, v, e3, hb, c2.imp_right fun z => isFz_ok _ z, m.ok _ _ _ _ hz q⟩⟩
def xGet (p2 p3 : Bool) (xa xb xc : XE) : XE := fun env => (xa env).bind fun p => match p.1 with
  | .dct _ ks vs => (xb p.2).bind fun y => (xc y.2).bind fun z => if (keyIs y.1).isSome = true ∧ (p2 = true ∨ isFz p.1 = true) ∧ (p3 = true ∨ isFz p.1 = true) then some ((lookD ks vs y.1).getD z.1, z.2) else none
  | _ => none
def dv_get2 {apos cpos : Pos} (a' : DV C o) (b' : DV C b) (c' : DV C c) (m : ∀ X, M2 X o "get" apos b c cpos := by intro _; exact ⟨rfl, rfl, rfl, rfl⟩) : DV C (.Call (.Attribute o "get" apos) [b, c] [] cpos) := ⟨_, xGet b'.pr c'.pr a'.x b'.x c'.x, (jv_get2 a'.ok b'.ok c'.ok m).imp fun env Q ⟨d, e1, h, q⟩ => by
  obtain ⟨⟨u, e2⟩, ha, h⟩ := bind_ok h
  refine ⟨u, e2, ha, ?_⟩
  simp only at h
  split at h
  · obtain ⟨⟨y, e3⟩, hy, h⟩ := bind_ok h
    obtain ⟨⟨z, e4⟩, hz, h⟩ := bind_ok h
    obtain ⟨c, h⟩ := ite_ok h
    cases h
    obtain ⟨k, hk⟩ := Option.isSome_iff_exists.mp c.1
    exact ⟨_, _, _, rfl, y, e3, hy, z, e4, hz, k, hk, c.2.1.imp_right fun z => isFz_ok _ z, c.2.2.imp_right fun z => isFz_ok _ z, q⟩
  · cases h⟩
def xIsi (f : Dat → Option Bool) : X1 := fun x => (f x).map .bl
theorem xIsi_ok {f} : Ok1 (xIsi f) (rIsi f) := fun x d Q h q => by
  obtain ⟨b, hb, rfl⟩ := map_ok h
  exact ⟨b, hb, q⟩
def de_isi {x : Str} {u : Value} {cv : V} {f : Dat → Option Bool} {xp : Pos} (hi : Isi C u f) (hc : ClsV cv u) (hT : (C.mg x = none ∧ bootBuiltins x = some u ∧ x ≠ "__name__") ∨ C.mg x = some u) (hm : C.mg ("isinstance" : Str) = none) (a' : DV C a) (hgx : C.sc.names.lookup x = some .globalImplicit := by rfl) (hdx : (x == ("__debug__" : Str)) = false := by rfl)
    (hg : C.sc.names.lookup ("isinstance" : Str) = some .globalImplicit := by rfl)
    (hs : ∀ env, starEach [a, .Name x xp] env = (false, eval a env) :: starEach [.Name x xp] env := by intro _; rfl) (hpl : ∀ env, (backTo pos (starEach [.Name x xp] env)).any (·.1) = false := by intro _; rfl) :
    DE C (.Call (.Name "isinstance" p) [a, .Name x xp] [] pos) := ⟨_, x1 a'.x (xIsi f), (je_isi (q := p) hi hc hT hgx hdx hm hg a'.ok hs hpl).imp (x1_ok xIsi_ok)⟩
end
end
end M
namespace M
noncomputable section
open PySem PySem.Spec PyProof.Rows L2
section
variable {C : Ctx} {a b c o e iter elt kx vx tg : Expr} {es rest : List Expr} {pos p : Pos} {st : Stmt} {ss body : List Stmt}
def xgNm (i : Nat) : XG := fun d env => some (setE env i (some d))
def dg_name (i : Nat) {x : Str} (n : Nm C i x) : DG C (.Name x pos) := ⟨xgNm i, (jg_name n).imp fun d env Q ⟨e, h, q⟩ => by cases h; rw [setE_eq] at q; exact q⟩
def xgNil : XGs := fun ds env => match ds with | [] => some env | _ => none
def xgCons (g : XG) (gs : XGs) : XGs := fun ds env => match ds with | d :: r => (g d env).bind (gs r) | [] => none
def dgs_nil : DGs C [] := ⟨xgNil, jgs_nil.imp fun d env Q ⟨e, h, q⟩ => by
  unfold xgNil at h
  split at h
  · cases h; exact ⟨rfl, q⟩
  · cases h⟩
def dgs_cons (g : DG C e) (gs : DGs C es) (hs : ∀ env, (assignEach (e :: es) env).map (·.2) = assign e env :: (assignEach es env).map (·.2) := by intro _; rfl) : DGs C (e :: es) := ⟨xgCons g.x gs.x, (jgs_cons g.ok gs.ok hs).imp fun d env Q ⟨e, h, q⟩ => by
  unfold xgCons at h
  split at h
  · obtain ⟨e2, h1, h⟩ := bind_ok h
    exact ⟨_, _, rfl, e2, h1, e, h, q⟩
  · cases h⟩
def xgTup (n : Nat) (gs : XGs) : XG := fun d env => match d with | .tup _ xs => if xs.length = n then gs xs env else none | _ => none
def dg_tup (n : Nat) {kk : Nat} (gs : DGs C es) (hn : ∀ env, (assignEach es env).length = n := by intro _; rfl) (hst : ∀ env, (assignEach es env).findIdx? (·.1) = none := by intro _; rfl) (hh : C.hot = false := by rfl) : DG C (.Tuple es kk pos) := ⟨xgTup n gs.x, (jg_tup (hh := hh) gs.ok hn hst).imp fun d env Q ⟨e, h, q⟩ => by
  unfold xgTup at h
  split at h
  · obtain ⟨c, h⟩ := ite_ok h
    exact ⟨c, e, h, q⟩
  · cases h⟩
def xInL (a : XE) : XA := fun env => (a env).bind fun p => match p.1 with | .lst o xs => some (frzI o xs, p.2) | _ => none
def xInT (a : XE) : XA := fun env => (a env).bind fun p => match p.1 with | .tup _ xs => some (frzs xs, p.2) | _ => none
def di_lst (a' : DE C e) : DI C tg e := ⟨xInL a'.x, (ji_lst a'.ok).imp fun env Q ⟨d, e1, h, q⟩ => by
  obtain ⟨⟨u, e2⟩, ha, h⟩ := bind_ok h
  refine ⟨u, e2, ha, ?_⟩
  simp only at h
  split at h
  · cases h; exact ⟨_, _, rfl, q⟩
  · cases h⟩
def di_tup (a' : DE C e) : DI C tg e := ⟨xInT a'.x, (ji_tup a'.ok).imp fun env Q ⟨d, e1, h, q⟩ => by
  obtain ⟨⟨u, e2⟩, ha, h⟩ := bind_ok h
  refine ⟨u, e2, ha, ?_⟩
  simp only at h
  split at h
  · cases h; exact ⟨_, _, rfl, q⟩
  · cases h⟩
def xRng1 (a : XA) : XA := fun env => (a env).bind fun p => match p.1 with | [.int j] => if -(2 ^ 62) ≤ j ∧ j < 2 ^ 62 then some (rngD 0 j.toNat, p.2) else none | _ => none
def xRng2 (a : XA) : XA := fun env => (a env).bind fun p => match p.1 with | [.int i, .int j] => if -(2 ^ 62) ≤ i ∧ i < 2 ^ 62 ∧ -(2 ^ 62) ≤ j ∧ j < 2 ^ 62 then some (rngD i (j - i).toNat, p.2) else none | _ => none
def di_rng1 (hm : C.mg "range" = none) (a' : DA C [a]) (hg : C.sc.names.lookup ("range" : Str) = some .globalImplicit := by rfl) (hs : ∀ env, starEach [a] env = [(false, eval a env)] := by intro _; rfl) : DI C tg (.Call (.Name "range" p) [a] [] pos) := ⟨xRng1 a'.x, (ji_rng1 hg hm a'.ok hs).imp fun env Q ⟨d, e1, h, q⟩ => by
  obtain ⟨⟨u, e2⟩, ha, h⟩ := bind_ok h
  refine ⟨u, e2, ha, ?_⟩
  simp only at h
  split at h
  · obtain ⟨c, h⟩ := ite_ok h; cases h; exact ⟨_, rfl, c, q⟩
  · cases h⟩
def di_rng2 (hm : C.mg "range" = none) (a' : DA C [a, b]) (hg : C.sc.names.lookup ("range" : Str) = some .globalImplicit := by rfl) (hs : ∀ env, starEach [a, b] env = [(false, eval a env), (false, eval b env)] := by intro _; rfl) (hs2 : ∀ env, starEach [b] env = [(false, eval b env)] := by intro _; rfl) : DI C tg (.Call (.Name "range" p) [a, b] [] pos) := ⟨xRng2 a'.x, (ji_rng2 hg hm a'.ok hs hs2).imp fun env Q ⟨d, e1, h, q⟩ => by
  obtain ⟨⟨u, e2⟩, ha, h⟩ := bind_ok h
  refine ⟨u, e2, ha, ?_⟩
  simp only at h
  split at h
  · obtain ⟨c, h⟩ := ite_ok h; cases h; exact ⟨_, _, rfl, c, q⟩
  · cases h⟩
structure DTs (C : Ctx) (es : List Expr) where
  pr : Bool
  x : XT
  ok : JTs C pr es (xw x)
theorem JTs.imp {pr : Bool} {t t' : LT} (h : JTs C pr es t) (i : ∀ env Q, t' env Q → t env Q) : JTs C pr es t' := fun X g => PTs_imp (h X g) fun σ H Q ⟨F, fp, env, Qd, sl, ok, hw, q⟩ => ⟨F, fp, env, Qd, sl, ok, i _ _ hw, q⟩
def dts_nil : DTs C [] := ⟨_, fun env => some (true, env), jts_nil.imp fun env Q ⟨d, e1, h, q⟩ => by cases h; exact q⟩
def dts_one (a' : DT C a) : DTs C [a] := ⟨_, a'.x, jts_one a'.ok⟩
def xLcL (vs : List Nat) (g : XG) (t : XT) (w : XE) (ds : List Dat) : List Dat → Env → Option (List Dat × Env) :=
  List.rec (motive := fun _ => List Dat → Env → Option (List Dat × Env)) (fun acc e => some (acc, e))
    (fun d _ ih acc e => (g d (wipeX e vs)).bind fun e1 => (t e1).bind fun p => if p.1 = true then (w p.2).bind fun q => ih (acc ++ [frz q.1]) (wipeX q.2 vs) else ih acc (wipeX p.2 vs)) ds
theorem xLcL_cons {vs : List Nat} {g : XG} {t : XT} {w : XE} {d : Dat} {ds acc : List Dat} {e : Env} : xLcL vs g t w (d :: ds) acc e = (g d (wipeX e vs)).bind fun e1 => (t e1).bind fun p => if p.1 = true then (w p.2).bind fun q => xLcL vs g t w ds (acc ++ [frz q.1]) (wipeX q.2 vs) else xLcL vs g t w ds acc (wipeX p.2 vs) := rfl
def xLc (i : XA) (g : XG) (t : XT) (w : XE) (vs : List Nat) : XE := fun env => (i env).bind fun p => if p.1.length < sizeLine then (xLcL vs g t w p.1 [] p.2).map fun q => (.lst true q.1, q.2) else none
theorem xLcL_ok {vs : List Nat} {g : XG} {t : XT} {w : XE} : ∀ {ds acc : List Dat} {e : Env} {r : List Dat} {e' : Env} {Q : List Dat → Env → Prop}, xLcL vs g t w ds acc e = some (r, e') → Q r e' → lcD vs (xwG g) (xw t) (xw w) ds acc e Q
  | [], acc, e, r, e', Q, h, q => by cases h; exact q
  | d :: ds, acc, e, r, e', Q, h, q => by
    rw [xLcL_cons] at h
    simp only [wipeX_eq] at h
    obtain ⟨e1, h1, h⟩ := bind_ok h
    obtain ⟨⟨k, e2⟩, h2, h⟩ := bind_ok h
    refine ⟨e1, h1, k, e2, h2, ?_⟩
    cases k with
    | true =>
      obtain ⟨⟨y, e3⟩, h3, h⟩ := bind_ok h
      exact ⟨y, e3, h3, xLcL_ok h q⟩
    | false => exact xLcL_ok h q
theorem xLc_ok {i : XA} {vs : List Nat} {g : XG} {t : XT} {w : XE} : ∀ env Q, xw (xLc i g t w vs) env Q → wLc (xw i) (xwG g) (xw t) (xw w) vs env Q := by
  rintro env Q ⟨d, e1, h, q⟩
  obtain ⟨⟨u, e2⟩, ha, h⟩ := bind_ok h
  obtain ⟨c, h⟩ := ite_ok h
  obtain ⟨⟨r, e3⟩, hr, h⟩ := map_ok h
  cases h
  exact ⟨u, e2, ha, c, xLcL_ok hr q⟩
def de_lc {scope : Scope} (own : List (Str × Nat)) {ifs : List Expr} (i' : DI C tg iter) (g' : DG (C.blk scope own) tg) (t' : DTs (C.blk scope own) ifs) (e' : DE (C.blk scope own) elt) (okb : BlkOk C.N C.sc scope own := by exact blkOk_by rfl) (hs : ∀ env x, foldedSetIterable iter env x = pure x := by intro _ _; rfl) (hh : C.hot = false := by rfl) :
    DE C (.ListComp elt [⟨tg, iter, ifs, 0⟩] scope pos) := ⟨false, xLc i'.x g'.x t'.x e'.x (own.map (·.2)), (je_lc (hh := hh) i'.ok okb g'.ok t'.ok e'.ok hs).imp xLc_ok⟩
abbrev spX (f : List Dat → Option Dat) : SpF := fun ds Q => ∃ r, f ds = some r ∧ Q r
abbrev spXM (f : Dat → List Dat → Option (Dat × Dat)) : SpM := fun d ds Q => ∃ r d', f d ds = some (r, d') ∧ Q r d'
def xCall (a : XA) (f : List Dat → Option Dat) : XE := fun env => (a env).bind fun p => (f (frzs p.1)).map fun r => (r, p.2)
theorem xCall_ok {a : XA} {f : List Dat → Option Dat} : ∀ env Q, xw (xCall a f) env Q → wCall (xw a) (spX f) env Q := by
  rintro env Q ⟨d, e1, h, q⟩
  obtain ⟨⟨u, e2⟩, ha, h⟩ := bind_ok h
  obtain ⟨r, hr, h⟩ := map_ok h
  cases h
  exact ⟨u, e2, ha, _, hr, q⟩
def de_call {x : Str} {j : Nat} {f : List Dat → Option Dat} (F : FnF C x j (spX f)) (a' : DA C (e :: es)) (hj : j ≤ C.k := by exact Nat.le_of_ble_eq_true rfl) (hg : C.sc.names.lookup x = some .globalImplicit := by rfl) (hdb : (x == ("__debug__" : Str)) = false := by rfl)
    (he : ∀ env, starEach (e :: es) env = (false, eval e env) :: starEach es env := by intro _; rfl) (hpl : ∀ env, (backTo pos (starEach es env)).any (·.1) = false := by intro _; rfl) (hh : C.hot = false := by rfl) : DE C (.Call (.Name x p) (e :: es) [] pos) := ⟨_, xCall a'.x f, (je_call (hh := hh) F hj hg hdb a'.ok he hpl).imp xCall_ok⟩
def hasAt (i : Nat) (env : Env) : Bool := match getE env i with | some (some _) => true | _ => false
theorem hasAt_ok {i : Nat} {env : Env} (h : hasAt i env = true) : ∃ d, env[i]? = some (some d) := by
  unfold hasAt at h
  rw [getE_eq] at h
  split at h
  · exact ⟨_, by assumption⟩
  · cases h
def xCallM (i : Nat) (a : XA) (f : Dat → List Dat → Option (Dat × Dat)) : XE := fun env => if hasAt i env = true then (a env).bind fun p => (p.2[i]?).bind fun o => o.bind fun d => (f d (frzs p.1)).map fun r => (r.1, p.2.set i (some r.2)) else none
def de_callM {x y : Str} {j : Nat} (i : Nat) {yp : Pos} {f : Dat → List Dat → Option (Dat × Dat)} (F : FnM C x j (spXM f)) (a' : DA C es) (hj : j ≤ C.k := by exact Nat.le_of_ble_eq_true rfl) (hg : C.sc.names.lookup x = some .globalImplicit := by rfl) (hdb : (x == ("__debug__" : Str)) = false := by rfl) (hN : C.N[i]? = some y := by rfl) (hv : Vis C.sc y := by first | exact Or.inl rfl | exact Or.inr (Or.inl rfl) | exact Or.inr (Or.inr rfl)) (hd : (y == ("__debug__" : Str)) = false := by rfl) (hc : (y == ("__classdict__" : Str)) = false := by rfl)
    (he : ∀ env, starEach (.Name y yp :: es) env = (false, eval (.Name y yp) env) :: starEach es env := by intro _; rfl) (hpl : ∀ env, (backTo pos (starEach es env)).any (·.1) = false := by intro _; rfl) (hh : C.hot = false := by rfl) : DE C (.Call (.Name x p) (.Name y yp :: es) [] pos) := ⟨_, xCallM i a'.x f, (je_callM (hh := hh) F hj hg hdb hN hv hd hc a'.ok he hpl).imp fun env Q ⟨d, e1, h, q⟩ => by
  obtain ⟨c, h⟩ := ite_ok h
  obtain ⟨⟨u, e2⟩, ha, h⟩ := bind_ok h
  obtain ⟨o, ho, h⟩ := bind_ok h
  obtain ⟨z, rfl, h⟩ := bind_ok h
  obtain ⟨r, hr, h⟩ := map_ok h
  cases h
  exact ⟨hasAt_ok c, u, e2, ha, z, ho, r.1, r.2, hr, q⟩⟩
def xMeth (cl : Nat) (o : XE) (a : XA) (f : List Dat → Option Dat) : XE := fun env => (o env).bind fun p => match p.1 with | .obj _ k _ => if k = cl then (a p.2).bind fun q => (f (frz p.1 :: frzs q.1)).map fun r => (r, q.2) else none | _ => none
def xMethM (cl i : Nat) (a : XA) (f : Dat → List Dat → Option (Dat × Dat)) : XE := fun env => (env[i]?).bind fun o => match o with
  | some (.obj _ k _) => if k = cl then (a env).bind fun p => (p.2[i]?).bind fun o => o.bind fun d => (f d (frzs p.1)).map fun r => (r.1, p.2.set i (some r.2)) else none
  | _ => none
def de_methM {cl : Nat} (i : Nat) {y m : Str} {j : Nat} {f : Dat → List Dat → Option (Dat × Dat)} {apos yp : Pos} {pl : PySem.Env → Sem Bool} (F : MeM C cl m j (spXM f)) (a' : DA C (e :: es)) (hj : j ≤ C.k := by exact Nat.le_of_ble_eq_true rfl) (hN : C.N[i]? = some y := by rfl) (hv : Vis C.sc y := by first | exact Or.inl rfl | exact Or.inr (Or.inl rfl) | exact Or.inr (Or.inr rfl)) (hd : (y == ("__debug__" : Str)) = false := by rfl) (hc : (y == ("__classdict__" : Str)) = false := by rfl)
    (he : ∀ env, starEach (e :: es) env = (false, eval e env) :: starEach es env := by intro _; rfl) (hpl : ∀ env, (backTo pos (starEach es env)).any (·.1) = false := by intro _; rfl)
    (ht : ∀ env, eval (.Call (.Attribute (.Name y yp) m apos) (e :: es) [] pos) env = (do
      let ov ← eval (.Name y yp) env
      standAt apos.atName
      let (f, first) ← holding [ov] (getMethod ov m (pl env))
      callWith pos f first (backTo pos (starEach (e :: es) env)) (backToKw pos (keywordEach [] env))) := by intro _; rfl) (hh : C.hot = false := by rfl) :
    DE C (.Call (.Attribute (.Name y yp) m apos) (e :: es) [] pos) := ⟨_, xMethM cl i a'.x f, (je_methM (hh := hh) F hj hN hv hd hc a'.ok he hpl ht).imp fun env Q ⟨d, e1, h, q⟩ => by
  obtain ⟨o, ho, h⟩ := bind_ok h
  split at h
  · obtain ⟨c, h2⟩ := ite_ok h
    subst c
    obtain ⟨⟨u, e2⟩, ha, h3⟩ := bind_ok h2
    obtain ⟨o, ho2, h4⟩ := bind_ok h3
    obtain ⟨z, rfl, h5⟩ := bind_ok h4
    obtain ⟨r, hr, h6⟩ := map_ok h5
    cases h6
    exact ⟨⟨_, _, ho⟩, u, e2, ha, z, ho2, r.1, r.2, hr, q⟩
  · cases h⟩
def xMake (cl : Nat) (a : XA) (f : Dat → List Dat → Option (Dat × Dat)) : XE := fun env => (a env).bind fun p => (f (.obj true cl []) (frzs p.1)).bind fun r => if isNon r.1 = true then some (r.2, p.2) else none
def de_make {x : Str} {cl j : Nat} {f : Dat → List Dat → Option (Dat × Dat)} (F : MkM C x cl j (spXM f)) (a' : DA C (e :: es)) (hj : j + 1 ≤ C.k := by exact Nat.le_of_ble_eq_true rfl) (hg : C.sc.names.lookup x = some .globalImplicit := by rfl) (hdb : (x == ("__debug__" : Str)) = false := by rfl)
    (he : ∀ env, starEach (e :: es) env = (false, eval e env) :: starEach es env := by intro _; rfl) (hpl : ∀ env, (backTo pos (starEach es env)).any (·.1) = false := by intro _; rfl) (hh : C.hot = false := by rfl) : DE C (.Call (.Name x p) (e :: es) [] pos) := ⟨_, xMake cl a'.x f, (je_make (hh := hh) F hj hg hdb a'.ok he hpl).imp fun env Q ⟨d, e1, h, q⟩ => by
  obtain ⟨⟨u, e2⟩, ha, h⟩ := bind_ok h
  obtain ⟨r, hr, h⟩ := bind_ok h
  obtain ⟨c, h⟩ := ite_ok h
  cases h
  exact ⟨u, e2, ha, r.1, r.2, hr, c, q⟩⟩
end
end
end M
namespace M
noncomputable section
open PySem PySem.Spec PyProof.Rows L2
section
variable {C : Ctx} {a b c o e iter elt kx vx tg : Expr} {es rest : List Expr} {pos p : Pos} {st : Stmt} {ss body : List Stmt}
def xSkip : XS := fun env => some (.nx env)
def xSeq (a b : XS) : XS := fun env => (a env).bind fun o => match o with | .nx e => b e | .rt d e => some (.rt d e) | .bk e => some (.bk e) | .ct e => some (.ct e)
theorem xSeq_ok {a b : XS} : ∀ env k, xwS (xSeq a b) env k → wSeq (xwS a) (xwS b) env k := by
  rintro env k ⟨o, h, q⟩
  obtain ⟨o1, h1, h⟩ := bind_ok h
  refine ⟨o1, h1, ?_⟩
  cases o1 with
  | nx e => exact ⟨o, h, q⟩
  | rt d e => cases h; exact q
  | bk e => cases h; exact q
  | ct e => cases h; exact q
theorem xSkip_ok : ∀ env k, xwS xSkip env k → wNext env k := fun env k ⟨o, h, q⟩ => by cases h; exact q
def dss_nil : DSs C [] := ⟨xSkip, js_nil.imp xSkip_ok⟩
def dss_cons (a' : DS_ C st) (b' : DSs C ss) : DSs C (st :: ss) := ⟨xSeq a'.x b'.x, (js_cons a'.ok b'.ok).imp xSeq_ok⟩
def dss_one (a' : DS_ C st) : DSs C [st] := ⟨a'.x, js_one a'.ok⟩
def xNever : XS := fun _ => none
def ds_never : DS_ C st := ⟨xNever, js_never.imp fun env k ⟨o, h, q⟩ => by cases h⟩
def xDrop (a : XE) : XS := fun env => (a env).map fun p => .nx p.2
def ds_expr (a' : DV C e) (hs : ∀ env, swapsWith e none pos.line env = pure false := by intro _; rfl) : DS_ C (.Expr e pos) := ⟨xDrop a'.x, (js_expr a'.ok hs).imp fun env k ⟨o, h, q⟩ => by
  obtain ⟨⟨u, e2⟩, ha, h⟩ := map_ok h
  cases h
  exact ⟨u, e2, ha, q⟩⟩
def xRet (a : XE) : XS := fun env => (a env).map fun p => .rt p.1 p.2
def ds_ret (a' : DE C e) : DS_ C (.Return (some e) pos) := ⟨xRet a'.x, (js_ret a'.ok).imp fun env k ⟨o, h, q⟩ => by
  obtain ⟨⟨u, e2⟩, ha, h⟩ := map_ok h
  cases h
  exact ⟨u, e2, ha, q⟩⟩
def xMove (i : Nat) : XS := fun env => (env[i]?).bind fun o => o.map fun d => .rt d (env.set i none)
def ds_move (i : Nat) {x : Str} {pos' : Pos} (hN : C.N[i]? = some x := by rfl) (hv : Vis C.sc x := by first | exact Or.inl rfl | exact Or.inr (Or.inl rfl) | exact Or.inr (Or.inr rfl)) (hd : (x == ("__debug__" : Str)) = false := by rfl) (hc : (x == ("__classdict__" : Str)) = false := by rfl) : DS_ C (.Return (some (.Name x pos')) pos) := ⟨xMove i, (js_move hN hv hd hc).imp fun env k ⟨o, h, q⟩ => by
  obtain ⟨o2, h1, h⟩ := bind_ok h
  obtain ⟨z, rfl, h⟩ := map_ok h
  cases h
  exact ⟨_, h1, q⟩⟩
def xIfS (t : XT) (a b : XS) : XS := fun env => (t env).bind fun p => if p.1 = true then a p.2 else b p.2
def ds_if {x y : List Stmt} (t' : DT C c) (a' : DSs C x) (b' : DSs C y) : DS_ C (.If c x y pos) := ⟨xIfS t'.x a'.x b'.x, (js_if t'.ok a'.ok b'.ok).imp fun env k ⟨o, h, q⟩ => by
  obtain ⟨⟨u, e2⟩, ha, h⟩ := bind_ok h
  refine ⟨u, e2, ha, ?_⟩
  cases u with
  | true => exact ⟨o, h, q⟩
  | false => exact ⟨o, h, q⟩⟩
def xSet (i : Nat) (a : XE) : XS := fun env => (a env).map fun p => .nx (setE p.2 i (some p.1))
theorem xSet_ok {i : Nat} {a : XE} : ∀ env k, xwS (xSet i a) env k → wSet i (xw a) env k := fun env k ⟨o, h, q⟩ => by
  obtain ⟨⟨u, e2⟩, ha, h⟩ := map_ok h
  cases h
  rw [setE_eq] at q
  exact ⟨u, e2, ha, q⟩
def ds_set (i : Nat) {x : Str} {pos' : Pos} (n : Nm C i x) (a' : DE C e) (hs : ∀ env, env.scope = C.sc → swapsWith e (some (.Name x pos')) pos.line env = pure false := by intro _ _; rfl) : DS_ C (.Assign [.Name x pos'] e pos) := ⟨xSet i a'.x, (js_set n a'.ok hs).imp xSet_ok⟩
def ds_setLc (i : Nat) {y : Str} {py spos : Pos} {scope : Scope} (own : List (Str × Nat)) {ifs : List Expr} (n : Nm C i y) (i' : DI C tg iter) (g' : DG (C.blk scope own) tg) (t' : DTs (C.blk scope own) ifs) (e' : DE (C.blk scope own) elt)
    (hyl : C.sc.names.lookup y = some .local := by rfl) (okb : BlkOk C.N C.sc scope own := by exact blkOk_by rfl) 
    (hsw : ∀ env, env.scope = C.sc → swapsWith (.ListComp elt [⟨tg, iter, ifs, 0⟩] scope pos) (some (.Name y py)) spos.line env = pure true) (hs : ∀ env x, foldedSetIterable iter env x = pure x := by intro _ _; rfl) (hh : C.hot = false := by rfl) :
    DS_ C (.Assign [.Name y py] (.ListComp elt [⟨tg, iter, ifs, 0⟩] scope pos) spos) := ⟨xSet i (xLc i'.x g'.x t'.x e'.x (own.map (·.2))), (js_setLc (hh := hh) n hyl i'.ok okb g'.ok t'.ok e'.ok hsw hs).imp fun env k h => by
  obtain ⟨u, e2, ha, q⟩ := xSet_ok env k h
  exact xLc_ok env _ ⟨u, e2, ha, q⟩⟩
def xAsg (a : XE) (g : XG) : XS := fun env => (a env).bind fun p => (g (frz p.1) p.2).map .nx
def ds_asg (a' : DE C e) (g' : DG C tg) (hs : ∀ env, swapsWithSole [tg] e pos.line env = pure false := by intro _; rfl) (hw : ∀ env, swappedStores [tg] e env = pure none := by intro _; rfl) (h1 : ∀ env, (assignEach [tg] env).map (·.2) = [assign tg env] := by intro _; rfl) : DS_ C (.Assign [tg] e pos) := ⟨xAsg a'.x g'.x, (js_asg a'.ok g'.ok hs hw h1).imp fun env k ⟨o, h, q⟩ => by
  obtain ⟨⟨u, e2⟩, ha, h⟩ := bind_ok h
  obtain ⟨e3, h3, h⟩ := map_ok h
  cases h
  exact ⟨u, e2, ha, e3, h3, q⟩⟩
def xPar (i j : Nat) (a : XA) : XS := fun env => (a env).bind fun p => match p.1 with | [x, y] => some (.nx ((p.2.set i (some x)).set j (some y))) | _ => none
def xApp (i : Nat) (a : XE) : XS := fun env => (env[i]?).bind fun o => match o with
  | some (.lst _ _) => (a env).bind fun p => (p.2[i]?).bind fun o => match o with
    | some (.lst true xs) => if xs.length < sizeLine then some (.nx (p.2.set i (some (.lst true (xs ++ [p.1]))))) else none
    | _ => none
  | _ => none
def ds_app (i : Nat) {x : Str} {xp apos cpos : Pos} (a' : DE C e) (hN : C.N[i]? = some x := by rfl) (hv : Vis C.sc x := by first | exact Or.inl rfl | exact Or.inr (Or.inl rfl) | exact Or.inr (Or.inr rfl)) (hd : (x == ("__debug__" : Str)) = false := by rfl) (hc : (x == ("__classdict__" : Str)) = false := by rfl)
    (hbase : ∀ env, attributeBase (.Name x xp) "append" env (eval (.Name x xp) env) = eval (.Name x xp) env := by intro _; rfl)
    (hfew : ∀ env, ((backTo cpos (starEach [e] env)).all (fun x => !x.1) && (backToKw cpos (keywordEach [] env)).all (fun x => x.1.isSome)
      && decide (([e] : List Expr).length + ([] : List Keyword).length + (if ([] : List Keyword).isEmpty then 0 else 1) < 30)) = true := by intro _; rfl)
    (hline : (apos.endLine == cpos.line) = true := by rfl) (hs : ∀ env, starEach [e] env = (false, eval e env) :: starEach [] env := by intro _; rfl) (hplain : ∀ env, (backTo cpos (starEach [] env)).any (·.1) = false := by intro _; rfl)
    (hsw : ∀ env, swapsWith (.Call (.Attribute (.Name x xp) "append" apos) [e] [] cpos) none pos.line env = pure false := by intro _; rfl) : DS_ C (.Expr (.Call (.Attribute (.Name x xp) "append" apos) [e] [] cpos) pos) := ⟨xApp i a'.x, (js_app hN hv hd hc a'.ok hbase hfew hline hs hplain hsw).imp fun env k ⟨o, h, q⟩ => by
  obtain ⟨o2, h1, h⟩ := bind_ok h
  split at h
  · refine ⟨⟨_, _, h1⟩, ?_⟩
    obtain ⟨⟨u, e2⟩, ha, h2⟩ := bind_ok h
    refine ⟨u, e2, ha, ?_⟩
    obtain ⟨o3, h3, h4⟩ := bind_ok h2
    split at h4
    · obtain ⟨c, h5⟩ := ite_ok h4
      cases h5
      exact ⟨_, h3, c, q⟩
    · cases h4
  · cases h⟩
def xgIx (i : Nat) (a : XE) : XG := fun d env => (env[i]?).bind fun o => match o with
  | some (.lst _ _) => (a env).bind fun p => match p.1 with
    | .int n => (p.2[i]?).bind fun o => match o with
      | some (.lst true xs) => if isFzs xs = true then (ixN xs.length n).map fun j => p.2.set i (some (.lst true (xs.set j d))) else none
      | _ => none
    | _ => none
  | _ => none
def dg_ix (i : Nat) {x : Str} {xp : Pos} (b' : DV C b) (hN : C.N[i]? = some x := by rfl) (hv : Vis C.sc x := by first | exact Or.inl rfl | exact Or.inr (Or.inl rfl) | exact Or.inr (Or.inr rfl)) (hd : (x == ("__debug__" : Str)) = false := by rfl) (hc : (x == ("__classdict__" : Str)) = false := by rfl)
    (ha : ∀ env v, assign (.Subscript (.Name x xp) b pos) env v = (do
      let ov ← holding [v] (eval (.Name x xp) env)
      let iv ← holding [v, ov] (eval b env)
      standAt pos
      holding [v, ov, iv] (setItem ov iv v)
      release [v, ov, iv] []) := by intro _ _; rfl) : DG C (.Subscript (.Name x xp) b pos) := ⟨xgIx i b'.x, (jg_ix hN hv hd hc b'.ok ha).imp fun d env Q ⟨e, h, q⟩ => by
  obtain ⟨o2, h1, h⟩ := bind_ok h
  split at h
  · refine ⟨⟨_, _, h1⟩, ?_⟩
    obtain ⟨⟨u, e2⟩, ha, h2⟩ := bind_ok h
    refine ⟨u, e2, ha, ?_⟩
    simp only at h2
    split at h2
    · obtain ⟨o3, h3, h4⟩ := bind_ok h2
      split at h4
      · obtain ⟨c, h5⟩ := ite_ok h4
        obtain ⟨j, hj, h6⟩ := map_ok h5
        cases h6
        exact ⟨_, _, j, rfl, h3, isFzs_ok _ c, hj, q⟩
      · cases h4
    · cases h2
  · cases h⟩
def xFs (i : Nat) (g : Nat → Option Nat) (a : XE) : XS := fun env => (env[i]?).bind fun o => match o with
  | some (.obj _ c _) => if (g c).isSome = true then (a env).bind fun p => (p.2[i]?).bind fun o => match o with
    | some (.obj true c vs) => (g c).bind fun j => if vs.length < 1000 then (putAt vs j p.1).map fun vs' => .nx (p.2.set i (some (.obj true c vs'))) else none
    | _ => none else none
  | _ => none
def ds_fset (i : Nat) {x fn : Str} {xp apos : Pos} {gg : Nat → Option Nat} (hf : Fld C fn gg) (a' : DE C e) (hN : C.N[i]? = some x := by rfl) (hv : Vis C.sc x := by first | exact Or.inl rfl | exact Or.inr (Or.inl rfl) | exact Or.inr (Or.inr rfl)) (hd : (x == ("__debug__" : Str)) = false := by rfl) (hc : (x == ("__classdict__" : Str)) = false := by rfl)
    (hs : ∀ env, swapsWith e (some (.Attribute (.Name x xp) fn apos)) pos.line env = pure false := by intro _; rfl) : DS_ C (.Assign [.Attribute (.Name x xp) fn apos] e pos) := ⟨xFs i gg a'.x, (js_fset hf hN hv hd hc a'.ok hs).imp fun env k ⟨o, h, q⟩ => by
  obtain ⟨o2, h1, h⟩ := bind_ok h
  split at h
  · obtain ⟨c0, h⟩ := ite_ok h
    refine ⟨⟨_, _, _, h1, c0⟩, ?_⟩
    obtain ⟨⟨u, e2⟩, ha, h2⟩ := bind_ok h
    refine ⟨u, e2, ha, ?_⟩
    obtain ⟨o3, h3, h4⟩ := bind_ok h2
    split at h4
    · obtain ⟨j, hj, h5⟩ := bind_ok h4
      obtain ⟨c, h6⟩ := ite_ok h5
      obtain ⟨vs', hv, h7⟩ := map_ok h6
      cases h7
      exact ⟨_, _, j, vs', h3, hj, hv, c, q⟩
    · cases h4
  · cases h⟩
def xForL (g : XG) (b : XS) (ds : List Dat) : Env → Option Out :=
  List.rec (motive := fun _ => Env → Option Out) (fun e => some (.nx e))
    (fun d _ ih e => (g d e).bind fun e1 => (b e1).bind fun o => match o with | .nx e2 => ih e2 | .ct e2 => ih e2 | .bk e2 => some (.nx e2) | .rt d e2 => some (.rt d e2)) ds
theorem xForL_nil {g : XG} {b : XS} {e : Env} : xForL g b [] e = some (.nx e) := rfl
theorem xForL_cons {g : XG} {b : XS} {d : Dat} {ds : List Dat} {e : Env} : xForL g b (d :: ds) e = (g d e).bind fun e1 => (b e1).bind fun o => match o with | .nx e2 => xForL g b ds e2 | .ct e2 => xForL g b ds e2 | .bk e2 => some (.nx e2) | .rt d e2 => some (.rt d e2) := rfl
def xFor (i : XA) (g : XG) (b : XS) : XS := fun env => (i env).bind fun p => xForL g b p.1 p.2
theorem xForL_ok {g : XG} {b : XS} {k : SK} : ∀ {ds : List Dat} {e : Env} {o : Out}, xForL g b ds e = some o → o.fits k → forD (xwG g) (xwS b) ds e k
  | [], e, o, h, q => by cases h; exact q
  | d :: ds, e, o, h, q => by
    rw [xForL_cons] at h
    obtain ⟨e1, h1, h⟩ := bind_ok h
    obtain ⟨o1, h2, h⟩ := bind_ok h
    refine ⟨e1, h1, o1, h2, ?_⟩
    cases o1 with
    | nx e2 => exact xForL_ok (o := o) h q
    | ct e2 => exact xForL_ok (o := o) h q
    | bk e2 => cases h; exact q
    | rt d e2 => cases h; exact q
def ds_for (i' : DI C tg e) (g' : DG C tg) (b' : DSs C body) (hs : ∀ env x, foldedSetIterable e env x = pure x := by intro _ _; rfl) (hh : C.hot = false := by rfl) : DS_ C (.For tg e body [] pos) := ⟨xFor i'.x g'.x b'.x, (js_for (hh := hh) i'.ok g'.ok b'.ok hs).imp fun env k ⟨o, h, q⟩ => by
  obtain ⟨⟨u, e2⟩, ha, h⟩ := bind_ok h
  exact ⟨u, e2, ha, xForL_ok h q⟩⟩
def xWhileN (t : XT) (b : XS) (n : Nat) : Env → Option Out :=
  Nat.rec (motive := fun _ => Env → Option Out) (fun _ => none)
    (fun _ ih e => (t e).bind fun p => if p.1 = true then (b p.2).bind fun o => (match o with | .nx e2 => ih e2 | .ct e2 => ih e2 | .bk e2 => some (.nx e2) | .rt d e2 => some (.rt d e2)) else some (.nx p.2)) n
/-- more turns than anything here takes -/
@[irreducible] def fuel : Nat := 10 ^ 40
def xWhile (t : XT) (b : XS) : XS := xWhileN t b fuel
theorem xWhile_ok {t : XT} {b : XS} : ∀ env k, xwS (xWhile t b) env k → wWhile (xw t) (xwS b) env k := by
  rintro env k ⟨o, h, q⟩
  refine ⟨fun m e => ∃ o, xWhileN t b m e = some o ∧ o.fits k, ⟨fuel, o, h, q⟩, ?_⟩
  rintro m e ⟨o, h, q⟩
  cases m with
  | zero => cases h
  | succ n =>
    obtain ⟨⟨u, e1⟩, ht, h⟩ := bind_ok (show (t e).bind _ = _ from h)
    refine ⟨u, e1, ht, ?_⟩
    cases u with
    | false => cases h; exact q
    | true =>
      obtain ⟨o1, h1, h⟩ := bind_ok (show (b e1).bind _ = _ from h)
      refine ⟨o1, h1, ?_⟩
      cases o1 with
      | nx e2 => exact ⟨n, Nat.lt_succ_self n, o, h, q⟩
      | ct e2 => exact ⟨n, Nat.lt_succ_self n, o, h, q⟩
      | bk e2 => cases h; exact q
      | rt d e2 => cases h; exact q
def ds_while (t' : DT C c) (b' : DSs C body) : DS_ C (.While c body [] pos) := ⟨xWhile t'.x b'.x, (js_while t'.ok b'.ok).imp xWhile_ok⟩
def runF (np n : Nat) (x : XS) : List Dat → Option Dat := fun ds => if ds.length = np then (x (startE n ds)).bind fun o => match o with | .nx _ => some .non | .rt d _ => some d | _ => none else none
def runM (np n : Nat) (x : XS) : Dat → List Dat → Option (Dat × Dat) := fun d ds => if ds.length + 1 = np then (x (startE n (d :: ds))).bind fun o => match o with
  | .nx e => (e[0]?).bind fun o => o.map fun d' => (.non, d')
  | .rt r e => (e[0]?).bind fun o => o.map fun d' => (r, d')
  | _ => none else none
theorem runF_ok {np n : Nat} {x : XS} : ∀ ds Q, spX (runF np n x) ds Q → spOf np n (xwS x) ds Q := by
  rintro ds Q ⟨r, h, q⟩
  obtain ⟨c, h⟩ := ite_ok h
  obtain ⟨o, ho, h⟩ := bind_ok h
  refine ⟨c, o, ho, ?_⟩
  cases o with
  | nx e => cases h; exact q
  | rt d e => cases h; exact q
  | bk e => cases h
  | ct e => cases h
theorem runM_ok {np n : Nat} {x : XS} : ∀ d ds Q, spXM (runM np n x) d ds Q → spOfM np n (xwS x) d ds Q := by
  rintro d ds Q ⟨r, d', h, q⟩
  obtain ⟨c, h⟩ := ite_ok h
  obtain ⟨o, ho, h⟩ := bind_ok h
  refine ⟨c, o, ho, ?_⟩
  cases o with
  | nx e =>
    obtain ⟨o2, h1, h2⟩ := bind_ok h
    obtain ⟨z, rfl, h3⟩ := map_ok h2
    cases h3
    exact ⟨_, h1, q⟩
  | rt r e =>
    obtain ⟨o2, h1, h2⟩ := bind_ok h
    obtain ⟨z, rfl, h3⟩ := map_ok h2
    cases h3
    exact ⟨_, h1, q⟩
  | bk e => cases h
  | ct e => cases h
/-- a def of the top -/
structure FunAt (C : Ctx) (x qual : Str) (st : Stmt) (ps : List Str) : Prop where
  ex : ∃ f fd, Fun C.K x qual st f fd ∧ C.mg x = some (.ref f) ∧ Binds C.K fd ps []
/-- a method -/
structure MethAt (C : Ctx) (c : Nat) (m qual : Str) (st : Stmt) (ps : List Str) : Prop where
  ex : ∃ A f fd, C.mg (C.T.cn c) = some (.ref A) ∧ Cls C.K A ∧ Meth C.K A m f ∧ m ∉ C.T.fl c ∧ Fun C.K m qual st f fd ∧ Binds C.K fd ps []
structure MakeAt (C : Ctx) (x : Str) (c : Nat) (qual : Str) (st : Stmt) (ps : List Str) : Prop where
  ex : ∃ A f fd, C.mg x = some (.ref A) ∧ C.mg (C.T.cn c) = some (.ref A) ∧ Mk C.K A f ∧ Fun C.K "__init__" qual st f fd ∧ Binds C.K fd ps []
variable {x qual m : Str} {N ps : List Str} {cl : Nat}
theorem mk_fn (hz : C.gd = false) (k : Nat) (h : FunAt C x qual st ps) (S : FnScope N ps (defScope st)) (D : DSs (C.fn N (defScope st) k []) (defBody st)) : FnF C x (k + 1) (spX (runF ps.length N.length D.x)) := by
  obtain ⟨f, fd, F, hm, hb⟩ := h.ex
  exact ⟨f, fd, ps, hm, F.kp, hb, FnOk.imp (fnOkF hz F S D.ok) (spF_imp runF_ok)⟩
theorem mk_fnM (hz : C.gd = false) (k : Nat) (h : FunAt C x qual st ps) (S : FnScope N ps (defScope st)) (D : DSs (C.fn N (defScope st) k [0]) (defBody st)) : FnM C x (k + 1) (spXM (runM ps.length N.length D.x)) := by
  obtain ⟨f, fd, F, hm, hb⟩ := h.ex
  exact ⟨f, fd, ps, hm, F.kp, hb, FnOk.imp (fnOkM hz F S D.ok) (spM_imp runM_ok)⟩
theorem mk_meM (hz : C.gd = false) (k : Nat) (h : MethAt C cl m qual st ps) (S : FnScope N ps (defScope st)) (D : DSs (C.fn N (defScope st) k [0]) (defBody st)) : MeM C cl m (k + 1) (spXM (runM ps.length N.length D.x)) := by
  obtain ⟨A, f, fd, h1, h2, h3, h4, F, hb⟩ := h.ex
  exact ⟨A, f, fd, ps, h1, h2, h3, h4, hb, FnOk.imp (fnOkM hz F S D.ok) (spM_imp runM_ok)⟩
theorem mk_make (hz : C.gd = false) (k : Nat) (h : MakeAt C x cl qual st ps) (S : FnScope N ps (defScope st)) (D : DSs (C.fn N (defScope st) k [0]) (defBody st)) : MkM C x cl (k + 1) (spXM (runM ps.length N.length D.x)) := by
  obtain ⟨A, f, fd, h1, h2, h3, F, hb⟩ := h.ex
  exact ⟨A, f, fd, ps, h1, h2, h3, hb, FnOk.imp (fnOkM hz F S D.ok) (spM_imp runM_ok)⟩
end
end
end M
namespace M
noncomputable section
open PySem PySem.Spec PyProof.Rows L2
section
variable {C : Ctx} {a b c o e iter elt kx vx tg : Expr} {es rest : List Expr} {pos p : Pos} {st : Stmt} {ss body : List Stmt} {x : Str} {i k : Nat} {N : List Str} {sc scope : Scope} {own : List (Str × Nat)}
theorem nmF (hN : N[i]? = some x := by rfl) (hl : Loc sc x := by first | exact Or.inl rfl | exact Or.inr rfl) : Nm (C.fn N sc k []) i x := ⟨hN, hl, .inr rfl, by simp [Ctx.fn]⟩
theorem nmM (hN : N[i]? = some x := by rfl) (hl : Loc sc x := by first | exact Or.inl rfl | exact Or.inr rfl) (h0 : (i == 0) = false := by rfl) : Nm (C.fn N sc k [0]) i x := ⟨hN, hl, .inr rfl, by
  simp [Ctx.fn] at *
  exact h0⟩
theorem nmB (hN : C.N[i]? = some x := by rfl) (hl : Loc (relS scope C.sc) x := by first | exact Or.inl rfl | exact Or.inr rfl) (hf : (relS scope C.sc).names.lookup x = some .local ∨ (scope.names.lookup x == some .cell) = true := by first | exact Or.inl rfl | exact Or.inr rfl) (hi : (own.map (·.2)).contains i = true := by rfl) : Nm (C.blk scope own) i x :=
  ⟨hN, hl, hf, by
    intro z
    have z : i ∈ (List.range C.N.length).filter fun i => !(own.map (·.2)).contains i := z
    rw [List.mem_filter, hi] at z
    exact nomatch z.2⟩
def xEnumL (a : XE) : XA := fun env => (a env).bind fun p => match p.1 with | .lst o xs => some (enumD 0 (frzI o xs), p.2) | _ => none
def xEnumT (a : XE) : XA := fun env => (a env).bind fun p => match p.1 with | .tup _ xs => some (enumD 0 (frzs xs), p.2) | _ => none
def di_enumT {kk : Nat} {tpos : Pos} (hm : C.mg "enumerate" = none) (a' : DE C e) (hg : C.sc.names.lookup ("enumerate" : Str) = some .globalImplicit := by rfl) (hs : ∀ env, starEach [e] env = [(false, eval e env)] := by intro _; rfl) : DI C (.Tuple es kk tpos) (.Call (.Name "enumerate" p) [e] [] pos) := ⟨xEnumT a'.x, (ji_enumT hg hm a'.ok hs).imp fun env Q ⟨d, e1, h, q⟩ => by
  obtain ⟨⟨u, e2⟩, ha, h⟩ := bind_ok h
  refine ⟨u, e2, ha, ?_⟩
  simp only at h
  split at h
  · cases h; exact ⟨_, _, rfl, q⟩
  · cases h⟩
def xOf (a : XE) : XE := fun env => (a env).bind fun p => if isFz p.1 = true then some p else none
def xYes : XT := fun env => some (true, env)
def xRetN : XS := fun env => some (.rt .non env)
def xMax2 : X2 := xInt (fun _ _ => true) fun i j => .int (if j > i then j else i)
def xMin2 : X2 := xInt (fun _ _ => true) fun i j => .int (if j < i then j else i)
def fiB (T : String) : Dat → Option Bool := fun d => (tyN d).bind fun t => kitB t T
theorem Fld.fn {f : Str} {g : Nat → Option Nat} {pin : List Nat} (h : Fld C f g) : Fld (C.fn N sc k pin) f g := ⟨fun c i e => let ⟨a, b⟩ := h.ok c i e; ⟨a, ⟨b.cls, b.no, b.nd⟩⟩⟩
theorem Fld.blk {f : Str} {g : Nat → Option Nat} (h : Fld C f g) : Fld (C.blk scope own) f g := ⟨fun c i e => let ⟨a, b⟩ := h.ok c i e; ⟨a, ⟨b.cls, b.no, b.nd⟩⟩⟩
theorem Cn.fn {d : Dat} {pin : List Nat} (h : Cn C x d) : Cn (C.fn N sc k pin) x d := ⟨h.ex⟩
theorem Cn.blk {d : Dat} (h : Cn C x d) : Cn (C.blk scope own) x d := ⟨h.ex⟩
theorem Isi.fn {u : Value} {f : Dat → Option Bool} {pin : List Nat} (h : Isi C u f) : Isi (C.fn N sc k pin) u f := ⟨h.ok⟩
theorem Isi.blk {u : Value} {f : Dat → Option Bool} (h : Isi C u f) : Isi (C.blk scope own) u f := ⟨h.ok⟩
variable {qual m : Str} {ps : List Str} {cl : Nat} {xs : XS}
theorem mk_fn' (hz : C.gd = false) (k : Nat) (h : FunAt C x qual st ps) (S : FnScope N ps (defScope st)) (D : JSs (C.fn N (defScope st) k []) (defBody st) (xwS xs)) : FnF C x (k + 1) (spX (runF ps.length N.length xs)) := mk_fn hz k h S ⟨xs, D⟩
theorem mk_fnM' (hz : C.gd = false) (k : Nat) (h : FunAt C x qual st ps) (S : FnScope N ps (defScope st)) (D : JSs (C.fn N (defScope st) k [0]) (defBody st) (xwS xs)) : FnM C x (k + 1) (spXM (runM ps.length N.length xs)) := mk_fnM hz k h S ⟨xs, D⟩
theorem mk_meM' (hz : C.gd = false) (k : Nat) (h : MethAt C cl m qual st ps) (S : FnScope N ps (defScope st)) (D : JSs (C.fn N (defScope st) k [0]) (defBody st) (xwS xs)) : MeM C cl m (k + 1) (spXM (runM ps.length N.length xs)) := mk_meM hz k h S ⟨xs, D⟩
theorem mk_make' (hz : C.gd = false) (k : Nat) (h : MakeAt C x cl qual st ps) (S : FnScope N ps (defScope st)) (D : JSs (C.fn N (defScope st) k [0]) (defBody st) (xwS xs)) : MkM C x cl (k + 1) (spXM (runM ps.length N.length xs)) := mk_make hz k h S ⟨xs, D⟩
end
end
end M
namespace M
noncomputable section
open PySem PySem.Spec PyProof.Rows L2
section
variable {C : Ctx} {a b c o e iter elt kx vx tg tg1 : Expr} {es rest : List Expr} {pos p : Pos} {st : Stmt} {ss body : List Stmt}
def xNeg : X1 | .int i => some (.int (-i)) | _ => none
theorem xNeg_ok : Ok1 xNeg rNeg := by
  intro x d Q h q
  unfold xNeg at h
  unfold rNeg
  split at h
  · cases h; exact q
  · cases h
def de_neg (a' : DV C a) : DE C (.UnaryOp .USub a pos) := ⟨_, x1 a'.x xNeg, (je_neg a'.ok).imp (x1_ok xNeg_ok)⟩
def xOrL (a b : XE) : XE := fun env => (a env).bind fun p => (truB p.1).bind fun c => if c = true then some p else b p.2
def de_orL (a' : DE C a) (b' : DE C b) : DE C (.BoolOp .Or [a, b] pos) := ⟨_, xOrL a'.x b'.x, (je_orT a'.ok (je_one b'.ok)).imp fun env Q ⟨d, e1, h, q⟩ => by
  obtain ⟨⟨u, e2⟩, ha, h⟩ := bind_ok h
  obtain ⟨c, hc, h⟩ := bind_ok h
  refine ⟨u, e2, ha, truB_ok (Q := fun c => if c = true then Q u e2 else xw b'.x e2 Q) hc ?_⟩
  cases c with
  | true => cases h; exact q
  | false => exact ⟨d, e1, h, q⟩⟩
def xFmt : X1
  | .int i => if i.natAbs.log2 < 1920 then some (.str (toString i)) else none
  | .str y => if y.length ≤ sizeLine then some (.str y) else none
  | _ => none
theorem xFmt_ok : Ok1 xFmt rFmt := by
  intro x d Q h q
  unfold xFmt at h
  unfold rFmt
  split at h
  · obtain ⟨c, h⟩ := ite_ok h; cases h; exact ⟨c, q⟩
  · obtain ⟨c, h⟩ := ite_ok h; cases h; exact ⟨c, q⟩
  · cases h
def de_fmt {pos2 : Pos} (a' : DV C a) : DE C (.JoinedStr [.FormattedValue a (-1) none pos2] pos) := ⟨_, x1 a'.x xFmt, (je_fmt a'.ok).imp (x1_ok xFmt_ok)⟩
def de_dnew : DE C (.Dict [] [] pos) := ⟨true, xC (.dct true [] []), je_dnew.imp xC_ok⟩
def de_dnewT : DE C (.Dict [] [] pos) := ⟨true, xC (.dtt true [] []), je_dnewT.imp xC_ok⟩
def xFAug (i : Nat) (gg : Nat → Option Nat) (f : Int → Int → Int) (a : XE) : XS := fun env => (env[i]?).bind fun o => match o with
  | some (.obj _ c vs) => (gg c).bind fun j => (vs[j]?).bind fun x => match x with
    | .int n => (a env).bind fun p => match p.1 with
      | .int m => (p.2[i]?).bind fun o => match o with
        | some (.obj true c' vs') => if c' = c ∧ j < vs'.length ∧ vs'.length < 1000 then some (.nx (p.2.set i (some (.obj true c (vs'.set j (.int (f n m))))))) else none
        | _ => none
      | _ => none
    | _ => none
  | _ => none
def ds_faug {op : Operator} (f : Int → Int → Int) (i : Nat) {x fn : Str} {xp tpos : Pos} {gg : Nat → Option Nat} (hop : ∀ X, PIp X op (ipI f)) (hf : Fld C fn gg) (a' : DV C e) (hN : C.N[i]? = some x := by rfl) (hv : Vis C.sc x := by first | exact Or.inl rfl | exact Or.inr (Or.inl rfl) | exact Or.inr (Or.inr rfl)) (hd : (x == ("__debug__" : Str)) = false := by rfl) (hc : (x == ("__classdict__" : Str)) = false := by rfl) :
    DS_ C (.AugAssign (.Attribute (.Name x xp) fn tpos) op e pos) := ⟨xFAug i gg f a'.x, (js_faug hop hf hN hv hd hc a'.ok).imp fun env k ⟨o, h, q⟩ => by
  obtain ⟨o2, h1, h⟩ := bind_ok h
  split at h
  · obtain ⟨j, hj, h2⟩ := bind_ok h
    obtain ⟨x, hx, h3⟩ := bind_ok h2
    split at h3
    · refine ⟨_, _, _, j, _, h1, hj, hx, ?_⟩
      obtain ⟨⟨u, e2⟩, ha, h4⟩ := bind_ok h3
      refine ⟨u, e2, ha, ?_⟩
      simp only at h4
      split at h4
      · obtain ⟨o3, h5, h6⟩ := bind_ok h4
        split at h6
        · obtain ⟨c, h7⟩ := ite_ok h6
          cases h7
          obtain ⟨c1, c2, c3⟩ := c
          subst c1
          exact ⟨_, _, rfl, h5, c2, c3, q⟩
        · cases h6
      · cases h4
    · cases h3
  · cases h⟩
def xDput (i : Nat) (we wk : XE) : XS := fun env => (we env).bind fun p => if hasAt i p.2 = true then (wk p.2).bind fun y => (y.2[i]?).bind fun o => match o with
  | some (.dct true ks vs) => if (keyIs y.1).isSome = true ∧ isFzs vs = true ∧ ks.length < sizeLine then some (.nx (y.2.set i (some (.dct true (putKs ks y.1) (putVs ks vs y.1 (frz p.1)))))) else none
  | _ => none else none
def ds_dput (i : Nat) {x : Str} {xp pos' : Pos} (e' : DE C e) (b' : DV C b) (hN : C.N[i]? = some x := by rfl) (hv : Vis C.sc x := by first | exact Or.inl rfl | exact Or.inr (Or.inl rfl) | exact Or.inr (Or.inr rfl)) (hd : (x == ("__debug__" : Str)) = false := by rfl) (hc : (x == ("__classdict__" : Str)) = false := by rfl)
    (hs : ∀ env, swapsWith e (some (.Subscript (.Name x xp) b pos')) pos.line env = pure false := by intro _; rfl) : DS_ C (.Assign [.Subscript (.Name x xp) b pos'] e pos) := ⟨xDput i e'.x b'.x, (js_dput hN hv hd hc e'.ok b'.ok hs).imp fun env k ⟨o, h, q⟩ => by
  obtain ⟨⟨u, e1⟩, ha, h1⟩ := bind_ok h
  obtain ⟨c1, h1⟩ := ite_ok h1
  obtain ⟨⟨y, e2⟩, hy, h2⟩ := bind_ok h1
  obtain ⟨o3, h3, h4⟩ := bind_ok h2
  refine ⟨u, e1, ha, hasAt_ok c1, y, e2, hy, ?_⟩
  split at h4
  · obtain ⟨c, h5⟩ := ite_ok h4
    cases h5
    exact ⟨_, _, h3, c.1, isFzs_ok _ c.2.1, c.2.2, q⟩
  · cases h4⟩
def xGeT : X2 := fun x y => match x, y with
  | .tup _ [.str s, .int i], .tup _ [.str t, .int j] => some (.bl (if s = t then (if i = j then true else decide (j ≤ i)) else !decide (s.cps.toList < t.cps.toList)))
  | _, _ => none
theorem xGeT_ok : Ok2 xGeT rGeT := by
  intro x y d Q h q
  unfold xGeT at h
  split at h
  · cases h; exact q
  · cases h
def c_geT : XC C .GtE := ⟨_, _, cp_geT, xGeT, xGeT_ok⟩
def xIdxT2 : X2 := fun x y => match x with
  | .dtt _ ks vs => if (tkey y).isSome = true then lookT ks vs y else none
  | _ => none
theorem xIdxT2_ok : Ok2 xIdxT2 rIdxT2 := by
  intro x y d Q h q
  unfold xIdxT2 at h
  split at h
  · obtain ⟨c, h⟩ := ite_ok h
    obtain ⟨k, hk⟩ := Option.isSome_iff_exists.mp c
    exact ⟨_, k, hk, h, q⟩
  · cases h
def dv_idxT (a' : DV C a) (b' : DV C b) (hs : PlainIx b := by intro _ _; rfl) : DV C (.Subscript a b pos) := ⟨_, x2 b'.pr a'.x b'.x xIdxT2, (jv_idxT a'.ok b'.ok hs).imp (x2_ok xIdxT2_ok)⟩
def atD (i : Nat) (j : Int) (env : Env) : Option (List Dat × Nat × Dat) := (env[i]?).bind fun o => match o with
  | some (.lst true xs) => (ixN xs.length j).bind fun m => (xs[m]?).map fun x => (xs, m, x)
  | _ => none
theorem atD_ok {i : Nat} {j : Int} {env : Env} {xs : List Dat} {m : Nat} {x : Dat} (h : atD i j env = some (xs, m, x)) : env[i]? = some (some (.lst true xs)) ∧ ixN xs.length j = some m ∧ xs[m]? = some x := by
  obtain ⟨o, ho, h⟩ := bind_ok h
  split at h
  · obtain ⟨m', hm, h2⟩ := bind_ok h
    obtain ⟨x', hx, h3⟩ := map_ok h2
    cases h3
    exact ⟨ho, hm, hx⟩
  · cases h
def xDput2 (i : Nat) (j : Int) (we wk : XE) : XS := fun env => (we env).bind fun p => (atD i j p.2).bind fun _ => (wk p.2).bind fun y => (atD i j y.2).bind fun q => match q.2.2 with
  | .dtt true ks vs => if (tkey y.1).isSome = true ∧ isFzs vs = true ∧ ks.length < sizeLine then some (.nx (y.2.set i (some (.lst true (q.1.set q.2.1 (.dtt true (putTs ks y.1) (putTv ks vs y.1 (frz p.1)))))))) else none
  | _ => none
def ds_dput2 (i : Nat) {j : Int} {x : Str} {xp pos' ipos : Pos} {bj : Expr} (hj : CI C bj j) (e' : DE C e) (b' : DV C b) (hp : b'.pr = true := by rfl) (hN : C.N[i]? = some x := by rfl) (hv : Vis C.sc x := by first | exact Or.inl rfl | exact Or.inr (Or.inl rfl) | exact Or.inr (Or.inr rfl)) (hd : (x == ("__debug__" : Str)) = false := by rfl) (hc : (x == ("__classdict__" : Str)) = false := by rfl) (hpl : PlainIx bj := by intro _ _; rfl)
    (hs : ∀ env, swapsWith e (some (.Subscript (.Subscript (.Name x xp) bj ipos) b pos')) pos.line env = pure false := by intro _; rfl) : DS_ C (.Assign [.Subscript (.Subscript (.Name x xp) bj ipos) b pos'] e pos) := ⟨xDput2 i j e'.x b'.x, (js_dput2 hN hv hd hc hj hpl e'.ok (hp ▸ b'.ok) hs).imp fun env k ⟨o, h, q⟩ => by
  obtain ⟨⟨u, e1⟩, ha, h1⟩ := bind_ok h
  obtain ⟨⟨xs0, m0, x0⟩, h0, h1⟩ := bind_ok h1
  obtain ⟨⟨y, e2⟩, hy, h2⟩ := bind_ok h1
  obtain ⟨⟨xs, m, x⟩, h3, h4⟩ := bind_ok h2
  have k0 := atD_ok h0
  have k3 := atD_ok h3
  refine ⟨u, e1, ha, ⟨xs0, m0, x0, k0⟩, y, e2, hy, ?_⟩
  simp only at h4
  split at h4
  · obtain ⟨c, h5⟩ := ite_ok h4
    cases h5
    exact ⟨xs, m, _, _, k3.1, k3.2.1, k3.2.2, c.1, isFzs_ok _ c.2.1, c.2.2, q⟩
  · cases h4⟩
def slotK (i : Nat) (o : Bool) (env : Env) : Option (Dat × List Dat) := (env[i]?).bind fun z => z.bind fun d => (keysD d).bind fun p => if p.1 = o ∧ p.2.length < sizeLine then some (d, p.2) else none
theorem slotK_ok {i : Nat} {o : Bool} {env : Env} {d : Dat} {ks : List Dat} (h : slotK i o env = some (d, ks)) : env[i]? = some (some d) ∧ keysD d = some (o, ks) ∧ ks.length < sizeLine := by
  obtain ⟨z, hz, h1⟩ := bind_ok h
  obtain ⟨d', rfl, h2⟩ := bind_ok h1
  obtain ⟨⟨o', ks'⟩, hk, h3⟩ := bind_ok h2
  obtain ⟨c, h4⟩ := ite_ok h3
  cases h4
  obtain ⟨c1, c2⟩ := c
  simp only at c1
  subst c1
  exact ⟨hz, hk, c2⟩
def xLcK (i : Nat) (g : XG) (t : XT) (w : XE) (vs : List Nat) : XE := fun env => (slotK i false env).bind fun p => (xLcL vs g t w p.2 [] env).map fun q => (.lst true q.1, q.2)
def de_lcK (i : Nat) {x : Str} {xp : Pos} {scope : Scope} (own : List (Str × Nat)) {ifs : List Expr} (g' : DG (C.blk scope own) tg) (t' : DTs (C.blk scope own) ifs) (e' : DE (C.blk scope own) elt) (hN : C.N[i]? = some x := by rfl) (hv : Vis C.sc x := by first | exact Or.inl rfl | exact Or.inr (Or.inl rfl) | exact Or.inr (Or.inr rfl)) (hd : (x == ("__debug__" : Str)) = false := by rfl) (hc : (x == ("__classdict__" : Str)) = false := by rfl) (okb : BlkOk C.N C.sc scope own := by exact blkOk_by rfl)
    (hs : ∀ env z, foldedSetIterable (.Name x xp) env z = pure z := by intro _ _; rfl) (hh : C.hot = false := by rfl) : DE C (.ListComp elt [⟨tg, .Name x xp, ifs, 0⟩] scope pos) := ⟨false, xLcK i g'.x t'.x e'.x (own.map (·.2)), (je_lcK (hh := hh) hN hv hd hc okb g'.ok t'.ok e'.ok hs).imp fun env Q ⟨d, e1, h, q⟩ => by
  obtain ⟨⟨d, ks⟩, h1, h⟩ := bind_ok h
  obtain ⟨⟨r, e3⟩, hr, h⟩ := map_ok h
  cases h
  have z := slotK_ok h1
  exact ⟨d, ks, z.1, z.2.1, z.2.2, xLcL_ok hr q⟩⟩
def isEmp (i : Nat) (env : Env) : Bool := match env[i]? with | some none => true | _ => false
theorem isEmp_ok {i : Nat} {env : Env} (h : isEmp i env = true) : env[i]? = some none := by
  unfold isEmp at h
  split at h
  · assumption
  · cases h
def xLcKO (i : Nat) (g : XG) (t : XT) (w : XE) (vs : List Nat) : XE := fun env => (slotK i true env).bind fun p => (xLcL vs g t w p.2 [] (env.set i none)).bind fun q => if isEmp i q.2 = true then some (.lst true q.1, q.2.set i (some p.1)) else none
def de_lcKO (i : Nat) {x : Str} {xp : Pos} {scope : Scope} (own : List (Str × Nat)) {ifs : List Expr} (g' : DG (C.blk scope own) tg) (t' : DTs (C.blk scope own) ifs) (e' : DE (C.blk scope own) elt) (hN : C.N[i]? = some x := by rfl) (hv : Vis C.sc x := by first | exact Or.inl rfl | exact Or.inr (Or.inl rfl) | exact Or.inr (Or.inr rfl)) (hd : (x == ("__debug__" : Str)) = false := by rfl) (hc : (x == ("__classdict__" : Str)) = false := by rfl) (okb : BlkOk C.N C.sc scope own := by exact blkOk_by rfl)
    (hs : ∀ env z, foldedSetIterable (.Name x xp) env z = pure z := by intro _ _; rfl) (hh : C.hot = false := by rfl) : DE C (.ListComp elt [⟨tg, .Name x xp, ifs, 0⟩] scope pos) := ⟨false, xLcKO i g'.x t'.x e'.x (own.map (·.2)), (je_lcKO (hh := hh) hN hv hd hc okb g'.ok t'.ok e'.ok hs).imp fun env Q ⟨d, e1, h, q⟩ => by
  obtain ⟨⟨d, ks⟩, h1, h⟩ := bind_ok h
  obtain ⟨⟨r, e3⟩, hr, h⟩ := bind_ok h
  obtain ⟨c, h⟩ := ite_ok h
  cases h
  have z := slotK_ok h1
  exact ⟨d, ks, z.1, z.2.1, z.2.2, xLcL_ok (Q := fun acc e' => e'[i]? = some none ∧ Q (.lst true acc) (e'.set i (some d))) hr ⟨isEmp_ok c, q⟩⟩⟩
def xLcKI (i : Nat) (j : Int) (g : XG) (t : XT) (w : XE) (vs : List Nat) : XE := fun env => (atD i j env).bind fun p => (keysD p.2.2).bind fun k => if k.1 = true ∧ k.2.length < sizeLine then (xLcL vs g t w k.2 [] (env.set i none)).bind fun q => if isEmp i q.2 = true then some (.lst true q.1, q.2.set i (some (.lst true p.1))) else none else none
def de_lcKI (i : Nat) {j : Int} {x : Str} {xp ipos : Pos} {bj : Expr} {scope : Scope} (own : List (Str × Nat)) {ifs : List Expr} (hj : CI C bj j) (g' : DG (C.blk scope own) tg) (t' : DTs (C.blk scope own) ifs) (e' : DE (C.blk scope own) elt) (hN : C.N[i]? = some x := by rfl) (hv : Vis C.sc x := by first | exact Or.inl rfl | exact Or.inr (Or.inl rfl) | exact Or.inr (Or.inr rfl)) (hd : (x == ("__debug__" : Str)) = false := by rfl) (hc : (x == ("__classdict__" : Str)) = false := by rfl) (hpl : PlainIx bj := by intro _ _; rfl) (okb : BlkOk C.N C.sc scope own := by exact blkOk_by rfl)
    (hs : ∀ env z, foldedSetIterable (.Subscript (.Name x xp) bj ipos) env z = pure z := by intro _ _; rfl) (hh : C.hot = false := by rfl) : DE C (.ListComp elt [⟨tg, .Subscript (.Name x xp) bj ipos, ifs, 0⟩] scope pos) := ⟨false, xLcKI i j g'.x t'.x e'.x (own.map (·.2)), (je_lcKI (hh := hh) hN hv hd hc hj hpl okb g'.ok t'.ok e'.ok hs).imp fun env Q ⟨d, e1, h, q⟩ => by
  obtain ⟨⟨xs, m, d⟩, h1, h⟩ := bind_ok h
  obtain ⟨⟨o, ks⟩, hk, h⟩ := bind_ok h
  obtain ⟨c, h⟩ := ite_ok h
  obtain ⟨⟨r, e3⟩, hr, h⟩ := bind_ok h
  obtain ⟨c2, h⟩ := ite_ok h
  cases h
  have z := atD_ok h1
  obtain ⟨c0, c1⟩ := c
  simp only at c0
  subst c0
  exact ⟨xs, m, d, ks, z.1, z.2.1, z.2.2, hk, c1, xLcL_ok (Q := fun acc e' => e'[i]? = some none ∧ Q (.lst true acc) (e'.set i (some (.lst true xs)))) hr ⟨isEmp_ok c2, q⟩⟩⟩
def xDcL (vs : List Nat) (g : XG) (t : XT) (wk wv : XE) : List Dat → List Dat → List Dat → Env → Option (List Dat × List Dat × Env)
  | [], ks, xs, e => some (ks, xs, e)
  | d :: ds, ks, xs, e => (g d (wipeE e vs)).bind fun e1 => (t e1).bind fun p => if p.1 = true then (wk p.2).bind fun y => (wv y.2).bind fun z => if (keyIs y.1).isSome = true then xDcL vs g t wk wv ds (putKs ks y.1) (putVs ks xs y.1 (frz z.1)) (wipeE z.2 vs) else none else xDcL vs g t wk wv ds ks xs (wipeE p.2 vs)
theorem xDcL_ok {vs : List Nat} {g : XG} {t : XT} {wk wv : XE} : ∀ {ds ks xs : List Dat} {e : Env} {r1 r2 : List Dat} {e' : Env} {Q : List Dat → List Dat → Env → Prop}, xDcL vs g t wk wv ds ks xs e = some (r1, r2, e') → Q r1 r2 e' → dcD vs (xwG g) (xw t) (xw wk) (xw wv) ds ks xs e Q
  | [], _, _, _, _, _, _, _, h, q => by cases h; exact q
  | d :: ds, ks, xs, e, r1, r2, e', Q, h, q => by
    unfold xDcL at h
    obtain ⟨e1, h1, h⟩ := bind_ok h
    obtain ⟨⟨k, e2⟩, h2, h⟩ := bind_ok h
    refine ⟨e1, h1, k, e2, h2, ?_⟩
    cases k with
    | true =>
      obtain ⟨⟨y, e3⟩, h3, h⟩ := bind_ok h
      obtain ⟨⟨z, e4⟩, h4, h⟩ := bind_ok h
      obtain ⟨c, h⟩ := ite_ok h
      exact ⟨y, e3, h3, z, e4, h4, c, xDcL_ok h q⟩
    | false => exact xDcL_ok h q
def xDc (i : XA) (g : XG) (t : XT) (wk wv : XE) (vs : List Nat) : XE := fun env => (i env).bind fun p => if p.1.length < sizeLine then (xDcL vs g t wk wv p.1 [] [] p.2).map fun q => (.dct true q.1 q.2.1, q.2.2) else none
def de_dc {scope : Scope} (own : List (Str × Nat)) {ifs : List Expr} (i' : DI C tg iter) (g' : DG (C.blk scope own) tg) (t' : DTs (C.blk scope own) ifs) (k' : DV (C.blk scope own) kx) (e' : DE (C.blk scope own) vx) (okb : BlkOk C.N C.sc scope own := by exact blkOk_by rfl) (hs : ∀ env x, foldedSetIterable iter env x = pure x := by intro _ _; rfl) (hh : C.hot = false := by rfl) :
    DE C (.DictComp kx vx [⟨tg, iter, ifs, 0⟩] scope pos) := ⟨false, xDc i'.x g'.x t'.x k'.x e'.x (own.map (·.2)), (je_dc (hh := hh) i'.ok okb g'.ok t'.ok k'.ok e'.ok hs).imp fun env Q ⟨d, e1, h, q⟩ => by
  obtain ⟨⟨u, e2⟩, ha, h⟩ := bind_ok h
  obtain ⟨c, h⟩ := ite_ok h
  obtain ⟨⟨r1, r2, e3⟩, hr, h⟩ := map_ok h
  cases h
  exact ⟨u, e2, ha, c, xDcL_ok hr q⟩⟩
def xDcK (i : Nat) (g : XG) (t : XT) (wk wv : XE) (vs : List Nat) : XE := fun env => (slotK i false env).bind fun p => (xDcL vs g t wk wv p.2 [] [] env).map fun q => (.dct true q.1 q.2.1, q.2.2)
def de_dcK (i : Nat) {x : Str} {xp : Pos} {scope : Scope} (own : List (Str × Nat)) {ifs : List Expr} (g' : DG (C.blk scope own) tg) (t' : DTs (C.blk scope own) ifs) (k' : DV (C.blk scope own) kx) (e' : DE (C.blk scope own) vx) (hN : C.N[i]? = some x := by rfl) (hv : Vis C.sc x := by first | exact Or.inl rfl | exact Or.inr (Or.inl rfl) | exact Or.inr (Or.inr rfl)) (hd : (x == ("__debug__" : Str)) = false := by rfl) (hc : (x == ("__classdict__" : Str)) = false := by rfl) (okb : BlkOk C.N C.sc scope own := by exact blkOk_by rfl)
    (hs : ∀ env z, foldedSetIterable (.Name x xp) env z = pure z := by intro _ _; rfl) (hh : C.hot = false := by rfl) : DE C (.DictComp kx vx [⟨tg, .Name x xp, ifs, 0⟩] scope pos) := ⟨false, xDcK i g'.x t'.x k'.x e'.x (own.map (·.2)), (je_dcK (hh := hh) hN hv hd hc okb g'.ok t'.ok k'.ok e'.ok hs).imp fun env Q ⟨d, e1, h, q⟩ => by
  obtain ⟨⟨d, ks⟩, h1, h⟩ := bind_ok h
  obtain ⟨⟨r1, r2, e3⟩, hr, h⟩ := map_ok h
  cases h
  have z := slotK_ok h1
  exact ⟨d, ks, z.1, z.2.1, z.2.2, xDcL_ok hr q⟩⟩
def xLc2I (vs1 : List Nat) (g1 : XG) (w : XE) : List Dat → List Dat → Env → Option (List Dat × Env)
  | [], acc, e => some (acc, e)
  | x :: xs, acc, e => (g1 x (wipeE e vs1)).bind fun e2 => (w e2).bind fun q => if acc.length < sizeLine then xLc2I vs1 g1 w xs (acc ++ [frz q.1]) (wipeE q.2 vs1) else none
theorem xLc2I_ok {vs1 : List Nat} {g1 : XG} {w : XE} : ∀ {xs acc : List Dat} {e : Env} {r : List Dat} {e' : Env} {K : List Dat → Env → Prop}, xLc2I vs1 g1 w xs acc e = some (r, e') → K r e' → lc2I vs1 (xwG g1) (xw w) xs acc e K
  | [], _, _, _, _, _, h, q => by cases h; exact q
  | x :: xs, acc, e, r, e', K, h, q => by
    unfold xLc2I at h
    obtain ⟨e2, h2, h⟩ := bind_ok h
    obtain ⟨⟨y, e3⟩, h3, h⟩ := bind_ok h
    obtain ⟨c, h⟩ := ite_ok h
    exact ⟨e2, h2, y, e3, h3, c, xLc2I_ok h q⟩
def xLc2L (vs vs1 : List Nat) (j : Nat) (g1 : XG) (w : XE) : List Dat → List Dat → Env → Option (List Dat × Env)
  | [], acc, e => some (acc, e)
  | d :: ds, acc, e => (keysD d).bind fun k => if k.1 = false then (xLc2I vs1 g1 w k.2 acc ((wipeE e vs).set j (some d))).bind fun q => xLc2L vs vs1 j g1 w ds q.1 (wipeE q.2 vs) else none
theorem xLc2L_ok {vs vs1 : List Nat} {j : Nat} {g1 : XG} {w : XE} : ∀ {ds acc : List Dat} {e : Env} {r : List Dat} {e' : Env} {Q : List Dat → Env → Prop}, xLc2L vs vs1 j g1 w ds acc e = some (r, e') → Q r e' → (∀ d ∈ ds, ∃ ks, keysD d = some (false, ks)) ∧ lc2D vs vs1 j (xwG g1) (xw w) ds acc e Q
  | [], _, _, _, _, _, h, q => by cases h; exact ⟨fun _ z => (nomatch z), q⟩
  | d :: ds, acc, e, r, e', Q, h, q => by
    unfold xLc2L at h
    obtain ⟨⟨o, ks⟩, hk, h1⟩ := bind_ok h
    obtain ⟨c, h3⟩ := ite_ok h1
    obtain ⟨⟨acc', e2⟩, h2, h4⟩ := bind_ok h3
    simp only at c
    subst c
    have ih := xLc2L_ok h4 q
    refine ⟨fun x hx => ?_, ks, hk, xLc2I_ok h2 ih.2⟩
    rcases List.mem_cons.mp hx with rfl | hx
    · exact ⟨ks, hk⟩
    · exact ih.1 x hx
def xLc2K (i j : Nat) (vs vs1 : List Nat) (g1 : XG) (w : XE) : XE := fun env => (env[i]?).bind fun o => match o with
  | some (.lst false xs) => (xLc2L vs vs1 j g1 w xs [] env).map fun q => (.lst true q.1, q.2)
  | _ => none
def de_lc2K (i j : Nat) {x y : Str} {xp yp py : Pos} {scope : Scope} (own : List (Str × Nat)) (vs1 : List Nat) (g' : DG (C.blk1 scope own vs1) tg1) (e' : DE (C.blk1 scope own vs1) elt) (nj : Nm (C.blk scope own) j y) (hN : C.N[i]? = some x := by rfl) (hv : Vis C.sc x := by first | exact Or.inl rfl | exact Or.inr (Or.inl rfl) | exact Or.inr (Or.inr rfl)) (hd : (x == ("__debug__" : Str)) = false := by rfl) (hc : (x == ("__classdict__" : Str)) = false := by rfl) (okb : BlkOk C.N C.sc scope own := by exact blkOk_by rfl)
    (hv1 : ∀ i ∈ vs1, i ∈ own.map (·.2) := by decide) (hj : j ∈ own.map (·.2) := by decide) (hvy : Vis (relS scope C.sc) y := by first | exact Or.inl rfl | exact Or.inr (Or.inl rfl) | exact Or.inr (Or.inr rfl)) (hdy : (y == ("__debug__" : Str)) = false := by rfl) (hcy : (y == ("__classdict__" : Str)) = false := by rfl)
    (hs : ∀ env z, foldedSetIterable (.Name x xp) env z = pure z := by intro _ _; rfl) (hs1 : ∀ env z, foldedSetIterable (.Name y yp) env z = pure z := by intro _ _; rfl) (hh : C.hot = false := by rfl) :
    DE C (.ListComp elt [⟨.Name y py, .Name x xp, [], 0⟩, ⟨tg1, .Name y yp, [], 0⟩] scope pos) := ⟨false, xLc2K i j (own.map (·.2)) vs1 g'.x e'.x, (je_lc2K (hh := hh) hN hv hd hc okb hv1 nj hj hvy hdy hcy g'.ok e'.ok hs hs1).imp fun env Q ⟨d, e1, h, q⟩ => by
  obtain ⟨o, ho, h⟩ := bind_ok h
  split at h
  · obtain ⟨⟨r, e3⟩, hr, h2⟩ := map_ok h
    cases h2
    exact ⟨_, ho, xLc2L_ok hr q⟩
  · cases h⟩
end
end
end M
namespace M
noncomputable section
open PySem PySem.Spec PyProof.Rows L2
/-- isinstance(_, x), x the class c of ours -/
def fiO (c : Nat) : Dat → Option Bool
  | .obj _ k _ => some (decide (k = c))
  | .dtt _ _ _ => none
  | .dxt _ _ _ => none
  | .exn _ _ => none
  | _ => some false
structure IsiO (C : Ctx) (x : Str) (f : Dat → Option Bool) : Prop where
  ex : ∃ A, C.mg x = some (.ref A) ∧ Isi C (.ref A) f
section
variable {C : Ctx} {a e : Expr} {pos p : Pos} {scope sc : Scope} {own : List (Str × Nat)} {N : List Str} {k : Nat} {pin vs1 : List Nat} {x m : Str} {j c i : Nat}
theorem IsiO.fn {f : Dat → Option Bool} (h : IsiO C x f) : IsiO (C.fn N sc k pin) x f := let ⟨A, a, b⟩ := h.ex; ⟨A, a, b.fn⟩
theorem IsiO.blk {f : Dat → Option Bool} (h : IsiO C x f) : IsiO (C.blk scope own) x f := let ⟨A, a, b⟩ := h.ex; ⟨A, a, b.blk⟩
def de_isiO {x : Str} {f : Dat → Option Bool} {xp : Pos} (hi : IsiO C x f) (hm : C.mg ("isinstance" : Str) = none) (a' : DV C a) (hgx : C.sc.names.lookup x = some .globalImplicit := by rfl) (hdx : (x == ("__debug__" : Str)) = false := by rfl)
    (hg : C.sc.names.lookup ("isinstance" : Str) = some .globalImplicit := by rfl)
    (hs : ∀ env, starEach [a, .Name x xp] env = (false, eval a env) :: starEach [.Name x xp] env := by intro _; rfl) (hpl : ∀ env, (backTo pos (starEach [.Name x xp] env)).any (·.1) = false := by intro _; rfl) :
    DE C (.Call (.Name "isinstance" p) [a, .Name x xp] [] pos) := ⟨_, x1 a'.x (xIsi f), (by
      obtain ⟨A, h1, h2⟩ := hi.ex
      exact (je_isi (q := p) h2 (.own A) (.inr h1) hgx hdx hm hg a'.ok hs hpl).imp (x1_ok xIsi_ok))⟩
theorem FnF.blk1 {sp : SpF} (h : FnF C x j sp) : FnF (C.blk1 scope own vs1) x j sp := ⟨h.ex⟩
theorem MeF.blk1 {sp : SpF} (h : MeF C c x j sp) : MeF (C.blk1 scope own vs1) c x j sp := ⟨h.ex⟩
theorem Cn.blk1 {d : Dat} (h : Cn C x d) : Cn (C.blk1 scope own vs1) x d := ⟨h.ex⟩
theorem Fld.blk1 {f : Str} {g : Nat → Option Nat} (h : Fld C f g) : Fld (C.blk1 scope own vs1) f g := ⟨fun c i e => let ⟨a, b⟩ := h.ok c i e; ⟨a, ⟨b.cls, b.no, b.nd⟩⟩⟩
theorem nmB1 (hN : C.N[i]? = some x := by rfl) (hl : Loc (relS scope C.sc) x := by first | exact Or.inl rfl | exact Or.inr rfl) (hf : (relS scope C.sc).names.lookup x = some .local ∨ (scope.names.lookup x == some .cell) = true := by first | exact Or.inl rfl | exact Or.inr rfl) (hi : vs1.contains i = true := by rfl) : Nm (C.blk1 scope own vs1) i x :=
  ⟨hN, hl, hf, by
    intro z
    have z : i ∈ (List.range C.N.length).filter fun i => !vs1.contains i := z
    rw [List.mem_filter, hi] at z
    exact nomatch z.2⟩
/-- f(e, ..), e a new thing of nobody else's -/
def xCallT (w : XE) (a : XA) (f : Dat → List Dat → Option (Dat × Dat)) : XE := fun env => (w env).bind fun p => (a p.2).bind fun q => (f p.1 (frzs q.1)).map fun r => (r.1, q.2)
end
end
end M
namespace M
noncomputable section
open PySem PySem.Spec PyProof.Rows L2
section
variable {C : Ctx} {a b c o e iter elt kx vx tg tg1 : Expr} {es rest : List Expr} {pos p : Pos} {st : Stmt} {ss body : List Stmt}
theorem xDcK_ok {i : Nat} {vs : List Nat} {g : XG} {t : XT} {wk wv : XE} : ∀ env Q, xw (xDcK i g t wk wv vs) env Q → wDcK i (xwG g) (xw t) (xw wk) (xw wv) vs env Q := fun env Q ⟨d, e1, h, q⟩ => by
  obtain ⟨⟨d, ks⟩, h1, h2⟩ := bind_ok h
  obtain ⟨⟨r1, r2, e3⟩, hr, h3⟩ := map_ok h2
  cases h3
  have z := slotK_ok h1
  exact ⟨d, ks, z.1, z.2.1, z.2.2, xDcL_ok hr q⟩
def ds_setDcK (i j : Nat) {y x : Str} {py spos xp : Pos} {scope : Scope} (own : List (Str × Nat)) {ifs : List Expr} (n : Nm C i y) (g' : DG (C.blk scope own) tg) (t' : DTs (C.blk scope own) ifs) (k' : DV (C.blk scope own) kx) (e' : DE (C.blk scope own) vx)
    (hsw : ∀ env, env.scope = C.sc → swapsWith (.DictComp kx vx [⟨tg, .Name x xp, ifs, 0⟩] scope pos) (some (.Name y py)) spos.line env = pure true) (hyl : C.sc.names.lookup y = some .local := by rfl)
    (hN : C.N[j]? = some x := by rfl) (hv : Vis C.sc x := by first | exact Or.inl rfl | exact Or.inr (Or.inl rfl) | exact Or.inr (Or.inr rfl)) (hd : (x == ("__debug__" : Str)) = false := by rfl) (hc : (x == ("__classdict__" : Str)) = false := by rfl) (okb : BlkOk C.N C.sc scope own := by exact blkOk_by rfl) (hs : ∀ env z, foldedSetIterable (.Name x xp) env z = pure z := by intro _ _; rfl) (hh : C.hot = false := by rfl) :
    DS_ C (.Assign [.Name y py] (.DictComp kx vx [⟨tg, .Name x xp, ifs, 0⟩] scope pos) spos) := ⟨xSet i (xDcK j g'.x t'.x k'.x e'.x (own.map (·.2))), (js_setDcK (hh := hh) n hyl hN hv hd hc okb g'.ok t'.ok k'.ok e'.ok hsw hs).imp fun env k h => by
  obtain ⟨u, e2, ha, q⟩ := xSet_ok env k h
  exact xDcK_ok env _ ⟨u, e2, ha, q⟩⟩
end
end
end M
namespace M
noncomputable section
open PySem PySem.Spec PyProof.Rows L2
section
variable {C : Ctx} {a b c o e iter elt kx vx tg tg1 : Expr} {es rest : List Expr} {pos p : Pos}
instance : ∀ i j c n, Decidable (RgC i j c n) := fun i j c n => by unfold RgC; infer_instance
end
end
end M
namespace M
noncomputable section
open PySem PySem.Spec PyProof.Rows L2
/-- a def of the top as it lies in the written part -/
def DefIn (K : PySem.W.Frag) (x qual : Str) (st : Stmt) : Prop := ∃ (f : Addr) (fd : FuncData), Fun K x qual st f fd ∧ PySem.W.nsIn K mainGlobals x = some (some (.ref f))
/-- a class of the top, with names that it and its bases have not -/
def ClsIn (K : PySem.W.Frag) (x : Str) (A : Addr) : Prop := PySem.W.nsIn K mainGlobals x = some (some (.ref A)) ∧ Cls K A
/-- a method as it lies in the written part -/
def MethIn (K : PySem.W.Frag) (A : Addr) (m qual : Str) (st : Stmt) : Prop := ∃ (f : Addr) (fd : FuncData), Fun K m qual st f fd ∧ Meth K A m f
section
variable {C : Ctx} {h : Heap} {x qual m : Str} {st : Stmt} {ps : List Str} {A : Addr} {c : Nat}
theorem DefIn.funAt (X : C.K.In h) (G : h.Ns mainGlobals C.mg) (d : DefIn C.K x qual st) (hb : ∀ (kV doc pm : Value) (an : Option Addr) (cdv ct : Value) (us : List Value), us.length = ps.length → bindArgs (PySem.W.fnOf x qual (defArgs st) (defBody st) (defScope st) .none kV doc pm an cdv ct) ⟨us, []⟩ = pure (ps.zip us)) : FunAt C x qual st ps :=
  let ⟨f, fd, F, a⟩ := d
  ⟨f, fd, F, PySem.W.mg_of X G a, F.binds hb⟩
theorem MethIn.methAt (X : C.K.In h) (G : h.Ns mainGlobals C.mg) (k : ClsIn C.K x A) (e : C.T.cn c = x) (d : MethIn C.K A m qual st) (hn : m ∉ C.T.fl c) (hb : ∀ (kV doc pm : Value) (an : Option Addr) (cdv ct : Value) (us : List Value), us.length = ps.length → bindArgs (PySem.W.fnOf m qual (defArgs st) (defBody st) (defScope st) .none kV doc pm an cdv ct) ⟨us, []⟩ = pure (ps.zip us)) : MethAt C c m qual st ps :=
  let ⟨f, fd, F, a⟩ := d
  ⟨A, f, fd, by rw [e]; exact PySem.W.mg_of X G k.1, k.2, a, hn, F, F.binds hb⟩
theorem MethIn.makeAt (X : C.K.In h) (G : h.Ns mainGlobals C.mg) (k : ClsIn C.K x A) (e : C.T.cn c = x) (mk : PySem.W.makesIn C.K A = true) (kp : PySem.W.keepIn C.K (.ref A) = true) (d : MethIn C.K A "__init__" qual st) (hb : ∀ (kV doc pm : Value) (an : Option Addr) (cdv ct : Value) (us : List Value), us.length = ps.length → bindArgs (PySem.W.fnOf "__init__" qual (defArgs st) (defBody st) (defScope st) .none kV doc pm an cdv ct) ⟨us, []⟩ = pure (ps.zip us)) : MakeAt C x c qual st ps :=
  let ⟨f, fd, F, a⟩ := d
  ⟨A, f, fd, PySem.W.mg_of X G k.1, by rw [e]; exact PySem.W.mg_of X G k.1, ⟨mk, a.at_, a.fn, kp⟩, F, F.binds hb⟩
theorem ClsIn.ok (X : C.K.In h) (G : h.Ns mainGlobals C.mg) (k : ClsIn C.K x A) (e : C.T.cn c = x) (nd : (C.T.fl c).Nodup) (no : ∀ f ∈ C.T.fl c, NoAttr C.K A f) : ClsOk C c := by
  have q := PySem.W.mg_of X G k.1
  refine ⟨fun A' z => ?_, fun A' z => ?_, nd⟩ <;> (rw [e, q] at z; cases z)
  · exact k.2
  · exact no
/-- constants -/
theorem Cn.int {i : Int} {t : Tok} (X : C.K.In h) (G : h.Ns mainGlobals C.mg) (a : PySem.W.nsIn C.K mainGlobals x = some (some (.int i t))) : Cn C x (.int i) := ⟨.int i, _, PySem.W.mg_of X G a, ⟨_, rfl⟩, fun F H => .int _ fun _ z => z⟩
theorem Cn.str {i : Str} {t : Tok} (X : C.K.In h) (G : h.Ns mainGlobals C.mg) (a : PySem.W.nsIn C.K mainGlobals x = some (some (.str i t))) : Cn C x (.str i) := ⟨.str i, _, PySem.W.mg_of X G a, ⟨_, rfl⟩, fun F H => .str _ fun _ z => z⟩
end
end
end M
namespace M
noncomputable section
open PySem PySem.Spec PyProof.Rows L2
/-- plain values of a constant tuple, read against their data -/
def flatB : List Value → List Dat → Bool
  | [], [] => true
  | .str x _ :: us, .str y :: ds => x == y && flatB us ds
  | .int x _ :: us, .int y :: ds => x == y && flatB us ds
  | _, _ => false
theorem flat_ok {W : Wd} {F : AS} {H : Hp} : ∀ {us : List Value} {ds : List Dat}, flatB us ds = true → ∃ vs, Vals vs us ∧ Reps W F H NoA ds vs
  | [], [], _ => ⟨[], .nil, .nil fun _ z => z⟩
  | .str x t :: us, .str y :: ds, h => by
    simp only [flatB, Bool.and_eq_true, beq_iff_eq] at h
    obtain ⟨rfl, h⟩ := h
    obtain ⟨vs, a, b⟩ := flat_ok (W := W) (F := F) (H := H) h
    exact ⟨.str x :: vs, .cons ⟨_, rfl⟩ a, .cons (.str _ fun _ z => z) b (fun _ z => z.elim) fun _ => ⟨fun z => z.elim, fun z => z.elim id id⟩⟩
  | .int x t :: us, .int y :: ds, h => by
    simp only [flatB, Bool.and_eq_true, beq_iff_eq] at h
    obtain ⟨rfl, h⟩ := h
    obtain ⟨vs, a, b⟩ := flat_ok (W := W) (F := F) (H := H) h
    exact ⟨.int x :: vs, .cons ⟨_, rfl⟩ a, .cons (.int _ fun _ z => z) b (fun _ z => z.elim) fun _ => ⟨fun z => z.elim, fun z => z.elim id id⟩⟩
/-- a constant tuple as it lies in the written part -/
def TupIn (K : PySem.W.Frag) (x : Str) (ds : List Dat) : Prop := ∃ (a : Addr) (its : Array Value) (n : Nat) (sl : Array (Option Value)), PySem.W.nsIn K mainGlobals x = some (some (.ref a)) ∧ K.lookup a = some ⟨.type "tuple", none, .seq its n, sl⟩ ∧ its.size ≤ sizeLine ∧ flatB its.toList ds = true
section
variable {C : Ctx} {h : Heap} {x : Str} {A : Addr} {c : Nat}
theorem TupIn.cn {ds : List Dat} (X : C.K.In h) (G : h.Ns mainGlobals C.mg) (d : TupIn C.K x ds) : Cn C x (.tup .b ds) := by
  obtain ⟨a, its, n, sl, e, l, z, f⟩ := d
  obtain ⟨vs, r, _⟩ := flat_ok (W := C.W) (F := NoA) (H := fun _ => none) f
  refine ⟨.ref a, _, PySem.W.mg_of X G e, rfl, fun F H => ?_⟩
  obtain ⟨vs, r, q⟩ := flat_ok (W := C.W) (F := F) (H := H) f
  exact .tup (.inr ⟨_, its, n, l, rfl, rfl, z, r⟩) (.inr ⟨_, l, rfl, rfl⟩) q
/-- an object of this class bears its class openly -/
structure ObjTy (K : PySem.W.Frag) (A : Addr) : Prop where
  cl : Cls K A
  ha : PySem.W.findIn K (.ref A) "__class__" = some (some (.builtin "object.__class__"))
  hn : PySem.W.specialIn K (.builtin "object.__class__") "__get__" = some (some (.builtin "getset_descriptor.__get__"))
  htk : PySem.W.takesIn K (.builtin "object.__class__") = some true
  hm : PySem.W.mroIn K A (.type "object") = some true
/-- isinstance's answers for the class A -/
theorem kitB_of {K : PySem.W.Frag} (hc : PySem.W.isClsIn K A = true) (ht : PySem.W.typeIn K (.ref A) = some (.type "type")) : ∀ t ∈ ["NoneType", "bool", "int", "str", "tuple", "list", "dict"], PySem.W.kitOne K (.type t) (.ref A) = some false := by
  intro t h
  have e : ∀ t, PySem.W.kitOne K (.type t) (.ref A) = PySem.W.subIn K (.type t) (.ref A) := fun t => by
    show (if (Value.type t == Value.ref A) = true then some true else PySem.W.kitCls K (.type t) (.ref A)) = _
    rw [if_neg (by intro z; cases z)]
    unfold PySem.W.kitCls
    have hc' : (PySem.W.clsIn K A).isSome = true := hc
    simp only [hc', ht]
    rfl
  rw [e]
  simp only [List.mem_cons, List.not_mem_nil, or_false] at h
  rcases h with rfl | rfl | rfl | rfl | rfl | rfl | rfl <;> rfl
theorem kitO_of {K : PySem.W.Frag} {A' : Addr} (hc : PySem.W.isClsIn K A = true) (ht : PySem.W.typeIn K (.ref A) = some (.type "type")) (hA : PySem.W.mroIn K A (.ref A) = some true) (hm : PySem.W.mroIn K A' (.ref A) = some false) : PySem.W.kitOne K (.ref A') (.ref A) = some false := by
  have hc' : (PySem.W.clsIn K A).isSome = true := hc
  show (if (Value.ref A' == Value.ref A) = true then some true else PySem.W.kitCls K (.ref A') (.ref A)) = _
  rw [if_neg (by intro z; have z' := eq_of_beq z; cases z'; rw [hA] at hm; cases hm)]
  unfold PySem.W.kitCls
  simp only [hc', ht]
  exact hm
theorem kitS_of {K : PySem.W.Frag} : PySem.W.kitOne K (.ref A) (.ref A) = some true := by
  show (if (Value.ref A == Value.ref A) = true then some true else PySem.W.kitCls K (.ref A) (.ref A)) = _
  rw [if_pos (beq_self_eq_true _)]
end
end
end M
namespace M
noncomputable section
open PySem PySem.Spec PyProof.Rows L2
/-- a text, written as its signs -/
def de_strE {C : Ctx} {pos : Pos} {i j : Str} {n : Nat} (h : i = j) : DE C (.Constant (.str i) n pos) := ⟨true, xC (.str j), by subst h; exact je_str.imp xC_ok⟩
/-- the law's promise, the tables tb being there -/
def spLawT (K : PySem.W.Frag) (tb : List NdefX.NTab) : Sp := fun vs H Q _ => ∃ (a : Addr) (ns : List Int), vs = [.ref a] ∧ Scr K H a (ns.map V.int) ∧ (ns.length ≤ 63 ∧ TbOk tb H) ∧ ∀ H', Q (.bl true) H'
end
end M
namespace M
open PySem PySem.Spec PyProof.Rows L2
/-- a def's promise where no repr is under way -/
structure FnG (P : Program) (w : World) (K : PySem.W.Frag) (mg : Str → Option Value) (base : Heap) (k : Nat) (f : Addr) (fd : FuncData) (ps : List Str) (sp : Sp) : Prop where
  ln : ∀ vs H Q E, sp vs H Q E → vs.length = ps.length
  go : ∀ (A : Around) (out : List PySem.Env) (s : Shared) (H : Hp) (us : List Value) (vs : List V) (Q : VK) (E : XK), A.guards = some [] → Room k A → Env0 P w K mg base A out s H →
    BindsTo s fd ⟨us, []⟩ (ps.zip us) → Vals vs us → sp vs H Q E → codeAny (model P w) A (.call (.ref f) ⟨us, []⟩) (CR CX0 out P w H s Q E) s
section
variable {P : Program} {w : World} {K : PySem.W.Frag} {mg : Str → Option Value} {base : Heap} {k : Nat} {f : Addr} {fd : FuncData} {ps N : List Str} {sp : Sp} {x qual : Str} {st : Stmt}
/-- by its body -/
theorem fnG_ofc (F : Fun K x qual st f fd) (S : FnScope N ps (defScope st)) (len : ∀ vs H Q E, sp vs H Q E → vs.length = ps.length)
    (hb : ∀ (cdv : Value), fd.code = cdv → ∀ (A : Around) (out : List PySem.Env) (s : Shared) (H : Hp) (vs : List V) (Q : VK) (E : XK), A.guards = some [] → Room k (A.deeper (envOfC qual (defScope st) s.heap.objs.size f cdv)) → sp vs H Q E →
      ∃ t, PSs (cxOf CX0 P w K mg base N qual (defScope st) f cdv A out s H E).nox (defBody st) t ∧ t { nx := fun _ H' => Q .non H', rt := Q } (L2.start N vs) H) :
    FnG P w K mg base (k + 1) f fd ps sp := by
  obtain ⟨oc, od, kV, doc, pm, an, cdv, ct, osl, efd, lk, hcd⟩ := F.ex
  subst efd
  refine ⟨len, fun A out s H us vs Q E hg hr e0 bi rv hsp => ?_⟩
  have kin : K.In s.heap := e0.mod.kin.keeps fun b o e => (e0.bs b o e).1
  have nol : s.heap.NoLimit := e0.mod.nolimit.keeps fun b o e => (e0.bs b o e).1
  refine codeAny_call_function hr.depth (kin _ _ lk) rfl S.co S.gen rfl (PySem.W.codeRec_of kin hcd) (bi _ _ _ _ ?_)
  have kinds : ∀ y ∈ ps.zip us, (defScope st).names.lookup y.1 = some .local ∨ ((defScope st).names.lookup y.1 = some .cell ∧ ((cellsFrom (s.heap.objs.size + 1) (defScope st).names []).lookup y.1).isSome = true) := by
    intro y hy
    obtain ⟨n, v⟩ := y
    exact (S.par n (List.of_mem_zip hy).1).imp id fun q => ⟨q, PySem.W.cellsFrom_some _ _ _ (.inl q)⟩
  refine wpAny_newFunctionEnv_cells S.kind kinds fun env en s1 ic => ?_
  subst en
  refine ⟨nol.keeps ic.toInCall.keep, codeAny_func ?_⟩
  obtain ⟨t, ht, hq⟩ := hb cdv rfl A out s H vs Q E hg (hr.deeper _) hsp
  have I0 : Inv (cxOf CX0 P w K mg base N qual (defScope st) f cdv A out s H E) [] (L2.start N vs) H s1 := inv_start S hr.hd e0 (len _ _ _ _ hsp) rv ic
  have ht2 : PSs (cxOf CX0 P w K mg base N qual (defScope st) f cdv A out s H E) (defBody st) t := ht.nox
  refine wpAny_mono (ht2.run [] s1 (L2.start N vs) H _ I0 hq) (fun fl s' hs => ?_) fun e s' hs => hs
  cases fl with
  | ret u =>
    obtain ⟨v, σ', H', J, rv', q⟩ := hs
    exact ⟨v, H', J.os, J.bare, J.base, J.hok, rv', q⟩
  | next =>
    obtain ⟨σ', H', J, q⟩ := hs
    exact ⟨.non, H', J.os, J.bare, J.base, J.hok, rfl, q⟩
  | brk => obtain ⟨_, _, _, q⟩ := hs; exact q.elim
  | cont => obtain ⟨_, _, _, q⟩ := hs; exact q.elim
theorem fnG_of (F : Fun K x qual st f fd) (S : FnScope N ps (defScope st)) (len : ∀ vs H Q E, sp vs H Q E → vs.length = ps.length)
    (hb : ∀ (cdv : Value) (A : Around) (out : List PySem.Env) (s : Shared) (H : Hp) (vs : List V) (Q : VK) (E : XK), A.guards = some [] → Room k (A.deeper (envOfC qual (defScope st) s.heap.objs.size f cdv)) → sp vs H Q E →
      ∃ t, PSs (cxOf CX0 P w K mg base N qual (defScope st) f cdv A out s H E).nox (defBody st) t ∧ t { nx := fun _ H' => Q .non H', rt := Q } (L2.start N vs) H) :
    FnG P w K mg base (k + 1) f fd ps sp := fnG_ofc F S len fun cdv _ => hb cdv
end
section
variable {X : Cx} {pins : List (Addr × Obj)} {σ : L2.St} {H : Hp} {s : Shared} {k : Nat} {f : Addr} {fd : FuncData} {ps : List Str} {sp : Sp} {Q : VK} {e : Expr} {es : List Expr} {t : TA} {pos p : Pos} {x : Str}
theorem goG {us : List Value} {vs : List V} (F : FnG X.prog X.w X.K X.mg X.base k f fd ps sp) (hA : X.A.guards = some []) (hr : Room k X.A) (hb : Binds X.K fd ps []) (I : Inv X pins σ H s) (r : Vals vs us) (h : sp vs H Q E0) : wpAny (model X.prog X.w) X.A (call (.ref f) us) (EP X pins σ Q) X.xe s := by
  have hl : us.length = ps.length := by rw [← r.length]; exact F.ln _ _ _ _ h
  have bi := hb s us I.kIn (by rw [List.append_nil]; exact hl)
  rw [List.append_nil] at bi
  refine wpAny_call (codeAny_mono (F.go X.A X.stack s H us vs Q E0 hA hr I.env0 bi r h) ?_)
  intro r s' hq
  cases r with
  | error e => exact (show False from hq).elim
  | ok fl =>
    cases fl with
    | ret u => exact I.after hq
    | _ => exact (show False from hq).elim
/-- f(e, ..) of such a def -/
theorem pe_callG (F : FnG X.prog X.w X.K X.mg X.base k f fd ps sp) (hA : X.A.guards = some []) (hr : Room k X.A) (hg : Gl X x) (hm : X.mg x = some (.ref f)) (hk : PySem.W.keepIn X.K (.ref f) = true) (hb : Binds X.K fd ps [])
    (ha : PA X (e :: es) t) (hdb : (x == ("__debug__" : Str)) = false) (he : starEach (e :: es) X.env = (false, eval e X.env) :: starEach es X.env) (hpl : (backTo pos (starEach es X.env)).any (·.1) = false) :
    PE X (.Call (.Name x p) (e :: es) [] pos) fun σ H Q => t σ H fun vs H1 => sp vs H1 Q E0 := by
  constructor
  intro pins s σ H Q I h
  refine wpAny_Call_Name_kw (ld_glob I hg hm (PySem.W.callWith_K (h₀ := X.base) I.ok.mod.kin hk (thn (ha.run pos pins s σ H _ I h) ?_) he hpl) hdb)
  rintro us s1 ⟨vs, H1, I1, r, q⟩
  exact ⟨I1.kIn, goG F hA hr hb I1 r q⟩
end
end M
namespace M
open PySem PySem.Spec PyProof.Rows L2
structure FnGF (C : Ctx) (x : Str) (j : Nat) (sp : SpF) : Prop where
  ex : ∃ f fd ps, C.mg x = some (.ref f) ∧ PySem.W.keepIn C.K (.ref f) = true ∧ Binds C.K fd ps [] ∧ FnG C.P C.w C.K C.mg C.base j f fd ps (spF C.W sp)
structure FnGM (C : Ctx) (x : Str) (j : Nat) (sp : SpM) : Prop where
  ex : ∃ f fd ps, C.mg x = some (.ref f) ∧ PySem.W.keepIn C.K (.ref f) = true ∧ Binds C.K fd ps [] ∧ FnG C.P C.w C.K C.mg C.base j f fd ps (spM C.W sp)
section
variable {C : Ctx} {W : Wd} {pr p1 p2 p3 : Bool} {F F' F1 F2 : AS} {H H' H1 H2 : Hp} {fp fp' fe fe1 fe2 fd fd1 fd2 : AS} {σ : L2.St} {env env1 env2 : Env} {d d1 d2 : Dat} {v v1 v2 : V}
variable {a b c o e : Expr} {es : List Expr} {pos p : Pos} {wa wb wc : LE} {ta tb : LT} {ws : LA} {w : LS}
theorem FnF.ofNg {x : Str} {j : Nat} {sp : SpF} (h : FnF C.ng x j sp) : FnF C x j sp := ⟨h.ex⟩
theorem FnM.ofNg {x : Str} {j : Nat} {sp : SpM} (h : FnM C.ng x j sp) : FnM C x j sp := ⟨h.ex⟩
theorem MeM.ofNg {x : Str} {c j : Nat} {sp : SpM} (h : MeM C.ng c x j sp) : MeM C c x j sp := ⟨h.ex⟩
theorem MkM.ofNg {x : Str} {c j : Nat} {sp : SpM} (h : MkM C.ng x c j sp) : MkM C x c j sp := ⟨h.ex⟩
theorem FnGF.fn {x : Str} {j k : Nat} {sp : SpF} {N : List Str} {sc : Scope} {pin : List Nat} (h : FnGF C x j sp) : FnGF (C.fn N sc k pin) x j sp := ⟨h.ex⟩
theorem FnGF.blk {x : Str} {j : Nat} {sp : SpF} {sc : Scope} {own : List (Str × Nat)} (h : FnGF C x j sp) : FnGF (C.blk sc own) x j sp := ⟨h.ex⟩
theorem FnGM.fn {x : Str} {j k : Nat} {sp : SpM} {N : List Str} {sc : Scope} {pin : List Nat} (h : FnGM C x j sp) : FnGM (C.fn N sc k pin) x j sp := ⟨h.ex⟩
theorem FnGM.blk {x : Str} {j : Nat} {sp : SpM} {sc : Scope} {own : List (Str × Nat)} (h : FnGM C x j sp) : FnGM (C.blk sc own) x j sp := ⟨h.ex⟩
theorem Gd.fng {X : Cx} (g : Gd C X) {j : Nat} {f : Addr} {fd : FuncData} {ps : List Str} {sp : Sp} (F : FnG C.P C.w C.K C.mg C.base j f fd ps sp) : FnG X.prog X.w X.K X.mg X.base j f fd ps sp := by
  rw [g.prog, g.w, g.K, g.mg, g.base]; exact F
theorem je_callGT {x : Str} {j : Nat} {sp : SpM} {w : LE} (f : FnGM C x j sp) (hq : C.gd = true) (hj : j ≤ C.k) (hg : C.sc.names.lookup x = some .globalImplicit) (hdb : (x == ("__debug__" : Str)) = false) (h0 : JE C p1 e w)
    (ha : JA C p2 es ws) (he : ∀ env, starEach (e :: es) env = (false, eval e env) :: starEach es env) (hpl : ∀ env, (backTo pos (starEach es env)).any (·.1) = false) (hh : C.hot = false := by rfl) : JE C false (.Call (.Name x p) (e :: es) [] pos) (wCallT w ws sp) := fun X g => by
  obtain ⟨f, fd, ps, hm, hk, hb, F⟩ := f.ex
  refine PE_imp (pe_callG (g.fng F) (g.gu hq) (g.roomM hh hj) (gl_of g hg) (by rw [g.mg]; exact hm) (by rw [g.K]; exact hk) (by rw [g.K]; exact hb) (pa_cons (h0 X g) (ha X g) (he _)) hdb (he _) (hpl _)) ?_
  rintro σ H Q ⟨F, fp, env, Qd, sl, ok, hw, q⟩
  refine ⟨F, fp, env, _, sl, ok, hw, fun d env1 F1 H1 fe1 f1 v0 hd P1 => ?_⟩
  have ok1 : Ok C.W F1 H1 fe1 := P1.st.ok.sub fun _ => .inl
  refine ⟨F1, fe1, env1, _, P1.sl, ok1, hd, fun ds env2 F2 H2 fe2 f2 vs hd2 P2 => ?_⟩
  have k := P2.freeze
  have fr := k.2.2.frame (g := f1) (P1.st.ok.sub fun _ => .inr) P1.dj
  have r0 := P1.rep.step k.2.2 ok1 fun a z q => P1.dj a q z
  refine ⟨_, f1, d, frzs ds, v0, vs, _, rfl, r0, k.2.1, fr.1.ok.sub fun _ => .inr, hd2, fun r d' F3 H3 f' fr' v hr r1 rr dj st => ?_⟩
  have fr3 := st.frame (g := fe2) k.2.2.ok fun a z q => fr.2 a q z
  have s3 := k.1.mono st.fx (st.keepR (fr.1.ok.sub fun _ => .inr) fun a z q => fr.2 a z q)
  refine q r env2 F3 H3 fe2 fr' v hr ⟨s3, rr, fun a z q => fr3.2 a (.inr q) z, ((P1.st.trans fr.1).trans (fr3.1.lft fun a z => z.symm)).sub fun a z => ?_, fun z => nomatch z⟩
  rcases z with z | z
  · exact .inr z
  · exact .inl (.inr z)
theorem fnGF {x qual : Str} {st : Stmt} {f : Addr} {fd : FuncData} {N ps : List Str} {k : Nat} (F : Fun C.K x qual st f fd) (S : FnScope N ps (defScope st)) (h : JSs (C.fn N (defScope st) k []) (defBody st) w) :
    FnG C.P C.w C.K C.mg C.base (k + 1) f fd ps (spF C.W (spOf ps.length N.length w)) := by
  refine fnG_of F S ?_ ?_
  · rintro vs H Q E ⟨F', ds, Qd, r, fl, sp, q⟩
    rw [← r.length]; exact sp.1
  · rintro cdv A out s H vs Q E hg hr ⟨F', ds, Qd, r, fl, sp, q⟩
    refine ⟨_, h _ (gd_def [] (fun _ => hg) S hr), F', NoA, _, _, ?_, ok_no fl, sp.2, ⟨?_, ?_, ?_, ?_⟩⟩
    · rw [start_eq, ← r.length]; exact sl_start _ r
    · exact fun env F2 H2 fe σ' hk s => q .non F2 H2 NoA .non hk rep_non (s.st.sub fun _ z => z.elim)
    · exact fun d env F2 H2 fe fd v σ' hk s => q d F2 H2 fd v hk s.rep (s.st.sub fun _ => .inr)
    · exact fun _ _ _ _ _ hk => hk.elim
    · exact fun _ _ _ _ _ hk => hk.elim
end
end M
namespace M
open PySem PySem.Spec PyProof.Rows L2
mutual
theorem noDict : ∀ d : Dat, isPy d = true → (toPy d).hasDict = false
  | .non, _ => rfl
  | .bl _, _ => rfl
  | .int _, _ => rfl
  | .str _, _ => rfl
  | .tup _ xs, h => by
    simp only [toPy, PyData.hasDict]
    exact noDicts xs h
  | .lst _ xs, h => by
    simp only [toPy, PyData.hasDict]
    exact noDicts xs h
  | .dct _ _ _, h => nomatch h
  | .dtt _ _ _, h => nomatch h
  | .dxt _ _ _, h => nomatch h
  | .obj _ _ _, h => nomatch h
  | .scr _, h => nomatch h
  | .exn _ _, h => nomatch h
theorem noDicts : ∀ ds : List Dat, isPys ds = true → PyData.hasDictAll (toPys ds) = false
  | [], _ => rfl
  | d :: ds, h => by
    have h' : (isPy d && isPys ds) = true := h
    rw [Bool.and_eq_true] at h'
    simp only [toPys, PyData.hasDictAll, noDict d h'.1, noDicts ds h'.2, Bool.or_false]
end
theorem shaped_depth {d : PyData} (h : SeqAt.shaped d = true) : d.depth ≤ 64 := by
  have h' : (d.canLay0 && decide (d.depth ≤ 64)) = true := h
  rw [Bool.and_eq_true] at h'
  exact of_decide_eq_true h'.2
section
variable {X : Cx}
theorem call_reprD (hA : X.A.guards = some []) (hu : X.A.units + 70 < cLine) : CallR X (.builtin "repr") (fun vs H Q => ∃ x d, vs = [x] ∧ Dp X.K H x d ∧ d.depth ≤ 64 ∧ d.showable = true ∧ d.hasDict = false ∧ d.shown.length ≤ sizeLine ∧ Q (.str d.shown) H) := by
  intro pins s σ H xs us Q I r h
  obtain ⟨x, d, rfl, hd, sh, sw, nd, hz, q⟩ := h
  obtain ⟨u, rfl, rv⟩ := vals1 r
  obtain ⟨as, rd⟩ := Dp.reads I d x u hd rv
  have ref : ∀ a, u = .ref a → wpAny (model X.prog X.w) X.A (call (.builtin "repr") [u]) (EP X pins σ Q) X.xe s := by
    rintro a rfl
    exact repr_of_reads' rd sw (fun e => by rw [nd] at e; cases e) hA (by omega) (fun _ _ e => e) (fun h' t tk k => ⟨.str _, H, I.kept (t' := tk) k, ⟨_, rfl⟩, q⟩) hz
  cases hd with
  | non =>
    obtain rfl : u = .none := rv
    exact PySem.P.repr_of_none ⟨.str _, H, I.tok _, ⟨_, rfl⟩, q⟩
  | bl b =>
    obtain rfl : u = .bool b := rv
    exact PySem.P.repr_of_bool ⟨.str _, H, I.tok _, ⟨_, rfl⟩, q⟩
  | int i =>
    obtain ⟨t, rfl⟩ := rv
    exact PySem.P.repr_of_int (of_decide_eq_true sw) ⟨.str _, H, I.tok _, ⟨_, rfl⟩, q⟩
  | str i =>
    obtain ⟨t, rfl⟩ := rv
    exact PySem.P.repr_of_str ⟨.str _, H, I.tok _, ⟨_, rfl⟩, q⟩ hz
  | lst s r => exact ref _ rv
  | tup s r => exact ref _ rv
end
section
variable {C : Ctx} {W : Wd} {pr p1 p2 p3 : Bool} {F F' F1 F2 : AS} {H H' H1 H2 : Hp} {fp fp' fe fe1 fe2 fd fd1 fd2 : AS} {σ : L2.St} {env env1 env2 : Env} {d d1 d2 : Dat} {v v1 v2 : V}
variable {a b c o e : Expr} {es : List Expr} {pos p : Pos} {wa wb wc : LE}
/-- a call rule for one argument, with what is known around -/
def Cl1r (C : Ctx) (f : Value) (r : Dat → (Dat → Prop) → Prop) : Prop := ∃ r1 : PySem.W.Frag → V → Hp → VK → Prop, (∀ X, Gd C X → CallR X f (fun vs H Q => ∃ x, vs = [x] ∧ r1 X.K x H Q)) ∧ Op1 C.W (r1 C.K) r
theorem je_b1r {x : Str} {id : String} {w : LE} {r : Dat → (Dat → Prop) → Prop} (o : Cl1r C (.builtin id) r) (hm : C.mg x = none) (hv : bootBuiltins x = some (.builtin id)) (hg : C.sc.names.lookup x = some .globalImplicit) (ha : JV C pr a w)
    (hn : x ≠ "__name__") (hdb : (x == ("__debug__" : Str)) = false) (hs : ∀ env, starEach [a] env = (false, eval a env) :: starEach [] env) (hpl : ∀ env, (backTo pos (starEach [] env)).any (·.1) = false) : JE C pr (.Call (.Name x p) [a] [] pos) (w1 w r) := fun X g => by
  obtain ⟨r1, hc, ho⟩ := o
  refine PE_imp (pe_callB (hc X g) (gl_of g hg) (by rw [g.mg]; exact hm) hv (pa_cons (ha X g) pa_nil (hs _)) hn hdb (hs _) (hpl _)) fun σ H Q h => ?_
  rw [g.K]
  exact sp1 (X := X) (lift1 ho h)
def rRepr (x : Dat) (Q : Dat → Prop) : Prop := isPy x = true ∧ SeqAt.shaped (toPy x) = true ∧ (toPy x).showable = true ∧ (toPy x).shown.length ≤ sizeLine ∧ Q (.str (toPy x).shown)
theorem cl_repr (hq : C.gd = true) : Cl1r C (.builtin "repr") rRepr := by
  refine ⟨fun K x H Q => ∃ d, Dp K H x d ∧ d.depth ≤ 64 ∧ d.showable = true ∧ d.hasDict = false ∧ d.shown.length ≤ sizeLine ∧ Q (.str d.shown) H, fun X g => ?_, ?_⟩
  · intro pins s σ H xs us Q I r h
    obtain ⟨x, rfl, d, h⟩ := h
    exact call_reprD (g.gu hq) (by have := g.room.un; omega) pins s σ H _ us Q I r ⟨x, d, rfl, h⟩
  · intro F H f x vx Qd Q fl r h q
    obtain ⟨h1, h2, h3, h4, h5⟩ := h
    exact ⟨toPy x, Rep.dp x _ _ r h1, shaped_depth h2, h3, noDict x h1, h4, q _ _ F H NoA h5 rep_str .refl⟩
end
end M
namespace M
noncomputable section
open PySem PySem.Spec PyProof.Rows L2
def xRepr : X1 := fun x => if isPy x = true ∧ SeqAt.shaped (toPy x) = true ∧ (toPy x).showable = true ∧ (toPy x).shown.length ≤ sizeLine then some (.str (toPy x).shown) else none
theorem xRepr_ok : Ok1 xRepr rRepr := fun x d Q h q => by
  obtain ⟨c, h⟩ := ite_ok h
  cases h
  exact ⟨c.1, c.2.1, c.2.2.1, c.2.2.2, q⟩
section
variable {C : Ctx} {a b o e : Expr} {es : List Expr} {pos p : Pos} {N : List Str} {sc : Scope} {k : Nat} {st : Stmt} {qual x : Str} {ps : List Str} {xs : XS}
structure XL1r (C : Ctx) (f : Value) where
  r : R1D
  cl : Cl1r C f r
  x : X1
  ok : Ok1 x r
def de_b1r {x : Str} {id : String} (l : XL1r C (.builtin id)) (hm : C.mg x = none) (a' : DV C a) (hv : bootBuiltins x = some (.builtin id) := by rfl) (hg : C.sc.names.lookup x = some .globalImplicit := by rfl)
    (hn : x ≠ "__name__" := by decide) (hdb : (x == ("__debug__" : Str)) = false := by rfl) (hs : ∀ env, starEach [a] env = (false, eval a env) :: starEach [] env := by intro _; rfl) (hpl : ∀ env, (backTo pos (starEach [] env)).any (·.1) = false := by intro _; rfl) : DE C (.Call (.Name x p) [a] [] pos) :=
  ⟨_, x1 a'.x l.x, (je_b1r l.cl hm hv hg a'.ok hn hdb hs hpl).imp (x1_ok l.ok)⟩
def de_callGT {x : Str} {j : Nat} {f : Dat → List Dat → Option (Dat × Dat)} (hq : C.gd = true) (F : FnGM C x j (spXM f)) (w' : DE C e) (a' : DA C es) (hj : j ≤ C.k := by exact Nat.le_of_ble_eq_true rfl) (hg : C.sc.names.lookup x = some .globalImplicit := by rfl) (hdb : (x == ("__debug__" : Str)) = false := by rfl)
    (he : ∀ env, starEach (e :: es) env = (false, eval e env) :: starEach es env := by intro _; rfl) (hpl : ∀ env, (backTo pos (starEach es env)).any (·.1) = false := by intro _; rfl) (hh : C.hot = false := by rfl) : DE C (.Call (.Name x p) (e :: es) [] pos) := ⟨_, xCallT w'.x a'.x f, (je_callGT (hh := hh) F hq hj hg hdb w'.ok a'.ok he hpl).imp fun env Q ⟨d, e1, h, q⟩ => by
  obtain ⟨⟨u, e2⟩, ha, h1⟩ := bind_ok h
  obtain ⟨⟨v, e3⟩, hb, h2⟩ := bind_ok h1
  obtain ⟨r, hr, h3⟩ := map_ok h2
  cases h3
  exact ⟨u, e2, ha, v, e3, hb, r.1, r.2, hr, q⟩⟩
theorem FnG.imp {P : Program} {w : World} {K : PySem.W.Frag} {mg : Str → Option Value} {base : Heap} {f : Addr} {fd : FuncData} {sp sp' : Sp} (h : FnG P w K mg base k f fd ps sp) (i : ∀ vs H Q E, sp' vs H Q E → sp vs H Q E) : FnG P w K mg base k f fd ps sp' :=
  ⟨fun vs H Q E z => h.ln vs H Q E (i vs H Q E z), fun A out s H us vs Q E g r e b v z => h.go A out s H us vs Q E g r e b v (i vs H Q E z)⟩
theorem FunAt.ng (h : FunAt C x qual st ps) : FunAt C.ng x qual st ps := ⟨h.ex⟩
theorem MethAt.ng {c : Nat} (h : MethAt C c x qual st ps) : MethAt C.ng c x qual st ps := ⟨h.ex⟩
theorem MakeAt.ng {c : Nat} (h : MakeAt C x c qual st ps) : MakeAt C.ng x c qual st ps := ⟨h.ex⟩
theorem Cn.ng {d : Dat} (h : Cn C x d) : Cn C.ng x d := ⟨h.ex⟩
theorem Isi.ng {u : Value} {f : Dat → Option Bool} (h : Isi C u f) : Isi C.ng u f := ⟨h.ok⟩
theorem IsiO.ng {f : Dat → Option Bool} (h : IsiO C x f) : IsiO C.ng x f := let ⟨A, a, b⟩ := h.ex; ⟨A, a, b.ng⟩
theorem Fld.ng {f : Str} {g : Nat → Option Nat} (h : Fld C f g) : Fld C.ng f g := ⟨fun c i e => let ⟨a, b⟩ := h.ok c i e; ⟨a, ⟨b.cls, b.no, b.nd⟩⟩⟩
end
end
end M
namespace M
open PySem PySem.Spec PyProof.Rows L2
section
variable {P : Program} {w : World} {K : PySem.W.Frag} {mg mb : Str → Option Value} {a fa : Addr} {s1 : Shared} {vs : List Value} {ns : List Int} {k : Nat} {fd : FuncData} {sp : Sp} {x : Str}
def scrO (vs : List Value) : Obj := { cls := .type "list", data := .seq vs.toArray }
end
end M
namespace M
open PySem PySem.Spec PyProof.Rows L2
/-- the values in the order of the parameters -/
def permL {α : Type} (d : α) (π : List Nat) (ws : List α) : List α := π.map fun i => ws.getD i d
theorem getD_rel : ∀ {zs : List V} {ws : List Value}, Vals zs ws → ∀ i, RelV (zs.getD i .non) (ws.getD i .none)
  | _, _, .nil, _ => rfl
  | _, _, .cons r _, 0 => r
  | _, _, .cons _ h, i + 1 => getD_rel h i
theorem perm_vals {zs : List V} {ws : List Value} (h : Vals zs ws) : ∀ π : List Nat, Vals (permL .non π zs) (permL .none π ws)
  | [] => .nil
  | i :: π => .cons (getD_rel h i) (perm_vals h π)
theorem getD_rep {W : Wd} {F : AS} {H : Hp} : ∀ {fp : AS} {ds : List Dat} {vs : List V}, Em fp → Reps W F H fp ds vs → ∀ i, Rep W F H NoA (ds.getD i .non) (vs.getD i .non)
  | _, _, _, _, .nil _, _ => rep_non
  | fp, _, _, em, .cons (f1 := f1) r _ _ ii, 0 => by
    have e : f1 = NoA := funext fun a => propext ⟨fun z => em a ((ii a).mpr (.inl z)), fun z => z.elim⟩
    exact e ▸ r
  | fp, _, _, em, .cons (f2 := f2) _ h _ ii, i + 1 => getD_rep (fun a z => em a ((ii a).mpr (.inr z))) h i
theorem perm_reps {W : Wd} {F : AS} {H : Hp} {ds : List Dat} {vs : List V} (h : Reps W F H NoA ds vs) : ∀ π : List Nat, Reps W F H NoA (permL .non π ds) (permL .non π vs)
  | [] => .nil fun _ z => z
  | i :: π => .cons (getD_rep (fun _ z => z) h i) (perm_reps h π) (fun _ z => z.elim) fun a => ⟨fun z => z.elim, fun z => z.elim id id⟩
section
variable {X : Cx} {k : Nat} {f : Addr} {fd : FuncData} {ps ks : List Str} {sp : Sp} {x : Str} {p pos kpos : Pos} {e : Expr} {kws : List Keyword} {tk tk' : TA} {π : List Nat} {nm : Option Str}
theorem PK_imp (h : PK X kws tk) (i : ∀ σ H Q, tk' σ H Q → tk σ H Q) : PK X kws tk' := ⟨fun pos pins s σ H Q I q => h.run pos pins s σ H Q I (i σ H Q q)⟩
/-- how names alone bind -/
def KwB (K : PySem.W.Frag) (fd : FuncData) (ps ks : List Str) (π : List Nat) : Prop := ∀ (s : Shared) (ws : List Value), K.In s.heap → ws.length = ks.length → BindsTo s fd ⟨[], ks.zip ws⟩ (ps.zip (permL .none π ws))
end
section
variable {C : Ctx} {W : Wd} {pr p1 p2 : Bool} {F F' F1 F2 : AS} {H H' H1 H2 : Hp} {fp fp' fe fe1 fe2 fd fd1 fd2 : AS} {σ : L2.St} {env env1 env2 : Env}
variable {e : Expr} {kws : List Keyword} {pos p kpos : Pos} {ws : LA} {nm : Option Str} {π : List Nat} {ks : List Str}
def JK (C : Ctx) (pr : Bool) (kws : List Keyword) (w : LA) : Prop := ∀ X, Gd C X → PK X kws (liftA C.W pr w)
theorem jk_nil : JK C true [] wNil := fun X g => PK_imp pk_nil fun σ H Q ⟨F, fp, env, Qd, sl, ok, hw, q⟩ =>
  q [] env F H fp NoA [] hw ⟨sl, .nil fun _ z => z, fun _ _ z => z, (Step.refl ok).sub fun a z => z.resolve_right id, fun _ => Keep.rfl⟩
theorem jk_cons {w : LE} (he : JE C p1 e w) (hr : JK C p2 kws ws) : JK C (p1 && p2) (⟨nm, e, kpos⟩ :: kws) (wCons w ws) := fun X g =>
  PK_imp (pk_cons (he X g) (hr X g)) fun σ H Q ⟨F, fp, env, Qd, sl, ok, hw, q⟩ => by
    refine ⟨F, fp, env, _, sl, ok, hw, fun x env1 F1 H1 fe1 g1 v1 hb P1 => ?_⟩
    have ok1 : Ok C.W F1 H1 fe1 := P1.st.ok.sub fun _ => .inl
    refine ⟨F1, fe1, env1, _, P1.sl, ok1, hb, fun ds env2 F2 H2 fe2 g2 vs hd P2 => ?_⟩
    have fr := P2.st.frame (g := g1) (P1.st.ok.sub fun _ => .inr) P1.dj
    have r1 := P1.rep.step P2.st ok1 fun a z q => P1.dj a q z
    refine q (x :: ds) env2 F2 H2 fe2 (fun a => g1 a ∨ g2 a) (v1 :: vs) hd ⟨P2.sl, .cons r1 P2.rep (fun a z k => fr.2 a (.inr k) z) fun a => Iff.rfl, fun a z k => ?_, (P1.st.trans fr.1).sub fun a z => ?_, fun z => ?_⟩
    · rcases k with k | k
      · exact fr.2 a (.inl z) k
      · exact P2.dj a z k
    · rcases z with z | z | z
      · exact .inl (.inl z)
      · exact .inr z
      · exact .inl (.inr z)
    · have k := and_pure P1.pu P2.pu z
      exact Keep.trans k.1 k.2
structure FnKF (C : Ctx) (x : Str) (j : Nat) (ks : List Str) (π : List Nat) (sp : SpF) : Prop where
  ex : ∃ f fd ps, C.mg x = some (.ref f) ∧ PySem.W.keepIn C.K (.ref f) = true ∧ KwB C.K fd ps ks π ∧ FnOk C.P C.w C.K C.mg C.base CX0 j f fd ps (spF C.W sp)
theorem FnKF.fn {x : Str} {j k : Nat} {sp : SpF} {N : List Str} {sc : Scope} {pin : List Nat} (h : FnKF C x j ks π sp) : FnKF (C.fn N sc k pin) x j ks π sp := ⟨h.ex⟩
theorem FnKF.blk {x : Str} {j : Nat} {sp : SpF} {sc : Scope} {own : List (Str × Nat)} (h : FnKF C x j ks π sp) : FnKF (C.blk sc own) x j ks π sp := ⟨h.ex⟩
end
noncomputable section
variable {C : Ctx} {e : Expr} {kws : List Keyword} {pos p kpos : Pos} {nm : Option Str} {π : List Nat} {ks ps : List Str} {N : List Str} {qual x : Str} {st : Stmt} {xs : XS}
structure DK (C : Ctx) (kws : List Keyword) where
  pr : Bool
  x : XA
  ok : JK C pr kws (xw x)
theorem JK.imp {pr : Bool} {w w' : LA} (h : JK C pr kws w) (i : ∀ env Q, w' env Q → w env Q) : JK C pr kws w' := fun X g => PK_imp (h X g) fun σ H Q ⟨F, fp, env, Qd, sl, ok, hw, q⟩ => ⟨F, fp, env, Qd, sl, ok, i _ _ hw, q⟩
def dk_nil : DK C [] := ⟨true, xNil, jk_nil.imp fun env Q ⟨d, e1, h, q⟩ => by cases h; exact q⟩
def dk_cons (a' : DE C e) (b' : DK C kws) : DK C (⟨nm, e, kpos⟩ :: kws) := ⟨_, xCons a'.x b'.x, (jk_cons a'.ok b'.ok).imp fun env Q ⟨d, e1, h, q⟩ => by
  obtain ⟨⟨u, e2⟩, ha, h⟩ := bind_ok h
  obtain ⟨⟨v, e3⟩, hb, h⟩ := map_ok h
  cases h
  exact ⟨u, e2, ha, v, e3, hb, q⟩⟩
end
end M
namespace M
noncomputable section
open PySem PySem.Spec PyProof.Rows L2
/-- the entries of a dict of the module, read against their data -/
def entB : List DictEntry → List Str → List Int → Bool
  | [], [], [] => true
  | e :: es, k :: ks, n :: ns => (match e.key, e.val with | .str x _, .int i _ => x == k && i == n | _, _ => false) && entB es ks ns
  | _, _, _ => false
section
variable {C : Ctx} {x t : Str} {ks : List Str} {ns : List Int} {pos p p2 : Pos} {e : Expr}
/-- a dict of the module -/
structure KDg (C : Ctx) (x : Str) (ks : List Str) (ns : List Int) : Prop where
  ex : ∃ a es n, C.mg x = some (.ref a) ∧ KDict C.K C.w a es n ∧ es.size ≤ sizeLine ∧ entB es.toList ks ns = true
theorem KDg.ng (h : KDg C x ks ns) : KDg C.ng x ks ns := ⟨h.ex⟩
theorem KDg.fn {pin : List Nat} {N : List Str} {sc : Scope} {k : Nat} (h : KDg C x ks ns) : KDg (C.fn N sc k pin) x ks ns := ⟨h.ex⟩
end
end
end M
namespace M
noncomputable section
open PySem PySem.Spec PyProof.Rows L2
section
variable {C : Ctx} {W : Wd} {pr p1 p2 : Bool} {F F' : AS} {H H' : Hp} {fp fe fd : AS} {σ : L2.St} {env : Env} {a b o e : Expr} {wa wb : LE} {pos p : Pos} {c j : Nat} {sp : SpF}
/-- the class has the plain != -/
structure NeO (C : Ctx) (c : Nat) : Prop where
  ok : ∀ A, C.mg (C.T.cn c) = some (.ref A) → PySem.W.findIn C.K (.ref A) "__ne__" = some (some (.builtin "object.__ne__")) ∧ PySem.W.mroIn C.K A (.type "object") = some true
theorem NeO.ng (h : NeO C c) : NeO C.ng c := ⟨h.ok⟩
theorem NeO.fn {pin : List Nat} {N : List Str} {sc : Scope} {k : Nat} (h : NeO C c) : NeO (C.fn N sc k pin) c := ⟨h.ok⟩
end
end
end M
namespace M
noncomputable section
open PySem PySem.Spec PyProof.Rows L2
/-- how names alone bind behind a first one -/
def KwBM (K : PySem.W.Frag) (fd : FuncData) (ps ks : List Str) (π : List Nat) : Prop := ∀ (s : Shared) (u : Value) (ws : List Value), K.In s.heap → ws.length = ks.length → BindsTo s fd ⟨[u], ks.zip ws⟩ (ps.zip (u :: permL .none π ws))
section
variable {C : Ctx} {W : Wd} {pr p1 p2 : Bool} {F F' : AS} {H H' : Hp} {fp fe fd : AS} {σ : L2.St} {env : Env} {o : Expr} {wa : LE} {ws : LA} {pos p apos : Pos} {c j : Nat} {kws : List Keyword} {ks : List Str} {π : List Nat} {m x : Str}
structure MeKF (C : Ctx) (c : Nat) (m : Str) (j : Nat) (ks : List Str) (π : List Nat) (sp : SpF) : Prop where
  ex : ∃ A f fd ps, C.mg (C.T.cn c) = some (.ref A) ∧ Cls C.K A ∧ Meth C.K A m f ∧ m ∉ C.T.fl c ∧ KwBM C.K fd ps ks π ∧ FnOk C.P C.w C.K C.mg C.base CX0 j f fd ps (spF C.W sp)
theorem MeKF.fn {sp : SpF} {k : Nat} {N : List Str} {sc : Scope} {pin : List Nat} (h : MeKF C c m j ks π sp) : MeKF (C.fn N sc k pin) c m j ks π sp := ⟨h.ex⟩
theorem MeKF.blk {sp : SpF} {sc : Scope} {own : List (Str × Nat)} (h : MeKF C c m j ks π sp) : MeKF (C.blk sc own) c m j ks π sp := ⟨h.ex⟩
structure MkKM (C : Ctx) (x : Str) (c : Nat) (j : Nat) (ks : List Str) (π : List Nat) (sp : SpM) : Prop where
  ex : ∃ A f fd ps, C.mg x = some (.ref A) ∧ C.mg (C.T.cn c) = some (.ref A) ∧ Mk C.K A f ∧ KwBM C.K fd ps ks π ∧ FnOk C.P C.w C.K C.mg C.base CX0 j f fd ps (spM C.W sp)
theorem MkKM.fn {sp : SpM} {k : Nat} {N : List Str} {sc : Scope} {pin : List Nat} (h : MkKM C x c j ks π sp) : MkKM (C.fn N sc k pin) x c j ks π sp := ⟨h.ex⟩
theorem MkKM.blk {sp : SpM} {sc : Scope} {own : List (Str × Nat)} (h : MkKM C x c j ks π sp) : MkKM (C.blk sc own) x c j ks π sp := ⟨h.ex⟩
end
end
end M
namespace M
open PySem PySem.Spec PyProof.Rows L2
mutual
/-- without containers -/
def atm : Dat → Bool
  | .non => true
  | .bl _ => true
  | .int _ => true
  | .str _ => true
  | .tup _ xs => atms xs
  | _ => false
def atms : List Dat → Bool
  | [] => true
  | d :: ds => atm d && atms ds
end
section
variable {W : Wd} {F F' : AS} {H H' : Hp}
mutual
theorem Rep.atm : ∀ (d : Dat) (fp : AS) (v : V), M.atm d = true → Rep W F H fp d v → Rep W F' H fp d v
  | .non, _, _, _, h => by cases h with | non e => exact .non e
  | .bl _, _, _, _, h => by cases h with | bl _ e => exact .bl _ e
  | .int _, _, _, _, h => by cases h with | int _ e => exact .int _ e
  | .str _, _, _, _, h => by cases h with | str _ e => exact .str _ e
  | .tup _ ds, _, _, z, h => by cases h with | tup s k r => exact .tup s k (Reps.atm ds _ _ z r)
  | .lst _ _, _, _, z, _ => by cases z
  | .dct _ _ _, _, _, z, _ => by cases z
  | .dtt _ _ _, _, _, z, _ => by cases z
  | .dxt _ _ _, _, _, z, _ => by cases z
  | .obj _ _ _, _, _, z, _ => by cases z
  | .scr _, _, _, z, _ => by cases z
  | .exn _ _, _, _, z, _ => by cases z
theorem Reps.atm : ∀ (ds : List Dat) (fp : AS) (vs : List V), M.atms ds = true → Reps W F H fp ds vs → Reps W F' H fp ds vs
  | [], _, _, _, h => by cases h with | nil e => exact .nil e
  | d :: ds, _, _, z, h => by
    have z' : (M.atm d && M.atms ds) = true := z
    rw [Bool.and_eq_true] at z'
    cases h with
    | cons r1 r2 n i => exact .cons (Rep.atm d _ _ z'.1 r1) (Reps.atm ds _ _ z'.2 r2) n i
end
end
end M
namespace M
open PySem PySem.Spec PyProof.Rows L2
section
variable {C : Ctx} {W : Wd} {pr p1 p2 p3 : Bool} {F F' F1 F2 : AS} {H H' H1 H2 : Hp} {fp fp' fe fe1 fe2 fd fd1 fd2 : AS} {σ : L2.St} {env env1 env2 : Env} {d d1 d2 : Dat} {v v1 v2 : V}
variable {a b c o e : Expr} {es : List Expr} {pos p : Pos} {wa wb wc : LE} {ta tb : LT} {ws : LA} {w : LS}
structure MePF (C : Ctx) (c : Nat) (m : Str) (j : Nat) (sp : SpF) : Prop where
  ex : ∃ A q f fd ps, C.mg (C.T.cn c) = some (.ref A) ∧ Cls C.K A ∧ PropOf C.K A m q f ∧ Binds C.K fd ps [] ∧ FnOk C.P C.w C.K C.mg C.base CX0 j f fd ps (spF C.W sp)
theorem MePF.fn {c j k : Nat} {m : Str} {sp : SpF} {N : List Str} {sc : Scope} {pin : List Nat} (h : MePF C c m j sp) : MePF (C.fn N sc k pin) c m j sp := ⟨h.ex⟩
theorem MePF.blk {c j : Nat} {m : Str} {sp : SpF} {sc : Scope} {own : List (Str × Nat)} (h : MePF C c m j sp) : MePF (C.blk sc own) c m j sp := ⟨h.ex⟩
/-- a method, the object changed, whose last parameter has the default None: called without it -/
structure MeMD (C : Ctx) (c : Nat) (m : Str) (j : Nat) (sp : SpM) : Prop where
  ex : ∃ A f fd ps ds, C.mg (C.T.cn c) = some (.ref A) ∧ Cls C.K A ∧ Meth C.K A m f ∧ m ∉ C.T.fl c ∧ Vals [V.non] ds ∧ Binds C.K fd ps ds ∧ FnOk C.P C.w C.K C.mg C.base CX0 j f fd ps (spM C.W sp)
theorem MeMD.fn {c j k : Nat} {m : Str} {sp : SpM} {N : List Str} {sc : Scope} {pin : List Nat} (h : MeMD C c m j sp) : MeMD (C.fn N sc k pin) c m j sp := ⟨h.ex⟩
theorem MeM.blk {c j : Nat} {m : Str} {sp : SpM} {sc : Scope} {own : List (Str × Nat)} (h : MeM C c m j sp) : MeM (C.blk sc own) c m j sp := ⟨h.ex⟩
end
section
variable {C : Ctx} {a b o e : Expr} {es : List Expr} {pos p : Pos} {N : List Str} {sc : Scope} {k : Nat} {st : Stmt} {qual x m : Str} {ps : List Str} {xs : XS} {cl : Nat}
noncomputable section
structure PropAt (C : Ctx) (c : Nat) (m qual : Str) (st : Stmt) (ps : List Str) : Prop where
  ex : ∃ A q f fd, C.mg (C.T.cn c) = some (.ref A) ∧ Cls C.K A ∧ PropOf C.K A m q f ∧ Fun C.K m qual st f fd ∧ Binds C.K fd ps []
structure MethAtD (C : Ctx) (c : Nat) (m qual : Str) (st : Stmt) (ps : List Str) : Prop where
  ex : ∃ A f fd ds, C.mg (C.T.cn c) = some (.ref A) ∧ Cls C.K A ∧ Meth C.K A m f ∧ m ∉ C.T.fl c ∧ FunD C.K m qual (defArgs st) (defBody st) (defScope st) [V.non] [] f fd ∧ Binds C.K fd ps [] ∧ Vals [V.non] ds ∧ Binds C.K fd ps ds
theorem PropAt.ng {c : Nat} (h : PropAt C c m qual st ps) : PropAt C.ng c m qual st ps := ⟨h.ex⟩
theorem MethAtD.ng {c : Nat} (h : MethAtD C c m qual st ps) : MethAtD C.ng c m qual st ps := ⟨h.ex⟩
end
end
end M
namespace M
noncomputable section
open PySem PySem.Spec PyProof.Rows L2
/-- what stands in a for, in an if -/
def forB : Stmt → List Stmt
  | .For _ _ b _ _ => b
  | _ => []
/-- a piece that stands by itself -/
def dss_of {C : Ctx} {ss : List Stmt} {x : XS} (h : JSs C ss (xwS x)) : DSs C ss := ⟨x, h⟩
end
end M
namespace M
open PySem PySem.Spec PyProof.Rows L2
noncomputable section
def SqB (K : PySem.W.Frag) (H : Hp) (a : Addr) (xs : List V) : Bool → Prop
  | true => SqL K H a xs
  | false => SqT K H a xs
def ItB (h : Heap) (it a : Addr) (i : Nat) : Bool → Prop
  | true => h.IsListIter it a i
  | false => h.IsTupleIter it a i
theorem ItB.cut {h : Heap} {it a : Addr} {i : Nat} : ∀ {b : Bool}, ItB h it a i b → ∃ o : Obj, h.get? it = some o ∧ (∀ v : Option Value, ¬ o.data = Data.cell v) ∧ ∀ h' : Heap, h'.get? it = some o → ItB h' it a i b
  | true, h => by
    obtain ⟨o, e, c, d⟩ := h
    refine ⟨o, e, ?_, fun h' e' => ⟨o, e', c, d⟩⟩
    intro v q
    rw [d] at q; cases q
  | false, h => by
    obtain ⟨o, e, c, d⟩ := h
    refine ⟨o, e, ?_, fun h' e' => ⟨o, e', c, d⟩⟩
    intro v q
    rw [d] at q; cases q
theorem ItB.at {h h' : Heap} {it a : Addr} {i : Nat} {b : Bool} (s : ItB h it a i b) (k : ∀ o, h.get? it = some o → h'.get? it = some o) : ItB h' it a i b := by
  obtain ⟨o, e, _, f⟩ := s.cut
  exact f h' (k o e)
section
variable {C : Ctx} {W : Wd} {pr : Bool} {F : AS} {H : Hp} {e e2 tg : Expr} {es : List Expr} {ws : LA} {p pos tpos : Pos} {kk : Nat}
/-- where a thing that is walked stays as it is -/
def StB (W : Wd) (F : AS) (H : Hp) (a : Addr) (vs : List V) : Bool → Prop
  | true => F a ∧ Rd H a (.lst vs)
  | false => SqT W.K H a vs
theorem StB.sq {a : Addr} {vs : List V} : ∀ {k : Bool}, StB W F H a vs k → SqB W.K H a vs k
  | true, h => .inl h.2
  | false, h => h
theorem StB.keep {H' : Hp} {a : Addr} {vs : List V} (kp : ∀ b o, H b = some o → NT o → F b ∨ ¬ Mut (some o) → H' b = some o) : ∀ {k : Bool}, StB W F H a vs k → SqB W.K H' a vs k
  | true, h => .inl (Rd.keep (fun _ z => nomatch z) h.2 fun o e t => kp a o e t (.inl h.1))
  | false, h => SqT.keep h fun o e t n => kp a o e t (.inr n)
end
end
end M
namespace PySem
open Sem (wp)
open AutoSeq1 (wpAny_loadPart')
end PySem
namespace M
open PySem PySem.Spec PyProof.Rows L2
abbrev KX := Dat × TK × Dat
end M
namespace M
noncomputable section
open PySem PySem.Spec PyProof.Rows L2
variable {C : Ctx}
theorem Cl1.or {f : Value} {r r' : Dat → (Dat → Prop) → Prop} (h : Cl1 C f r) (h' : Cl1 C f r') (t : Dat → Bool) : Cl1 C f (fun x Q => if t x = true then r x Q else r' x Q) := by
  obtain ⟨a, a1, a2⟩ := h
  obtain ⟨b, b1, b2⟩ := h'
  refine ⟨fun K x H Q => a K x H Q ∨ b K x H Q, fun X hc => ?_, ?_⟩
  · intro pins s σ H xs us Q I r z
    obtain ⟨x, rfl, z | z⟩ := z
    · exact a1 X hc pins s σ H _ us Q I r ⟨x, rfl, z⟩
    · exact b1 X hc pins s σ H _ us Q I r ⟨x, rfl, z⟩
  · intro F H fp x vx Qd Q fl r z q
    by_cases c : t x = true
    · rw [if_pos c] at z
      exact .inl (a2 F H fp x vx Qd Q fl r z q)
    · rw [if_neg c] at z
      exact .inr (b2 F H fp x vx Qd Q fl r z q)
end
end M
namespace PySem
open Sem (wp)
open AutoSeq1 (wpAny_loadPart')
end PySem
namespace M
noncomputable section
open PySem PySem.Spec PyProof.Rows L2
def tupX (x : Str) (ds : List Dat) (K : PySem.W.Frag) : Bool := match PySem.W.nsIn K mainGlobals x with
  | some (some (.ref a)) => (match K.lookup a with
    | some ⟨.type c, none, .seq its _, _⟩ => decide (c = "tuple") && (Nat.ble its.size sizeLine && flatB its.toList ds)
    | _ => false)
  | _ => false
theorem tupX_ok {x : Str} {ds : List Dat} {K : PySem.W.Frag} (h : tupX x ds K = true) : TupIn K x ds := by
  unfold tupX at h
  split at h
  · rename_i a e
    split at h
    · rename_i c its n sl l
      simp only [Bool.and_eq_true, decide_eq_true_eq] at h
      obtain ⟨rfl, h1, h2⟩ := h
      exact ⟨a, its, n, sl, e, l, Nat.le_of_ble_eq_true h1, h2⟩
    · cases h
  · cases h
structure SaysM (fa : List He.Fa) (fn : List He.DefD) (ts : List He.Tab) (ex : List (PySem.W.Frag → Bool)) (w : World) (h : Heap) (K : PySem.W.Frag) : Prop where
  kin : K.In h
  t : He.SaysT fa fn ts w K
  x : (ex.all fun f => f K) = true
section
variable {fa : List He.Fa} {fn : List He.DefD} {ts : List He.Tab} {ex : List (PySem.W.Frag → Bool)} {w : World} {h : Heap} {K : PySem.W.Frag}
theorem SaysM.fact (c : SaysM fa fn ts ex w h K) (i : Nat) {f : He.Fa} (e : fa[i]? = some f) : f.ok K = true := He.SaysD.fact c.t.d i e
theorem SaysM.ext (c : SaysM fa fn ts ex w h K) (i : Nat) {f : PySem.W.Frag → Bool} (e : ex[i]? = some f) : f K = true := List.all_eq_true.mp c.x f (List.mem_of_getElem? e)
theorem SaysM.tab (c : SaysM fa fn ts ex w h K) (i : Nat) {t : He.Tab} (h : ts[i]? = some t) : He.dicW K (t.1 K) = some (He.keysIn w.params t.2) := by
  have e : ts.map (fun t => He.dicW K (t.1 K)) = ts.map fun t => some (He.keysIn w.params t.2) := congrArg (fun z : He.AlT => z.2) c.t
  have e2 : (ts.map fun t => He.dicW K (t.1 K))[i]? = (ts.map fun t => some (He.keysIn w.params t.2))[i]? := by rw [e]
  rw [List.getElem?_map, List.getElem?_map, h] at e2
  exact Option.some.inj e2
def dfD (x qual : Str) (st : Stmt) : He.DefD := ⟨(x, none), x, qual, defArgs st, defBody st, defScope st, [], []⟩
def mtD (c m qual : Str) (st : Stmt) : He.DefD := ⟨(c, some m), m, qual, defArgs st, defBody st, defScope st, [], []⟩
theorem fun_of {x qual : Str} {st : Stmt} {f : Addr} {fd : FuncData} (F : FunD K x qual (defArgs st) (defBody st) (defScope st) [] [] f fd) : Fun K x qual st f fd := by
  obtain ⟨⟨oc, od, dV, kV, doc, pm, an, cdv, ct, osl, rfl, l, c, d, _⟩, kp⟩ := F
  rcases d with ⟨_, rfl⟩ | ⟨z, _⟩
  · exact ⟨⟨oc, od, kV, doc, pm, an, cdv, ct, osl, rfl, l, c⟩, kp⟩
  · exact absurd rfl z
theorem SaysM.def_ (c : SaysM fa fn ts ex w h K) (i j : Nat) {x qual : Str} {st : Stmt} (e : fn[i]? = some (dfD x qual st)) (e2 : fa[j]? = some (.glo x)) : DefIn K x qual st := by
  obtain ⟨fd, F⟩ := He.SaysD.def_ c.t.d i e
  exact ⟨_, fd, fun_of F, He.eqO_ok (c.fact j e2)⟩
theorem SaysM.meth (c : SaysM fa fn ts ex w h K) (i j : Nat) {x m qual : Str} {st : Stmt} (e : fn[i]? = some (mtD x m qual st)) (e2 : fa[j]? = some (.meth x m)) : MethIn K (He.ga K x) m qual st := by
  obtain ⟨fd, F⟩ := He.SaysD.def_ c.t.d i e
  exact ⟨_, fd, fun_of F, He.meth_ok (c.fact j e2)⟩
theorem SaysM.cls (c : SaysM fa fn ts ex w h K) (i j : Nat) {x : Str} (e : fa[i]? = some (.glo x)) (e2 : fa[j]? = some (.cls x)) : ClsIn K x (He.ga K x) := ⟨He.eqO_ok (c.fact i e), He.cls_ok (c.fact j e2)⟩
theorem SaysM.mkr (c : SaysM fa fn ts ex w h K) (i : Nat) {x : Str} (e : fa[i]? = some (.mkr x)) : PySem.W.makesIn K (He.ga K x) = true := (He.mkr_ok (c.fact i e)).makes
theorem SaysM.kp (c : SaysM fa fn ts ex w h K) (i : Nat) {x : Str} (e : fa[i]? = some (.mkr x)) : PySem.W.keepIn K (.ref (He.ga K x)) = true := (He.mkr_ok (c.fact i e)).kp
theorem SaysM.no (c : SaysM fa fn ts ex w h K) (i : Nat) {x f : Str} (e : fa[i]? = some (.noat x f)) : PySem.W.findIn K (.ref (He.ga K x)) f = some none := He.noat_ok (c.fact i e)
theorem SaysM.free (c : SaysM fa fn ts ex w h K) (i : Nat) {x : Str} (e : fa[i]? = some (.free x)) : PySem.W.nsIn K mainGlobals x = some none := He.eqO_ok (c.fact i e)
theorem SaysM.int (c : SaysM fa fn ts ex w h K) (i : Nat) {x : Str} {n : Int} (e : fa[i]? = some (.int x n)) : ∃ t, PySem.W.nsIn K mainGlobals x = some (some (.int n t)) := by
  have z : (match PySem.W.nsIn K mainGlobals x with
    | some (some (.int y _)) => decide (y = n)
    | _ => false) = true := c.fact i e
  split at z
  · rename_i y t q
    have : y = n := of_decide_eq_true z
    subst this
    exact ⟨t, q⟩
  · cases z
end
abbrev hRunE (r : PySem.W.OpenRow) (M : Nat) (w : World) (os : OsState) : Option PySem.W.SharedT := HandSHeadRun.endF (HandSHeadRun.stepQ (HandSHeadRun.denQ HandSHeadRun.tabQ) r.prog w) M r.prog w os
def RunA (r : PySem.W.OpenRow) (q : Program) (M : Nat) (loose : List PySem.Str) (w : World) : Prop := ∀ os : OsState, (hRunE r M w os).map (fun s => (HandSHeadRun.looksF r.prog (PySem.W.boot_heap w.params) s.abs, HandSHeadRun.seenQ q loose (importedModules r.prog.main.body) (fun s => PySem.W.xlAt q [] s && PySem.W.recOk r.toRowW.records s) s.abs)) = some (true, PySem.W.openGood q loose)
end
end M
namespace M
open PySem PySem.Spec PyProof.Rows L2 NdefX
def xiBody (g fld : Str) (p0 p1 p2 p3 p4 p5 p6 p7 p8 p9 : Pos) : List Stmt :=
  [.Expr (.Call (.Attribute (.Call (.Name "super" p0) [] [] p1) "__init__" p2) [.Name g p3] [] p4) p5, .Assign [.Attribute (.Name "self" p6) fld p7] (.Name g p8) p9]
def spXI (C : Addr) (fld : Str) : Sp := fun vs H Q _ => ∃ (a : Addr) (y : V), vs = [.ref a, y] ∧ H a = some (exo a C none) ∧ ∀ dx, H dx = none → dx ≠ a → Q .non (upd (upd H dx (exd dx [(fld, y)])) a (exo a C (some dx)))
/-- what is known of the class C and its __init__ -/
structure XiK (P : Program) (K : PySem.W.Frag) (mg : Str → Option Value) (C f : Addr) (fd : FuncData) (g fld : Str) : Prop where
  ex : ∃ (qual : Str) (params : Arguments) (scope : Scope) (dV kV doc pm ct oc : Value) (an od : Option Addr) (osl : Array (Option Value)) (cc cda : Addr) (p0 p1 p2 p3 p4 p5 p6 p7 p8 p9 : Pos)
    (cl ccl : Value) (cld cdd : Option Addr) (csl ccs : Array (Option Value)) (vs : Array Value) (file : Str) (tf : Tok) (ar : Arg),
    fd = PySem.W.fnX "__init__" qual params (xiBody g fld p0 p1 p2 p3 p4 p5 p6 p7 p8 p9) scope [("__class__", cc)] dV kV doc pm an (.ref cda) ct ∧
    K.lookup f = some ⟨oc, od, .func fd, osl⟩ ∧ PySem.W.codeIn K (.ref cda) qual = true ∧ NScope ["self", g, "__class__"] ["self", g] ["__class__"] scope ∧ scope.names.lookup ("super" : Str) = some .globalImplicit ∧
    K.lookup cc = some ⟨cl, cld, .cell (some (.ref C)), csl⟩ ∧ K.lookup cda = some ⟨ccl, cdd, .fields vs, ccs⟩ ∧ vs[2]? = some (.str file tf) ∧ ((P.main.file : Str) == file) = true ∧
    (params.posonlyargs ++ params.args).head? = some ar ∧ ar.arg = "self" ∧ (p2.endLine == p4.line) = true ∧ (g == ("__debug__" : Str)) = false ∧ (g == ("__classdict__" : Str)) = false
  top : (P.main.scope.names.lookup ("super" : Str)).isSome = false
  nsup : mg "super" = none
  sup : PySem.W.ks_superIn K C C "__init__" = some (some (.builtin "ValueError.__init__"))
  sub : PySem.W.subIn K (.ref C) (.type "ValueError") = some true
  op : PySem.W.nsIn K cStatics "thirdparty.any" = some none
  mro : PySem.W.mroIn K C (.ref C) = some true
  T : OexC K C
  no : PySem.W.findIn K (.ref C) fld = some none
open PySem.W in
theorem xi_fn {P : Program} {w : World} {K : PySem.W.Frag} {mg : Str → Option Value} {base : Heap} {C f : Addr} {fd : FuncData} {g fld : Str} (h : XiK P K mg C f fd g fld) (k : Nat) : FnOk P w K mg base CX0 (k + 1) f fd ["self", g] (spXI C fld) := by
  obtain ⟨⟨qual, params, scope, dV, kV, doc, pm, ct, oc, an, od, osl, cc, cda, p0, p1, p2, p3, p4, p5, p6, p7, p8, p9, cl, ccl, cld, cdd, csl, ccs, vs, file, tf, ar, rfl, lk, hcd, S, hsup, hcell, hcode, hvs, hfile, hpar, har, hln, hgd, hgc⟩, htop, hnsup, hsi, hsb, hop, hmro, T, hno⟩ := h
  refine ⟨fun vs H Q E ⟨a, y, e, _⟩ => by rw [e]; rfl, fun A outer s H args us vs1 Q E hr e0 hb rv hsp => ?_⟩
  obtain ⟨a, y, rfl, ha, hq⟩ := hsp
  obtain ⟨nm, q, N0, bs, bm, sn, sub, ab, col, dd, k0, k1, k2, k3, k5, hC, hbm⟩ := id T.cls
  have KX : K.In s.heap := e0.mod.kin.keeps fun b o e => (e0.bs b o e).1
  let F : NF := ⟨"__init__", qual, params, xiBody g fld p0 p1 p2 p3 p4 p5 p6 p7 p8 p9, scope, [("__class__", cc)], cda⟩
  have hC0 : CellsAt F.cl ["__class__"] [none] s.heap H := by
    refine ⟨rfl, fun y c e => ?_, fun x y c e1 e2 => ?_, fun i y e => ?_⟩
    · have e' : c = cc := by
        simp only [F, List.lookup] at e
        split at e <;> simp_all
      subst e'
      exact ⟨(e0.bs _ _ (e0.mod.kin _ _ hcell)).2, _, ⟨_, KX _ _ hcell, rfl⟩⟩
    · simp only [F, List.lookup] at e1 e2
      split at e1 <;> split at e2 <;> simp_all
    · cases i with
      | zero =>
        have e' : y = "__class__" := by simpa using e.symm
        subst e'
        exact ⟨cc, rfl, fun v z => by simp at z⟩
      | succ i => simp at e
  cases rv with
  | @cons _ u0 _ ur ra rw' =>
    obtain rfl : u0 = Value.ref a := ra
    cases rw' with
    | @cons _ u1 _ ur2 r1 r2 =>
      cases r2
      refine ks_codeAny_call_defAt (fd := fnX "__init__" qual params (xiBody g fld p0 p1 p2 p3 p4 p5 p6 p7 p8 p9) scope [("__class__", cc)] dV kV doc pm an (.ref cda) ct) (body := F.body) (binds := [("self", Value.ref a), (g, u1)]) hr.depth (KX _ _ lk) rfl (e0.mod.nolimit.keeps fun b o e => (e0.bs b o e).1) (codeRec_of KX hcd) rfl hb S.nocell (fun z hz => S.par z.1 ?_) (fun h₁ hns kp => ?_) S.co S.gen S.kind
      · rcases List.mem_cons.mp hz with rfl | hz
        · simp
        · rcases List.mem_cons.mp hz with rfl | hz
          · simp
          · cases hz
      have I0 : Inv (ncx CX0 P w K mg base ["self", g, "__class__"] F f A outer s H E) [] (startF ["self", g, "__class__"] [.ref a, y] [none]) H { s with heap := h₁, toks := s.toks + 2 } :=
        inv_startN (F := F) (us := [.ref a, u1]) S hr.hd e0 rfl (.cons rfl (.cons r1 .nil)) hC0 hns kp
      show _root_.PySem.wpAt (model P w) (A.deeper (envF F f s.heap.objs.size)) (.func F.body (envF F f s.heap.objs.size)) (execs F.body (envF F f s.heap.objs.size)) _ _ _
      have hks : (envF F f s.heap.objs.size).kindOf "super" = some .globalImplicit := hsup
      have hkc : (envF F f s.heap.objs.size).kindOf "__class__" = some .free := S.frk "__class__" (by simp)
      have hksf : (envF F f s.heap.objs.size).kindOf "self" = some .local := S.par "self" (by simp)
      have hi : interactive (envF F f s.heap.objs.size) = false := by
        have : (envF F f s.heap.objs.size).scope.kind = .function := S.kind
        unfold interactive
        rw [this]; rfl
      have he : eval (.Call (.Attribute (.Call (.Name "super" p0) [] [] p1) "__init__" p2) [.Name g p3] [] p4) (envF F f s.heap.objs.size) = (do
          let ov ← attributeBase (.Call (.Name "super" p0) [] [] p1) "__init__" (envF F f s.heap.objs.size) (eval (.Call (.Name "super" p0) [] [] p1) (envF F f s.heap.objs.size))
          standAt p2.atName
          let (fv, first) ← holding [ov] (getMethod ov "__init__" (do return (← importBound (.Call (.Name "super" p0) [] [] p1) (envF F f s.heap.objs.size)).getD true))
          callWith p4 fv first (backTo p4 (starEach [.Name g p3] (envF F f s.heap.objs.size))) []) := by
        show (do
          let ov ← attributeBase (.Call (.Name "super" p0) [] [] p1) "__init__" (envF F f s.heap.objs.size) (eval (.Call (.Name "super" p0) [] [] p1) (envF F f s.heap.objs.size))
          standAt p2.atName
          methodCall (.Call (.Name "super" p0) [] [] p1) "__init__" p2 p4 (envF F f s.heap.objs.size) ov 1 (backTo p4 (starEach [.Name g p3] (envF F f s.heap.objs.size))) []) = _
        have hf1 : methodCallForm 1 (backTo p4 (starEach [.Name g p3] (envF F f s.heap.objs.size))) [] = true := rfl
        unfold methodCall methodCallPos calleeOf
        simp only [hf1, hln, Bool.not_true, Bool.false_or, if_true, pure_bind]
      refine ks_wpAt_execs_cons (ks_wpAt_Expr_any (ks_wpAt_MethodCall (name := "__init__") ?_ he) hi)
      obtain ⟨oD, hD1, hD2⟩ : ∃ oD, h₁.get? C = some oD ∧ oD.data = .cls { name := nm, bases := bs, mro := .ref C :: bm, ns := N0, qualname := q, hasDict := true, slotNames := sn, subclasses := sub, abstract := ab, collection := col, hasDel := false } := ⟨_, kp _ _ (KX _ _ hC), rfl⟩
      refine ks_wpAt_super_base (env := envF F f s.heap.objs.size) hks hkc rfl rfl (kp _ _ (KX _ _ lk)) rfl hpar rfl (kp _ _ (KX _ _ hcode)) rfl hvs hfile htop ?_
      have hmod := e0.mod
      have kb : ∀ b o, base.get? b = some o → h₁.get? b = some o := fun b o e => kp _ _ (e0.bs b o e).1
      obtain ⟨mb, hmb1, hmb2⟩ := hmod.blt
      refine ks_loadName_global S.kind hks (Calls.loadGlobal_builtin (env := envF F f s.heap.objs.size) (hmod.glob.keeps kb) hnsup (hmb1.keeps kb) ((hmb2 _ (by decide +kernel)).trans (by first | rfl | kernel_rfl)) ⟨rfl, ?_⟩)
      refine wpAny_loadName_free S.kind hkc rfl ⟨_, kp _ _ (KX _ _ hcell), rfl⟩ ?_
      rw [har]
      have hgs : (("self" : Str) == g) = false := by
        have := S.nd
        simp only [List.nodup_cons, List.mem_cons, not_or] at this
        exact beq_eq_false_iff_ne.mpr this.1.1
      refine wpAny_loadName_local S.kind hksf hns (v := .ref a) (by simp only [List.reverse_cons, List.reverse_nil, List.nil_append, List.cons_append, List.lookup, hgs]; simp) ?_
      refine ks_wpAny_isType_cls hD1 hD2 ⟨rfl, ?_⟩
      obtain ⟨t1, hox⟩ := exo_at e0.hok ha
      have hcl : clsIn K C = some { name := nm, bases := bs, mro := .ref C :: bm, ns := N0, qualname := q, hasDict := true, slotNames := sn, subclasses := sub, abstract := ab, collection := col, hasDel := false } := by unfold PySem.W.clsIn; rw [hC] <;> rfl
      have X1 : K.In h₁ := KX.keeps kp
      refine ks_wpAny_call_super hD1 hD2 (kp _ _ hox) rfl (fun c e => by cases e) (looks_mroIn X1 hmro) (fun h2 hso kp2 => ?_)
      have X2 : K.In h2 := X1.keeps kp2
      have LT : ∀ hh, hh.get? a = some ({ cls := .ref C, dict := none, data := .fields #[.ref t1, .none, .none, .none, .bool false, .none] } : Obj) → Looks (model P w) hh (typeOf (.ref a)) (.ref C) := fun hh ho A Q E s k q => wpAny_typeOf_ref (k _ _ ho) q
      have hsi2 : alongIn K "__init__" (((Value.ref C :: bm).dropWhile (· != .ref C)).drop 1) = some (some (.builtin "ValueError.__init__")) := by
        unfold ks_superIn at hsi
        rw [hcl] at hsi
        exact hsi
      have hac : a ≠ C := by
        intro e
        have z := KX _ _ hC
        rw [← e, hox] at z
        cases z
      have hok2 := kp2 _ _ (kp _ _ hox)
      refine kxs_getMethod kxs_ValueError hso (looks_opaque X2 hop) (l₀ := .ref C :: bm) (fun A Q E s k q => wpAny_bind ((looks_clsIn X2 hcl) A _ E s k (wpAny_pure q))) rfl X2 hsi2 ((LT _ hok2).andThen (looks_subIn X2 hsb)) hac rfl ?_
      have hgk : (envF F f s.heap.objs.size).kindOf g = some .local := S.par g (by simp)
      have hdbg : (g == ("__debug__" : Str)) = false := hgd
      have he2 : starEach [.Name g p3] (envF F f s.heap.objs.size) = (false, eval (.Name g p3) (envF F f s.heap.objs.size)) :: starEach [] (envF F f s.heap.objs.size) := rfl
      show wpAny _ _ (callWith p4 (.ref h2.objs.size) [] (backTo p4 (starEach [.Name g p3] (envF F f s.heap.objs.size))) []) _ _ _
      rw [he2]
      refine kxs_callWith (i := "ValueError.__init__") (x := a) rfl (Calls.evalArgs_plain ?_)
      have kp3 : ∀ b o, h2.get? b = some o → (h2.push (kxs_mw "ValueError.__init__" a)).get? b = some o := fun b o e => Heap.get?_push_of_some _ e
      have hmw : (h2.push (kxs_mw "ValueError.__init__" a)).get? h2.objs.size = some (kxs_mw "ValueError.__init__" a) := Heap.get?_push_at rfl rfl
      have I1 : Inv (ncx CX0 P w K mg base ["self", g, "__class__"] F f A outer s H E) [] (startF ["self", g, "__class__"] [.ref a, y] [none]) H { s with heap := h2.push (kxs_mw "ValueError.__init__" a), toks := s.toks + 2 + 1 } := I0.kept fun b o e => kp3 b o (kp2 b o e)
      show wpAny _ _ (spliced ((false, _) :: backTo p4 (starEach [] (envF F f s.heap.objs.size)))) _ _ _
      refine Calls.spliced_cons (wpAny_Name (wpAny_loadName_local S.kind hgk (hns.keeps fun b o e => kp3 b o (kp2 b o e)) (v := u1) (by simp [List.lookup]) ?_) hdbg)
      refine Calls.spliced_nil ⟨hmw, ?_⟩
      have X3 : K.In (h2.push (kxs_mw "ValueError.__init__" a)) := X2.keeps kp3
      have hox3 := kp3 _ _ hok2
      refine wpAny_call (codeAny_of_tree ?_)
      show wpAny _ (A.deeper (envF F f s.heap.objs.size)).in1 (callAny (.ref h2.objs.size) ⟨[u1], []⟩) _ _ _
      simp only [callAny]
      refine wpAny_bind (wpAny_load hmw ?_)
      simp only [kxs_mw, show (Value.type "method-wrapper" == Value.type "method" || Value.type "method-wrapper" == Value.type "builtin_function_or_method" || Value.type "method-wrapper" == Value.type "method-wrapper") = true by decide, if_true]
      refine KFB.if_so (by decide) ?_
      refine wpAny_bind (check_bound_init PySem.F.excBase_ValueError.toExcCallFacts (X3 _ _ hC) hox3 rfl ?_)
      refine wpAny_bind (wpAny_pure (wpAny_pure ?_))
      refine ⟨plainId_quiet PySem.F.excBase_ValueError.init.plain _, codeAny_builtin PySem.F.excBase_ValueError.initEntry ?_⟩
      refine exc_init_tree (cls := .ref C) (t0 := t1) (dv := none) (c2 := .none) (c3 := .none) (b4 := .bool false) hox3 (by rw [PySem.sizeLine_eq]; show 1 ≤ 16777216; decide) (fun h4 k4 hx4 _ => ?_)
      have J0 := I1.write (t' := s.toks + 2 + 1) (x := a) (e := a) (o := exo a C none) (by rw [ha]; exact True.intro) (.inl rfl) k4 ⟨_, hx4⟩ (exo_ok hx4)
      have eu : upd H a (exo a C none) = H := by
        funext b
        by_cases hb : b = a
        · rw [hb, upd_same, ha]
        · rw [upd_ne hb]
      rw [eu] at J0
      show _root_.PySem.wpAt _ _ _ (execs [.Assign [.Attribute (.Name "self" p6) fld p7] (.Name g p8) p9] (envF F f s.heap.objs.size)) _ _ _
      have hv0 : Vis scope "self" := .inl (S.par "self" (by simp))
      have hv1 : Vis scope g := .inl (S.par g (by simp))
      have hst := pss_one (ps_ost (X := ncx CX0 P w K mg base ["self", g, "__class__"] F f A outer s H E) (p' := p7) (pos := p9) (f := fld) (pe_var (i := 0) (x := "self") (pos := p6) rfl hv0 (by decide) (by decide)) (pe_var (i := 1) (x := g) (pos := p8) rfl hv1 hgd hgc))
      refine wpAt_of_wpAny (wpAny_mono (hst.run [] _ _ H { nx := fun _ H' => Q .non H', rt := Q } J0 ⟨y, rfl, .ref a, rfl, a, C, rfl, T, hno, .inl ⟨ha, fun dx n ne => hq dx n ne⟩⟩) (fun fl s' hs => ?_) fun e s' z => ?_)
      · have fin : ∀ {σ' : L2.St} {H' : Hp} {v : V} {u : Value}, Inv (ncx CX0 P w K mg base ["self", g, "__class__"] F f A outer s H E) [] σ' H' s' → RelV v u → Q v H' → CE outer P w H s Q u s' := fun {σ' H' v u} J rv q => ⟨v, H', J.os, J.bare, J.base, J.hok, rv, q⟩
        cases fl with
        | next =>
          obtain ⟨σ', H', J, q⟩ := hs
          exact fin (v := V.non) (u := Value.none) J rfl q
        | ret u =>
          obtain ⟨v, σ', H', J, rv, q⟩ := hs
          exact fin J rv q
        | brk =>
          obtain ⟨_, _, _, q⟩ := hs
          exact False.elim q
        | cont =>
          obtain ⟨_, _, _, q⟩ := hs
          exact False.elim q
      · exact z
/-- C(e): a new exception whose field fld holds e -/
theorem xi_post {C : Addr} {fld : Str} {y : V} {H1 : Hp} {Q : XK} (h : ∀ d, H1 d = none → Q (.ref C) (some d) (upd H1 d (.xd [(fld, y)]))) :
    [y].length ≤ 1000 ∧ ∀ a, H1 a = none → spXI C fld (.ref a :: ([y] ++ [])) (upd H1 a (exo a C none)) (fun v H2 => v = .non ∧ ∃ (d : Addr) (fs : List (Str × V)), H2 a = some (exo a C (some d)) ∧ H2 d = some (exd d fs) ∧ H1 d = none ∧ Q (.ref C) (some d) (upd (del H2 a) d (.xd fs))) (fun _ _ _ => False) := by
  refine ⟨by show 1 ≤ 1000; decide, fun a ha => ⟨a, y, rfl, upd_same, fun dx hn hne => ⟨rfl, dx, [(fld, y)], upd_same, ?_, ?_, ?_⟩⟩⟩
  · rw [upd_ne hne, upd_same]
  · rw [upd_ne hne] at hn; exact hn
  · have hn' : H1 dx = none := by rw [upd_ne hne] at hn; exact hn
    have e : upd (del (upd (upd (upd H1 a (exo a C none)) dx (exd dx [(fld, y)])) a (exo a C (some dx))) a) dx (.xd [(fld, y)]) = upd H1 dx (.xd [(fld, y)]) := by
      funext b
      by_cases h1 : b = dx
      · rw [h1, upd_same, upd_same]
      · rw [upd_ne h1, upd_ne h1]
        by_cases h2 : b = a
        · rw [h2, del_same, ha]
        · rw [del_ne h2, upd_ne h2, upd_ne h1, upd_ne h2]
    rw [e]
    exact h dx hn'
end M
namespace M
open PySem PySem.Spec PyProof.Rows L2
/-- an exception of the class number c that keeps vs -/
structure ExV (W : Wd) (F : AS) (H : Hp) (c : Nat) (vs : List Dat) (cls : Value) (d : Option Addr) : Prop where
  ex : ∃ (A : Addr) (fs : List (Str × V)), W.mg (W.T.cn c) = some (.ref A) ∧ cls = .ref A ∧ ExD H d fs ∧ fs.map (·.1) = (W.T.fl c).take vs.length ∧ Reps W F H NoA vs (fs.map (·.2))
/-- a def that may raise and changes nothing of what it is given -/
abbrev SpFX := List Dat → (Dat → Prop) → (Nat → List Dat → Prop) → Prop
def spFX (W : Wd) (sp : SpFX) : Sp := fun vs H Q E => ∃ F ds Qd Ed, Reps W F H NoA ds vs ∧ (FL F H ∧ TbOk W.tb H) ∧ sp ds Qd Ed ∧ (∀ r F' H' fr v, Qd r → Rep W F' H' fr r v → Step W F H NoA F' H' fr → Q v H') ∧
  ∀ c gs F' H' fr cls d, Ed c gs → ExV W F' H' c gs cls d → Step W F H NoA F' H' fr → E cls d H'
structure FnFX (C : Ctx) (x : Str) (j : Nat) (sp : SpFX) : Prop where
  ex : ∃ f fd ps, C.mg x = some (.ref f) ∧ PySem.W.keepIn C.K (.ref f) = true ∧ Binds C.K fd ps [] ∧ FnOk C.P C.w C.K C.mg C.base (L2.CX C.P C.w) j f fd ps (spFX C.W sp)
section
variable {C : Ctx} {W : Wd} {D : Ends} {Wx : WX} {pr p1 p2 p3 : Bool} {F F' F1 F2 : AS} {H H' H1 H2 : Hp} {fp fp' fe fe1 fe2 fd fd1 fd2 : AS} {σ σ1 σ' : L2.St} {env env1 env2 : Env} {d d1 d2 : Dat} {v v1 v2 : V}
variable {a b c o e tg iter : Expr} {es : List Expr} {pos p : Pos} {wa wb wc : LE} {ta tb t : LT} {ws : LA} {st : Stmt} {rest body : List Stmt}
/-- where it raises nothing -/
theorem FnFX.calm {x : Str} {j : Nat} {sp : SpFX} (h : FnFX C x j sp) : FnF C x j (fun ds Q => sp ds Q fun _ _ => False) := by
  obtain ⟨f, fd, ps, h1, h2, h3, h4⟩ := h.ex
  have conv : ∀ vs H Q E, spF C.W (fun ds Q => sp ds Q fun _ _ => False) vs H Q E → spFX C.W sp vs H Q (fun _ _ _ => False) := fun vs H Q E ⟨F, ds, Qd, a, b, c, q⟩ => ⟨F, ds, Qd, _, a, b, c, q, fun _ _ _ _ _ _ _ z => z.elim⟩
  refine ⟨f, fd, ps, h1, h2, h3, ⟨fun vs H Q E z => h4.len vs H Q _ (conv vs H Q E z), fun A outer s H args us vs Q E hr e0 hb rv z => ?_⟩⟩
  refine codeAny_mono (h4.run A outer s H args us vs Q _ hr e0 hb rv (conv vs H Q E z)) fun r s' q => ?_
  cases r with
  | ok fl => cases fl <;> exact q
  | error e =>
    obtain ⟨_, _, _, _, _, _, _, _, _, _, _, _, z⟩ := (show L2.CX C.P C.w outer H s (fun _ _ _ => False) e s' from q)
    exact z.elim
structure SKX extends SK where
  ex : Nat → List Dat → Env → Prop
abbrev LSX := Env → SKX → Prop
/-- behind a statement that raised -/
structure Sx (C : Ctx) (σ : L2.St) (F : AS) (H : Hp) (fp : AS) (env : Env) (F' : AS) (H' : Hp) (fe : AS) (c : Nat) (gs : List Dat) (cls : Value) (d : Option Addr) (σ' : L2.St) : Prop where
  sn : Sn C σ F H fp env F' H' fe σ'
  ev : ExV C.W F' H' c gs cls d
structure KoX (C : Ctx) (Wx : WX) (D : Ends) (σ : L2.St) (F : AS) (H : Hp) (fp : AS) (k : SKX) : Prop where
  ko : Ko C D σ F H fp k.toSK
  ex : ∀ c gs env F' H' fe cls d σ', k.ex c gs env → Sx C σ F H fp env F' H' fe c gs cls d σ' → Wx cls d σ' H'
def liftX (C : Ctx) (Wx : WX) (w : LSX) : TS := fun D σ H => ∃ F fp env k, Sl C.W F H fp env σ ∧ Ok C.W F H fp ∧ w env k ∧ KoX C Wx D σ F H fp k
def JX (C : Ctx) (st : Stmt) (w : LSX) : Prop := ∀ X Wx, Gd C X → L2.Takes X Wx → PS X st (liftX C Wx w)
def JXs (C : Ctx) (sts : List Stmt) (w : LSX) : Prop := ∀ X Wx, Gd C X → L2.Takes X Wx → PSs X sts (liftX C Wx w)
theorem KoX.later {k : SKX} (h : KoX C Wx D σ F H fp k) (x : Sn C σ F H fp env1 F1 H1 fe σ1) : KoX C Wx D σ1 F1 H1 fe k :=
  ⟨h.ko.later x, fun c gs env F' H' fe' cls d σ' hk y => h.ex c gs env F' H' fe' cls d σ' hk ⟨x.trans y.sn, y.ev⟩⟩
theorem jx_of {w : LS} (h : JS C st w) : JX C st (fun env k => w env k.toSK) := fun X Wx g tk => PS_imp (h X g) fun D σ H ⟨F, fp, env, k, sl, ok, hw, q⟩ => ⟨F, fp, env, k.toSK, sl, ok, hw, q.ko⟩
theorem jxs_of {ss : List Stmt} {w : LS} (h : JSs C ss w) : JXs C ss (fun env k => w env k.toSK) := fun X Wx g tk => PSs_imp (h X g) fun D σ H ⟨F, fp, env, k, sl, ok, hw, q⟩ => ⟨F, fp, env, k.toSK, sl, ok, hw, q.ko⟩
theorem JX.imp {w w' : LSX} (h : JX C st w) (i : ∀ env k, w' env k → w env k) : JX C st w' := fun X Wx g tk => PS_imp (h X Wx g tk) fun D σ H ⟨F, fp, env, k, sl, ok, hw, q⟩ => ⟨F, fp, env, k, sl, ok, i _ _ hw, q⟩
theorem JXs.imp {ss : List Stmt} {w w' : LSX} (h : JXs C ss w) (i : ∀ env k, w' env k → w env k) : JXs C ss w' := fun X Wx g tk => PSs_imp (h X Wx g tk) fun D σ H ⟨F, fp, env, k, sl, ok, hw, q⟩ => ⟨F, fp, env, k, sl, ok, i _ _ hw, q⟩
def wSeqX (w1 w2 : LSX) : LSX := fun env k => w1 env { k with nx := fun e => w2 e k }
theorem jxs_cons {w1 w2 : LSX} (h1 : JX C st w1) (h2 : JXs C rest w2) : JXs C (st :: rest) (wSeqX w1 w2) := fun X Wx g tk => PSs_imp (pss_cons (h1 X Wx g tk) (h2 X Wx g tk)) fun D σ H ⟨F, fp, env, k, sl, ok, hw, q⟩ =>
  ⟨F, fp, env, _, sl, ok, hw, ⟨⟨fun env' F' H' fe σ' hk x => ⟨F', fe, env', k, x.sl, x.st.ok, hk, q.later x⟩, q.ko.rt, q.ko.bk, q.ko.ct⟩, q.ex⟩⟩
theorem jxs_one {w1 : LSX} (h1 : JX C st w1) : JXs C [st] w1 := fun X Wx g tk => PSs_imp (pss_one (h1 X Wx g tk)) fun _ _ _ h => h
def wIfX (t : LT) (w1 w2 : LSX) : LSX := fun env k => t env fun b e => if b = true then w1 e k else w2 e k
theorem jx_if {x y : List Stmt} {w1 w2 : LSX} (hc : JT C pr c t) (h1 : JXs C x w1) (h2 : JXs C y w2) : JX C (.If c x y pos) (wIfX t w1 w2) := fun X Wx g tk => PS_imp (ps_if (hc X g) (h1 X Wx g tk) (h2 X Wx g tk)) fun D σ H ⟨F, fp, env, k, sl, ok, hw, q⟩ => by
  refine ⟨F, fp, env, _, sl, ok, hw, fun b env' F' H' fe hd P => ?_⟩
  cases b with
  | true => exact ⟨F', fe, env', k, P.sl, P.st.ok, hd, q.later P.sn⟩
  | false => exact ⟨F', fe, env', k, P.sl, P.st.ok, hd, q.later P.sn⟩
/-- the class x (number c) of exceptions with one field -/
structure ExcIn (C : Ctx) (x : Str) (c : Nat) : Prop where
  ex : ∃ (A f : Addr) (fd : FuncData) (g fld : Str), C.mg x = some (.ref A) ∧ C.T.cn c = x ∧ C.T.fl c = [fld] ∧ XiK C.P C.K C.mg A f fd g fld ∧ PySem.W.findIn C.K (.ref A) "__init__" = some (some (.ref f)) ∧ PySem.W.typeIn C.K (.ref f) = some (.type "function") ∧ Binds C.K fd ["self", g] []
def wRaise (c : Nat) (w : LE) : LSX := fun env k => w env fun d e => k.ex c [frz d] e
theorem jx_raise {x : Str} {n : Nat} {w : LE} {pos2 : Pos} (h : ExcIn C x n) (hk : 2 ≤ C.k) (hh : C.hot = false) (he : JE C pr e w) (hg : C.sc.names.lookup x = some .globalImplicit) (hdb : (x == ("__debug__" : Str)) = false)
    (hs : ∀ env, starEach [e] env = (false, eval e env) :: starEach [] env) (hpl : ∀ env, (backTo pos (starEach [] env)).any (·.1) = false) : JX C (.Raise (some (.Call (.Name x p) [e] [] pos)) none pos2) (wRaise n w) := fun X Wx g tk => by
  obtain ⟨A, f, fd, gn, fld, hm, hcn, hfl, hx, hi, ht, hb⟩ := h.ex
  have hx' : XiK X.prog X.K X.mg A f fd gn fld := by rw [g.prog, g.K, g.mg]; exact hx
  have F1 := xi_fn (w := X.w) (base := X.base) hx' 0
  have gl : Gl X x := by
    show X.env.scope.names.lookup x = _
    rw [g.sc]; exact hg
  have pm := pmk_oex (X := X) (x := x) (p := p) (pos := pos) (ds := []) (dvs := []) hx'.T (by rw [g.K]; exact hi) (by rw [g.K]; exact ht) F1 (g.roomM hh hk) (by rw [g.K]; exact hb) .nil pass0 gl (by rw [g.mg]; exact hm) (pa_cons (he X g) pa_nil (hs _)) hdb (hs _) (hpl _)
  refine PS_imp (ps_raise (g.calm' hh) tk pm) fun D σ H ⟨F, fp, env, k, sl, ok, hw, q⟩ => ?_
  refine ⟨F, fp, env, _, sl, ok, hw, fun d env' F' H' fe fd v hd P => ?_⟩
  refine xi_post (C := A) (fld := fld) (y := v) (H1 := H') (Q := fun cls d H2 => Wx cls d σ H2) fun dx hn => ?_
  have k' : Pa C.W pr F H fp σ env' F' H' fe fd [d] [v] := ⟨P.sl, Reps.one P.rep, P.dj, P.st, P.pu⟩
  have fz := k'.freeze
  have fr : Fresh (fun a => F' a ∨ fd a) H' (fun a => F' a ∨ fd a) (upd H' dx (.xd [(fld, v)])) NoA := ⟨keep_upd hn, Tgo.new hn (fun _ z => nomatch z), fun _ z => z, fun _ z => .inl z, fun _ z => z.elim, fun _ z => z.elim⟩
  have s1 := fr.step' (F0 := F) (H0 := H) fz.2.2.ok
  refine q.ex n [frz d] env' _ _ fe (.ref A) (some dx) σ hd ⟨⟨fz.1.kept fr.fx fr.kp, fz.2.2.trans s1, fun _ _ => rfl, rfl⟩, ⟨A, [(fld, v)], ?_, rfl, .inr ⟨dx, rfl, upd_same⟩, ?_, fz.2.1.kept fr.fx fr.kp⟩⟩
  · show C.mg (C.T.cn n) = _
    rw [hcn]; exact hm
  · show [fld] = (C.T.fl n).take 1
    rw [hfl]; rfl
end
end M
namespace M
open PySem PySem.Spec PyProof.Rows L2
abbrev LEX := Env → (Dat → Env → Prop) → (Nat → List Dat → Env → Prop) → Prop
def liftEX (C : Ctx) (Wx : WX) (w : LEX) : TE := fun σ H Q => ∃ F fp env Qd Ed, Sl C.W F H fp env σ ∧ Ok C.W F H fp ∧ w env Qd Ed ∧ (∀ d env' F' H' fe fd v, Qd d env' → Po C.W false F H fp σ env' F' H' fe fd d v → Q v H') ∧
  ∀ c gs env' F' H' fe cls d, Ed c gs env' → Sx C σ F H fp env' F' H' fe c gs cls d σ → Wx cls d σ H'
/-- an expression that an exception may leave -/
def JEX (C : Ctx) (e : Expr) (w : LEX) : Prop := ∀ X Wx, Gd C X → L2.Takes X Wx → PE X e (liftEX C Wx w)
structure FnKX (C : Ctx) (x : Str) (j : Nat) (ks : List Str) (π : List Nat) (sp : SpFX) : Prop where
  ex : ∃ f fd ps, C.mg x = some (.ref f) ∧ PySem.W.keepIn C.K (.ref f) = true ∧ KwB C.K fd ps ks π ∧ FnOk C.P C.w C.K C.mg C.base (L2.CX C.P C.w) j f fd ps (spFX C.W sp)
section
variable {C : Ctx} {W : Wd} {D : Ends} {Wx : WX} {pr p1 p2 p3 : Bool} {F F' F1 F2 : AS} {H H' H1 H2 : Hp} {fp fp' fe fe1 fe2 fd fd1 fd2 : AS} {σ σ1 σ' : L2.St} {env env1 env2 : Env} {d d1 d2 : Dat} {v v1 v2 : V}
variable {a b c o e tg iter : Expr} {es : List Expr} {pos p : Pos} {wa wb wc : LE} {ta tb t : LT} {ws : LA} {st : Stmt} {rest body : List Stmt} {kws : List Keyword} {π : List Nat} {ks : List Str}
theorem JEX.imp {w w' : LEX} (h : JEX C e w) (i : ∀ env Q E, w' env Q E → w env Q E) : JEX C e w' := fun X Wx g tk => PE_imp (h X Wx g tk) fun σ H Q ⟨F, fp, env, Qd, Ed, sl, ok, hw, q⟩ => ⟨F, fp, env, Qd, Ed, sl, ok, i _ _ _ hw, q⟩
theorem Gd.fnokX {X : Cx} (g : Gd C X) {j : Nat} {f : Addr} {fd : FuncData} {ps : List Str} {sp : Sp} (F : FnOk C.P C.w C.K C.mg C.base (L2.CX C.P C.w) j f fd ps sp) : FnOk X.prog X.w X.K X.mg X.base (L2.CX X.prog X.w) j f fd ps sp := by
  rw [g.prog, g.w, g.K, g.mg, g.base]; exact F
/-- what a call leads to, from frozen arguments -/
theorem callX_post {sp : SpFX} {Q : VK} {E : XK} {Qd : Dat → Env → Prop} {Ed : Nat → List Dat → Env → Prop} {ds : List Dat} {vs : List V} {us : List Dat} {ws : List V}
    (q : ∀ d env' F' H' fe fd v, Qd d env' → Po C.W false F H fp σ env' F' H' fe fd d v → Q v H') (qx : ∀ c gs env' F' H' fe cls d, Ed c gs env' → Sx C σ F H fp env' F' H' fe c gs cls d σ → E cls d H')
    (P : Pa C.W pr F H fp σ env F' H' fe fd ds vs) (hr : Reps C.W (fun a => F' a ∨ fd a) H' NoA us ws) (h : sp us (fun r => Qd r env) fun c gs => Ed c gs env) : spFX C.W sp ws H' Q E := by
  have k := P.freeze
  refine ⟨_, _, _, _, hr, ⟨k.2.2.ok.lv, k.2.2.ok.tb⟩, h, fun r F2 H2 fr v hr rr st => ?_, fun c gs F2 H2 fr cls dd he ev st => ?_⟩
  · have fr2 := st.frame (g := fe) k.2.2.ok fun _ z => z.elim
    exact q r env F2 H2 fe fr v hr ⟨k.1.kept st.fx fun a o e => st.kp a o e fun z => z, rr, fun a z q => fr2.2 a q z, (k.2.2.trans (fr2.1.lft fun a z => z.resolve_left id)).sub fun a z => z.symm, fun z => nomatch z⟩
  · have fr2 := st.frame (g := fe) k.2.2.ok fun _ z => z.elim
    exact qx c gs env F2 H2 fe cls dd he ⟨⟨k.1.kept st.fx fun a o e => st.kp a o e fun z => z, (k.2.2.trans (fr2.1.lft fun a z => z.resolve_left id)).sub fun a z => .inr z, fun _ _ => rfl, rfl⟩, ev⟩
def wCallX (ws : LA) (sp : SpFX) : LEX := fun env Q E => ws env fun ds env' => sp (frzs ds) (fun r => Q r env') fun c gs => E c gs env'
theorem jex_call {x : Str} {j : Nat} {sp : SpFX} (f : FnFX C x j sp) (hj : j ≤ C.k) (hg : C.sc.names.lookup x = some .globalImplicit) (hdb : (x == ("__debug__" : Str)) = false) (ha : JA C pr (e :: es) ws)
    (he : ∀ env, starEach (e :: es) env = (false, eval e env) :: starEach es env) (hpl : ∀ env, (backTo pos (starEach es env)).any (·.1) = false) (hh : C.hot = false := by rfl) : JEX C (.Call (.Name x p) (e :: es) [] pos) (wCallX ws sp) := fun X Wx g tk => by
  obtain ⟨f, fd, ps, hm, hk, hb, F⟩ := f.ex
  refine PE_imp (pe_callS (E := WE Wx) (g.fnokX F) (g.roomM hh hj) (gl_of g hg) (by rw [g.mg]; exact hm) (by rw [g.K]; exact hk) (by rw [g.K]; exact hb) (passAt tk) (ha X g) hdb (he _) (hpl _)) fun σ H Q ⟨F, fp, env, Qd, Ed, sl, ok, hw, q, qx⟩ => ?_
  exact ⟨F, fp, env, _, sl, ok, hw, fun ds env' F' H' fe fd vs hd P => callX_post q qx P P.freeze.2.1 hd⟩
theorem pe_callKWX {X : Cx} {k : Nat} {f : Addr} {fd : FuncData} {ps ks : List Str} {sp : Sp} {x : Str} {tk : TA} {E : L2.St → XK} (F : FnOk X.prog X.w X.K X.mg X.base (L2.CX X.prog X.w) k f fd ps sp) (hr : Room k X.A) (hg : Gl X x) (hm : X.mg x = some (.ref f)) (hk : PySem.W.keepIn X.K (.ref f) = true) (hb : KwB X.K fd ps ks π)
    (hx : ∀ σ, PassesAt (L2.CX X.prog X.w) X σ (E σ))
    (hkw : PK X kws tk) (hall : (backToKw pos (keywordEach kws X.env)).all (·.1.isSome) = true) (hks : (backToKw pos (keywordEach kws X.env)).filterMap (·.1) = ks)
    (hdb : (x == ("__debug__" : Str)) = false) (hpl : ((backTo pos (starEach [] X.env)).any (·.1) || (backToKw pos (keywordEach kws X.env)).any (·.1.isNone)) = false) :
    PE X (.Call (.Name x p) [] kws pos) fun σ H Q => tk σ H fun zs H1 => zs.length = ks.length ∧ sp (permL .non π zs) H1 Q (E σ) := by
  constructor
  intro pins s σ H Q I h
  refine wpAny_Call_Name_kw (ld_glob I hg hm ?_ hdb)
  refine PySem.W.callWith_KW0 (h₀ := X.base) I.ok.mod.kin hk hall (thn (hkw.run pos pins s σ H _ I h) ?_) hpl
  rintro ws s2 ⟨zs, H2, I2, rz, hl, q2⟩
  refine ⟨I2.kIn, ?_⟩
  rw [hks]
  have hw : ws.length = ks.length := by rw [← rz.length]; exact hl
  refine wpAny_call (codeAny_mono (F.run X.A X.stack s2 H2 ⟨[], ks.zip ws⟩ (permL .none π ws) (permL .non π zs) Q (E σ) hr I2.env0 (hb s2 ws I2.kIn hw) (perm_vals rz π) q2) fun r s' hq => ?_)
  cases r with
  | error e => exact hx σ pins H2 s2 e s' I2 hq
  | ok fl =>
    cases fl with
    | ret u => exact I2.after hq
    | _ => exact (show False from hq).elim
def wCallKX (n : Nat) (π : List Nat) (ws : LA) (sp : SpFX) : LEX := fun env Q E => ws env fun ds env' => ds.length = n ∧ sp (permL .non π (frzs ds)) (fun r => Q r env') fun c gs => E c gs env'
theorem jex_callKW {x : Str} {j : Nat} {sp : SpFX} (f : FnKX C x j ks π sp) (hj : j ≤ C.k) (hg : C.sc.names.lookup x = some .globalImplicit) (hdb : (x == ("__debug__" : Str)) = false) (ha : JK C pr kws ws)
    (hall : ∀ env, (backToKw pos (keywordEach kws env)).all (·.1.isSome) = true) (hks : ∀ env, (backToKw pos (keywordEach kws env)).filterMap (·.1) = ks)
    (hpl : ∀ env, ((backTo pos (starEach [] env)).any (·.1) || (backToKw pos (keywordEach kws env)).any (·.1.isNone)) = false) (hh : C.hot = false := by rfl) : JEX C (.Call (.Name x p) [] kws pos) (wCallKX ks.length π ws sp) := fun X Wx g tk => by
  obtain ⟨f, fd, ps, hm, hk, hb, F⟩ := f.ex
  refine PE_imp (pe_callKWX (E := WE Wx) (g.fnokX F) (g.roomM hh hj) (gl_of g hg) (by rw [g.mg]; exact hm) (by rw [g.K]; exact hk) (by rw [g.K]; exact hb) (passAt tk) (ha X g) (hall _) (hks _) hdb (hpl _)) fun σ H Q ⟨F, fp, env, Qd, Ed, sl, ok, hw, q, qx⟩ => ?_
  exact ⟨F, fp, env, _, sl, ok, hw, fun ds env' F' H' fe fd vs hd P => ⟨by rw [← P.rep.length]; exact hd.1, callX_post q qx P (perm_reps P.freeze.2.1 π) hd.2⟩⟩
def wDropX (w : LEX) : LSX := fun env k => w env (fun _ e => k.nx e) k.ex
theorem jx_expr {w : LEX} (h : JEX C e w) (hs : ∀ env, swapsWith e none pos.line env = pure false) : JX C (.Expr e pos) (wDropX w) := fun X Wx g tk => PS_imp (ps_expr (h X Wx g tk) (hs _)) fun D σ H ⟨F, fp, env, k, sl, ok, hw, q⟩ =>
  ⟨F, fp, env, _, _, sl, ok, hw, fun d env' F' H' fe fd v hd P => q.ko.nx env' F' H' fe σ hd P.pv.sn, fun c gs env' F' H' fe cls d he s => q.ex c gs env' F' H' fe cls d σ he s⟩
def spOfX (np n : Nat) (w : LSX) : SpFX := fun ds Q E => ds.length = np ∧ w (startE n ds) { nx := fun _ => Q .non, rt := fun d _ => Q d, bk := fun _ => False, ct := fun _ => False, ex := fun c gs _ => E c gs }
theorem gd_defX {N ps : List Str} {st : Stmt} {qual : Str} {f : Addr} {k : Nat} {cdv : Value} {A : Around} {outer : List PySem.Env} {s : Shared} {H : Hp} {E : XK} (pin : List Nat) (hG : C.gd = true → A.guards = some []) (S : FnScope N ps (defScope st)) (hr : Room k (A.deeper (envOfC qual (defScope st) s.heap.objs.size f cdv))) :
    Gd (C.fn N (defScope st) k pin) (cxOf (L2.CX C.P C.w) C.P C.w C.K C.mg C.base N qual (defScope st) f cdv A outer s H E) where
  prog := rfl
  w := rfl
  K := rfl
  mg := rfl
  base := rfl
  N := rfl
  nd := S.nd
  sc := rfl
  calm' := fun _ => rfl
  room := ⟨hr.dp, hr.un⟩
  hd := fun _ => hr.hd
  fn := fun _ _ => rfl
  po := passes_of rfl
  gu := hG
  cq := fun _ _ e => nomatch e
  exo := fun z => Bool.noConfusion z
theorem fnOkFX (hz : C.gd = false) {x qual : Str} {st : Stmt} {f : Addr} {fd : FuncData} {N ps : List Str} {k : Nat} {w : LSX} (F : Fun C.K x qual st f fd) (S : FnScope N ps (defScope st)) (h : JXs (C.fn N (defScope st) k []) (defBody st) w) :
    FnOk C.P C.w C.K C.mg C.base (L2.CX C.P C.w) (k + 1) f fd ps (spFX C.W (spOfX ps.length N.length w)) := by
  refine F.okX S (fun vs H Q E ⟨F', ds, Qd, Ed, r, fl, sp, q⟩ => ?_) (fun cdv A outer s H vs Q E hr ⟨F', ds, Qd, Ed, r, fl, sp, q, qx⟩ => ?_)
  · rw [← r.length]; exact sp.1
  · refine ⟨_, h _ (fun cls d _ H => E cls d H) (gd_defX [] (fun e => by rw [hz] at e; cases e) S hr) (takes_of rfl rfl rfl rfl), F', NoA, _, _, ?_, ok_no fl, sp.2, ⟨⟨?_, ?_, ?_, ?_⟩, ?_⟩⟩
    · rw [start_eq, ← r.length]; exact sl_start _ r
    · exact fun env F2 H2 fe σ' hk s => q .non F2 H2 NoA .non hk rep_non (s.st.sub fun _ z => z.elim)
    · exact fun d env F2 H2 fe fd v σ' hk s => q d F2 H2 fd v hk s.rep (s.st.sub fun _ => .inr)
    · exact fun _ _ _ _ _ hk => hk.elim
    · exact fun _ _ _ _ _ hk => hk.elim
    · exact fun c gs env F2 H2 fe cls d σ' hk s => qx c gs F2 H2 fe cls d hk s.ev s.sn.st
end
end M
namespace M
open PySem PySem.Spec PyProof.Rows L2
section
variable {Md : Model} {A : Around} {E : Value → Shared → Prop} {s : Shared}
theorem forIn_through {β : Type} {init : β} {body : Value → β → Sem (ForInStep β)} : ∀ {l : List Value} {Q : β → Shared → Prop}, (∀ c ∈ l, ∀ Q' : ForInStep β → Shared → Prop, Q' (.yield init) s → wpAny Md A (body c init) Q' E s) → Q init s → wpAny Md A (forIn l init body) Q E s
  | [], Q, _, q => by rw [List.forIn_nil]; exact wpAny_pure q
  | c :: l, Q, h, q => by
    rw [List.forIn_cons]
    refine wpAny_bind (h c List.mem_cons_self _ ?_)
    exact forIn_through (fun c hc => h c (List.mem_cons_of_mem _ hc)) q
theorem forIn_upto {β : Type} {init r : β} {body : Value → β → Sem (ForInStep β)} {c : Value} {post : List Value} : ∀ {pre : List Value} {Q : β → Shared → Prop}, (∀ c ∈ pre, ∀ Q' : ForInStep β → Shared → Prop, Q' (.yield init) s → wpAny Md A (body c init) Q' E s) →
    (∀ Q' : ForInStep β → Shared → Prop, Q' (.done r) s → wpAny Md A (body c init) Q' E s) → Q r s → wpAny Md A (forIn (pre ++ c :: post) init body) Q E s
  | [], Q, _, hc, q => by
    rw [List.nil_append, List.forIn_cons]
    exact wpAny_bind (hc _ (wpAny_pure q))
  | d :: l, Q, h, hc, q => by
    rw [List.cons_append, List.forIn_cons]
    refine wpAny_bind (h d List.mem_cons_self _ ?_)
    exact forIn_upto (fun c hc => h c (List.mem_cons_of_mem _ hc)) hc q
end
theorem exmAny_split {K : PySem.W.Frag} {cls : Value} : ∀ {cs : List Value} {b : Bool}, PySem.W.exmAny K cls cs = some b → (∀ c ∈ cs, ∃ v, PySem.W.exmOne K cls c = some v) ∧
    ((b = false ∧ ∀ c ∈ cs, PySem.W.exmOne K cls c = some false) ∨ (b = true ∧ ∃ pre c post, cs = pre ++ c :: post ∧ (∀ d ∈ pre, PySem.W.exmOne K cls d = some false) ∧ PySem.W.exmOne K cls c = some true))
  | [], b, h => by
    have : some false = some b := h
    cases this
    exact ⟨fun c hc => (nomatch hc), .inl ⟨rfl, fun c hc => (nomatch hc)⟩⟩
  | c :: r, b, h => by
    obtain ⟨b1, d1, x1, y1, rfl⟩ := PySem.W.exmAny_cons h
    obtain ⟨i1, i2⟩ := exmAny_split y1
    refine ⟨fun d hd => ?_, ?_⟩
    · rcases List.mem_cons.mp hd with rfl | hd
      · exact ⟨_, x1⟩
      · exact i1 d hd
    · cases b1 with
      | true => exact .inr ⟨rfl, [], c, r, rfl, fun _ z => (nomatch z), x1⟩
      | false =>
        rcases i2 with ⟨e, i2⟩ | ⟨e, pre, c', post, e2, i2, i3⟩
        · subst e
          refine .inl ⟨rfl, fun d hd => ?_⟩
          rcases List.mem_cons.mp hd with rfl | hd
          · exact x1
          · exact i2 d hd
        · subst e
          refine .inr ⟨rfl, c :: pre, c', post, by rw [e2]; rfl, fun d hd => ?_, i3⟩
          rcases List.mem_cons.mp hd with rfl | hd
          · exact x1
          · exact i2 d hd
open PySem.W PySem.Calls in
theorem exm_tupN {M : Model} {K : PySem.W.Frag} {cls : Value} {cs : List Value} {tp e : Addr} {b : Bool} {h : Heap} (X : K.In h) (LT : Looks M h (typeOf (.ref e)) cls) (hp : h.get? tp = some { cls := .type "tuple", data := .seq cs.toArray }) (hx : exmAny K cls cs = some b) :
    Looks M h (excMatches (.ref e) (.ref tp)) b := by
  intro A Q E s k₀ q
  obtain ⟨hh, g, d, tk, os⟩ := s
  have k : ∀ b o, h.get? b = some o → hh.get? b = some o := k₀
  have LT0 : Looks M h (isInstance (.ref tp) (.type "tuple")) true := ((Looks.ld hp).andThen .now).andThen (Looks.of_pure isSubtype_tuple_tuple)
  obtain ⟨i1, i2⟩ := exmAny_split hx
  have LT := LT.keeps k
  have LT0 := LT0.keeps k
  have hp' := k _ _ hp
  unfold excMatches
  refine wpAny_bind (LT0.at ?_)
  dsimp only
  rw [if_pos rfl]
  first
    | refine wpAny_bind (wpAny_seqItems hp' rfl ?_)
    | refine wpAny_bind (wpAny_bind (wpAny_seqItems hp' rfl (wpAny_pure ?_)))
  dsimp only [Option.getD_some, Option.getD]
  refine wpAny_bind (wpAny_pure ?_)
  refine wpAny_bind (forIn_through (fun c hc Q' q' => ?_) ?_)
  · obtain ⟨v, hv⟩ := i1 c hc
    obtain ⟨e1, _⟩ := exm_cls (M := M) X hv
    refine wpAny_bind ((e1.keeps k).at ?_)
    exact wpAny_pure q'
  refine wpAny_bind (LT.at ?_)
  rcases i2 with ⟨rfl, i2⟩ | ⟨rfl, pre, c, post, rfl, i2, i3⟩
  · refine wpAny_bind (forIn_through (fun c hc Q' q' => ?_) ?_)
    · obtain ⟨_, e2⟩ := exm_cls (M := M) X (i2 c hc)
      refine wpAny_bind ((e2.keeps k).at ?_)
      exact wpAny_pure q'
    · exact wpAny_pure q
  · refine wpAny_bind (forIn_upto (r := (some true, ())) (fun c hc Q' q' => ?_) (fun Q' q' => ?_) ?_)
    · obtain ⟨_, e2⟩ := exm_cls (M := M) X (i2 c hc)
      refine wpAny_bind ((e2.keeps k).at ?_)
      exact wpAny_pure q'
    · obtain ⟨_, e2⟩ := exm_cls (M := M) X i3
      refine wpAny_bind ((e2.keeps k).at ?_)
      exact wpAny_pure q'
    · exact wpAny_pure q
/-- names of own classes in a row -/
inductive NamesR (X : Cx) : List Expr → List Addr → Prop
  | nil : NamesR X [] []
  | cons {x : Str} {c : Addr} {p : Pos} {es : List Expr} {cs : List Addr} : Gl X x → X.mg x = some (.ref c) → (x == ("__debug__" : Str)) = false → NamesR X es cs → NamesR X (.Name x p :: es) (c :: cs)
theorem names_spliced {X : Cx} {pins : List (Addr × Obj)} {σ : L2.St} {H : Hp} {s : Shared} {pos : Pos} {E : Value → Shared → Prop} (I : Inv X pins σ H s) : ∀ {es : List Expr} {cs : List Addr} {Q : List Value → Shared → Prop}, NamesR X es cs → Q (cs.map Value.ref) s → wpAny (model X.prog X.w) X.A (spliced (backTo pos (starEach es X.env))) Q E s
  | _, _, Q, .nil, q => Calls.spliced_nil q
  | _, _, Q, .cons (x := x) (p := p) (es := es) hg hm hd r, q => by
    show wpAny _ _ (spliced ((false, eval (.Name x p) X.env) :: backTo pos (starEach es X.env))) Q E s
    exact Calls.spliced_cons (ld_glob I hg hm (names_spliced I (Q := fun vs s2 => Q (_ :: vs) s2) r q) hd)
theorem NamesR.suite {X : Cx} {a : Addr} {pn : List (Addr × Obj)} : ∀ {es : List Expr} {cs : List Addr}, NamesR X es cs → NamesR (X.suite a pn) es cs
  | _, _, .nil => .nil
  | _, _, .cons hg hm hd r => .cons hg hm hd r.suite
def wTr (K : PySem.W.Frag) (Wout : WX) (i : Nat) (D : Ends) : List (List Addr × (Addr → Value → Option Addr → TS)) → WX
  | [] => Wout
  | (cs, ts) :: r => fun cls d σ H => ∃ b, PySem.W.exmAny K cls (cs.map Value.ref) = some b ∧
      (b = true → ∀ a, H a = none → ts a cls d { nx := fun σ' H' => D.nx (σ'.set i none) H', rt := D.rt, bk := fun σ' H' => D.bk (σ'.set i none) H', ct := fun σ' H' => D.ct (σ'.set i none) H' } (σ.set i (some (.ref a))) H) ∧
      (b = false → wTr K Wout i D r cls d σ H)
inductive HdsT (X : Cx) (n : Str) : List ExceptHandler → List (List Addr × (Addr → Value → Option Addr → TS)) → Prop
  | nil : HdsT X n [] []
  | cons {es : List Expr} {kk : Nat} {cs : List Addr} {ts : Addr → Value → Option Addr → TS} {b₀ : Stmt} {suite : List Stmt} {tp pos' : Pos} {hds : List ExceptHandler} {l : List (List Addr × (Addr → Value → Option Addr → TS))} (hc : NamesR X es cs) (hz : cs.length ≤ sizeLine)
      (hsu : ∀ (a : Addr) (oe : Obj) (cls : Value) (d : Option Addr) (pn : List (Addr × Obj)), Zc cls d oe → (∃ vs, oe.data = .fields vs) → PSs (X.suite a ((a, oe) :: pn)) (b₀ :: suite) (ts a cls d)) (r : HdsT X n hds l) :
      HdsT X n (.ExceptHandler (some (.Tuple es kk tp)) (some n) (b₀ :: suite) pos' :: hds) ((cs, ts) :: l)
theorem FlyingZ.keeps {B h h' : Heap} {l : List PySem.Env} {a : Addr} {Z : Obj → Prop} (f : PySem.HandSPX.FlyingZ B l a Z h) (k : ∀ b o, h.get? b = some o → h'.get? b = some o) : PySem.HandSPX.FlyingZ B l a Z h' := by
  obtain ⟨f1, f2, f3, oe, vs, T, oT, ts, h1, h2, h3, h4, h5, h6, h7, h8, h9⟩ := f
  exact ⟨fun b o e => k b o (f1 b o e), f2, f3.of_keeps fun b o e _ => ⟨o, k b o e, rfl⟩, oe, vs, T, oT, ts, k _ _ h1, h2, h3, h4, h5, h6, k _ _ h7, h8, h9⟩
section
variable {X : Cx} {n : Str} {i : Nat} {body : List Stmt} {h₀ : ExceptHandler} {hds : List ExceptHandler} {l : List (List Addr × (Addr → Value → Option Addr → TS))} {pos : Pos} {tb : WX → TS} {Wout : WX}
theorem ps_tryT (hs : X.stack = X.env :: X.outer) (hf : X.env.frame = some X.env.locals) (hN : X.N.Nodup) (hi : X.N[i]? = some n) (hln : X.env.kindOf n = some .local) (tk : L2.Takes X Wout)
    (hb : ∀ (W : WX) (pn : List (Addr × Obj)) (xe : Value → Shared → Prop), L2.Takes (X.tr pn xe) W → PassesOwn (model X.prog X.w) X.A X.env xe → PSs (X.tr pn xe) body (tb W))
    (hh : HdsT X n (h₀ :: hds) l) : PS X (.Try body (h₀ :: hds) [] [] pos) (fun D σ H => tb (wTr X.K Wout i D l) D σ H) := by
  refine ⟨fun pins s σ H D I h => ?_⟩
  have ok := I.ok
  have hfr : X.A.frames = some (X.env :: X.outer) := by rw [ok.frames, hs]
  have hloc : Loc X.env.scope n := .inl hln
  refine wpAny_Try_except ?_
  refine wpAny_mono ((hb (wTr X.K Wout i D l) (X.pn ++ pins) (fun e s₁ => wpAny (model X.prog X.w) X.A (noteFrame e X.env) (fun _ s₂ => wpAny (model X.prog X.w) X.A (setFlight e none) (fun _ s₃ =>
    wpAny (model X.prog X.w) X.A (handleBy e X.env (h₀ :: hds)) (SP X pins D) X.xe s₃) X.xe s₂) X.xe s₁) (fun u s' xx => ?_) PassesOwn.looking).run [] s σ H D (I.toTry _) h) (fun f s1 hsp => ?_) (fun e s1 he => he)
  · -- the catch
    obtain ⟨a, B, sI, pins', σ', H', cls, d, rfl, J', nb, up, sky, na, os, ag, w⟩ := xx
    have J : Inv X pins σ' H' sI := J'.ofTry ok
    have sky' : Sky B (X.env :: X.outer) a (Zc cls d) X.env.locals s'.heap := by rw [← hs]; exact sky
    show wpAny (model X.prog X.w) X.A (noteFrame (.ref a) X.env) _ _ _
    refine L2.Sky.land Zc.steady hfr hf sky' fun h3 fl3 up3 => ?_
    have notFr : ∀ {h : Heap} {o : Obj} {vs : Array Value}, h.FunFrames B (X.env :: X.outer) → h.get? a = some o → o.data = .fields vs → a ∉ frs (X.env :: X.outer) := fun {h o vs} ff e dd hm => by
      obtain ⟨_, o', e', hnf⟩ := ff.mem hm
      rw [e] at e'; cases e'
      exact hnf _ dd
    have go : ∀ {hds' : List ExceptHandler} {l' : List (List Addr × (Addr → Value → Option Addr → TS))}, HdsT X n hds' l' → wTr X.K Wout i D l' cls d σ' H' →
        ∀ h3 : Heap, PySem.HandSPX.FlyingZ B (X.env :: X.outer) a (Zc cls d) h3 → s'.heap.UpToSlots h3 → wpAny (model X.prog X.w) X.A (handleBy (.ref a) X.env hds') (SP X pins D) X.xe { s' with heap := h3 } := by
      intro hds' l' hk
      induction hk with
      | nil =>
        intro w h3 fl3 up3
        refine wpAny_handleBy_nil ?_
        obtain ⟨k1, k2, k3, oe, vs, T, oT, ts', he, hz, hd, h1, hr⟩ := id fl3
        unfold PySem.passOn
        refine wpAny_bind (wpAny_field he hd h1 ?_)
        rw [if_neg (show ¬ ((Value.ref T == Value.none) = true) from by simp)]
        have fin : wpAny (model X.prog X.w) X.A (setFlight (.ref a) X.env.frame) (fun _ s4 => wpAny (model X.prog X.w) X.A (throw (.ref a) : Sem Flow) (SP X pins D) X.xe s4) X.xe { s' with heap := h3 } := by
          rw [hf]
          refine PySem.HandSPX.setFlight_upZ fl3 fun h4 hh4 up4 => wpAny_throw (tk _ _ ?_)
          exact ⟨a, B, sI, pins, σ', H', cls, d, rfl, J, nb, (up.trans up3).trans up4, .inr (.inr (by rw [hs]; exact hh4)), na, os, ag, w⟩
        first
          | exact wpAny_bind (wpAny_pure (wpAny_bind fin))
          | exact wpAny_bind fin
      | @cons es kk cs ts b₀ suite tp pos' hds2 l2 hc hz hsu r ih =>
        intro w h3 fl3 up3
        obtain ⟨b, hb1, hyes, hno⟩ := w
        have J3 : Inv X pins σ' H' { s' with heap := h3 } := J.landed nb fl3.1 (up.trans up3) os ag
        obtain ⟨oe3, vs3, he3, hz3, hd3⟩ := fl3.there
        have nfr := notFr fl3.2.2.1 he3 hd3
        have nL : a ≠ X.env.locals := fun z => nfr (List.mem_filterMap.mpr ⟨X.env, List.mem_cons_self, by rw [hf, z]⟩)
        have nF : a ∉ X.fs := fun hm => by
          obtain ⟨e, he, q⟩ := List.mem_filterMap.mp hm
          exact nfr (List.mem_filterMap.mpr ⟨e, List.mem_cons_of_mem _ he, q⟩)
        have S3 := J3.suite he3 hd3 na nL nF
        refine wpAny_handleBy_cons (codeAny_handlers_test ?_) (by intro q; cases q)
        refine wpAny_Tuple_spliced (names_spliced (X := X.suite a ((a, oe3) :: (X.pn ++ pins))) S3 hc.suite ⟨by rw [List.length_map]; exact hz, ?_⟩)
        have kT : ∀ b o, h3.get? b = some o → (h3.push { cls := .type "tuple", data := .seq (cs.map Value.ref).toArray }).get? b = some o := fun b o e => Heap.get?_push_of_some _ e
        have LT : PySem.W.Looks (model X.prog X.w) (h3.push { cls := .type "tuple", data := .seq (cs.map Value.ref).toArray }) (typeOf (.ref a)) cls := fun A Q E s k q => wpAny_typeOf_ref (k _ _ (kT _ _ he3)) (by rw [hz3.1]; exact q)
        have LM := exm_tupN (M := model X.prog X.w) (PySem.W.Frag.In.keeps J3.kIn kT) LT (Heap.get?_push_size _ rfl) hb1
        refine LM.here ?_
        cases b with
        | true =>
          refine codeAny_handlers_suite_as ?_
          refine PySem.HandSPX.lands_againZ (FlyingZ.keeps fl3 kT) fun h4 fl4 up4 => ?_
          have J4 : Inv X pins σ' H' { s' with heap := h4 } := J.landed nb fl4.1 (((up.trans up3).trans (Heap.UpToSlots.of_keeps kT)).trans up4) os ag
          obtain ⟨oe4, vs4, he4, hz4, hd4⟩ := fl4.there
          have S4 := J4.suite he4 hd4 na nL nF
          refine store_ok (X := X.suite a ((a, oe4) :: (X.pn ++ pins))) (v := .ref a) S4 hN hi hloc rfl (fun s5 S5 => ?_) (.inr hln)
          refine wpAny_mono ((hsu a oe4 cls d (X.pn ++ pins) hz4 ⟨_, hd4⟩).run [] s5 _ H' _ S5 (hyes rfl a na)) (fun f s6 hsp => ?_) (fun _ _ z => False.elim z)
          have end_ : ∀ {σ6 : L2.St} {H6 : Hp} {Q : Shared → Prop}, Inv (X.suite a ((a, oe4) :: (X.pn ++ pins))) [] σ6 H6 s6 → (∀ s7, Inv X pins (σ6.set i none) H6 s7 → Q s7) →
              wpAny (model X.prog X.w) X.A (do bindName X.env n .none; unbindBehindTheSuite X.env n pos') (fun _ s7 => Q s7) X.xe s6 := fun {σ6 H6 Q} S6 hq => gone_ok (S6.unsuite ok) hN hi hln hq
          cases f with
          | next =>
            obtain ⟨σ6, H6, S6, q6⟩ := hsp
            exact end_ S6 fun s7 J7 => ⟨_, _, J7, q6⟩
          | brk =>
            obtain ⟨σ6, H6, S6, q6⟩ := hsp
            exact end_ S6 fun s7 J7 => ⟨_, _, J7, q6⟩
          | cont =>
            obtain ⟨σ6, H6, S6, q6⟩ := hsp
            exact end_ S6 fun s7 J7 => ⟨_, _, J7, q6⟩
          | ret u =>
            obtain ⟨v6, σ6, H6, S6, r6, q6⟩ := hsp
            exact end_ S6 fun s7 J7 => ⟨_, _, _, J7, r6, q6⟩
        | false =>
          show wpAny _ X.A (handleBy (.ref a) X.env hds2) _ _ _
          exact ih (hno rfl) _ (FlyingZ.keeps fl3 kT) (up3.trans (Heap.UpToSlots.of_keeps kT))
    exact go hh w h3 fl3 up3
  · cases f with
    | next =>
      obtain ⟨σ', H', J', q⟩ := hsp
      exact wpAny_execs_nil ⟨σ', H', J'.ofTry ok, q⟩
    | brk =>
      obtain ⟨σ', H', J', q⟩ := hsp
      exact ⟨σ', H', J'.ofTry ok, q⟩
    | cont =>
      obtain ⟨σ', H', J', q⟩ := hsp
      exact ⟨σ', H', J'.ofTry ok, q⟩
    | ret u =>
      obtain ⟨v, σ', H', J', r, q⟩ := hsp
      exact ⟨v, σ', H', J'.ofTry ok, r, q⟩
end
end M
namespace M
open PySem PySem.Spec PyProof.Rows L2
section
open PySem.W PySem.Calls
variable {prog : Program} {w : World} {A : Around} {E : Value → Shared → Prop} {s : Shared} {K : Frag} {x D : Addr} {ox : Obj} {odx : Option Obj}
theorem findObj_dataG {C : Addr} {name : Str} {a g : Value} (hc : (clsIn K C).isSome = true) (ha : findIn K (.ref C) name = some (some a)) (hg : specialIn K a "__get__" = some (some g)) (ht : takesIn K a = some true) : findObj K C odx name = some (.bind g a) := by
  obtain ⟨cd, hc⟩ := Option.isSome_iff_exists.mp hc
  unfold findObj
  rw [hc, Option.bind_some, ha, Option.bind_some]
  simp [hg, ht]
theorem kin_classG {Q : Option Value → Shared → Prop} (C : ExcC K D) (X : K.In s.heap) (I : InstAt s.heap x ox D odx) (h : Q (some (.ref D)) { s with toks := s.toks + 1 }) : wpAny (model prog w) A (getAttr? (.ref x) "__class__") Q E s := by
  obtain ⟨hga, hgt, hsub, hdct, ha, hn, htk, hm⟩ := C
  have hf : findObj K D odx "__class__" = some (.bind (.builtin "getset_descriptor.__get__") (.builtin "object.__class__")) := findObj_dataG (by obtain ⟨cd, hc, _⟩ := any_some hdct; rw [hc]; rfl) ha hn htk
  obtain ⟨hp, g, d, t, os⟩ := s
  have L0 := I.type (M := model prog w)
  have L1 := looks_findIn (M := model prog w) X hga
  have L2 := looks_findIn (M := model prog w) X hgt
  have L3 := looks_find (M := model prog w) X I hf
  have sub : Looks (model prog w) hp (isInstance (.ref x) (.type "BaseException")) true := L0.andThen (looks_subIn X hsub)
  have hx0 : (false && onTheHeap (Value.builtin "BaseException.__getattribute__")) = false := rfl
  have hx2 : (Value.builtin "BaseException.__getattribute__" == Value.builtin "object.__getattribute__") = false := by decide +kernel
  have hx1 : (onTheHeap (Value.ref D) && Value.builtin "BaseException.__getattribute__" == Value.builtin "object.__getattribute__") = false := by rw [hx2]; rfl
  unfold getAttr? getAttrBy? getAttrBy
  refine wpAny_bind (wpAny_mkText (wpAny_bind (wpAny_attempt (wpAny_holding (wpAny_bind (L0.at (wpAny_bind (L1.at ?_))))))))
  show wpAny _ _ (if (onTheHeap (Value.ref D) && Value.builtin "BaseException.__getattribute__" == Value.builtin "object.__getattribute__") = true then _ else _) _ _ _
  rw [hx1, if_neg Bool.false_ne_true]
  unfold getAttrByItsOwn hookBefore
  refine wpAny_bind ?_
  rw [if_pos (show onTheHeap (Value.ref D) = true from rfl)]
  refine L2.at ?_
  refine wpAny_bind (wpAny_attempt (wpAny_holding ?_))
  unfold callGetattribute
  rw [hx0, if_neg Bool.false_ne_true]
  unfold boundAndCalled
  rw [PySem.F.excAttr_ValueError.ga.bind (.ref x)]
  refine wpAny_bind (wpAny_pure ?_)
  show wpAny _ _ (call (.builtin "BaseException.__getattribute__") [.ref x, .str "__class__" t]) _ _ _
  refine wpAny_call (codeAny_call_builtin PySem.F.excAttr_ValueError.ga.plain PySem.F.entry_bexc_ga ?_)
  refine @check_slot (model prog w) _ _ ⟨hp, g, d, t + 1, os⟩ "BaseException.__getattribute__" "BaseException" "__getattribute__" (.ref x) [.str "__class__" t] [] _ (by decide +kernel) (by decide +kernel) sub (PySem.F.args_bexc_ga (.ref x) (.str "__class__" t)) ?_
  unfold Builtin.«object.__getattribute__»
  refine wpAny_bind (wpAny_of_eq (a := ((Value.ref x : Value), [Value.str "__class__" t])) (by first | rfl | (simp only [slotArgs]; rfl)) ?_)
  refine wpAny_bind (wpAny_pure (wpAny_bind (L0.at (wpAny_bind (L3.at ?_)))))
  show wpAny _ _ (holding [Value.builtin "object.__class__"] (call (.builtin "getset_descriptor.__get__") [.builtin "object.__class__", .ref x, .ref D]) >>= ret) _ _ _
  refine wpAny_bind (wpAny_holding (wpAny_call (class_get (s := ⟨hp, g, d, t + 1, os⟩) (ox := ox) (od := odx) X I hm ?_)))
  refine wpAny_pure ?_
  show wpAny _ _ (handedOut (.ref D)) _ _ _
  rw [handedOut_of (v := .ref D) rfl]
  first
    | exact wpAny_pure (wpAny_pure h)
    | exact wpAny_pure h
    | exact wpAny_pure (wpAny_bind (wpAny_pure (wpAny_pure h)))
theorem kitx_excG (C : ExcC K D) : KitX K (.ref x) (.ref D) (fun h => InstAt h x ox D odx) where
  ty := fun _ _ _ I => I.type
  it := fun _ _ X _ => by
    obtain ⟨cdD, hcD, _⟩ := any_some C.hd
    unfold clsIn at hcD
    split at hcD
    · rename_i c' d' cd' sl' ho
      intro A' Q' E' s' k q
      unfold isType loadHead
      exact wpAny_bind (wpAny_loadPart (k _ _ (X _ _ ho)) (wpAny_pure q))
    · cases hcD
  ne := fun h tp dd its n sl X htp => by
    obtain ⟨cdD, hcD, _⟩ := any_some C.hd
    refine Bool.eq_false_iff.mpr fun q => ?_
    have e : D = tp := Value.ref.inj (beq_iff_eq.mp q)
    subst e
    unfold clsIn at hcD
    split at hcD
    · rename_i c' d' cd' sl' ho
      have z := (X _ _ ho).symm.trans htp
      cases z
    · cases hcD
  ca := fun X I k => kin_classG C X I k
end
section
variable {X : Cx} {pins : List (Addr × Obj)} {σ : L2.St} {H : Hp} {s : Shared} {a A : Addr} {oe : Obj} {d : Option Addr} {fs : List (Str × V)}
/-- the exception at hand is an instance of its class -/
theorem exn_inst (I : Inv X pins σ H s) (hp : (a, oe) ∈ X.pn) (hz : Zc (.ref A) d oe) (hf : ∃ vs, oe.data = .fields vs) (hd : ExD H d fs) : ∃ od, PySem.W.InstAt s.heap a oe A od := by
  obtain ⟨hget, _⟩ := I.pin (a, oe) (List.mem_append.mpr (.inl hp))
  obtain ⟨vs, hv⟩ := hf
  rcases hd with ⟨rfl, _⟩ | ⟨da, rfl, hx⟩
  · exact ⟨none, hget, hz.1, by unfold PySem.W.notCls; rw [hv] <;> rfl, by rw [hz.2]; exact trivial⟩
  · have hx' : ObjOk X.prog X.w H s.heap da (.xd fs) := I.hok da _ hx
    obtain ⟨mA, hns, hr⟩ := hx'
    obtain ⟨od, ho, hl⟩ := lookIn_ns hns
    exact ⟨some od, hget, hz.1, by unfold PySem.W.notCls; rw [hv] <;> rfl, by rw [hz.2]; exact ho⟩
/-- isinstance(e, c) -/
def rIsN (K : PySem.W.Frag) (pn : List (Addr × Obj)) : List V → Hp → VK → Prop := fun xs H Q => ∃ (a A : Addr) (oe : Obj) (d : Option Addr) (fs : List (Str × V)) (c : V) (cv : Value) (b : Bool), xs = [.ref a, c] ∧ (∀ u, RelV c u → u = cv) ∧ (a, oe) ∈ pn ∧ Zc (.ref A) d oe ∧ (∃ vs, oe.data = .fields vs) ∧ ExD H d fs ∧ ExcC K A ∧ PySem.W.kitOne K (.ref A) cv = some b ∧ Q (.bl b) H
theorem call_isN : CallR X (.builtin "isinstance") (rIsN X.K X.pn) := by
  intro pins s σ H xs us Q I r h
  obtain ⟨a, A, oe, d, fs, c, cv, b, rfl, hcv, hp, hz, hf, hd, C, e, q⟩ := h
  cases r with
  | cons rx rr =>
    cases rr with
    | cons rt rr =>
      cases rr
      cases rx
      have ec := hcv _ rt
      subst ec
      obtain ⟨od, J⟩ := exn_inst I hp hz hf hd
      exact PySem.W.kia_one (kitx_excG C) I.kIn J e (fun z => nomatch z) fun tk => ⟨.bl b, H, I.kept (t' := tk) fun _ _ z => z, rfl, q⟩
end
/-- isinstance(e, x) for the exception at hand, answered by the number of its class -/
structure IsX (C : Ctx) (x : Str) (f : Nat → Option Bool) : Prop where
  ex : ∃ (u : Value) (cv : V), ((C.mg x = none ∧ bootBuiltins x = some u ∧ x ≠ "__name__") ∨ C.mg x = some u) ∧ RelV cv u ∧ (∀ v, RelV cv v → v = u) ∧ ∀ c b A, f c = some b → C.mg (C.T.cn c) = some (.ref A) → ExcC C.K A ∧ PySem.W.kitOne C.K (.ref A) u = some b
def rIsX (f : Nat → Option Bool) : Dat → (Dat → Prop) → Prop
  | .exn c _, Q => ∃ b, f c = some b ∧ Q (.bl b)
  | _, _ => False
section
variable {C : Ctx} {pr : Bool} {a : Expr} {pos p xp : Pos} {wa : LE} {x : Str} {f : Nat → Option Bool}
theorem je_isX (hi : IsX C x f) (hh : C.hot = true) (hgx : C.sc.names.lookup x = some .globalImplicit) (hdx : (x == ("__debug__" : Str)) = false) (hm : C.mg ("isinstance" : Str) = none) (hg : C.sc.names.lookup ("isinstance" : Str) = some .globalImplicit) (ha : JV C pr a wa)
    (hs : ∀ env, starEach [a, .Name x xp] env = (false, eval a env) :: starEach [.Name x xp] env) (hpl : ∀ env, (backTo pos (starEach [.Name x xp] env)).any (·.1) = false) :
    JE C pr (.Call (.Name "isinstance" p) [a, .Name x xp] [] pos) (w1 wa (rIsX f)) := fun X g => by
  obtain ⟨u, cv, hT, rel, hcv, hf⟩ := hi.ex
  have pn : PE X (.Name x xp) (tC cv) := by
    rcases hT with ⟨h1, h2, h3⟩ | h1
    · exact pe_bltn (gl_of g hgx) (by rw [g.mg]; exact h1) h2 rel h3 hdx
    · exact pe_glob (gl_of g hgx) (by rw [g.mg]; exact h1) rel hdx
  refine PE_imp (pe_callB call_isN (gl_of g hg) (by rw [g.mg]; exact hm) (by rfl) (pa_cons (ha X g) (pa_cons pn pa_nil) (hs _)) (by decide) (by decide) (hs _) (hpl _)) fun σ H Q h => ?_
  rw [g.K]
  obtain ⟨F, fp, env, Qd, sl, ok, hw, q⟩ := h
  refine ⟨F, fp, env, _, sl, ok, hw, fun d env' F' H' fe fd v hd P => ?_⟩
  cases d with
  | exn c vs =>
    obtain ⟨b, hb, hd⟩ := hd
    have r := P.rep
    cases r with
    | @exn _ a0 _ d0 fs _ e1 e2 e3 e4 e5 =>
      obtain ⟨A, oe, h1, h2, h3, h4⟩ := g.exo hh _ _ _ e2
      obtain ⟨h5, h6⟩ := hf c b A hb h1
      exact ⟨a0, A, oe, d0, fs, cv, u, b, rfl, hcv, h2, h3, h4, e3, h5, h6, q _ env' F' H' fe NoA _ hd (po_bl P)⟩
  | _ => exact hd.elim
theorem pe_xfN {X : Cx} {K : PySem.W.Frag} {e : Expr} {te : TE} {pos : Pos} {n : Str} (hK : X.K = K) (he : PE X e te) (hb : attributeBase e n X.env (eval e X.env) = eval e X.env) :
    PE X (.Attribute e n pos) (fun σ H Q => te σ H fun x H1 => ∃ (a A dd : Addr) (oe : Obj) (fs : List (Str × V)) (v : V), x = .ref a ∧ (a, oe) ∈ X.pn ∧ Zc (.ref A) (some dd) oe ∧ (∃ vs, oe.data = .fields vs) ∧ H1 dd = some (.xd fs) ∧ fs.lookup n = some v ∧ XfC K A ∧ PySem.W.findIn K (.ref A) n = some none ∧ Q v H1) := by
  subst hK
  refine ⟨fun pins s σ H Q I h => ?_⟩
  refine attr_of hb (thn (he.run pins s σ H _ I h) fun u s1 hh => ?_)
  obtain ⟨x, H1, I1, rx, a, C, dd, oe, fs, v, ex, hp, hz, hf, ea, l, T, hno, q⟩ := hh
  subst ex
  obtain rfl : u = Value.ref a := rx
  obtain ⟨ha, _⟩ := I1.pin (a, oe) (List.mem_append_left _ hp)
  obtain ⟨vs, hd⟩ := hf
  have hx : ObjOk X.prog X.w H1 s1.heap dd (.xd fs) := I1.hok dd _ ea
  obtain ⟨mA, hns, hr⟩ := hx
  obtain ⟨od, ho, hl⟩ := lookIn_ns hns
  obtain ⟨u, hu, ru⟩ := RelO.some_of (v := v) (o := mA n) (by rw [← l]; exact hr n)
  have J : PySem.W.InstAt s1.heap a oe C (some od) := ⟨ha, hz.1, by unfold PySem.W.notCls; rw [hd] <;> rfl, by rw [hz.2]; exact ho⟩
  exact HandSPX.exc_get I1.kIn J T.ga T.gg T.exC (PySem.W.findObj_own T.hdC hno rfl (by rw [hl, hu])) (handed_of ru) ⟨v, H1, I1.tok _, ru, q⟩
end
end M
namespace M
noncomputable section
open PySem PySem.Spec PyProof.Rows L2
structure XfX (C : Ctx) (n : Str) (f : Nat → Bool) : Prop where
  ex : ∀ c A, f c = true → C.mg (C.T.cn c) = some (.ref A) → XfC C.K A ∧ PySem.W.findIn C.K (.ref A) n = some none ∧ C.T.fl c = [n]
def rXf (f : Nat → Bool) : Dat → (Dat → Prop) → Prop
  | .exn c [x], Q => f c = true ∧ Q x
  | _, _ => False
section
variable {C : Ctx} {pr : Bool} {a : Expr} {pos p xp : Pos} {wa : LE} {n : Str} {f : Nat → Bool}
theorem jv_xf (hi : XfX C n f) (hh : C.hot = true) (ha : JV C pr a wa) (hb : ∀ env, attributeBase a n env (eval a env) = eval a env) : JV C pr (.Attribute a n pos) (w1 wa (rXf f)) := fun X g => by
  refine PE_imp (pe_xfN (X := X) g.K (ha X g) (hb _)) fun σ H Q h => ?_
  obtain ⟨F, fp, env, Qd, sl, ok, hw, q⟩ := h
  refine ⟨F, fp, env, _, sl, ok, hw, fun d env' F' H' fe fd v hd P => ?_⟩
  cases d with
  | exn c vs =>
    match vs, hd, P with
    | [x], ⟨hf, hd⟩, P =>
      have r := P.rep
      cases r with
      | @exn _ a0 _ d0 fs _ e1 e2 e3 e4 e5 =>
        obtain ⟨A, oe, h1, h2, h3, h4⟩ := g.exo hh _ _ _ e2
        obtain ⟨h5, h6, h7⟩ := hi.ex c A hf h1
        have e4' : fs.map (·.1) = [n] := by rw [e4]; show (C.T.fl c).take 1 = [n]; rw [h7]; rfl
        match fs, e4', e5, e3 with
        | [(m, v)], e4', e5, e3 =>
          obtain rfl : m = n := by simpa using e4'
          rcases e3 with ⟨_, z⟩ | ⟨dd, e6, e7⟩
          · cases z
          · subst e6
            refine ⟨a0, A, dd, oe, [(m, v)], v, rfl, h2, h3, h4, e7, by simp [List.lookup], h5, h6, ?_⟩
            cases e5 with
            | cons r1 r2 n1 j1 =>
              cases r2 with
              | nil e8 => exact q x env' F' H' fe _ v hd ⟨P.sl, r1, P.st, P.pu⟩
  | _ => exact hd.elim
end
section
variable {C : Ctx} {a : Expr} {pos p xp : Pos} {x n : Str} {f : Nat → Option Bool} {g : Nat → Bool}
def xIsX (f : Nat → Option Bool) : X1
  | .exn c _ => (f c).map .bl
  | _ => none
theorem xIsX_ok : Ok1 (xIsX f) (rIsX f) := by
  intro y d Q h q
  cases y <;> simp only [xIsX] at h
  case exn c vs =>
    obtain ⟨b, e, rfl⟩ := map_ok h
    exact ⟨b, e, q⟩
  all_goals cases h
def de_isX (hi : IsX C x f) (a' : DV C a) (hh : C.hot = true := by rfl) (hgx : C.sc.names.lookup x = some .globalImplicit := by rfl) (hdx : (x == ("__debug__" : Str)) = false := by rfl) (hm : C.mg ("isinstance" : Str) = none) (hg : C.sc.names.lookup ("isinstance" : Str) = some .globalImplicit := by rfl)
    (hs : ∀ env, starEach [a, .Name x xp] env = (false, eval a env) :: starEach [.Name x xp] env := by intro _; rfl) (hpl : ∀ env, (backTo pos (starEach [.Name x xp] env)).any (·.1) = false := by intro _; rfl) :
    DE C (.Call (.Name "isinstance" p) [a, .Name x xp] [] pos) := ⟨_, x1 a'.x (xIsX f), (je_isX (p := p) hi hh hgx hdx hm hg a'.ok hs hpl).imp (x1_ok xIsX_ok)⟩
def xXf (g : Nat → Bool) : X1
  | .exn c [y] => if g c = true then some y else none
  | _ => none
theorem xXf_ok : Ok1 (xXf g) (rXf g) := by
  intro y d Q h q
  unfold xXf at h
  split at h
  · obtain ⟨c, h⟩ := ite_ok h; cases h; exact ⟨c, q⟩
  · cases h
def dv_xf (hi : XfX C n g) (a' : DV C a) (hh : C.hot = true := by rfl) (hb : ∀ env, attributeBase a n env (eval a env) = eval a env := by intro _; rfl) : DV C (.Attribute a n pos) := ⟨_, x1 a'.x (xXf g), (jv_xf hi hh a'.ok hb).imp (x1_ok xXf_ok)⟩
end
inductive RX where
  | ok (d : Dat)
  | ex (c : Nat) (gs : List Dat)
inductive OutX where
  | o (r : Out)
  | ex (c : Nat) (gs : List Dat) (e : Env)
def OutX.fits : OutX → SKX → Prop
  | .o r, k => r.fits k.toSK
  | .ex c gs e, k => k.ex c gs e
abbrev YS := Env → Option OutX
def ywS (x : YS) : LSX := fun env k => ∃ o, x env = some o ∧ o.fits k
abbrev YE := Env → Option (RX × Env)
def ywE (x : YE) : LEX := fun env Q E => ∃ r e, x env = some (r, e) ∧ match r with | .ok d => Q d e | .ex c gs => E c gs e
structure DX (C : Ctx) (st : Stmt) where
  x : YS
  ok : JX C st (ywS x)
structure DXs (C : Ctx) (ss : List Stmt) where
  x : YS
  ok : JXs C ss (ywS x)
structure DEX (C : Ctx) (e : Expr) where
  x : YE
  ok : JEX C e (ywE x)
abbrev RFX := List Dat → Option RX
def spXX (r : RFX) : SpFX := fun ds Q E => ∃ o, r ds = some o ∧ match o with | .ok d => Q d | .ex c gs => E c gs
section
variable {C : Ctx} {pr : Bool} {a b c o e iter tg : Expr} {es : List Expr} {pos p : Pos} {st : Stmt} {ss body : List Stmt} {kws : List Keyword} {x : Str} {ks : List Str} {π : List Nat}
def yOf (a : XS) : YS := fun env => (a env).map .o
theorem yOf_ok {a : XS} : ∀ env k, ywS (yOf a) env k → xwS a env k.toSK := fun env k ⟨o, h, q⟩ => by
  obtain ⟨z, e, rfl⟩ := map_ok h
  exact ⟨z, e, q⟩
def dxx_of (a' : DS_ C st) : DX C st := ⟨yOf a'.x, (jx_of a'.ok).imp yOf_ok⟩
def dxs_of (a' : DSs C ss) : DXs C ss := ⟨yOf a'.x, (jxs_of a'.ok).imp yOf_ok⟩
def ySeq (a b : YS) : YS := fun env => (a env).bind fun o => match o with | .o (.nx e) => b e | r => some r
def dxs_cons (a' : DX C st) (b' : DXs C ss) : DXs C (st :: ss) := ⟨ySeq a'.x b'.x, (jxs_cons a'.ok b'.ok).imp fun env k ⟨o, h, q⟩ => by
  obtain ⟨o1, h1, h⟩ := bind_ok h
  refine ⟨o1, h1, ?_⟩
  rcases o1 with (_ | _ | _ | _) | _
  · exact ⟨o, h, q⟩
  all_goals (cases h; exact q)⟩
def dxs_one (a' : DX C st) : DXs C [st] := ⟨a'.x, jxs_one a'.ok⟩
def yIf (t : XT) (a b : YS) : YS := fun env => (t env).bind fun p => if p.1 = true then a p.2 else b p.2
def dx_if {x y : List Stmt} (t' : DT C c) (a' : DXs C x) (b' : DXs C y) : DX C (.If c x y pos) := ⟨yIf t'.x a'.x b'.x, (jx_if t'.ok a'.ok b'.ok).imp fun env k ⟨o, h, q⟩ => by
  obtain ⟨⟨u, e2⟩, ha, h⟩ := bind_ok h
  refine ⟨u, e2, ha, ?_⟩
  cases u with
  | true => exact ⟨o, h, q⟩
  | false => exact ⟨o, h, q⟩⟩
def yRaise (n : Nat) (a : XE) : YS := fun env => (a env).map fun p => .ex n [frz p.1] p.2
def dx_raise {n : Nat} {pos2 : Pos} (h : ExcIn C x n) (hk : 2 ≤ C.k) (a' : DE C e) (hh : C.hot = false := by rfl) (hg : C.sc.names.lookup x = some .globalImplicit := by rfl) (hdb : (x == ("__debug__" : Str)) = false := by rfl)
    (hs : ∀ env, starEach [e] env = (false, eval e env) :: starEach [] env := by intro _; rfl) (hpl : ∀ env, (backTo pos (starEach [] env)).any (·.1) = false := by intro _; rfl) : DX C (.Raise (some (.Call (.Name x p) [e] [] pos)) none pos2) :=
  ⟨yRaise n a'.x, (jx_raise h hk hh a'.ok hg hdb hs hpl).imp fun env k ⟨o, h, q⟩ => by
    obtain ⟨⟨u, e2⟩, ha, h⟩ := map_ok h
    cases h
    exact ⟨u, e2, ha, q⟩⟩
def yCall (a : XA) (f : RFX) : YE := fun env => (a env).bind fun p => (f (frzs p.1)).map fun r => (r, p.2)
def dex_call {j : Nat} {r : RFX} (f : FnFX C x j (spXX r)) (a' : DA C (e :: es)) (hj : j ≤ C.k) (hg : C.sc.names.lookup x = some .globalImplicit := by rfl) (hdb : (x == ("__debug__" : Str)) = false := by rfl)
    (he : ∀ env, starEach (e :: es) env = (false, eval e env) :: starEach es env := by intro _; rfl) (hpl : ∀ env, (backTo pos (starEach es env)).any (·.1) = false := by intro _; rfl) (hh : C.hot = false := by rfl) : DEX C (.Call (.Name x p) (e :: es) [] pos) :=
  ⟨yCall a'.x r, (jex_call f hj hg hdb a'.ok he hpl hh).imp fun env Q E ⟨o, e2, h, q⟩ => by
    obtain ⟨⟨us, e3⟩, ha, h⟩ := bind_ok h
    obtain ⟨z, hz, h⟩ := map_ok h
    cases h
    refine ⟨us, _, ha, _, hz, ?_⟩
    cases o <;> exact q⟩
def yCallK (n : Nat) (π : List Nat) (a : XA) (f : RFX) : YE := fun env => (a env).bind fun p => if p.1.length = n then (f (permL .non π (frzs p.1))).map fun r => (r, p.2) else none
def yDrop (a : YE) : YS := fun env => (a env).map fun p => match p.1 with | .ok _ => .o (.nx p.2) | .ex c gs => .ex c gs p.2
def dx_expr (a' : DEX C e) (hs : ∀ env, swapsWith e none pos.line env = pure false := by intro _; rfl) : DX C (.Expr e pos) := ⟨yDrop a'.x, (jx_expr a'.ok hs).imp fun env k ⟨o, h, q⟩ => by
  obtain ⟨⟨u, e2⟩, ha, h⟩ := map_ok h
  refine ⟨u, e2, ha, ?_⟩
  cases u <;> (cases h; exact q)⟩
def runFX (np n : Nat) (x : YS) : RFX := fun ds => if ds.length = np then (x (startE n ds)).bind fun o => match o with | .o (.nx _) => some (.ok .non) | .o (.rt d _) => some (.ok d) | .ex c gs _ => some (.ex c gs) | _ => none else none
theorem runFX_ok {np n : Nat} {x : YS} : ∀ ds Q E, spXX (runFX np n x) ds Q E → spOfX np n (ywS x) ds Q E := by
  rintro ds Q E ⟨r, h, q⟩
  obtain ⟨c, h⟩ := ite_ok h
  obtain ⟨o, ho, h⟩ := bind_ok h
  refine ⟨c, o, ho, ?_⟩
  rcases o with (e2 | ⟨d, e2⟩ | e2 | e2) | ⟨c, gs, e2⟩
  · cases h; exact q
  · cases h; exact q
  · cases h
  · cases h
  · cases h; exact q
theorem spFX_imp {W : Wd} {s1 s2 : SpFX} (i : ∀ ds Q E, s2 ds Q E → s1 ds Q E) : ∀ vs H Q E, spFX W s2 vs H Q E → spFX W s1 vs H Q E := fun vs H Q E ⟨F, ds, Qd, Ed, a, b, c, q⟩ => ⟨F, ds, Qd, Ed, a, b, i _ _ _ c, q⟩
theorem mk_fnX {N ps : List Str} {qual : Str} (hz : C.gd = false) (k : Nat) (h : FunAt C x qual st ps) (S : FnScope N ps (defScope st)) (D : DXs (C.fn N (defScope st) k []) (defBody st)) : FnFX C x (k + 1) (spXX (runFX ps.length N.length D.x)) := by
  obtain ⟨f, fd, F, hm, hb⟩ := h.ex
  exact ⟨f, fd, ps, hm, F.kp, hb, FnOk.imp (fnOkFX hz F S D.ok) (spFX_imp runFX_ok)⟩
end
end
end M
namespace M
open PySem PySem.Spec PyProof.Rows L2 LamX
section
variable {X : Cx} {pins : List (Addr × Obj)} {σ : L2.St} {H HZ : Hp} {s s1 : Shared}
/-- no table is new -/
def NoTb (H H' : Hp) : Prop := ∀ b ps, H' b = some (.tbl ps) → ∃ qs, H b = some (.tbl qs)
theorem among_snoc {pos : Pos} {ps : Array Value} {q : Str} {c' : Addr} {H H1 : Hp} (e : ExtN H H1) (hc : H1 c' = some (CodeO c' q)) (ht : TriplesOk ps.toList) (ha : ∀ (pos : Pos) (cv : Value), codeAmong pos ps.toList = some cv → ∃ c, cv = .ref c ∧ H c = some (CodeO c q))
    {p' : Pos} {cv : Value} (h : codeAmong p' (ps ++ #[rawInt pos.line, rawInt pos.col, .ref c']).toList = some cv) : ∃ c, cv = .ref c ∧ H1 c = some (CodeO c q) := by
  have h : codeAmong p' (ps.toList ++ [rawInt pos.line, rawInt pos.col, .ref c']) = some cv := by simpa using h
  rcases among_app _ ht h with z | z
  · obtain ⟨c0, e1, e2⟩ := ha p' cv z
    exact ⟨c0, e1, e _ _ e2 codeO_ne⟩
  · exact ⟨c', z, hc⟩
/-- a lambda is made; what becomes of the tables -/
theorem lam_makeT {T : List (Addr × Str)} {c P : Addr} {params : Arguments} {body : Expr} {scope : Scope} {pos : Pos} {E : Value → Shared → Prop} {Q : Value → Shared → Prop} (I : Inv X pins σ H s) (TB : TabB X.base X.mg c P) (hcode : X.env.code = .ref c)
    (hm : (P, X.env.qual ++ "<lambda>") ∈ T) (hu : ∀ p ∈ T, p.1 = P → p.2 = X.env.qual ++ "<lambda>") (hT : Tabs T H) (hdef : defaultsOf params X.env = ([], [])) (hfree : ∀ y ∈ scope.names, y.2 = .free → ∃ c, X.env.cells.lookup y.1 = some c)
    (h : ∀ (f c' : Addr) (pm ctv : Value) (H1 : Hp) (s' : Shared), Inv X pins σ H1 s' → ExtN H H1 → Tabs T H1 → NoTb H H1 →
      s'.heap.get? f = some (PySem.W.kla_obj "<lambda>" (X.env.qual ++ "<lambda>") params body scope (cloFrom X.env.cells scope.names []) pm c' ctv) → H1 f = none → f ∉ frs X.stack → H1 c' = some (CodeO c' (X.env.qual ++ "<lambda>")) → Q (.ref f) s') :
    wpAny (model X.prog X.w) X.A (eval (.Lambda params body scope pos) X.env) Q E s := by
  obtain ⟨ps, hP, ht, ha⟩ := hT _ hm
  have hP' : s.heap.get? P = some { cls := .none, data := .fields ps } := I.hok P _ hP
  have out : ∀ f, s.heap.objs.size ≤ f → f ∉ frs X.stack := fun f hf z => (List.mem_cons.mp (I.stkSub _ z)).elim (fun e => absurd I.lt (by rw [← e]; exact Nat.not_lt.mpr hf)) (I.nofs hf)
  refine PySem.W.kla_eval hdef ?_
  cases hc : codeAmong pos ps.toList with
  | some cv =>
    obtain ⟨c', rfl, hco⟩ := ha pos cv hc
    refine PySem.W.kla_makeFunctionHit (mg := X.mg) (c := c) (P := P) (ps := ps) (closure_ok hfree) I.ok.glob (I.mod.glob.keeps I.bk) hcode (TB.code.keeps I.bk) hP' ht hc (TB.bm.keeps I.bk) fun ctv h' tk hx hsz => ?_
    exact h h'.objs.size c' ((X.mg "__name__").getD .none) ctv H _ (I.kept fun b o e => Heap.get?_push_of_some _ (hx b o e)) (ExtN.refl H) hT (fun b ps e => ⟨ps, e⟩) (Heap.get?_push_size _ rfl) (I.hok.fresh hsz) (out _ hsz) hco
  | none =>
    refine PySem.W.kla_makeFunction (mg := X.mg) (c := c) (P := P) (ps := ps) (closure_ok hfree) I.ok.glob (I.mod.glob.keeps I.bk) hcode (TB.code.keeps I.bk) hP' ht hc TB.gP (TB.bm.keeps I.bk) fun c' ctv h' tk hx hge hlt hrec htb => ?_
    obtain ⟨_, oc, vs, t, e2, hoc, hd, hv⟩ := hrec
    cases e2
    have nC : H c' = none := I.hok.fresh hge
    have nf : h'.objs.size ≠ c' := Nat.ne_of_gt hlt
    have hsz : s.heap.objs.size ≤ h'.objs.size := Nat.le_trans hge (Nat.le_of_lt hlt)
    let H1 := upd (upd H P (.tbl (ps ++ #[rawInt pos.line, rawInt pos.col, .ref c']))) c' (CodeO c' (X.env.qual ++ "<lambda>"))
    have at_ : ∀ b, b ≠ P → b ≠ c' → H1 b = H b := fun b h1 h2 => by
      show upd _ _ _ b = _
      rw [upd_ne h2, upd_ne h1]
    have atC : H1 c' = some (CodeO c' (X.env.qual ++ "<lambda>")) := upd_same
    have atP : H1 P = some (.tbl (ps ++ #[rawInt pos.line, rawInt pos.col, .ref c'])) := by
      show upd _ _ _ P = _
      rw [upd_ne (ne_of_none hP nC), upd_same]
    have hE : ExtN H H1 := fun b o e n => by
      rw [at_ b (fun z => n ps (Option.some.inj (e.symm.trans (by rw [z]; exact hP)))) (ne_of_none e nC)]; exact e
    refine h h'.objs.size c' ((X.mg "__name__").getD .none) ctv H1 _ (inv_table (t' := tk) (more := #[rawInt pos.line, rawInt pos.col, .ref c'])
      (h' := h'.push (PySem.W.kla_obj "<lambda>" (X.env.qual ++ "<lambda>") params body scope (cloFrom X.env.cells scope.names []) ((X.mg "__name__").getD .none) c' ctv)) I hP
      (fun b o hb e => Heap.get?_push_of_some _ (hx b o hb e)) (Heap.get?_push_of_some _ htb) hge ⟨oc, vs, t, Heap.get?_push_of_some _ hoc, hd, hv⟩) hE (fun p hp => ?_) (fun b qs e => ?_) (Heap.get?_push_size _ rfl) ?_ (out _ hsz) atC
    · obtain ⟨ps', a1, a2, a3⟩ := hT p hp
      by_cases hb : p.1 = P
      · rw [hb] at a1
        cases hP.symm.trans a1
        rw [hu p hp hb] at a3 ⊢
        rw [hb]
        exact ⟨_, atP, by rw [Array.toList_append]; exact PySem.TriplesOk_snoc _ _ _ _ a2, fun p' cv hcv => among_snoc hE atC a2 a3 hcv⟩
      · refine ⟨ps', by rw [at_ _ hb (ne_of_none a1 nC)]; exact a1, a2, fun p' cv hcv => ?_⟩
        obtain ⟨c0, e1, e2⟩ := a3 p' cv hcv
        exact ⟨c0, e1, hE _ _ e2 codeO_ne⟩
    · by_cases h1 : b = P
      · rw [h1]; exact ⟨_, hP⟩
      · by_cases h2 : b = c'
        · rw [h2, atC] at e
          exact absurd (Option.some.inj e) (codeO_ne _)
        · rw [at_ b h1 h2] at e; exact ⟨_, e⟩
    · rw [at_ _ (Nat.ne_of_gt (Nat.lt_of_lt_of_le (Heap.lt_size hP') hsz)) nf]
      exact I.hok.fresh hsz
end
/-- a() within the def that got the lambda: the frame it is entered from, the lambda's reading -/
def ActOf (X : Cx) (f c' : Addr) (q a : Str) (tl : XK → Hp → VK → Prop) : Prop := ∀ (W : WX) (pn : List (Addr × Obj)) (xe : Value → Shared → Prop) (E : XK) (p1 p2 : Pos), Takes (X.tr pn xe) W → (∀ cls d σ' H', E cls d H' → W cls d σ' H') →
  PE (X.tr pn xe) (.Call (.Name a p1) [] [] p2) (fun σZ HZ Q => σZ[0]? = some (some (.ref f)) ∧ HZ c' = some (CodeO c' q) ∧ tl E HZ Q)
def MonoT (tl : XK → Hp → VK → Prop) : Prop := ∀ E H Q Q', (∀ v H', Q v H' → Q' v H') → tl E H Q → tl E H Q'
/-- what a def that calls a lambda makes of its reading -/
structure Caller (P : Program) (w : World) (K : PySem.W.Frag) (mg : Str → Option Value) (base : Heap) (gd : Bool) (x : Str) (g : Addr) (st : Stmt) (cdv : Value) (a : Str) (N : List Str) (k : Nat) (TT : (XK → Hp → VK → Prop) → Hp → VK → Prop) : Prop where
  mgx : mg x = some (.ref g)
  kp : PySem.W.keepIn K (.ref g) = true
  n0 : N[0]? = some a
  va : Vis (defScope st) a
  d1 : (a == ("__debug__" : Str)) = false
  d2 : (a == ("__classdict__" : Str)) = false
  rc : ∀ (A : Around) (outer : List PySem.Env) (s : Shared) (H : Hp) (u : Value) (v : V) (Q : VK), Room (k + 2) A → Env0 P w K mg base A outer s H → RelV v u →
      (Room (k + 1) (A.deeper (envOfC x (defScope st) s.heap.objs.size g cdv)) → ∃ t, PSs (cxOf C8.CX0 P w K mg base N x (defScope st) g cdv A outer s H C8.E0) (defBody st) t ∧ t { nx := fun _ H' => Q .non H', rt := Q } (L2.start N [v]) H) →
      codeAny (model P w) A (.call (.ref g) ⟨[u], []⟩) (CR C8.CX0 outer P w H s Q C8.E0) s
  gives : ∀ (A : Around) (outer : List PySem.Env) (s : Shared) (H : Hp) (Q : VK) (f c' : Addr) (q : Str) (tl : XK → Hp → VK → Prop), Room (k + 1) (A.deeper (envOfC x (defScope st) s.heap.objs.size g cdv)) → (gd = true → A.guards = some []) → MonoT tl →
      ActOf (cxOf C8.CX0 P w K mg base N x (defScope st) g cdv A outer s H C8.E0) f c' q a tl → H c' = some (CodeO c' q) → TT tl H Q →
      ∃ t, PSs (cxOf C8.CX0 P w K mg base N x (defScope st) g cdv A outer s H C8.E0).nox (defBody st) t ∧ t { nx := fun _ H' => Q .non H', rt := Q } (L2.start N [.ref f]) H
def tLamT (T : List (Addr × Str)) (TT : (XK → Hp → VK → Prop) → Hp → VK → Prop) (t : XK → TE) : TE := fun σ H Q => Tabs T H ∧ ∀ H1, ExtN H H1 → Tabs T H1 → NoTb H H1 → TT (fun E H' Q' => t E σ H' Q') H1 Q
section
variable {X : Cx}
theorem pe_lamT {T : List (Addr × Str)} {TT : (XK → Hp → VK → Prop) → Hp → VK → Prop} {gd : Bool} {x a : Str} {g c P : Addr} {k : Nat} {stg : Stmt} {cdg : Value} {Ng : List Str}
    {params : Arguments} {body : Expr} {scope : Scope} {t : XK → TE} {p lpos pos : Pos} (hg : Gl X x) (cl : Caller X.prog X.w X.K X.mg X.base gd x g stg cdg a Ng k TT) (hgd : gd = true → X.A.guards = some [])
    (TB : TabB X.base X.mg c P) (hcode : X.env.code = .ref c) (hmT : (P, X.env.qual ++ "<lambda>") ∈ T) (hu : ∀ p ∈ T, p.1 = P → p.2 = X.env.qual ++ "<lambda>") (hr : Room (k + 2) X.A) (L : LamS X.env.scope scope) (hdef : defaultsOf params X.env = ([], []))
    (hbind : ∀ (q : Str) (cl : List (Str × Addr)) (pm cv ctv : Value), bindArgs (PySem.W.kla_fn "<lambda>" q params body scope cl pm cv ctv) ⟨[], []⟩ = pure [])
    (hbody : ∀ (A : Around) (outer : List PySem.Env) (s : Shared) (H : Hp) (E : XK) (f c' : Addr), Room k (A.deeper (lamEnv X scope s.heap.objs.size f c')) → PE (lamCx X A outer s H E scope f c') body (t E)) (tm : ∀ σ, MonoT fun E H' Q' => t E σ H' Q')
    (hdb : (x == ("__debug__" : Str)) = false) :
    PE X (.Call (.Name x p) [.Lambda params body scope lpos] [] pos) (tLamT T TT t) := by
  refine ⟨fun pins s σ H Q I h => ?_⟩
  obtain ⟨hT, h⟩ := h
  refine wpAny_Call_Name_kw (ld_glob I hg cl.mgx ?_ hdb)
  refine PySem.W.callWith_K (h₀ := X.base) I.ok.mod.kin cl.kp ?_ (by rfl) (by rfl)
  show wpAny _ _ (spliced ((false, eval (.Lambda params body scope lpos) X.env) :: backTo pos (starEach [] X.env))) _ _ s
  refine Calls.spliced_cons (lam_makeT I TB hcode hmT hu hT hdef (L.has I.ok) fun f c' pm' ctv H1 s' I1 eN T1 nT hf hfn hfr hco => Calls.spliced_nil ⟨I1.kIn, ?_⟩)
  refine wpAny_call (codeAny_mono (cl.rc X.A X.stack s' H1 (.ref f) (.ref f) Q hr I1.env0 rfl fun hr' => ?_) fun r s2 hq => ?_)
  · obtain ⟨t', ht', hq'⟩ := cl.gives X.A X.stack s' H1 Q f c' (X.env.qual ++ "<lambda>") (fun E H' Q' => t E σ H' Q') hr' hgd (tm σ)
      (fun W pn xe E p1 p2 tk hW => pe_act (i := 0) I1 L hf hfn hfr (hbind _ _ _ _ _) tk hW hr' (fun A outer s H hr2 => hbody A outer s H E f c' hr2) cl.n0 cl.va cl.d1 cl.d2) hco (h H1 eN T1 nT)
    exact ⟨t', ht'.nox, hq'⟩
  · cases r with
    | error e => exact (show False from hq).elim
    | ok fl =>
      cases fl with
      | ret u => exact I1.after hq
      | _ => exact False.elim hq
end
end M
namespace M
open PySem PySem.Spec PyProof.Rows L2 LamX
mutual
def noX : Dat → Bool
  | .non => true
  | .bl _ => true
  | .int _ => true
  | .str _ => true
  | .tup _ xs => noXs xs
  | .lst _ xs => noXs xs
  | .dct _ _ vs => noXs vs
  | .dtt _ _ vs => noXs vs
  | .dxt _ ks vs => noXs ks && noXs vs
  | .obj _ _ vs => noXs vs
  | .scr _ => true
  | .exn _ _ => false
def noXs : List Dat → Bool
  | [] => true
  | d :: ds => noX d && noXs ds
end
abbrev Wd.ex (W : Wd) (e : Option (Addr × Nat × Option Addr)) : Wd := { W with exo := e }
section
variable {W : Wd} {e1 e2 : Option (Addr × Nat × Option Addr)} {F : AS} {H : Hp}
mutual
theorem Rep.xx : ∀ (d : Dat) (fp : AS) (v : V), Rep (W.ex e1) F H fp d v → noX d = true → Rep (W.ex e2) F H fp d v
  | .non, _, _, h, _ => by cases h with | non e => exact .non e
  | .bl _, _, _, h, _ => by cases h with | bl _ e => exact .bl _ e
  | .int _, _, _, h, _ => by cases h with | int _ e => exact .int _ e
  | .str _, _, _, h, _ => by cases h with | str _ e => exact .str _ e
  | .tup _ xs, _, _, h, z => by cases h with | tup a b r => exact .tup a b (Reps.xx xs _ _ r z)
  | .lst _ xs, _, _, h, z => by
    cases h with
    | lstF a b c r => exact .lstF a b c (Reps.xx xs _ _ r z)
    | lstO a r n i => exact .lstO a (Reps.xx xs _ _ r z) n i
  | .dct _ _ vs, _, _, h, z => by
    cases h with
    | dctF a b c d r => exact .dctF a b c d (Reps.xx vs _ _ r z)
    | dctO a b r n i => exact .dctO a b (Reps.xx vs _ _ r z) n i
  | .dtt _ _ vs, _, _, h, z => by
    cases h with
    | dttF a b c d r => exact .dttF a b c d (Reps.xx vs _ _ r z)
    | dttO a b r n i => exact .dttO a b (Reps.xx vs _ _ r z) n i
  | .dxt _ ks vs, _, _, h, z => by
    obtain ⟨z1, z2⟩ : noXs ks = true ∧ noXs vs = true := by simpa [noX] using z
    cases h with
    | dxtF a b c d rk r => exact .dxtF a b c d (Reps.xx ks _ _ rk z1) (Reps.xx vs _ _ r z2)
    | dxtO a b rk r n i => exact .dxtO a b (Reps.xx ks _ _ rk z1) (Reps.xx vs _ _ r z2) n i
  | .obj _ _ vs, _, _, h, z => by
    cases h with
    | objF a b c d e r => exact .objF a b c d e (Reps.xx vs _ _ r z)
    | objO a b c r n i => exact .objO a b c (Reps.xx vs _ _ r z) n i
  | .scr _, _, _, h, _ => by cases h with | scr e s => exact .scr e s
  | .exn _ _, _, _, _, z => by cases z
theorem Reps.xx : ∀ (ds : List Dat) (fp : AS) (vs : List V), Reps (W.ex e1) F H fp ds vs → noXs ds = true → Reps (W.ex e2) F H fp ds vs
  | [], _, _, h, _ => by cases h with | nil e => exact .nil e
  | d :: ds, _, _, h, z => by
    obtain ⟨z1, z2⟩ : noX d = true ∧ noXs ds = true := by simpa [noXs] using z
    cases h with
    | cons r1 r2 n i => exact .cons (Rep.xx d _ _ r1 z1) (Reps.xx ds _ _ r2 z2) n i
end
theorem Step.xx {F' : AS} {H' : Hp} {fp fp' : AS} (x : Step (W.ex e1) F H fp F' H' fp') : Step (W.ex e2) F H fp F' H' fp' := ⟨x.kp, x.fx, x.fb, x.nw, ⟨x.ok.nf, x.ok.own, x.ok.lv, x.ok.tb⟩⟩
/-- a lone slot -/
theorem sl_lone {d : Dat} {v : V} (r : Rep W F H NoA d v) : ∀ (n i : Nat) (σ : L2.St), σ.length = n → i < n → Sl W F H NoA ((List.replicate n none).set i (some d)) (σ.set i (some v))
  | 0, i, σ, _, h => absurd h (Nat.not_lt_zero _)
  | n + 1, i, [], h, _ => by cases h
  | n + 1, 0, x :: σ, h, _ => by
    refine .so r (sl_no n σ (by simpa using h)) (fun _ z => z.elim) fun a => ⟨fun z => z.elim, fun z => z.elim id id⟩
  | n + 1, i + 1, x :: σ, h, hi => .no (sl_lone r n i σ (by simpa using h) (by omega))
where
  sl_no : ∀ (n : Nat) (σ : L2.St), σ.length = n → Sl W F H NoA (List.replicate n none) σ
  | 0, [], _ => .em fun _ z => z
  | 0, _ :: _, h => by cases h
  | n + 1, [], h => by cases h
  | n + 1, x :: σ, h => .no (sl_no n σ (by simpa using h))
end
abbrev Ctx.ho (C : Ctx) (a : Addr) (c : Nat) (d : Option Addr) : Ctx := { C with hot := true, exo := some (a, c, d), cq := none }
theorem gd_suite {C : Ctx} {X : Cx} (g : Gd C X) {a A : Addr} {oe : Obj} {c : Nat} {d : Option Addr} {pn : List (Addr × Obj)} (h1 : C.mg (C.T.cn c) = some (.ref A)) (hz : Zc (.ref A) d oe) (hv : ∃ vs, oe.data = .fields vs) : Gd (C.ho a c d) (X.suite a ((a, oe) :: pn)) where
  prog := g.prog
  w := g.w
  K := g.K
  mg := g.mg
  base := g.base
  N := g.N
  nd := g.nd
  sc := g.sc
  calm' := fun z => Bool.noConfusion z
  room := ⟨g.room.dp, g.room.un⟩
  hd := fun z => Bool.noConfusion z
  fn := g.fn
  po := PassesOwn.never
  gu := g.gu
  cq := fun _ _ e => nomatch e
  exo := fun _ a' c' d' e => by
    cases e
    exact ⟨A, oe, h1, List.mem_cons_self, hz, hv⟩
inductive NmR (mg : Str → Option Value) : List Str → List Addr → Prop
  | nil : NmR mg [] []
  | cons {x : Str} {A : Addr} {xs : List Str} {cs : List Addr} : mg x = some (.ref A) → NmR mg xs cs → NmR mg (x :: xs) (A :: cs)
/-- the names of a handler, and which classes it takes -/
structure HdIn (C : Ctx) (xs : List Str) (m : Nat → Option Bool) : Prop where
  ex : ∃ cs : List Addr, NmR C.mg xs cs ∧ cs.length ≤ sizeLine ∧ ∀ c A b, m c = some b → C.mg (C.T.cn c) = some (.ref A) → PySem.W.exmAny C.K (.ref A) (cs.map Value.ref) = some b
/-- the expressions of these names -/
inductive NmE (sc : Scope) : List Expr → List Str → Prop
  | nil : NmE sc [] []
  | cons {x : Str} {p : Pos} {es : List Expr} {xs : List Str} : sc.names.lookup x = some .globalImplicit → (x == ("__debug__" : Str)) = false → NmE sc es xs → NmE sc (.Name x p :: es) (x :: xs)
theorem namesR_of {C : Ctx} {X : Cx} (g : Gd C X) {es : List Expr} {xs : List Str} (h : NmE C.sc es xs) : ∀ {cs : List Addr}, NmR C.mg xs cs → NamesR X es cs := by
  induction h with
  | nil => intro cs r; cases r; exact .nil
  | cons h1 h2 _ ih =>
    intro cs r
    cases r with
    | cons r1 r2 => exact .cons (gl_of g h1) (by rw [g.mg]; exact r1) h2 (ih r2)
/-- a handler -/
structure HdX (C : Ctx) (n : Str) (h : ExceptHandler) (m : Nat → Option Bool) (xs : XS) : Prop where
  ex : ∃ es kk tp b₀ suite pos' nms, h = .ExceptHandler (some (.Tuple es kk tp)) (some n) (b₀ :: suite) pos' ∧ NmE C.sc es nms ∧ HdIn C nms m ∧ ∀ a c d, JSs (C.ho a c d) (b₀ :: suite) (xwS xs)
inductive HdsX (C : Ctx) (n : Str) : List ExceptHandler → List ((Nat → Option Bool) × XS) → Prop
  | nil : HdsX C n [] []
  | cons {h : ExceptHandler} {hds : List ExceptHandler} {m : Nat → Option Bool} {xs : XS} {l : List ((Nat → Option Bool) × XS)} : HdX C n h m xs → HdsX C n hds l → HdsX C n (h :: hds) ((m, xs) :: l)
/-- what the handlers answer -/
noncomputable def hdR (n i : Nat) : List ((Nat → Option Bool) × XS) → Nat → List Dat → Option Dat
  | [], _, _ => none
  | (m, xs) :: r, c, gs => (m c).bind fun b => if b = true then (if noXs gs = true then (xs (setE (startE n []) i (some (.exn c gs)))).bind fun o => match o with | .rt d _ => if noX d = true then some d else none | _ => none else none) else hdR n i r c gs
theorem hds_T {C : Ctx} {X : Cx} {n : Str} {i : Nat} (g : Gd C X) (hi : i < C.N.length) (he : C.exo = none) (hp : C.pin = []) {Wout : WX} {hds : List ExceptHandler} {l : List ((Nat → Option Bool) × XS)} (h : HdsX C n hds l) :
    ∃ L, HdsT X n hds L ∧ ∀ (D : Ends) (σ : L2.St) (H : Hp) (F : AS) (c : Nat) (gs : List Dat) (cls : Value) (dd : Option Addr) (rd : Dat), hdR C.N.length i l c gs = some rd → ExV C.W F H c gs cls dd → (FL F H ∧ TbOk C.tb H) →
      (∀ F2 H2 fr v, Rep C.W F2 H2 fr rd v → Step C.W F H NoA F2 H2 fr → D.rt v H2) → wTr X.K Wout i D L cls dd σ H := by
  induction h with
  | nil => exact ⟨[], .nil, fun D σ H F c gs cls dd rd h => nomatch h⟩
  | @cons h hds m xs l hx _ ih =>
    obtain ⟨L, hL, ihL⟩ := ih
    obtain ⟨es, kk, tp, b₀, suite, pos', nms, rfl, hnm, hin, hs⟩ := hx.ex
    obtain ⟨cs, hcs, hz, hm⟩ := hin.ex
    refine ⟨(cs, fun a cls d D σ H => σ.length = C.N.length → ∃ c A, cls = .ref A ∧ C.mg (C.T.cn c) = some (.ref A) ∧ liftS (C.ho a c d) (xwS xs) D σ H) :: L, .cons (namesR_of g hnm hcs) hz (fun a oe cls d pn hzc hv => ?_) hL, ?_⟩
    · refine ⟨fun pins s σ H D I q => ?_⟩
      obtain ⟨c, A, rfl, hA, hl⟩ := q (by rw [I.len]; show X.N.length = _; rw [g.N])
      exact (hs a c d _ (gd_suite g hA hzc hv)).run pins s σ H D I hl
    · intro D σ H F c gs cls dd rd hr ev fl q
      obtain ⟨b, hb, hr⟩ := bind_ok hr
      obtain ⟨A, fs, hA, rfl, hd, hfn, hrp⟩ := ev.ex
      refine ⟨b, by rw [g.K]; exact hm c A b hb hA, fun z => ?_, fun z => ?_⟩
      · subst z
        rw [if_pos rfl] at hr
        obtain ⟨hg, hr⟩ := ite_ok hr
        obtain ⟨o, ho, hr⟩ := bind_ok hr
        intro a ha hlen
        have hW : C.W = C.W.ex none := by
          show (⟨C.K, C.mg, C.T, C.w, C.tb, C.exo⟩ : Wd) = ⟨C.K, C.mg, C.T, C.w, C.tb, none⟩
          rw [he]
        have hrp' : Reps (C.W.ex (some (a, c, dd))) F H NoA gs (fs.map (·.2)) := Reps.xx (W := C.W) (e1 := none) gs _ _ (by rw [← hW]; exact hrp) hg
        have rx : Rep (C.W.ex (some (a, c, dd))) F H NoA (.exn c gs) (.ref a) := .exn (fun _ z => z) rfl hd hfn hrp'
        have hln : σ.length = C.N.length := by simpa using hlen
        refine ⟨c, A, rfl, hA, F, NoA, setE (startE C.N.length []) i (some (.exn c gs)), { nx := fun _ => False, rt := fun d _ => noX d = true ∧ d = rd, bk := fun _ => False, ct := fun _ => False }, ?_, ok_no fl, ⟨o, ho, ?_⟩, ⟨?_, ?_, ?_, ?_⟩⟩
        · rw [setE_eq]
          have := sl_lone rx C.N.length i σ hln hi
          simpa [startE] using this
        · cases o with
          | rt d e =>
            obtain ⟨hd, hr⟩ := ite_ok hr
            cases hr
            exact ⟨hd, rfl⟩
          | _ => cases hr
        · exact fun _ _ _ _ _ hk => hk.elim
        · intro d env F2 H2 fe fd v σ' hk s
          obtain ⟨hk, rfl⟩ := hk
          refine q F2 H2 fd v ?_ ?_
          · rw [hW]; exact Rep.xx (W := C.W) d _ _ s.rep hk
          · rw [hW]; exact (Step.xx (W := C.W) s.st).sub fun _ => .inr
        · exact fun _ _ _ _ _ hk => hk.elim
        · exact fun _ _ _ _ _ hk => hk.elim
      · subst z
        rw [if_neg Bool.false_ne_true] at hr
        exact ihL D σ H F c gs _ dd rd hr ⟨A, fs, hA, rfl, hd, hfn, hrp⟩ fl q
end M
namespace M
open PySem PySem.Spec PyProof.Rows L2 LamX
def KEc (W : Wd) (r : RX → Option Dat) (Q : VK) : XK := fun cls dd H' => ∃ F c gs rd, ExV W F H' c gs cls dd ∧ (FL F H' ∧ TbOk W.tb H') ∧ r (.ex c gs) = some rd ∧ ∀ F2 H2 fr v, Rep W F2 H2 fr rd v → Step W F H' NoA F2 H2 fr → Q v H2
def KQc (W : Wd) (r : RX → Option Dat) (Q : VK) : VK := fun v H' => ∃ F d rd, Rep W F H' NoA d v ∧ (FL F H' ∧ TbOk W.tb H') ∧ r (.ok d) = some rd ∧ ∀ F2 H2 fr v2, Rep W F2 H2 fr rd v2 → Step W F H' NoA F2 H2 fr → Q v2 H2
def TTc (W : Wd) (r : RX → Option Dat) : (XK → Hp → VK → Prop) → Hp → VK → Prop := fun tl H Q => tl (KEc W r Q) H (KQc W r Q)
/-- x hands on what its lambda leads to, by r -/
structure Catch (C : Ctx) (x : Str) (k : Nat) (r : RX → Option Dat) : Prop where
  ex : ∃ g st cdv a N, Caller C.P C.w C.K C.mg C.base C.gd x g st cdv a N k (TTc C.W r)
/-- the def at work may make lambdas -/
structure LamAt (C : Ctx) : Prop where
  ex : ∃ (T : List (Addr × Str)) (c P : Addr) (q : Str), C.cq = some (c, q) ∧ C.tb = T.map (fun p => (p.1, fun _ _ => p.2)) ∧ TabB C.base C.mg c P ∧ (P, q ++ "<lambda>") ∈ T ∧ ∀ p ∈ T, p.1 = P → p.2 = q ++ "<lambda>"
abbrev Ctx.lam (C : Ctx) (scope : Scope) (k : Nat) : Ctx := { C with sc := scope, k := k, pin := [], fnc := fun _ => false, gd := false, cq := none, hot := false }
theorem gd_lam {C : Ctx} {X : Cx} (g : Gd C X) {A : Around} {outer : List PySem.Env} {s : Shared} {H : Hp} {E : XK} {scope : Scope} {f c' : Addr} {k : Nat} (hr : Room k (A.deeper (lamEnv X scope s.heap.objs.size f c'))) : Gd (C.lam scope k) (lamCx X A outer s H E scope f c') where
  prog := g.prog
  w := g.w
  K := g.K
  mg := g.mg
  base := g.base
  N := g.N
  nd := g.nd
  sc := rfl
  calm' := fun _ => rfl
  room := ⟨hr.dp, hr.un⟩
  hd := fun _ => hr.hd
  fn := fun _ z => nomatch z
  po := passes_of rfl
  gu := fun z => nomatch z
  cq := fun _ _ e => nomatch e
  exo := fun z => Bool.noConfusion z
section
variable {C : Ctx} {W : Wd} {F : AS} {H H1 : Hp} {fp : AS} {T : List (Addr × Str)}
theorem tabs_of (h : TbOk (T.map fun p => (p.1, fun _ _ => p.2)) H) : Tabs T H := fun p hp => h.tb (p.1, fun _ _ => p.2) (List.mem_map.mpr ⟨p, hp, rfl⟩)
theorem tbok_of (h : TbOk (T.map fun p => (p.1, fun _ _ => p.2)) H) (t : Tabs T H1) (n : NoTb H H1) : TbOk (T.map fun p => (p.1, fun _ _ => p.2)) H1 := by
  refine ⟨fun q hq => ?_, fun b ps e => ?_⟩
  · obtain ⟨p, hp, rfl⟩ := List.mem_map.mp hq
    exact t p hp
  · obtain ⟨qs, e1⟩ := n b ps e
    exact h.ta b qs e1
theorem keep_lam (hT : W.tb = T.map fun p => (p.1, fun _ _ => p.2)) (ok : Ok W F H fp) (e : ExtN H H1) (t : Tabs T H1) : Keep H H1 := fun a o q => by
  by_cases z : ∃ ps, o = .tbl ps
  · obtain ⟨ps, rfl⟩ := z
    have h := ok.tb
    rw [hT] at h
    obtain ⟨nm, hm⟩ := h.ta a ps q
    obtain ⟨p, hp, e2⟩ := List.mem_map.mp hm
    obtain ⟨ps', h1, _⟩ := t p hp
    cases e2
    exact .inr ⟨⟨ps, rfl⟩, ps', h1⟩
  · exact .of (e a o q fun ps z' => z ⟨ps, z'⟩)
theorem step_lam (hT : W.tb = T.map fun p => (p.1, fun _ _ => p.2)) (ok : Ok W F H fp) (e : ExtN H H1) (t : Tabs T H1) (n : NoTb H H1) : Step W F H fp F H1 fp := by
  have k := keep_lam hT ok e t
  refine ⟨fun a o q _ => k a o q, fun _ z => z, fun _ z => .inl z, fun _ z => .inl z, ⟨ok.nf, fun a z => ?_, fun a z => ?_, ?_⟩⟩
  · have m := ok.own a z
    obtain ⟨o, q⟩ := ok.live z
    rw [q] at m
    rw [(k a o q).nt (mut_nt m)]
    exact m
  · have l := ok.lv a z
    cases q : H a with
    | none => exact absurd q l
    | some o => exact (k a o q).ne
  · have h := ok.tb
    rw [hT] at h ⊢
    exact tbok_of h t n
end
theorem reps_one {W : Wd} {F : AS} {H : Hp} {d : Dat} {v : V} (r : Reps W F H NoA [d] [v]) : Rep W F H NoA d v := by
  cases r with
  | cons r1 _ _ i => exact r1.flat fun a z => (i a).mpr (.inl z)
def wLam (r : RX → Option Dat) (w : LEX) : LE := fun env Q => w env (fun d env' => ∃ rd, r (.ok (frz d)) = some rd ∧ Q rd env') (fun c gs env' => ∃ rd, r (.ex c gs) = some rd ∧ Q rd env')
theorem je_lam {C : Ctx} {x : Str} {k : Nat} {r : RX → Option Dat} {w : LEX} {params : Arguments} {body : Expr} {scope : Scope} {p lpos pos : Pos} (h : Catch C x k r) (hl : LamAt C) (hk : k + 2 ≤ C.k) (hh : C.hot = false) (L : LamS C.sc scope) (hg : C.sc.names.lookup x = some .globalImplicit) (hdb : (x == ("__debug__" : Str)) = false)
    (hdef : ∀ env, defaultsOf params env = ([], [])) (hbind : ∀ (q : Str) (cl : List (Str × Addr)) (pm cv ctv : Value), bindArgs (PySem.W.kla_fn "<lambda>" q params body scope cl pm cv ctv) ⟨[], []⟩ = pure [])
    (hb : JEX (C.lam scope k) body w) : JE C false (.Call (.Name x p) [.Lambda params body scope lpos] [] pos) (wLam r w) := fun X g => by
  obtain ⟨gd', st, cdv, a, N, cl⟩ := h.ex
  obtain ⟨T, c, P, q, hcq, hT, TB, hm, hu⟩ := hl.ex
  obtain ⟨e1, e2⟩ := g.cq c q hcq
  have cl' : Caller X.prog X.w X.K X.mg X.base C.gd x gd' st cdv a N k (TTc C.W r) := by rw [g.prog, g.w, g.K, g.mg, g.base]; exact cl
  refine PE_imp (pe_lamT (T := T) (c := c) (P := P) (t := fun E => liftEX (C.lam scope k) (fun cls d _ H => E cls d H) w) (gl_of g hg) cl' g.gu (by rw [g.base, g.mg]; exact TB) e1 (by rw [e2]; exact hm) (by rw [e2]; exact hu) (g.roomM hh hk) (by rw [g.sc]; exact L) (hdef _) hbind
    (fun A outer s H E f c' hr => hb _ _ (gd_lam g hr) (takes_of rfl rfl rfl rfl)) (fun σ E H Q Q' i ⟨F, fp, env, Qd, Ed, sl, ok, hw, q, qx⟩ => ⟨F, fp, env, Qd, Ed, sl, ok, hw, fun d env' F' H' fe fd v hd P => i _ _ (q d env' F' H' fe fd v hd P), qx⟩) hdb) fun σ H Q ⟨F, fp, env, Qd, sl, ok, hw, q⟩ => ?_
  have tb := ok.tb
  refine ⟨tabs_of (by rw [← hT]; exact tb), fun H1 eN t1 nT => ?_⟩
  have st0 := step_lam (W := C.W) hT ok eN t1 nT
  refine ⟨F, fp, env, _, _, sl.kept (fun _ z => z) (keep_lam (W := C.W) hT ok eN t1), st0.ok, hw, fun d env' F' H' fe fd v hd P => ?_, fun c gs env' F' H' fe cls d hd s => ?_⟩
  · obtain ⟨rd, hrd, hd⟩ := hd
    have k' : Pa C.W false F H1 fp σ env' F' H' fe fd [d] [v] := ⟨P.sl, Reps.one P.rep, P.dj, P.st, P.pu⟩
    have fz := k'.freeze
    refine ⟨_, frz d, rd, reps_one fz.2.1, ⟨fz.2.2.ok.lv, fz.2.2.ok.tb⟩, hrd, fun F2 H2 fr v2 rr st => ?_⟩
    have fr2 := st.frame (g := fe) fz.2.2.ok fun _ z => z.elim
    exact q rd env' F2 H2 fe fr v2 hd ⟨fz.1.kept st.fx fun a o e => st.kp a o e fun z => z, rr, fun a z q => fr2.2 a q z, ((st0.trans fz.2.2).trans (fr2.1.lft fun a z => z.resolve_left id)).sub fun a z => z.symm, fun z => nomatch z⟩
  · obtain ⟨rd, hrd, hd⟩ := hd
    refine ⟨F', c, gs, rd, s.ev, ⟨s.sn.st.ok.lv, s.sn.st.ok.tb⟩, hrd, fun F2 H2 fr v2 rr st => ?_⟩
    have fr2 := st.frame (g := fe) s.sn.st.ok fun _ z => z.elim
    exact q rd env' F2 H2 fe fr v2 hd ⟨s.sn.sl.kept st.fx fun a o e => st.kp a o e fun z => z, rr, fun a z q => fr2.2 a q z, ((st0.trans s.sn.st).trans (fr2.1.lft fun a z => z.resolve_left id)).sub fun a z => z.symm, fun z => nomatch z⟩
noncomputable def rGiven (gv : Str) (n i : Nat) (l : List ((Nat → Option Bool) × XS)) : RX → Option Dat
  | .ok d => some (.lst true [.str gv, d])
  | .ex c gs => hdR n i l c gs
section
variable {C : Ctx} {x a n cn gv : Str} {st : Stmt} {N : List Str} {k i j : Nat} {j0 kt : Nat} {p1 p2 p3 p4 p5 p6 p7 p8 : Pos} {h0 : ExceptHandler} {hds : List ExceptHandler} {l : List ((Nat → Option Bool) × XS)}
theorem run_lam (h : FunAt C x x st [a]) (S : FnScope N [a] (defScope st)) : ∃ f fd cdv, C.mg x = some (.ref f) ∧ Fun C.K x x st f fd ∧ PySem.W.keepIn C.K (.ref f) = true ∧
    ∀ (A : Around) (outer : List PySem.Env) (s : Shared) (H : Hp) (u : Value) (v : V) (Q : VK), Room (k + 2) A → Env0 C.P C.w C.K C.mg C.base A outer s H → RelV v u →
      (Room (k + 1) (A.deeper (envOfC x (defScope st) s.heap.objs.size f cdv)) → ∃ t, PSs (cxOf C8.CX0 C.P C.w C.K C.mg C.base N x (defScope st) f cdv A outer s H C8.E0) (defBody st) t ∧ t { nx := fun _ H' => Q .non H', rt := Q } (L2.start N [v]) H) →
      codeAny (model C.P C.w) A (.call (.ref f) ⟨[u], []⟩) (CR C8.CX0 outer C.P C.w H s Q C8.E0) s := by
  obtain ⟨f, fd, F, hm, hb⟩ := h.ex
  obtain ⟨oc, od, kV, doc, pm, an, cdv, ct, osl, rfl, lk, hcd⟩ := F.ex
  refine ⟨f, _, cdv, hm, F, F.kp, fun A outer s H u v Q hr e0 rv hbody => ?_⟩
  have b := hb s [u] (e0.mod.kin.keeps fun b o e => (e0.bs b o e).1) rfl
  exact run_ofS lk hcd S hr e0 b (.cons rv .nil) rfl hbody
theorem catch_lst (h : FunAt C x x st [a]) (S : FnScope N [a] (defScope st)) (hb : defBody st = [.Try [.Return (some (.List [.Constant (.str gv) j0 p1, .Call (.Name a p2) [] [] p3] p4)) p5] (h0 :: hds) [] [] p6]) (h0N : N[0]? = some a) (hva : Vis (defScope st) a) (d1 : (a == ("__debug__" : Str)) = false) (d2 : (a == ("__classdict__" : Str)) = false)
    (hN : N[i]? = some n) (hi : i < N.length) (hn : (defScope st).names.lookup n = some .local) (he : C.exo = none) (hst : ∀ env, starEach [.Constant (.str gv) j0 p1, .Call (.Name a p2) [] [] p3] env = (false, eval (.Constant (.str gv) j0 p1) env) :: starEach [.Call (.Name a p2) [] [] p3] env)
    (hst2 : ∀ env, starEach [.Call (.Name a p2) [] [] p3] env = (false, eval (.Call (.Name a p2) [] [] p3) env) :: starEach [] env) (hs : HdsX (C.fn N (defScope st) k []) n (h0 :: hds) l) : Catch C x k (rGiven gv N.length i l) := by
  obtain ⟨f, fd, cdv, hm, F, kp, rc⟩ := run_lam (k := k) h S
  refine ⟨f, st, cdv, a, N, ⟨hm, kp, h0N, hva, d1, d2, rc, fun A outer s H Q f' c' q tl hr hG mono act hc ht => ?_⟩⟩
  have g : Gd (C.fn N (defScope st) k []) (cxOf C8.CX0 C.P C.w C.K C.mg C.base N x (defScope st) f cdv A outer s H C8.E0).nox := gd_def (E := C8.E0) [] hG S (hr.mono (Nat.le_succ k))
  obtain ⟨L, hL, hW⟩ := hds_T g hi he rfl (Wout := fun _ _ _ _ => False) hs
  rw [hb]
  refine ⟨_, pss_one (ps_tryT (X := (cxOf C8.CX0 C.P C.w C.K C.mg C.base N x (defScope st) f cdv A outer s H C8.E0).nox) (i := i) (n := n)
      (tb := fun W D σ H => ∃ E : XK, (∀ cls d σ' H', E cls d H' → W cls d σ' H') ∧ σ[0]? = some (some (.ref f')) ∧ H c' = some (CodeO c' q) ∧ tl E H fun v H1 => ([V.str gv, v] : List V).length ≤ sizeLine ∧ ∀ p, H1 p = none → D.rt (.ref p) (upd H1 p (.lst [V.str gv, v])))
      rfl rfl S.nd hN hn LamX.takes0 (fun W pn xe tk _ => ?_) hL), ?_⟩
  · refine ⟨fun pins s' σ H' D I h' => ?_⟩
    obtain ⟨E, hW, h1, h2, h3⟩ := h'
    exact (pss_one (ps_ret (pe_lst (pa_cons pe_str (pa_cons (act W pn xe E p2 p3 tk hW) pa_nil (hst2 _)) (hst _))))).run pins s' σ H' D I ⟨h1, h2, h3⟩
  · refine ⟨KEc C.W (rGiven gv N.length i l) Q, fun cls d σ' H' ⟨F, c, gs, rd, ev, fl, hr, q⟩ => hW _ σ' H' F c gs cls d rd hr ev fl q, ?_, hc, mono _ _ _ _ (fun v H' hk => ?_) ht⟩
    · cases N with
      | nil => cases h0N
      | cons y ys => rfl
    · obtain ⟨F, d, rd, rp, fl, hr, q⟩ := hk
      cases hr
      refine ⟨show 2 ≤ sizeLine by decide, fun p hp => ?_⟩
      have z := fresh_lst (F := F) (ds := [.str gv, d]) (vs := [V.str gv, v]) hp (fun z => fl.1 p z hp) (.cons (.str gv fun _ z => z) (Reps.one rp) (fun _ z => z.elim) fun a => ⟨fun z => z.elim, fun z => z.elim id id⟩)
      have st := (z.2.step (ok_no fl) (fun a e => by rw [e, upd_same]; exact True.intro)).1
      exact q _ _ _ _ z.1 (st.sub fun a e => .inr e)
end
end M
namespace M
noncomputable section
open PySem PySem.Spec PyProof.Rows L2 LamX
section
variable {C : Ctx} {x : Str} {j k n c : Nat} {sp : SpFX} {N : List Str} {sc : Scope} {pin : List Nat} {f : Nat → Option Bool} {g : Nat → Bool} {xs : List Str} {a : Addr} {d : Option Addr} {ks : List Str} {π : List Nat}
/-- the context of a def that makes lambdas -/
def Ctx.fnq (C : Ctx) (N : List Str) (sc : Scope) (k : Nat) (pin : List Nat) (c : Addr) (q : Str) : Ctx := { C.fn N sc k pin with cq := some (c, q) }
theorem FnFX.ofNg (h : FnFX C.ng x j sp) : FnFX C x j sp := ⟨h.ex⟩
theorem FnFX.fn (h : FnFX C x j sp) : FnFX (C.fn N sc k pin) x j sp := ⟨h.ex⟩
theorem FnFX.fnq {q : Str} (h : FnFX C x j sp) : FnFX (C.fnq N sc k pin a q) x j sp := ⟨h.ex⟩
theorem FnFX.lam (h : FnFX C x j sp) : FnFX (C.lam sc k) x j sp := ⟨h.ex⟩
theorem FnKX.ofNg (h : FnKX C.ng x j ks π sp) : FnKX C x j ks π sp := ⟨h.ex⟩
theorem FnKX.fn (h : FnKX C x j ks π sp) : FnKX (C.fn N sc k pin) x j ks π sp := ⟨h.ex⟩
theorem FnKX.lam (h : FnKX C x j ks π sp) : FnKX (C.lam sc k) x j ks π sp := ⟨h.ex⟩
theorem ExcIn.fn (h : ExcIn C x n) : ExcIn (C.fn N sc k pin) x n := ⟨h.ex⟩
theorem ExcIn.ng (h : ExcIn C x n) : ExcIn C.ng x n := ⟨h.ex⟩
theorem IsX.fn (h : IsX C x f) : IsX (C.fn N sc k pin) x f := ⟨h.ex⟩
theorem IsX.ng (h : IsX C x f) : IsX C.ng x f := ⟨h.ex⟩
theorem IsX.ho (h : IsX C x f) : IsX (C.ho a c d) x f := ⟨h.ex⟩
theorem XfX.fn (h : XfX C x g) : XfX (C.fn N sc k pin) x g := ⟨h.ex⟩
theorem XfX.ng (h : XfX C x g) : XfX C.ng x g := ⟨h.ex⟩
theorem XfX.ho (h : XfX C x g) : XfX (C.ho a c d) x g := ⟨h.ex⟩
theorem HdIn.fn (h : HdIn C xs f) : HdIn (C.fn N sc k pin) xs f := ⟨h.ex⟩
theorem HdIn.ng (h : HdIn C xs f) : HdIn C.ng xs f := ⟨h.ex⟩
theorem Catch.fn {r : RX → Option Dat} (h : Catch C x n r) : Catch (C.fn N sc k pin) x n r := ⟨h.ex⟩
theorem Catch.fnq {r : RX → Option Dat} {q : Str} (h : Catch C x n r) : Catch (C.fnq N sc k pin a q) x n r := ⟨h.ex⟩
end
section
variable {C : Ctx} {pr : Bool} {a b c o e iter tg : Expr} {es : List Expr} {pos p lpos : Pos} {st : Stmt} {ss body : List Stmt} {kws : List Keyword} {x qual : Str} {ks ps N : List Str} {π : List Nat} {ys : YS} {xs : XS}
def dex_callKW {j : Nat} {r : RFX} (f : FnKX C x j ks π (spXX r)) (a' : DK C kws) (hj : j ≤ C.k := by exact Nat.le_of_ble_eq_true rfl) (hg : C.sc.names.lookup x = some .globalImplicit := by rfl) (hdb : (x == ("__debug__" : Str)) = false := by rfl)
    (hall : ∀ env, (backToKw pos (keywordEach kws env)).all (·.1.isSome) = true := by intro _; rfl) (hks : ∀ env, (backToKw pos (keywordEach kws env)).filterMap (·.1) = ks := by intro _; rfl)
    (hpl : ∀ env, ((backTo pos (starEach [] env)).any (·.1) || (backToKw pos (keywordEach kws env)).any (·.1.isNone)) = false := by intro _; rfl) (hh : C.hot = false := by rfl) : DEX C (.Call (.Name x p) [] kws pos) :=
  ⟨yCallK ks.length π a'.x r, (jex_callKW f hj hg hdb a'.ok hall hks hpl hh).imp fun env Q E ⟨o, e2, h, q⟩ => by
    obtain ⟨⟨us, e3⟩, ha, h⟩ := bind_ok h
    obtain ⟨hl, h⟩ := ite_ok h
    obtain ⟨z, hz, h⟩ := map_ok h
    cases h
    refine ⟨us, _, ha, hl, _, hz, ?_⟩
    cases o <;> exact q⟩
theorem mk_fnX' (hz : C.gd = false) (k : Nat) (h : FunAt C x qual st ps) (S : FnScope N ps (defScope st)) (D : JXs (C.fn N (defScope st) k []) (defBody st) (ywS ys)) : FnFX C x (k + 1) (spXX (runFX ps.length N.length ys)) := mk_fnX hz k h S ⟨ys, D⟩
theorem mk_fnKX' (hz : C.gd = false) (k : Nat) (h : FunAt C x qual st ps) (S : FnScope N ps (defScope st)) (D : JXs (C.fn N (defScope st) k []) (defBody st) (ywS ys))
    (hb : ∀ (kV doc pm : Value) (an : Option Addr) (cdv ct : Value) (ws : List Value), ws.length = ks.length → bindArgs (PySem.W.fnOf x qual (defArgs st) (defBody st) (defScope st) .none kV doc pm an cdv ct) ⟨[], ks.zip ws⟩ = pure (ps.zip (permL .none π ws))) : FnKX C x (k + 1) ks π (spXX (runFX ps.length N.length ys)) := by
  obtain ⟨f, fd, F, hm, _⟩ := h.ex
  refine ⟨f, fd, ps, hm, F.kp, fun s ws kin hl => ?_, FnOk.imp (fnOkFX hz F S D) (spFX_imp runFX_ok)⟩
  obtain ⟨oc, od, kV, doc, pm, an, cdv, ct, osl, rfl, lk, hcd⟩ := F.ex
  exact .of_eq (hb kV doc pm an cdv ct ws hl)
def xLam (r : RX → Option Dat) (y : YE) : XE := fun env => (y env).bind fun p => (r (match p.1 with | .ok d => .ok (frz d) | .ex c gs => .ex c gs)).map fun d => (d, p.2)
def de_lam {k : Nat} {r : RX → Option Dat} {params : Arguments} {body : Expr} {scope : Scope} (h : Catch C x k r) (hl : LamAt C) (b' : DEX (C.lam scope k) body) (hk : k + 2 ≤ C.k := by exact Nat.le_of_ble_eq_true rfl) (hh : C.hot = false := by rfl) (L : LamS C.sc scope := by exact LamX.lamS_by rfl)
    (hg : C.sc.names.lookup x = some .globalImplicit := by rfl) (hdb : (x == ("__debug__" : Str)) = false := by rfl) (hdef : ∀ env, defaultsOf params env = ([], []) := by intro _; rfl)
    (hbind : ∀ (q : Str) (cl : List (Str × Addr)) (pm cv ctv : Value), bindArgs (PySem.W.kla_fn "<lambda>" q params body scope cl pm cv ctv) ⟨[], []⟩ = pure [] := by intro _ _ _ _ _; rfl) :
    DE C (.Call (.Name x p) [.Lambda params body scope lpos] [] pos) := ⟨false, xLam r b'.x, (je_lam h hl hk hh L hg hdb hdef hbind b'.ok).imp fun env Q ⟨d, e1, hx, q⟩ => by
  obtain ⟨⟨u, e2⟩, ha, hx⟩ := bind_ok hx
  obtain ⟨rd, hr, hx⟩ := map_ok hx
  cases hx
  refine ⟨u, _, ha, ?_⟩
  cases u with
  | ok d => exact ⟨_, hr, q⟩
  | ex c gs => exact ⟨_, hr, q⟩⟩
structure FunAtL (C : Ctx) (x qual : Str) (st : Stmt) (ps : List Str) : Prop where
  ex : ∃ f fd c, Fun C.K x qual st f fd ∧ C.mg x = some (.ref f) ∧ Binds C.K fd ps [] ∧ fd.code = .ref c ∧ ∃ (T : List (Addr × Str)) (P : Addr), C.tb = T.map (fun p => (p.1, fun _ _ => p.2)) ∧ TabB C.base C.mg c P ∧ (P, qual ++ ".<locals>." ++ "<lambda>") ∈ T ∧ ∀ p ∈ T, p.1 = P → p.2 = qual ++ ".<locals>." ++ "<lambda>"
theorem gd_defq {ps : List Str} {f : Addr} {k : Nat} {cdv : Value} {A : Around} {outer : List PySem.Env} {s : Shared} {H : Hp} {E : XK} (pin : List Nat) {c0 : Addr} (hc : cdv = .ref c0) (hG : C.gd = true → A.guards = some []) (S : FnScope N ps (defScope st)) (hr : Room k (A.deeper (envOfC qual (defScope st) s.heap.objs.size f cdv))) :
    Gd (C.fnq N (defScope st) k pin c0 (qual ++ ".<locals>.")) (cxOf CX0 C.P C.w C.K C.mg C.base N qual (defScope st) f cdv A outer s H E).nox where
  prog := rfl
  w := rfl
  K := rfl
  mg := rfl
  base := rfl
  N := rfl
  nd := S.nd
  sc := rfl
  calm' := fun _ => rfl
  room := ⟨hr.dp, hr.un⟩
  hd := fun _ => hr.hd
  fn := fun _ _ => rfl
  po := PassesOwn.never
  gu := hG
  cq := fun c q e => by
    cases e
    exact ⟨hc, rfl⟩
  exo := fun z => Bool.noConfusion z
theorem fnGMq {w : LS} {k : Nat} {f : Addr} {fd : FuncData} {ps : List Str} {c0 : Addr} (F : Fun C.K x qual st f fd) (S : FnScope N ps (defScope st)) (hc : fd.code = .ref c0) (h : JSs (C.fnq N (defScope st) k [0] c0 (qual ++ ".<locals>.")) (defBody st) w) :
    FnG C.P C.w C.K C.mg C.base (k + 1) f fd ps (spM C.W (spOfM ps.length N.length w)) := by
  refine fnG_ofc F S ?_ ?_
  · rintro vs H Q E ⟨F', f0, d, ds, v0, us, Qd, e, r0, r, ok, sp, q⟩
    subst e; rw [List.length_cons, ← r.length]; exact sp.1
  · rintro cdv ec A out s H vs Q E hg hr ⟨F', f0, d, ds, v0, us, Qd, e, r0, r, ok, sp, q⟩
    subst e
    have rr : Reps C.W F' H f0 (d :: ds) (v0 :: us) := .cons r0 r (fun _ _ z => z) fun a => ⟨.inl, fun z => z.resolve_right id⟩
    have h0 : (L2.start N (v0 :: us))[0]? = some (some v0) := rfl
    refine ⟨_, h _ (gd_defq [0] (ec.symm.trans hc) (fun _ => hg) S hr), F', f0, _, _, ?_, ok, sp.2, ⟨?_, ?_, ?_, ?_⟩⟩
    · rw [start_eq, ← rr.length]; exact sl_start _ rr
    · rintro env F2 H2 fe σ' ⟨d', e0, hk⟩ s
      obtain ⟨v1, f1, g1, e1, r1, j, n, _⟩ := s.sl.at_ e0
      rw [s.pin 0 (by simp [Ctx.fnq, Ctx.fn]), h0] at e1
      cases e1
      exact q .non d' F2 H2 f1 NoA .non hk r1 rep_non (fun _ _ z => z) (s.st.sub fun a z => (j a).mpr (.inl (z.resolve_right id)))
    · rintro d env F2 H2 fe fd v σ' ⟨d', e0, hk⟩ s
      obtain ⟨v1, f1, g1, e1, r1, j, n, _⟩ := s.sl.at_ e0
      rw [s.pin 0 (by simp [Ctx.fnq, Ctx.fn]), h0] at e1
      cases e1
      exact q d d' F2 H2 f1 fd v hk r1 s.rep (fun a z => s.dj a ((j a).mpr (.inl z))) (s.st.sub fun a z => z.imp_left fun z => (j a).mpr (.inl z))
    · exact fun _ _ _ _ _ hk => hk.elim
    · exact fun _ _ _ _ _ hk => hk.elim
theorem mk_fnGMq' {k : Nat} (h : FunAtL C x qual st ps) (S : FnScope N ps (defScope st)) (D : ∀ c0, LamAt (C.fnq N (defScope st) k [0] c0 (qual ++ ".<locals>.")) → JSs (C.fnq N (defScope st) k [0] c0 (qual ++ ".<locals>.")) (defBody st) (xwS xs)) : FnGM C x (k + 1) (spXM (runM ps.length N.length xs)) := by
  obtain ⟨f, fd, c, F, hm, hb, hc, T, P, hT, TB, hm2, hu⟩ := h.ex
  exact ⟨f, fd, ps, hm, F.kp, hb, FnG.imp (fnGMq F S hc (D c ⟨T, c, P, _, rfl, hT, TB, hm2, hu⟩)) (spM_imp runM_ok)⟩
end
end
end M
namespace M
noncomputable section
open PySem PySem.Spec PyProof.Rows L2 LamX
/-- isinstance's answers where class numbers from 20 on are exceptions -/
def fiOX (c : Nat) : Dat → Option Bool
  | .obj _ k _ => if k < 20 then some (decide (k = c)) else none
  | d => fiO c d
def hdB (st : Stmt) (i : Nat) : List Stmt := match st with
  | .Try _ hds _ _ _ => (match hds[i]? with
    | some (.ExceptHandler _ _ b _) => b
    | none => [])
  | _ => []
section
variable {C : Ctx} {x m q : Str} {j k c i n : Nat} {N : List Str} {sc scope : Scope} {pin : List Nat} {a : Addr} {ks ps : List Str} {π : List Nat} {sp : SpF} {spm : SpM} {spx : SpFX} {qual : Str} {st : Stmt}
theorem FnF.fnq (h : FnF C x j sp) : FnF (C.fnq N sc k pin a q) x j sp := ⟨h.ex⟩
theorem FnM.fnq (h : FnM C x j spm) : FnM (C.fnq N sc k pin a q) x j spm := ⟨h.ex⟩
theorem FnGF.fnq (h : FnGF C x j sp) : FnGF (C.fnq N sc k pin a q) x j sp := ⟨h.ex⟩
theorem FnGM.fnq (h : FnGM C x j spm) : FnGM (C.fnq N sc k pin a q) x j spm := ⟨h.ex⟩
theorem FnKF.fnq (h : FnKF C x j ks π sp) : FnKF (C.fnq N sc k pin a q) x j ks π sp := ⟨h.ex⟩
theorem FnKX.fnq (h : FnKX C x j ks π spx) : FnKX (C.fnq N sc k pin a q) x j ks π spx := ⟨h.ex⟩
theorem MeF.fnq (h : MeF C c m j sp) : MeF (C.fnq N sc k pin a q) c m j sp := ⟨h.ex⟩
theorem MeM.fnq (h : MeM C c m j spm) : MeM (C.fnq N sc k pin a q) c m j spm := ⟨h.ex⟩
theorem MkM.fnq (h : MkM C x c j spm) : MkM (C.fnq N sc k pin a q) x c j spm := ⟨h.ex⟩
theorem Fld.fnq {f : Str} {g : Nat → Option Nat} (h : Fld C f g) : Fld (C.fnq N sc k pin a q) f g := ⟨fun c i e => let ⟨a, b⟩ := h.ok c i e; ⟨a, ⟨b.cls, b.no, b.nd⟩⟩⟩
theorem Cn.fnq {d : Dat} (h : Cn C x d) : Cn (C.fnq N sc k pin a q) x d := ⟨h.ex⟩
theorem Isi.fnq {u : Value} {f : Dat → Option Bool} (h : Isi C u f) : Isi (C.fnq N sc k pin a q) u f := ⟨h.ok⟩
theorem IsiO.fnq {f : Dat → Option Bool} (h : IsiO C x f) : IsiO (C.fnq N sc k pin a q) x f := let ⟨A, a, b⟩ := h.ex; ⟨A, a, b.fnq⟩
theorem nmMq (hN : N[i]? = some x := by rfl) (hl : Loc sc x := by first | exact Or.inl rfl | exact Or.inr rfl) (h0 : (i == 0) = false := by rfl) : Nm (C.fnq N sc k [0] a q) i x := ⟨hN, hl, .inr rfl, by
  simp [Ctx.fnq, Ctx.fn] at *
  exact h0⟩
theorem FunAtL.ng (h : FunAtL C x qual st ps) : FunAtL C.ng x qual st ps := ⟨h.ex⟩
end
section
variable {X : Cx}
theorem call_reprE (hA : X.A.guards = some []) (hu : X.A.units + 70 < cLine) : CallR X (.builtin "repr") (fun vs H Q => ∃ a, vs = [.ref a] ∧ Rd H a (.dK []) ∧ Q (.str "{}") H) := by
  intro pins s σ H xs us Q I r h
  obtain ⟨a, rfl, hd, q⟩ := h
  obtain ⟨u, rfl, rv⟩ := vals1 r
  obtain rfl : u = Value.ref a := rv
  obtain ⟨_, hsy, vs, kv, o, es, ep, e, c⟩ : ObjOk X.prog X.w H s.heap a (.dK []) := hd.ok I.hok
  cases kv
  obtain ⟨cx, cd, cn⟩ := c
  have hes : es.toList = [] := by
    have z := cn.2.1
    cases hx : es.toList with
    | nil => rfl
    | cons y ys => rw [hx] at z; cases z
  have rd : Reads s.heap (.ref a) (.dict []) (a :: [] ++ []) := .dict e cx.1 cd (by rw [hes]; exact .nil) (by rw [hes]; exact .nil)
  have hsz : (PyData.dict []).shown.length ≤ sizeLine := by decide +kernel
  exact repr_of_reads' rd rfl (fun _ z => by simp at z; rw [z] at hsy; simp at hsy) hA (by have hdp : (PyData.dict []).depth ≤ 5 := (by decide); omega) (fun _ _ e => e) (fun h' t tk k => ⟨.str _, H, I.kept (t' := tk) k, ⟨_, rfl⟩, q⟩) hsz
end
section
variable {C : Ctx} {pr : Bool} {a b c o e : Expr}
def rReprD (x : Dat) (Q : Dat → Prop) : Prop := rRepr x Q ∨ (∃ o, x = .dct o [] []) ∧ Q (.str "{}")
theorem cl_reprD (hq : C.gd = true) : Cl1r C (.builtin "repr") rReprD := by
  obtain ⟨r1, h1, h2⟩ := cl_repr (C := C) hq
  refine ⟨fun K x H Q => r1 K x H Q ∨ (∃ a, x = .ref a ∧ Rd H a (.dK []) ∧ Q (.str "{}") H), fun X g => ?_, ?_⟩
  · intro pins s σ H xs us Q I r h
    obtain ⟨x, rfl, h | ⟨a, rfl, hr, q⟩⟩ := h
    · exact h1 X g pins s σ H _ us Q I r ⟨x, rfl, h⟩
    · exact call_reprE (g.gu hq) (by have := g.room.un; omega) pins s σ H _ us Q I r ⟨a, rfl, hr, q⟩
  · intro F H f x vx Qd Q fl r h q
    rcases h with h | ⟨⟨o, rfl⟩, h⟩
    · exact .inl (h2 F H f x vx Qd Q fl r h q)
    · refine .inr ?_
      cases r with
      | @dctF _ a kvs ks vs e s m ek rk =>
        cases kvs with
        | nil => exact ⟨_, rfl, s, q _ _ _ _ _ h (.str _ fun _ z => z) Fresh.refl⟩
        | cons y ys => cases ek
      | @dctO _ _ a kvs ks vs e ek rk n i =>
        cases kvs with
        | nil => exact ⟨_, rfl, .inl e, q _ _ _ _ _ h (.str _ fun _ z => z) Fresh.refl⟩
        | cons y ys => cases ek
def xReprD : X1
  | .dct _ [] [] => some (.str "{}")
  | x => xRepr x
theorem xReprD_ok : Ok1 xReprD rReprD := by
  intro x d Q h q
  unfold xReprD at h
  split at h
  · cases h; exact .inr ⟨⟨_, rfl⟩, q⟩
  · exact .inl (xRepr_ok x d Q h q)
def l_reprD (hq : C.gd = true) : XL1r C (.builtin "repr") := ⟨_, cl_reprD hq, xReprD, xReprD_ok⟩
variable {pos p : Pos} {wa : LE}
def rIntB : Dat → (Dat → Prop) → Prop
  | .int i, Q => Q (.int i)
  | .bl k, Q => Q (.int (if k then 1 else 0))
  | _, _ => False
theorem je_intH (hm : C.mg ("int" : Str) = none) (hg : C.sc.names.lookup ("int" : Str) = some .globalImplicit) (ha : JV C pr a wa) (hs : ∀ env, starEach [a] env = (false, eval a env) :: starEach [] env) (hpl : ∀ env, (backTo pos (starEach [] env)).any (·.1) = false) :
    JE C pr (.Call (.Name "int" p) [a] [] pos) (w1 wa rIntB) := fun X g => by
  have o : Op1 C.W (fun x H Q => (∃ i, x = V.int i ∧ Q (.int i) H) ∨ ∃ k, x = V.bl k ∧ Q (.int (if k then 1 else 0)) H) rIntB := by
    intro F H f x vx Qd Q fl r h q
    cases x <;> simp only [rIntB] at h
    case int i =>
      cases r
      exact .inl ⟨i, rfl, q _ _ _ _ _ h (.int i fun _ z => z) Fresh.refl⟩
    case bl k =>
      cases r
      exact .inr ⟨k, rfl, q _ _ _ _ _ h (.int _ fun _ z => z) Fresh.refl⟩
  refine PE_imp (pe_callTy (r := fun vs H Q => ∃ x, vs = [x] ∧ ((∃ i, x = V.int i ∧ Q (.int i) H) ∨ ∃ k, x = V.bl k ∧ Q (.int (if k then 1 else 0)) H)) (fun pins s σ H xs us Q I r h => ?_) (gl_of g hg) (by rw [g.mg]; exact hm) rfl (pa_cons (ha X g) pa_nil (hs _)) (by decide) (by decide) (hs _) (hpl _)) fun σ H Q h => ?_
  · obtain ⟨x, rfl, h⟩ := h
    refine call_int1 pins s σ H _ us Q I r ?_
    rcases h with ⟨i, rfl, h⟩ | ⟨i, rfl, h⟩
    · exact .inl ⟨i, rfl, h⟩
    · exact .inr ⟨i, rfl, h⟩
  · exact sp1 (X := X) (lift1 o h)
def xIntB : X1
  | .int i => some (.int i)
  | .bl k => some (.int (if k then 1 else 0))
  | _ => none
theorem xIntB_ok : Ok1 xIntB rIntB := by
  intro x d Q h q
  cases x <;> simp only [xIntB] at h
  case int i => cases h; exact q
  case bl k => cases h; exact q
  all_goals cases h
def de_intH (a' : DV C a) (hm : C.mg ("int" : Str) = none) (hg : C.sc.names.lookup ("int" : Str) = some .globalImplicit := by rfl) (hs : ∀ env, starEach [a] env = (false, eval a env) :: starEach [] env := by intro _; rfl) (hpl : ∀ env, (backTo pos (starEach [] env)).any (·.1) = false := by intro _; rfl) :
    DE C (.Call (.Name "int" p) [a] [] pos) := ⟨_, x1 a'.x xIntB, (je_intH hm hg a'.ok hs hpl).imp (x1_ok xIntB_ok)⟩
end
section
variable {C : Ctx} {x : Str} {k i : Nat} {N : List Str} {sc : Scope} {a : Addr} {c : Nat} {d : Option Addr}
theorem nmFh (hN : N[i]? = some x := by rfl) (hl : Loc sc x := by first | exact Or.inl rfl | exact Or.inr rfl) : Nm ((C.fn N sc k []).ho a c d) i x := ⟨hN, hl, .inr rfl, by simp [Ctx.fn]⟩
end
end
end M
namespace M
noncomputable section
open PySem PySem.Spec PyProof.Rows L2
theorem FnF.none {C : Ctx} {x qual : Str} {st : Stmt} {ps : List Str} (h : FunAt C x qual st ps) : FnF C x 0 (spX fun _ => Option.none) := by
  obtain ⟨f, fd, F, hm, hb⟩ := h.ex
  have no : ∀ {vs : List V} {H : Hp} {Q : VK} {E : XK}, spF C.W (spX fun _ => Option.none) vs H Q E → False := fun ⟨_, _, _, _, _, ⟨_, z, _⟩, _⟩ => nomatch z
  exact ⟨f, fd, ps, hm, F.kp, hb, ⟨fun vs H Q E z => (no z).elim, fun A outer s H args us vs Q E _ _ _ _ z => (no z).elim⟩⟩
end
end M
namespace L2
open PySem PySem.Spec PyProof.Rows
end L2
namespace M
open PySem PySem.Spec PyProof.Rows L2
def isLstD : Dat → Bool
  | .lst _ _ => true
  | _ => false
/-- the answer holds no container, or is a flat list, where what is lent holds lists alone -/
def okA (ds : List Dat) (r : Dat) : Bool := M.atm r || (match r with
  | .lst false (x :: xs) => flatD x && (xs.all flatD && ds.all isLstD)
  | _ => false)
section
variable {C : Ctx} {W : Wd} {pr : Bool} {F F' : AS} {H H' : Hp} {fp : AS} {σ : L2.St} {env : Env} {pos p : Pos}
theorem flats_any : ∀ {xs : List Dat} {f : AS} {vs : List V} {F2 : AS}, xs.all flatD = true → Reps W F H f xs vs → Reps W F2 H f xs vs
  | [], _, _, _, _, r => by cases r with | nil e => exact .nil e
  | x :: xs, _, _, _, z, r => by
    rw [List.all_cons, Bool.and_eq_true] at z
    cases r with
    | cons r1 r2 n i =>
      refine .cons ?_ (flats_any z.2 r2) n i
      have := z.1
      cases x <;> first | exact Rep.atm _ _ _ rfl r1 | cases this
theorem rd_one {a : Addr} {us vs : List V} (h : H a = some (.lst vs)) (r : Rd H a (.lst us)) : us = vs := by
  rcases r with r | ⟨o, r⟩
  · rw [h] at r
    injection r with r
    injection r with r
    exact r.symm
  · rw [h] at r
    injection r with r
    cases r
theorem lend1_core {sp : SpF} {Q : VK} {Qd : Dat → Env → Prop} {ds : List Dat} {i : Nat} {v0 : V} (hσ : σ[i]? = some (some v0))
    (q : ∀ d env' F' H' fe fd v, Qd d env' → Po W pr F H fp σ env' F' H' fe fd d v → Q v H') (sl : Sl W F H fp env σ) (ok : Ok W F H fp) (he : env[i]? = some (some (.lst true ds))) (hz : frzs ds = ds) (h : sp [.lst false ds] fun r => okA ds r = true ∧ Qd r env) : spF W sp [v0] H Q E0 := by
  obtain ⟨v, f, g, e1, r, j, n, s⟩ := sl.at_ he
  rw [hσ] at e1
  cases e1
  cases r with
  | @lstO _ f0 a vs _ hA rs na ix =>
    have em0 := Reps.em _ _ _ rs hz
    have fpa : fp a := (j a).mpr (.inl ((ix a).mpr (.inl rfl)))
    have nF : ¬ F a := ok.nf a fpa
    have live : ∀ x, fp x → ∃ o, H x = some o := fun x z => ok.live z
    have fl : FL (fun x => F x ∨ x = a) H := fun x z => by
      rcases z with z | rfl
      · exact ok.lv x z
      · rw [hA]; exact fun z => nomatch z
    have rs' : Reps W (fun x => F x ∨ x = a) H NoA ds vs := by
      have := Reps.freeze (W := W) (F := F) (F' := fun x => F x ∨ x = a) (fun _ z => .inl z) ds f0 vs rs fun x z => (em0 x z).elim
      rw [hz] at this
      exact this
    have hr : Reps W (fun x => F x ∨ x = a) H NoA [.lst false ds] [.ref a] := .cons (.lstF (fun _ z => z) (.inl hA) (.inr rfl) rs') (.nil fun _ z => z) (fun _ z => z.elim) fun _ => ⟨fun z => z.elim, fun z => z.elim id id⟩
    refine ⟨_, _, _, hr, ⟨fl, ok.tb⟩, h, fun r F2 H2 fr v2 hq rr st => ?_⟩
    have kp : Keep H H2 := fun x o e => st.kp x o e fun z => z
    have new : ∀ x, fr x → H x = none := fun x z => (st.nw x z).resolve_left id
    have hA2 : H2 a = some (.lst vs) := (kp a _ hA).nt fun ps e => by cases e
    have rep' : Rep W (fun x => F2 x ∧ x ≠ a) H2 fr r v2 := by
      have hk := hq.1
      unfold okA at hk
      rw [Bool.or_eq_true] at hk
      rcases hk with hk | hk
      · exact Rep.atm r fr v2 hk rr
      · split at hk
        · rename_i x xs
          simp only [Bool.and_eq_true] at hk
          obtain ⟨k1, k2, k3⟩ := hk
          cases rr with
          | @lstF _ b us _ em rd fb reps =>
            refine .lstF em rd ⟨fb, fun e => ?_⟩ (flats_any (by rw [List.all_cons, k1, k2]; rfl) reps)
            subst e
            have e2 := rd_one hA2 rd
            subst e2
            cases reps with
            | cons r1 r2 _ _ =>
              cases ds with
              | nil => cases rs
              | cons d ds =>
                rw [List.all_cons, Bool.and_eq_true] at k3
                cases rs with
                | cons s1 s2 _ _ =>
                  cases d <;> first | cases k3.1 | skip
                  cases s1 <;> cases r1 <;> cases k1
        · cases hk
    refine q r env (fun x => F2 x ∧ x ≠ a) H2 fp fr v2 hq.2 ⟨sl.mono (fun x z => ⟨st.fx x (.inl z), fun e => nF (e ▸ z)⟩) (fun x o e t _ => (kp x o e).nt t), rep', fun x z w => ?_, ⟨fun x o e n => kp x o e, fun x z => ⟨st.fx x (.inl z), fun e => nF (e ▸ z)⟩, fun x z => ?_, fun x z => ?_, ⟨fun x z w => ?_, fun x z => ?_, fun x z => st.ok.lv x z.1, st.ok.tb⟩⟩, fun _ => kp⟩
    · obtain ⟨o, e⟩ := live x z
      rw [new x w] at e; cases e
    · rcases st.fb x z.1 with (w | w) | w | w
      · exact .inl w
      · exact absurd w z.2
      · exact w.elim
      · exact .inr (.inr w)
    · rcases z with z | z
      · exact .inl z
      · exact .inr (new x z)
    · rcases z with z | z
      · rcases st.fb x w.1 with (u | u) | u | u
        · exact ok.nf x z u
        · exact w.2 u
        · exact u.elim
        · obtain ⟨o, e⟩ := live x z
          rw [u] at e; cases e
      · exact st.ok.nf x z w.1
    · rcases z with z | z
      · obtain ⟨o, e⟩ := live x z
        have m := ok.own x z
        rw [e] at m
        rw [(kp x o e).nt (mut_nt m)]; exact m
      · exact st.ok.own x z
/-- f(x), x lent: f answers one of the lists in x -/
def wCallF (i : Nat) (sp : SpF) : LE := fun env Q => ∃ ds, env[i]? = some (some (.lst true ds)) ∧ frzs ds = ds ∧ sp [.lst false ds] fun r => okA ds r = true ∧ Q r env
theorem je_callF {x y : Str} {j i : Nat} {yp : Pos} {sp : SpF} (f : FnF C x j sp) (hj : j ≤ C.k) (hg : C.sc.names.lookup x = some .globalImplicit) (hdb : (x == ("__debug__" : Str)) = false) (hN : C.N[i]? = some y) (hv : Vis C.sc y) (hd : (y == ("__debug__" : Str)) = false) (hc : (y == ("__classdict__" : Str)) = false)
    (he : ∀ env, starEach [.Name y yp] env = (false, eval (.Name y yp) env) :: starEach [] env) (hpl : ∀ env, (backTo pos (starEach [] env)).any (·.1) = false) (hh : C.hot = false := by rfl) : JE C pr (.Call (.Name x p) [.Name y yp] [] pos) (wCallF i sp) := fun X g => by
  obtain ⟨f, fd, ps, hm, hk, hb, F⟩ := f.ex
  refine PE_imp (pe_call (g.fnok F) (g.roomM hh hj) (gl_of g hg) (by rw [g.mg]; exact hm) (by rw [g.K]; exact hk) (by rw [g.K]; exact hb) .nil pass0 (pa_cons (pe_slot g hN hv hd hc) pa_nil (he _)) hdb (he _) (hpl _)) fun σ H Q ⟨F, fp, env, Qd, sl, ok, hw, q⟩ => ?_
  obtain ⟨ds, e0, hz, hw⟩ := hw
  obtain ⟨v0, _, _, e1, _⟩ := sl.at_ e0
  refine ⟨v0, e1, ?_⟩
  show spF C.W sp [v0] H Q E0
  exact lend1_core e1 q sl ok e0 hz hw
end
noncomputable section
variable {C : Ctx} {pos p : Pos}
def xCallF (i : Nat) (f : List Dat → Option Dat) : XE := fun env => (env[i]?).bind fun o => match o with
  | some (.lst true ds) => if isFzs ds = true then (f [.lst false ds]).bind fun r => if okA ds r = true then some (r, env) else none else none
  | _ => none
def de_callF {x y : Str} {j : Nat} (i : Nat) {yp : Pos} {f : List Dat → Option Dat} (F : FnF C x j (spX f)) (hj : j ≤ C.k := by exact Nat.le_of_ble_eq_true rfl) (hg : C.sc.names.lookup x = some .globalImplicit := by rfl) (hdb : (x == ("__debug__" : Str)) = false := by rfl) (hN : C.N[i]? = some y := by rfl) (hv : Vis C.sc y := by first | exact Or.inl rfl | exact Or.inr (Or.inl rfl) | exact Or.inr (Or.inr rfl)) (hd : (y == ("__debug__" : Str)) = false := by rfl) (hc : (y == ("__classdict__" : Str)) = false := by rfl)
    (he : ∀ env, starEach [.Name y yp] env = (false, eval (.Name y yp) env) :: starEach [] env := by intro _; rfl) (hpl : ∀ env, (backTo pos (starEach [] env)).any (·.1) = false := by intro _; rfl) (hh : C.hot = false := by rfl) : DE C (.Call (.Name x p) [.Name y yp] [] pos) := ⟨true, xCallF i f, (je_callF (hh := hh) F hj hg hdb hN hv hd hc he hpl).imp fun env Q ⟨d, e1, h, q⟩ => by
  unfold xCallF at h
  obtain ⟨o, ho, h⟩ := bind_ok h
  split at h
  · rename_i ds
    obtain ⟨c, h⟩ := ite_ok h
    obtain ⟨r, hr, h⟩ := bind_ok h
    obtain ⟨c2, h⟩ := ite_ok h
    cases h
    exact ⟨ds, ho, isFzs_ok _ c, _, hr, c2, q⟩
  · cases h⟩
end
end M
namespace M
open PySem PySem.Spec PyProof.Rows L2 LamX
section
variable {P : Program} {w : World} {K : PySem.W.Frag} {mg mb : Str → Option Value} {a fa : Addr} {s1 : Shared} {vs : List Value} {ns : List Int} {k : Nat} {fd : FuncData} {sp : Sp} {x : Str} {cs : List (Addr × Addr)}
def tabsH (cs : List (Addr × Addr)) : Hp := fun b => if b ∈ cs.map (·.2) then some (.tbl #[]) else none
structure TopT (P : Program) (w : World) (K : PySem.W.Frag) (h : Heap) (a : Addr) (ns : List Int) (cs : List (Addr × Addr)) (H : Hp) : Prop where
  tb : ∀ p ∈ cs, H p.2 = some (.tbl #[])
  only : ∀ b, H b = none ∨ b ∈ cs.map (·.2) ∨ ∃ o xs, H b = some (.frz o (.lst xs))
  sq : SqL K H a (ns.map V.int)
  hok : HOk P w H h
  at_ : ∀ b, b ≠ a → b ∉ cs.map (·.2) → H b = none
  ka : H a = none ∨ K.lookup a = none
theorem topT (kin : K.In s1.heap) (hT : ∀ p ∈ cs, s1.heap.get? p.2 = some { cls := .none, data := .fields #[] }) (ha : s1.heap.get? a = some (scrO vs)) (hi : IntsAre vs ns) (hl : ns.length ≤ sizeLine) : a ∉ cs.map (·.2) ∧ ∃ H : Hp, TopT P w K s1.heap a ns cs H := by
  have rv := vals_ints hi
  have isT : ∀ b, b ∈ cs.map (·.2) → s1.heap.get? b = some { cls := .none, data := .fields #[] } := fun b hb => by
    obtain ⟨p, hp, rfl⟩ := List.mem_map.mp hb
    exact hT p hp
  have aT : a ∉ cs.map (·.2) := fun z => by
    have q := isT a z
    rw [ha] at q
    cases q
  have tH : ∀ p ∈ cs, tabsH cs p.2 = some (.tbl #[]) := fun p hp => if_pos (List.mem_map.mpr ⟨p, hp, rfl⟩)
  refine ⟨aT, ?_⟩
  cases e : K.lookup a with
  | some o =>
    have e2 := kin a o e
    rw [ha] at e2
    cases e2
    refine ⟨tabsH cs, tH, fun b => ?_, .inr ⟨scrO vs, vs.toArray, _, e, rfl, rfl, rfl, by rw [List.size_toArray, hi.length]; exact hl, by simpa using rv⟩, fun b u z => ?_, fun b _ h => if_neg h, .inl (if_neg aT)⟩
    · by_cases h : b ∈ cs.map (·.2)
      · exact .inr (.inl h)
      · exact .inl (if_neg h)
    · by_cases h : b ∈ cs.map (·.2)
      · have z' := (if_pos h).symm.trans z
        cases z'
        exact isT b h
      · have z' := (if_neg h).symm.trans z
        cases z'
  | none =>
    have nA : ∀ b, b ∈ cs.map (·.2) → b ≠ a := fun b h z => aT (z ▸ h)
    refine ⟨upd (tabsH cs) a (.frz (scrO vs) (.lst (ns.map V.int))), fun p hp => ?_, fun b => ?_, .inl (.inr ⟨_, upd_same⟩), fun b u z => ?_, fun b h1 h2 => ?_, .inr e⟩
    · rw [upd_ne (nA _ (List.mem_map.mpr ⟨p, hp, rfl⟩))]; exact tH p hp
    · by_cases q : b = a
      · subst q; exact .inr (.inr ⟨_, _, upd_same⟩)
      · rw [upd_ne q]
        by_cases h : b ∈ cs.map (·.2)
        · exact .inr (.inl h)
        · exact .inl (if_neg h)
    · by_cases q : b = a
      · subst q
        rw [upd_same] at z
        cases z
        exact ⟨ha, by rw [List.length_map]; exact hl, vs, _, rv, ha⟩
      · rw [upd_ne q] at z
        by_cases h : b ∈ cs.map (·.2)
        · have z' := (if_pos h).symm.trans z
          cases z'
          exact isT b h
        · have z' := (if_neg h).symm.trans z
          cases z'
    · rw [upd_ne h1]; exact if_neg h2
/-- what of the top is not hidden stays -/
theorem TopT.base {H : Hp} (T : TopT P w K s1.heap a ns cs H) (hT : ∀ p ∈ cs, s1.heap.get? p.2 = some { cls := .none, data := .fields #[] }) (ha : s1.heap.get? a = some (scrO vs)) {b : Addr} {o : Obj} (e : s1.heap.get? b = some o) (h1 : ∀ vs n, o.data ≠ .seq vs n) (h2 : o.data ≠ .fields #[]) : (hidT s1.heap H).get? b = some o := by
  refine hidT_get e (T.at_ b ?_ ?_)
  · rintro rfl
    rw [ha] at e
    cases e
    exact h1 _ _ rfl
  · intro z
    obtain ⟨p, hp, rfl⟩ := List.mem_map.mp z
    rw [hT p hp] at e
    cases e
    exact h2 rfl
theorem topTE {H : Hp} (T : TopT P w K s1.heap a ns cs H) (kin : K.In s1.heap) (hns : s1.heap.Ns mainGlobals mg) (hb : s1.heap.Ns builtinsNs mb) (hbb : ∀ x : Str, x ≠ "__name__" → mb x = bootBuiltins x) (hlim : s1.heap.NoLimit) (hg : s1.gens = #[])
    (hT : ∀ p ∈ cs, s1.heap.get? p.2 = some { cls := .none, data := .fields #[] }) (nT : ∀ p ∈ cs, K.lookup p.2 = none) (ha : s1.heap.get? a = some (scrO vs)) :
    K.In (hidT s1.heap H) ∧ (hidT s1.heap H).Ns mainGlobals mg ∧ Env0 P w K mg (hidT s1.heap H) callerA [] s1 H := by
  have ns : ∀ {b : Addr} {m : Str → Option Value}, s1.heap.Ns b m → (hidT s1.heap H).Ns b m := by
    rintro b m ⟨o, es, ep, e, d, r⟩
    exact ⟨o, es, ep, T.base hT ha e (fun vs n z => by rw [d] at z; cases z) (fun z => by rw [d] at z; cases z), d, r⟩
  have kb : K.In (hidT s1.heap H) := by
    intro b o e
    refine hidT_get (kin b o e) ?_
    by_cases q : b = a
    · subst q
      rcases T.ka with z | z
      · exact z
      · rw [z] at e; cases e
    · refine T.at_ b q fun z => ?_
      obtain ⟨p, hp, rfl⟩ := List.mem_map.mp z
      rw [nT p hp] at e
      cases e
  obtain ⟨mc, l1, l2⟩ := hlim
  exact ⟨kb, ns hns, { frames := rfl, mod := ⟨kb, ns hns, ⟨mb, ns hb, hbb⟩, ⟨mc, ns l1, l2⟩⟩, bs := fun b o e => of_hidT e, bsz := Nat.le_of_eq (hidT_size _ _), funs := trivial, frf := (fun b hb => nomatch hb), hok := T.hok, bare := .of_eq hg }⟩
theorem topTB {H : Hp} (T : TopT P w K s1.heap a ns cs H) (hns : s1.heap.Ns mainGlobals mg) (hT : ∀ p ∈ cs, s1.heap.get? p.2 = some { cls := .none, data := .fields #[] }) (C : ∀ p ∈ cs, PySem.W.CodeHd s1.heap p.1 p.2)
    (hbm : ∃ (bm : Addr) (ob : Obj), mg "__builtins__" = some (.ref bm) ∧ bm ≠ builtinsNs ∧ s1.heap.get? bm = some ob ∧ ob.cls = .type "module" ∧ ob.dict = some builtinsNs ∧ ob.data = .plain) (ha : s1.heap.get? a = some (scrO vs)) :
    ∀ p ∈ cs, TabB (hidT s1.heap H) mg p.1 p.2 := by
  intro p hp
  have hTp := hT p hp
  have nG : ∀ {b : Addr} {o : Obj}, s1.heap.get? b = some o → (∀ es ep, o.data ≠ .dict es ep) → b ≠ mainGlobals := by
    rintro b o e n rfl
    obtain ⟨o', es, ep, e', d, _⟩ := hns
    rw [e] at e'
    cases e'
    exact n _ _ d
  obtain ⟨o, us, file, tf, flags, tg, inF, text, tt, e1, r1, r2, r3, r⟩ := C p hp
  obtain ⟨bm, ob, b1, b2, b3, b4, b5, b6⟩ := hbm
  refine ⟨⟨o, us, file, tf, flags, tg, inF, text, tt, T.base hT ha e1 (fun vs n z => by rw [r2] at z; cases z) (fun z => ?_), r1, r2, r3, r⟩, ⟨bm, ob, b1, b2, nG b3 (fun es ep z => (by rw [b6] at z; cases z)), ?_, T.base hT ha b3 (fun vs n z => by rw [b6] at z; cases z) (fun z => by rw [b6] at z; cases z), b4, b5, b6⟩, ?_⟩
  · rw [r2] at z
    cases z
    simp at r3
  · rintro rfl
    rw [hTp] at b3
    cases b3
    cases b6
  · exact fun z => nG hTp (fun es ep z => by cases z) z.symm
theorem topTR {H : Hp} (T : TopT P w K s1.heap a ns cs H) (hT : ∀ p ∈ cs, s1.heap.get? p.2 = some { cls := .none, data := .fields #[] }) (C : ∀ p ∈ cs, PySem.W.CodeHd s1.heap p.1 p.2) {r : Result} {s' : Shared} (h : CR CX0 [] P w H s1 (fun v _ => v = .bl true) E0 r s') : r = .ok (.ret (.bool true)) ∧ OldK s1.heap s'.heap ∧ s'.os = s1.os ∧ AllBare s'.gens := by
  cases r with
  | error e => exact (show False from h).elim
  | ok fl =>
    cases fl with
    | ret u =>
      obtain ⟨v, H', os, bare, un, hok', rv, e⟩ := h
      have e' : v = .bl true := e
      subst e'
      obtain rfl : u = .bool true := rv
      have key : ∀ b o, b ∉ cs.map (·.2) → s1.heap.get? b = some o → s'.heap.get? b = some o := fun b o nb e => by
        cases q : H b with
        | none => exact un.keep b o e q (fun z => nomatch z) fun z => nomatch z
        | some u =>
          rcases T.only b with z | z | ⟨ob, xs, z⟩
          · rw [q] at z; cases z
          · exact absurd z nb
          · have z2 := un.frzs b ob _ z
            obtain ⟨e1, _⟩ := T.hok b _ z
            obtain ⟨e2, _⟩ := hok' b _ z2
            rw [e] at e1
            cases e1
            exact e2
      have grown : ∀ p ∈ cs, ∃ more : Array Value, s'.heap.get? p.2 = some { cls := .none, data := .fields more } := fun p hp => by
        obtain ⟨more, z⟩ := un.tbls p.2 #[] (T.tb p hp)
        exact ⟨_, hok' p.2 _ z⟩
      refine ⟨rfl, ⟨fun b o e => ?_, fun b o e => ?_⟩, os, bare⟩
      · by_cases hb : b ∈ cs.map (·.2)
        · obtain ⟨p, hp, rfl⟩ := List.mem_map.mp hb
          obtain ⟨more, hm⟩ := grown p hp
          rw [hT p hp] at e
          cases e
          exact .inr (.inl ⟨((C p hp).tab (hT p hp)).isCodeTable, rfl, #[], more, rfl, by rw [Array.empty_append]; exact hm⟩)
        · exact .inl (key b o hb e)
      · by_cases hb : b ∈ cs.map (·.2)
        · obtain ⟨p, hp, rfl⟩ := List.mem_map.mp hb
          obtain ⟨more, hm⟩ := grown p hp
          exact ⟨_, hm⟩
        · exact ⟨o, key b o hb e⟩
    | _ => exact (show False from h).elim
end
/-- what is known of the law's def at the head's heap -/
structure LawT (l : PySem.W.OpenLaw) (w : World) (k : Nat) (x : Str) (mg : Str → Option Value) (fa : Addr) (h : Heap) (K : PySem.W.Frag) (fd : FuncData) (cs : List (Addr × Addr)) (tbl : List NdefX.NTab) : Prop where
  kin : K.In h
  hT : ∀ p ∈ cs, h.get? p.2 = some { cls := .none, data := .fields #[] }
  nT : ∀ p ∈ cs, K.lookup p.2 = none
  hC : ∀ p ∈ cs, PySem.W.CodeHd h p.1 p.2
  tb : ∀ q ∈ tbl, ∃ p ∈ cs, q.1 = p.2
  ta : ∀ p ∈ cs, ∃ nm, (p.2, nm) ∈ tbl
  hb : ∀ (s : Shared) (u : Value), BindsTo s fd ⟨[u], []⟩ [(x, u)]
  fn : ∀ base : Heap, K.In base → base.Ns mainGlobals mg → (∀ p ∈ cs, TabB base mg p.1 p.2) → FnG l.prog w K mg base k fa fd [x] (spLawT K tbl)
theorem walkTE {l : PySem.W.OpenLaw} {q : Program} {loose : List Str} {XP : (Str → Option Value) → Heap → Prop} {YP : World → Heap → Prop} {d : DefRec} (k : Nat) (hn : l.most = some 63) (hdf : d.params.defaults = []) (hroom : Room k callerA)
    (F : ∀ (w : World) (mg : Str → Option Value) (fa : Addr) (h : Heap), YP w h → h.Ns mainGlobals mg → mg d.name = some (.ref fa) → ∃ K fd cs tb, LawT l w k "_law_script" mg fa h K fd cs tb) :
    PySem.W.WalkO q loose XP YP l.row.toRowW d [] (fun f vs => PySem.call f vs) := by
  refine Att.attach_call hn hdf fun w s₀ s₁ mg mb fa o pm cd doc a vs ns G Y ho hd hcd hmg hobj hints hlen hg => ?_
  obtain ⟨K, fd, cs, tb, L⟩ := F w mg fa _ Y G.T.g hmg
  obtain ⟨_, H, T⟩ := topT (P := l.prog) (w := w) (cs := cs) L.kin L.hT hobj hints (Nat.le_trans hlen (by decide))
  obtain ⟨kb, nb, e0⟩ := topTE T L.kin G.T.g G.T.b G.T.builtins G.T.nolimit hg L.hT L.nT hobj
  refine codeAny_mono ((L.fn _ kb nb (topTB T G.T.g L.hT L.hC G.T.bmain hobj)).go callerA [] s₁ H [.ref a] [.ref a] (fun v _ => v = .bl true) E0 rfl hroom e0 (L.hb s₁ (.ref a)) (.cons rfl .nil) ?_) fun r s' h => topTR T L.hT L.hC h
  refine ⟨a, ns, rfl, ?_, ⟨hlen, fun q hq => ?_, fun b ps e => ?_⟩, fun _ => rfl⟩
  · rcases T.sq with (z | z) | z
    · rcases T.only a with q | q | ⟨o, xs, q⟩
      · rw [z] at q; cases q
      · obtain ⟨p, hp, e⟩ := List.mem_map.mp q
        have e1 := T.tb p hp
        rw [e, z] at e1
        cases e1
      · rw [z] at q; cases q
    · exact .inl z
    · exact .inr z
  · obtain ⟨p, hp, e⟩ := L.tb q hq
    rw [e]
    exact NdefX.TabN.nil (T.tb p hp)
  · rcases T.only b with z | z | ⟨o, xs, z⟩
    · rw [z] at e; cases e
    · obtain ⟨p, hp, rfl⟩ := List.mem_map.mp z
      exact L.ta p hp
    · rw [z] at e; cases e
end M
namespace M
noncomputable section
open PySem PySem.Spec PyProof.Rows L2 LamX
def oexB (K : PySem.W.Frag) (C : Addr) : Bool := (match K.lookup C with
  | some ⟨.type t, _, .cls cd, sl⟩ => (match cd.mro, sl.toList with
    | .ref C' :: bm, [_, _, _, _, some (.builtin n), _] => decide (t = "type") && (decide (C' = C) && (decide (n = "ValueError.__new__") && (!cd.hasDel && (cd.hasDict && PySem.HandSPX.refsVE bm))))
    | _, _ => false)
  | _ => false) && (decide (PySem.W.findIn K (.ref C) "__setattr__" = some (some (.builtin "object.__setattr__"))) && (decide (PySem.W.subIn K (.ref C) (.type "BaseException") = some true) && (decide (PySem.W.typeIn K (.ref C) = some (.type "type")) && PySem.W.keepIn K (.ref C))))
theorem oexB_ok {K : PySem.W.Frag} {C : Addr} (h : oexB K C = true) : OexC K C := by
  unfold oexB at h
  rw [Bool.and_eq_true, Bool.and_eq_true, Bool.and_eq_true, Bool.and_eq_true] at h
  obtain ⟨h1, h2, h3, h4, h5⟩ := h
  refine ⟨?_, of_decide_eq_true h2, of_decide_eq_true h3, of_decide_eq_true h4, h5⟩
  split at h1
  · rename_i t dd cd sl ho
    split at h1
    · rename_i C' bm k0 k1 k2 k3 n k5 hm hs
      simp only [Bool.and_eq_true, decide_eq_true_eq, Bool.not_eq_true'] at h1
      obtain ⟨rfl, rfl, rfl, hdel, hdc, hv⟩ := h1
      obtain ⟨nm, bs, mro, ns, qn, hd, sn, sub, ab, col, del⟩ := cd
      dsimp only at hm hdel hdc
      subst hm hdel hdc
      have hsl : sl = #[k0, k1, k2, k3, some (.builtin "ValueError.__new__"), k5] := by
        obtain ⟨l⟩ := sl
        simp only at hs
        rw [hs]
      subst hsl
      exact ⟨_, _, _, _, _, _, _, _, _, _, _, _, _, _, _, ho, hv⟩
    · cases h1
  · cases h1
structure IniD (st : Stmt) (g fld : Str) : Prop where
  ex : ∃ (p0 p1 p2 p3 p4 p5 p6 p7 p8 p9 : Pos) (ar : Arg), defBody st = xiBody g fld p0 p1 p2 p3 p4 p5 p6 p7 p8 p9 ∧ (p2.endLine == p4.line) = true ∧ ((defArgs st).posonlyargs ++ (defArgs st).args).head? = some ar ∧ ar.arg = "self"
  sc : NdefX.NScope ["self", g, "__class__"] ["self", g] ["__class__"] (defScope st)
  sup : (defScope st).names.lookup ("super" : Str) = some .globalImplicit
  d1 : (g == ("__debug__" : Str)) = false
  d2 : (g == ("__classdict__" : Str)) = false
  bi : ∀ (qual : Str) (cl : List (Str × Addr)) (kV doc pm : Value) (an : Option Addr) (cdv ct : Value) (us : List Value), us.length = 2 → bindArgs (PySem.W.fnX "__init__" qual (defArgs st) (defBody st) (defScope st) cl .none kV doc pm an cdv ct) ⟨us, []⟩ = pure ((["self", g] : List Str).zip us)
abbrev IniW : Type := Option (Str × Str × Arguments × FuncBody × Scope × Addr × List Str × Addr)
def iniW (K : PySem.W.Frag) (x : Str) : IniW := (He.fnW K (x, some "__init__")).map fun (n, q, p, b, s, g, cl, bn) => (n, q, p, b, s, g, cl.map (·.1), bn)
/-- x, its __init__'s long name, the def -/
structure InD where
  x : Str
  qual : Str
  st : Stmt
def InD.val (d : InD) : IniW := some ("__init__", d.qual, defArgs d.st, .stmts (defBody d.st), defScope d.st, mainGlobals, ["__class__"], builtinsNs)
def nonB : Value → Bool
  | .none => true
  | _ => false
theorem nonB_ok {v : Value} (h : nonB v = true) : v = .none := by
  cases v <;> first | rfl | cases h
def cloB (K : PySem.W.Frag) (C : Addr) (l : List (Str × Addr)) : Bool := match l with
  | [(_, cc)] => (match K.lookup cc with
    | some ⟨_, _, .cell (some (.ref C')), _⟩ => decide (C' = C)
    | _ => false)
  | _ => false
theorem cloB_ok {K : PySem.W.Frag} {C : Addr} {l : List (Str × Addr)} (h : cloB K C l = true) : ∃ y cc cl cld csl, l = [(y, cc)] ∧ K.lookup cc = some ⟨cl, cld, .cell (some (.ref C)), csl⟩ := by
  unfold cloB at h
  split at h
  · rename_i y cc
    split at h
    · rename_i hc
      have := of_decide_eq_true h
      subst this
      exact ⟨_, _, _, _, _, rfl, hc⟩
    · cases h
  · cases h
def filB (K : PySem.W.Frag) (P : Program) (v : Value) : Bool := match v with
  | .ref cda => (match K.lookup cda with
    | some ⟨_, _, .fields vs, _⟩ => (match (vs[2]? : Option Value) with
      | some (.str file _) => ((P.main.file : Str) == file)
      | _ => false)
    | _ => false)
  | _ => false
theorem filB_ok {K : PySem.W.Frag} {P : Program} {v : Value} (h : filB K P v = true) : ∃ cda cl cd vs sl file tf, v = .ref cda ∧ K.lookup cda = some ⟨cl, cd, .fields vs, sl⟩ ∧ vs[2]? = some (.str file tf) ∧ ((P.main.file : Str) == file) = true := by
  unfold filB at h
  split at h
  · split at h
    · rename_i hc
      split at h
      · rename_i hv
        exact ⟨_, _, _, _, _, _, _, rfl, hc, hv, h⟩
      · cases h
    · cases h
  · cases h
def funB (K : PySem.W.Frag) (P : Program) (C : Addr) (qual : Str) (o : Option Obj) : Bool := match o with
  | some ⟨_, _, .func fd, _⟩ => nonB fd.defaults && (PySem.W.codeIn K fd.code qual && (cloB K C fd.closure && filB K P fd.code))
  | _ => false
def iniB (P : Program) (x qual fld : Str) (K : PySem.W.Frag) : Bool :=
  funB K P (He.ga K x) qual (K.lookup (He.fAd K (x, some "__init__"))) && (oexB K (He.ga K x) && (decide (PySem.W.nsIn K mainGlobals x = some (some (.ref (He.ga K x)))) && (decide (PySem.W.nsIn K mainGlobals "super" = some none) && (decide (PySem.W.ks_superIn K (He.ga K x) (He.ga K x) "__init__" = some (some (.builtin "ValueError.__init__"))) &&
    (decide (PySem.W.subIn K (.ref (He.ga K x)) (.type "ValueError") = some true) && (decide (PySem.W.nsIn K cStatics "thirdparty.any" = some none) && (decide (PySem.W.mroIn K (He.ga K x) (.ref (He.ga K x)) = some true) && (decide (PySem.W.findIn K (.ref (He.ga K x)) fld = some none) &&
    (decide (PySem.W.findIn K (.ref (He.ga K x)) "__init__" = some (some (.ref (He.fAd K (x, some "__init__"))))) && decide (PySem.W.typeIn K (.ref (He.fAd K (x, some "__init__"))) = some (.type "function")))))))))))
theorem excIn_of {h : Heap} {C : Ctx} {x qual g fld : Str} {st : Stmt} {n : Nat} (X : C.K.In h) (G : h.Ns mainGlobals C.mg) (D : IniD st g fld) (e : iniW C.K x = (InD.mk x qual st).val) (b : iniB C.P x qual fld C.K = true) (ht : (C.P.main.scope.names.lookup ("super" : Str)).isSome = false) (hcn : C.T.cn n = x) (hfl : C.T.fl n = [fld]) : ExcIn C x n := by
  unfold iniB at b
  simp only [Bool.and_eq_true, decide_eq_true_eq] at b
  obtain ⟨b1, b2, b3, b4, b5, b6, b7, b8, b9, b10, b11⟩ := b
  unfold iniW He.fnW at e
  obtain ⟨p0, p1, p2, p3, p4, p5, p6, p7, p8, p9, ar, hb, hln, har, hself⟩ := D.ex
  cases q : C.K.lookup (He.fAd C.K (x, some "__init__")) with
  | none => rw [q] at e; cases e
  | some o =>
    obtain ⟨oc, od, dt, osl⟩ := o
    rw [q] at b1 e
    cases dt with
    | func fd =>
      obtain ⟨n1, n2, n3, n4, n5, n6, n7, n8, n9, n10, n11, n12, n13, n14, n15⟩ := fd
      have e2 : (some (n1, n2, n3, n4, n5, n6, n7.map (·.1), n15) : IniW) = (some ("__init__", qual, defArgs st, FuncBody.stmts (defBody st), defScope st, mainGlobals, ["__class__"], builtinsNs) : IniW) := e
      simp only [Option.some.injEq, Prod.mk.injEq] at e2
      obtain ⟨h1, h2, h3, h4, h5, h6, h7, h8⟩ := e2
      subst h1 h2 h3 h4 h5 h6 h8
      have b1 : (nonB n8 && (PySem.W.codeIn C.K n13 n2 && (cloB C.K (He.ga C.K x) n7 && filB C.K C.P n13))) = true := b1
      simp only [Bool.and_eq_true] at b1
      obtain ⟨c1, c2, c3, c4⟩ := b1
      obtain rfl := nonB_ok c1
      obtain ⟨y, cc, cl, cld, csl, rfl, hcell⟩ := cloB_ok c3
      obtain ⟨cda, ccl, cdd, vs, ccs, file, tf, rfl, hcode, hv, hfile⟩ := filB_ok c4
      have hy : y = "__class__" := by simpa using h7
      subst hy
      refine ⟨He.ga C.K x, He.fAd C.K (x, some "__init__"), _, g, fld, PySem.W.mg_of X G b3, hcn, hfl, ⟨⟨n2, defArgs st, defScope st, .none, n9, n10, n11, n14, oc, n12, od, osl, cc, cda, p0, p1, p2, p3, p4, p5, p6, p7, p8, p9, cl, ccl, cld, cdd, csl, ccs, vs, file, tf, ar, ?_, q, c2, D.sc, D.sup, hcell, hcode, hv, hfile, har, hself, hln, D.d1, D.d2⟩, ht, PySem.W.mg_none_of X G b4, b5, b6, b7, b8, oexB_ok b2, b9⟩, b10, b11, ?_⟩
      · rw [← hb]
      · exact .all (D.bi _ _ _ _ _ _ _ _)
    | _ => cases e
end
end M
namespace M
noncomputable section
open PySem PySem.Spec PyProof.Rows L2 LamX
theorem memL {c : Nat} {b : Bool} : ∀ {rs : List (Nat × Bool)}, rs.lookup c = some b → (c, b) ∈ rs
  | [], h => by cases h
  | (k, v) :: rs, h => by
    simp only [List.lookup] at h
    split at h
    · rename_i e
      have : c = k := by simpa using e
      subst this
      cases h
      exact List.mem_cons_self
    · exact List.mem_cons_of_mem _ (memL h)
def gloB (K : PySem.W.Frag) (x : Str) : Bool := decide (PySem.W.nsIn K mainGlobals x = some (some (.ref (He.ga K x))))
def excCB (K : PySem.W.Frag) (C : Addr) : Bool := decide (PySem.W.findIn K (.ref C) "__getattribute__" = some (some (.builtin "BaseException.__getattribute__"))) && (decide (PySem.W.findIn K (.ref C) "__getattr__" = some none) && (decide (PySem.W.subIn K (.ref C) (.type "BaseException") = some true) && (PySem.W.hasDictIn K C &&
  (decide (PySem.W.findIn K (.ref C) "__class__" = some (some (.builtin "object.__class__"))) && (decide (PySem.W.specialIn K (.builtin "object.__class__") "__get__" = some (some (.builtin "getset_descriptor.__get__"))) && (decide (PySem.W.takesIn K (.builtin "object.__class__") = some true) && decide (PySem.W.mroIn K C (.type "object") = some true)))))))
theorem excCB_ok {K : PySem.W.Frag} {C : Addr} (h : excCB K C = true) : ExcC K C ∧ XfC K C := by
  unfold excCB at h
  simp only [Bool.and_eq_true, decide_eq_true_eq] at h
  obtain ⟨h1, h2, h3, h4, h5, h6, h7, h8⟩ := h
  exact ⟨⟨h1, h2, h3, h4, h5, h6, h7, h8⟩, ⟨h1, h2, h3, h4⟩⟩
/-- the exception classes, by number -/
def excAll (T : Tb) (ns : List Nat) (K : PySem.W.Frag) : Bool := ns.all fun n => gloB K (T.cn n) && excCB K (He.ga K (T.cn n))
def isxB (T : Tb) (x : Str) (rs : List (Nat × Bool)) (K : PySem.W.Frag) : Bool := gloB K x && rs.all fun r => decide (PySem.W.kitOne K (.ref (He.ga K (T.cn r.1))) (.ref (He.ga K x)) = some r.2)
def xfxB (T : Tb) (n : Str) (rs : List (Nat × Bool)) (K : PySem.W.Frag) : Bool := rs.all fun r => !r.2 || decide (PySem.W.findIn K (.ref (He.ga K (T.cn r.1))) n = some none)
def hdB' (T : Tb) (xs : List Str) (rs : List (Nat × Bool)) (K : PySem.W.Frag) : Bool := xs.all (gloB K) && rs.all fun r => decide (PySem.W.exmAny K (.ref (He.ga K (T.cn r.1))) ((xs.map (He.ga K)).map Value.ref) = some r.2)
section
variable {h : Heap} {C : Ctx} {x n : Str} {ns : List Nat} {rs : List (Nat × Bool)} {xs : List Str}
theorem exc_at (X : C.K.In h) (G : h.Ns mainGlobals C.mg) (e : excAll C.T ns C.K = true) {c : Nat} (hc : c ∈ ns) {A : Addr} (hA : C.mg (C.T.cn c) = some (.ref A)) : A = He.ga C.K (C.T.cn c) ∧ ExcC C.K A ∧ XfC C.K A := by
  have z := List.all_eq_true.mp e c hc
  rw [Bool.and_eq_true] at z
  have z1 := PySem.W.mg_of X G (of_decide_eq_true z.1)
  rw [hA] at z1
  cases z1
  exact ⟨rfl, excCB_ok z.2⟩
theorem isX_of (X : C.K.In h) (G : h.Ns mainGlobals C.mg) (e : excAll C.T ns C.K = true) (b : isxB C.T x rs C.K = true) (hn : rs.map (·.1) = ns) : IsX C x fun c => rs.lookup c := by
  unfold isxB at b
  rw [Bool.and_eq_true] at b
  refine ⟨.ref (He.ga C.K x), .ref (He.ga C.K x), .inr (PySem.W.mg_of X G (of_decide_eq_true b.1)), rfl, fun v z => z, fun c k A hf hA => ?_⟩
  have hm := memL hf
  obtain ⟨rfl, h1, _⟩ := exc_at X G e (by rw [← hn]; exact List.mem_map.mpr ⟨_, hm, rfl⟩) hA
  exact ⟨h1, of_decide_eq_true (List.all_eq_true.mp b.2 _ hm)⟩
theorem xfX_of (X : C.K.In h) (G : h.Ns mainGlobals C.mg) (e : excAll C.T ns C.K = true) (b : xfxB C.T n rs C.K = true) (hn : rs.map (·.1) = ns) (hfl : (rs.all fun r => !r.2 || decide (C.T.fl r.1 = [n])) = true) : XfX C n fun c => (rs.lookup c).getD false := by
  refine ⟨fun c A hf hA => ?_⟩
  cases q : rs.lookup c with
  | none => rw [q] at hf; cases hf
  | some k =>
    rw [q] at hf
    have hf : k = true := hf
    subst hf
    have hm := memL q
    obtain ⟨rfl, _, h2⟩ := exc_at X G e (by rw [← hn]; exact List.mem_map.mpr ⟨_, hm, rfl⟩) hA
    have z := List.all_eq_true.mp b _ hm
    have z2 := List.all_eq_true.mp hfl _ hm
    exact ⟨h2, by simpa using z, by simpa using z2⟩
theorem hdIn_of (X : C.K.In h) (G : h.Ns mainGlobals C.mg) (e : excAll C.T ns C.K = true) (b : hdB' C.T xs rs C.K = true) (hn : rs.map (·.1) = ns) (hl : xs.length ≤ sizeLine) : HdIn C xs fun c => rs.lookup c := by
  unfold hdB' at b
  rw [Bool.and_eq_true] at b
  refine ⟨xs.map (He.ga C.K), ?_, by simpa using hl, fun c A k hf hA => ?_⟩
  · have hx := b.1
    clear b hl hn e
    induction xs with
    | nil => exact .nil
    | cons y ys ih =>
      rw [List.all_cons, Bool.and_eq_true] at hx
      exact .cons (PySem.W.mg_of X G (of_decide_eq_true hx.1)) (ih hx.2)
  · have hm := memL hf
    obtain ⟨rfl, _, _⟩ := exc_at X G e (by rw [← hn]; exact List.mem_map.mpr ⟨_, hm, rfl⟩) hA
    exact of_decide_eq_true (List.all_eq_true.mp b.2 _ hm)
end
/-- the def x of the top: its code object and its table -/
def tabP (K : PySem.W.Frag) (x : Str) : Addr × Addr := (PySem.W.tabIn K x).getD (0, 0)
def lamB (K : PySem.W.Frag) (g : Addr → Option Obj) (x : Str) : Bool := (PySem.W.tabIn K x).isSome && (PySem.W.codeHdIn K (tabP K x).1 (tabP K x).2 && ((K.lookup (tabP K x).2).isNone && (match g (tabP K x).2 with
  | some ⟨.none, none, .fields vs, sl⟩ => vs.isEmpty && sl.isEmpty
  | _ => false)))
structure LamK (h : Heap) (K : PySem.W.Frag) (x : Str) : Prop where
  tab : PySem.W.tabIn K x = some (tabP K x)
  hd : PySem.W.CodeHd h (tabP K x).1 (tabP K x).2
  no : K.lookup (tabP K x).2 = none
  at_ : h.get? (tabP K x).2 = some { cls := .none, data := .fields #[] }
theorem lamB_ok {K : PySem.W.Frag} {h : Heap} {x : Str} (X : K.In h) (b : lamB K h.get? x = true) : LamK h K x := by
  unfold lamB at b
  simp only [Bool.and_eq_true] at b
  obtain ⟨b1, b2, b3, b4⟩ := b
  refine ⟨?_, PySem.W.codeHd_of_K X b2, by simpa using b3, ?_⟩
  · obtain ⟨p, hp⟩ := Option.isSome_iff_exists.mp b1
    unfold tabP
    rw [hp]; rfl
  · split at b4
    · rename_i vs sl e
      simp only [Bool.and_eq_true] at b4
      have h1 : vs = #[] := Array.isEmpty_iff.mp b4.1
      have h2 : sl = #[] := Array.isEmpty_iff.mp b4.2
      subst h1 h2
      exact e
    · cases b4
theorem tabIn_code {K : PySem.W.Frag} {x : Str} {c P : Addr} (h : PySem.W.tabIn K x = some (c, P)) : ∃ f oc od fd sl, PySem.W.nsIn K mainGlobals x = some (some (.ref f)) ∧ K.lookup f = some ⟨oc, od, .func fd, sl⟩ ∧ fd.code = .ref c := by
  unfold PySem.W.tabIn at h
  split at h
  · rename_i f e1
    split at h
    · rename_i fd sl e2
      split at h
      · rename_i c' e3
        split at h
        · split at h
          · cases h
            exact ⟨f, _, _, fd, _, e1, e2, e3⟩
          · cases h
        · cases h
      · cases h
    · cases h
  · cases h
theorem funAtL_of {h : Heap} {C : Ctx} {x qual : Str} {st : Stmt} {ps : List Str} (X : C.K.In h) (G : h.Ns mainGlobals C.mg) (D : DefIn C.K x qual st) (hb : ∀ (kV doc pm : Value) (an : Option Addr) (cdv ct : Value) (us : List Value), us.length = ps.length → bindArgs (PySem.W.fnOf x qual (defArgs st) (defBody st) (defScope st) .none kV doc pm an cdv ct) ⟨us, []⟩ = pure (ps.zip us))
    (L : LamK h C.K x) {T : List (Addr × Str)} (hT : C.tb = T.map fun p => (p.1, fun _ _ => p.2)) (TB : TabB C.base C.mg (tabP C.K x).1 (tabP C.K x).2) (hm : ((tabP C.K x).2, qual ++ ".<locals>." ++ "<lambda>") ∈ T) (hu : ∀ p ∈ T, p.1 = (tabP C.K x).2 → p.2 = qual ++ ".<locals>." ++ "<lambda>") : FunAtL C x qual st ps := by
  obtain ⟨f, fd, F, a⟩ := D
  obtain ⟨f2, oc, od, fd2, sl, e1, e2, e3⟩ := tabIn_code L.tab
  rw [a] at e1
  cases e1
  have hfd : fd2 = fd := by
    obtain ⟨_, _, _, _, _, _, _, _, _, rfl, lk, _⟩ := F.ex
    rw [e2] at lk
    cases lk
    rfl
  subst hfd
  refine ⟨f, fd2, (tabP C.K x).1, F, PySem.W.mg_of X G a, ?_, e3, T, (tabP C.K x).2, hT, TB, hm, hu⟩
  obtain ⟨_, _, kV, doc, pm, an, cdv, ct, _, rfl, _, _⟩ := F.ex
  exact .all (hb kV doc pm an cdv ct)
section
variable {C : Ctx} {h : Heap} {x : Str} {A : Addr} {c : Nat}
theorem isiO_ofX (X : C.K.In h) (G : h.Ns mainGlobals C.mg) (k : ClsIn C.K x A) (hb : ∀ t ∈ ["NoneType", "bool", "int", "str", "tuple", "list", "dict"], PySem.W.kitOne C.K (.type t) (.ref A) = some false)
    (ho : ∀ j A', j < 20 → C.mg (C.T.cn j) = some (.ref A') → ObjTy C.K A' ∧ PySem.W.kitOne C.K (.ref A') (.ref A) = some (decide (j = c))) : IsiO C x (fiOX c) := by
  refine ⟨A, PySem.W.mg_of X G k.1, ⟨fun F H fp d v b r hf => ?_⟩⟩
  have kit : ∀ {t : String}, tyN d = some t → ∃ t, TyX C.K H v t ∧ PySem.W.kitOne C.K t (.ref A) = some false := fun {t} e =>
    ⟨_, tyN_ok (W := C.W) r e, hb t (by cases d <;> simp [tyN] at e <;> subst e <;> simp)⟩
  cases d with
  | obj o j vs =>
    obtain ⟨hj, hf⟩ := ite_ok hf
    cases hf
    obtain ⟨a, A', dx, fs, g, rfl, hm, e, _, _⟩ := obj_of r
    obtain ⟨T, q⟩ := ho j A' hj hm
    exact ⟨_, .base (.ins e T.cl T.ha T.hn T.htk T.hm), q⟩
  | scr ns =>
    cases hf
    cases r with
    | scr _ s =>
      refine ⟨.type "list", ?_, hb _ (by simp)⟩
      rcases s with ⟨o, s⟩ | ⟨o, its, n, l, hc, _⟩
      · exact .base (.frz s)
      · exact .kList l hc
  | non => cases hf; exact kit rfl
  | bl _ => cases hf; exact kit rfl
  | int _ => cases hf; exact kit rfl
  | str _ => cases hf; exact kit rfl
  | tup _ _ => cases hf; exact kit rfl
  | lst _ _ => cases hf; exact kit rfl
  | dct _ _ _ => cases hf; exact kit rfl
  | _ => cases hf
end
end
end M
namespace M
noncomputable section
open PySem PySem.Spec PyProof.Rows L2 LamX
def isTabO : Option Obj → Bool
  | some ⟨.none, none, .fields vs, sl⟩ => vs.isEmpty && sl.isEmpty
  | _ => false
/-- what stands behind the top but for the empty tables -/
def frT (g : Addr → Option Obj) (n : Nat) : PySem.W.Frag := He.frG g ((List.range n).filter fun a => !isTabO (g a))
abbrev obX (fa : List He.Fa) (fn : List He.DefD) (ts : List He.Tab) (ex : List (PySem.W.Frag → Bool)) (ini : List InD) (lm : List Str) (n : Nat) (g : Addr → Option Obj) : (He.AlT × Bool) × (List IniW × Bool) :=
  ((He.obsT fa fn ts (frT g n), ex.all fun f => f (frT g n)), (ini.map (fun d => iniW (frT g n) d.x), lm.all (lamB (frT g n) g)))
structure SaysX (fa : List He.Fa) (fn : List He.DefD) (ts : List He.Tab) (ex : List (PySem.W.Frag → Bool)) (ini : List InD) (lm : List Str) (w : World) (h : Heap) (K : PySem.W.Frag) : Prop where
  m : SaysM fa fn ts ex w h K
  i : ini.map (fun d => iniW K d.x) = ini.map InD.val
  l : ∀ x ∈ lm, LamK h K x
def hookX (fa : List He.Fa) (fn : List He.DefD) (ts : List He.Tab) (ex : List (PySem.W.Frag → Bool)) (ini : List InD) (lm : List Str) : PySem.W.Hook where
  α := (He.AlT × Bool) × (List IniW × Bool)
  obs := fun s => obX fa fn ts ex ini lm s.heap.objs.size s.heap.get?
  val := fun w => ((He.valT fn ts w, true), (ini.map InD.val, true))
  says := fun w h => ∃ K : PySem.W.Frag, SaysX fa fn ts ex ini lm w h K
  of := fun _ s e => ⟨frT s.heap.get? s.heap.objs.size, ⟨⟨He.frG_in, congrArg (fun z : (He.AlT × Bool) × (List IniW × Bool) => z.1.1) e, congrArg (fun z : (He.AlT × Bool) × (List IniW × Bool) => z.1.2) e⟩, congrArg (fun z : (He.AlT × Bool) × (List IniW × Bool) => z.2.1) e, fun x hx => lamB_ok He.frG_in (List.all_eq_true.mp (congrArg (fun z : (He.AlT × Bool) × (List IniW × Bool) => z.2.2) e) x hx)⟩⟩
  keeps := fun _ _ _ ⟨K, c⟩ k => ⟨K, ⟨⟨PySem.W.Frag.In.keeps c.m.kin k, c.m.t, c.m.x⟩, c.i, fun x hx => let l := c.l x hx; ⟨l.tab, l.hd.keeps k, l.no, k _ _ l.at_⟩⟩⟩
theorem obX_eq {fa : List He.Fa} {fn : List He.DefD} {ts : List He.Tab} {ex : List (PySem.W.Frag → Bool)} {ini : List InD} {lm : List Str} (s : PySem.W.SharedT) : obX fa fn ts ex ini lm s.n (HandSHeadRun.getT s) = (hookX fa fn ts ex ini lm).obs s.abs := by
  have e : HandSHeadRun.getT s = s.abs.heap.get? := funext fun a => HandSHeadRun.getT_eq s a
  have e2 : s.abs.heap.objs.size = s.n := PySem.W.absHeap_size s.tree s.n s.life
  show _ = obX fa fn ts ex ini lm s.abs.heap.objs.size s.abs.heap.get?
  rw [e, e2]
section
variable {fa : List He.Fa} {fn : List He.DefD} {ts : List He.Tab} {ex : List (PySem.W.Frag → Bool)} {ini : List InD} {lm : List Str} {w : World} {h : Heap} {K : PySem.W.Frag}
theorem SaysX.iniAt (c : SaysX fa fn ts ex ini lm w h K) (i : Nat) {d : InD} (e : ini[i]? = some d) : iniW K d.x = d.val := by
  have z : (ini.map (fun d => iniW K d.x))[i]? = (ini.map InD.val)[i]? := by rw [c.i]
  rw [List.getElem?_map, List.getElem?_map, e] at z
  exact Option.some.inj z
end
abbrev hKt (s : PySem.W.SharedT) : PySem.W.Frag := frT (HandSHeadRun.getT s) s.n
def RunBt (r : PySem.W.OpenRow) (M : Nat) (fa : List He.Fa) (ts : List He.Tab) (w : World) : Prop := ∀ os : OsState, (hRunE r M w os).map (fun s => (fa.all (fun f => f.ok (hKt s)), ts.map (fun t => He.dicW (hKt s) (t.1 (hKt s))))) = some (true, ts.map (fun t => some (He.keysIn w.params t.2)))
def RunXt (r : PySem.W.OpenRow) (M : Nat) (ex : List (PySem.W.Frag → Bool)) (w : World) : Prop := ∀ os : OsState, (hRunE r M w os).map (fun s => ex.all fun f => f (hKt s)) = some true
def RunCt (r : PySem.W.OpenRow) (M : Nat) (fn : List He.DefD) (w : World) : Prop := ∀ os : OsState, (hRunE r M w os).map (fun s => fn.all fun d => d.ok (hKt s)) = some true
def RunDt (r : PySem.W.OpenRow) (M : Nat) (fn : List He.DefD) (w : World) : Prop := ∀ os : OsState, (hRunE r M w os).map (fun s => fn.map fun d => He.fnW (hKt s) d.at_) = some (fn.map He.DefD.val)
def RunEt (r : PySem.W.OpenRow) (M : Nat) (ini : List InD) (lm : List Str) (w : World) : Prop := ∀ os : OsState, (hRunE r M w os).map (fun s => (ini.map (fun d => iniW (hKt s) d.x), lm.all (lamB (hKt s) (HandSHeadRun.getT s)))) = some (ini.map InD.val, true)
theorem runXt_app {r : PySem.W.OpenRow} {M : Nat} {ex1 ex2 : List (PySem.W.Frag → Bool)} {w : World} (a : RunXt r M ex1 w) (b : RunXt r M ex2 w) : RunXt r M (ex1 ++ ex2) w := by
  intro os
  have a := a os
  have b := b os
  cases e : hRunE r M w os with
  | none => rw [e] at a; cases a
  | some s =>
    rw [e] at a b
    simp only [Option.map_some, Option.some.injEq] at a b
    rw [Option.map_some, List.all_append, a, b]
    rfl
theorem runX_of {r : PySem.W.OpenRow} {q : Program} {M : Nat} {loose : List PySem.Str} {fa : List He.Fa} {fn1 fn2 : List He.DefD} {ts : List He.Tab} {ex1 ex2 : List (PySem.W.Frag → Bool)} {ini : List InD} {lm : List Str} {w : World}
    (a : RunA r q M loose w) (b : RunBt r M fa ts w) (x1 : RunXt r M ex1 w) (x2 : RunXt r M ex2 w) (c1 : RunCt r M fn1 w) (c2 : RunCt r M fn2 w) (d1 : RunDt r M fn1 w) (d2 : RunDt r M fn2 w) (e1 : RunEt r M ini lm w) :
    HandSHeadRun.RunEq r q (hookX fa (fn1 ++ fn2) ts (ex1 ++ ex2) ini lm) (fun s => obX fa (fn1 ++ fn2) ts (ex1 ++ ex2) ini lm s.n (HandSHeadRun.getT s)) M loose w := by
  intro os
  have a := a os
  have b := b os
  have x1 := x1 os
  have x2 := x2 os
  have c1 := c1 os
  have c2 := c2 os
  have d1 := d1 os
  have d2 := d2 os
  have e1 := e1 os
  show (hRunE r M w os).map _ = _
  cases e : hRunE r M w os with
  | none =>
    rw [e] at a
    cases a
  | some s =>
    rw [e] at a b x1 x2 c1 c2 d1 d2 e1
    simp only [Option.map_some, Option.some.injEq, Prod.mk.injEq] at a b x1 x2 c1 c2 d1 d2 e1
    obtain ⟨a1, a2⟩ := a
    obtain ⟨b1, b2⟩ := b
    obtain ⟨g1, g2⟩ := e1
    rw [Option.map_some]
    refine congrArg some (Prod.ext a1 (Prod.ext a2 ?_))
    show (((((fa.all (fun f => f.ok (hKt s)) && (fn1 ++ fn2).all (fun d => d.ok (hKt s)), (fn1 ++ fn2).map (fun d => He.fnW (hKt s) d.at_)), ts.map (fun t => He.dicW (hKt s) (t.1 (hKt s)))), (ex1 ++ ex2).all fun f => f (hKt s)), (ini.map (fun d => iniW (hKt s) d.x), lm.all (lamB (hKt s) (HandSHeadRun.getT s)))) : (He.AlT × Bool) × (List IniW × Bool)) = ((((true, (fn1 ++ fn2).map He.DefD.val), ts.map (fun t => some (He.keysIn w.params t.2))), true), (ini.map InD.val, true))
    rw [b1, b2, List.all_append, List.all_append, c1, c2, x1, x2, List.map_append, List.map_append, d1, d2, g1, g2]
    rfl
theorem law_ofGT {l : PySem.W.OpenLaw} {w : World} {K : PySem.W.Frag} {mg : Str → Option Value} {fa : Addr} {h : Heap} {T : Tb} {st : Stmt} {N : List Str} {xs : XS} {k : Nat} {lm : List Str} {tbl : List (Addr × Str)} (X : K.In h) (G : h.Ns mainGlobals mg) (hfa : mg "law" = some (.ref fa)) (d : DefIn K "law" "law" st)
    (hb : ∀ (kV doc pm : Value) (an : Option Addr) (cdv ct : Value) (us : List Value), us.length = ["_law_script"].length → bindArgs (PySem.W.fnOf "law" "law" (defArgs st) (defBody st) (defScope st) .none kV doc pm an cdv ct) ⟨us, []⟩ = pure ((["_law_script"] : List Str).zip us))
    (S : FnScope N ["_law_script"] (defScope st)) (hl : ∀ x ∈ lm, LamK h K x) (ht : tbl.map (·.1) = lm.map fun x => (tabP K x).2)
    (D : ∀ C : Ctx, C.P = l.prog → C.K = K → C.mg = mg → C.T = T → C.exo = none → C.tb = tbl.map (fun p => (p.1, fun _ _ => p.2)) → (∀ x ∈ lm, TabB C.base C.mg (tabP K x).1 (tabP K x).2) → C.gd = true → JSs (C.fn N (defScope st) k []) (defBody st) (xwS xs))
    (hr : ∀ ns : List Int, ns.length ≤ 63 → runF 1 N.length xs [.scr ns] = some (.bl true)) :
    ∃ fd : FuncData, LawT l w (k + 1) "_law_script" mg fa h K fd (lm.map (tabP K)) (tbl.map fun p => (p.1, fun _ _ => p.2)) := by
  obtain ⟨f, fd, F, a⟩ := d
  have hf : f = fa := by
    have := PySem.W.mg_of X G a
    rw [hfa] at this
    injection this with e
    injection e with e
    exact e.symm
  subst hf
  refine ⟨fd, ⟨X, fun p hp => ?_, fun p hp => ?_, fun p hp => ?_, fun q hq => ?_, fun p hp => ?_, fun s v => ?_, fun base _ _ hB => ?_⟩⟩
  · obtain ⟨x, hx, rfl⟩ := List.mem_map.mp hp
    exact (hl x hx).at_
  · obtain ⟨x, hx, rfl⟩ := List.mem_map.mp hp
    exact (hl x hx).no
  · obtain ⟨x, hx, rfl⟩ := List.mem_map.mp hp
    exact (hl x hx).hd
  · obtain ⟨p, hp, rfl⟩ := List.mem_map.mp hq
    have z : p.1 ∈ tbl.map (·.1) := List.mem_map.mpr ⟨p, hp, rfl⟩
    rw [ht] at z
    obtain ⟨x, hx, e⟩ := List.mem_map.mp z
    exact ⟨tabP K x, List.mem_map.mpr ⟨x, hx, rfl⟩, e.symm⟩
  · obtain ⟨x, hx, rfl⟩ := List.mem_map.mp hp
    have z : (tabP K x).2 ∈ tbl.map (·.1) := by rw [ht]; exact List.mem_map.mpr ⟨x, hx, rfl⟩
    obtain ⟨q, hq, e⟩ := List.mem_map.mp z
    exact ⟨_, List.mem_map.mpr ⟨q, hq, by rw [← e]⟩⟩
  · obtain ⟨oc, od, kV, doc, pm, an, cdv, ct, osl, rfl, lk, hcd⟩ := F.ex
    exact .of_eq (hb kV doc pm an cdv ct [v] rfl)
  · let C0 : Ctx := ⟨l.prog, w, K, mg, base, T, [], defScope st, k, [], fun _ => false, true, tbl.map (fun p => (p.1, fun _ _ => p.2)), none, false, none⟩
    refine FnG.imp (sp := spF ⟨K, mg, T, w, tbl.map (fun p => (p.1, fun _ _ => p.2)), none⟩ (spOf 1 N.length (xwS xs))) ?_ ?_
    · exact fnGF (C := C0) (ps := ["_law_script"]) F S (D C0 rfl rfl rfl rfl rfl rfl (fun x hx => hB _ (List.mem_map.mpr ⟨x, hx, rfl⟩)) rfl)
    · rintro vs H Q E ⟨p, ns, rfl, hs, hl, q⟩
      refine ⟨fun _ => False, [.scr ns], fun r => r = .bl true, .cons (f1 := NoA) (f2 := NoA) (.scr (fun _ z => z) hs) (.nil fun _ z => z) (fun _ z => z.elim) (fun a => ⟨fun z => z.elim, fun z => z.elim id id⟩), ⟨fun _ z => z.elim, hl.2⟩, runF_ok _ _ ⟨_, hr ns hl.1, rfl⟩, ?_⟩
      rintro r F' H' fr v rfl rep _
      cases rep
      exact q H'
end
end M
noncomputable section
namespace M
open PySem PySem.Spec PyProof.Rows L2
namespace PP
def topS (i : Nat) : Stmt := PySem.Challenge.pw_leafpackets_k04_filing_refused.main.body.getD i (.Pass ⟨0, 0, 0, 0⟩)
abbrev s_is_between : Stmt := topS 25
abbrev s_is_one_of : Stmt := topS 26
abbrev s_is_page : Stmt := topS 27
abbrev s_is_slip : Stmt := topS 28
abbrev s_first_bad_slip : Stmt := topS 29
abbrev s_check_slips : Stmt := topS 30
abbrev s_check_manner : Stmt := topS 31
abbrev s_check_moment : Stmt := topS 32
abbrev s_check_page : Stmt := topS 33
abbrev s_Entry_init : Stmt := inClass (topS 36) 0
abbrev s_leaf_of : Stmt := topS 37
abbrev s_runs_of : Stmt := topS 38
abbrev s_numbers_of : Stmt := topS 39
abbrev s_labels_of : Stmt := topS 40
abbrev s_starts_in : Stmt := topS 41
abbrev s_packets_in : Stmt := topS 42
abbrev s_is_told_right : Stmt := topS 43
abbrev s_entries_of : Stmt := topS 44
abbrev s_plans_of : Stmt := topS 45
abbrev s_Service_init : Stmt := inClass (topS 46) 0
abbrev s_check_service : Stmt := topS 47
abbrev s_check_section : Stmt := topS 48
abbrev s_right_row : Stmt := topS 50
abbrev s_is_side_good : Stmt := topS 51
abbrev s_aged : Stmt := topS 52
abbrev s_without_first : Stmt := topS 53
abbrev s_place_for : Stmt := topS 54
abbrev s_taken : Stmt := topS 55
abbrev s_put : Stmt := topS 56
abbrev s_filed : Stmt := topS 57
abbrev s_handled : Stmt := topS 58
abbrev s_turned : Stmt := topS 59
abbrev s_read_in : Stmt := topS 60
abbrev s_is_sound : Stmt := topS 61
abbrev s_Course_init : Stmt := inClass (topS 63) 0
abbrev s_Course_go : Stmt := inClass (topS 63) 1
abbrev s_Course_go_to : Stmt := inClass (topS 63) 2
abbrev s_state_at : Stmt := topS 64
abbrev s_labels_at : Stmt := topS 65
abbrev s_pages_wrong : Stmt := topS 66
abbrev s_check_place : Stmt := topS 67
abbrev s_check_all : Stmt := topS 68
abbrev s_row : Stmt := topS 69
abbrev s_read : Stmt := topS 70
abbrev s_wrong : Stmt := topS 71
abbrev s_is_right : Stmt := topS 72
abbrev s__law_cup : Stmt := topS 74
abbrev s__law_sip : Stmt := topS 75
abbrev s__law_pick : Stmt := topS 76
abbrev s__law_caught : Stmt := topS 77
abbrev s__law_some_errs : Stmt := topS 78
abbrev s__law_first : Stmt := topS 79
abbrev s__law_right : Stmt := topS 80
abbrev s_law : Stmt := topS 81
def TB : Tb where
  cn := fun c => match c with
    | 0 => "Entry"
    | 1 => "Service"
    | 2 => "Course"
    | 21 => "InvalidText"
    | 22 => "InvalidSection"
    | 23 => "InvalidManner"
    | 24 => "InvalidMoment"
    | 25 => "InvalidPage"
    | 26 => "InvalidWord"
    | 27 => "InvalidMany"
    | 28 => "InvalidKind"
    | 29 => "InvalidNumber"
    | 30 => "InvalidIndex"
    | 31 => "NotAService"
    | 32 => "InvalidSlips"
    | 33 => "InvalidLists"
    | _ => ""
  fl := fun c => match c with
    | 0 => ["ahead", "changed", "in_labels", "out_labels", "behind", "runs"]
    | 1 => ["text", "plans", "sections", "size"]
    | 2 => ["plan", "manner", "number", "state"]
    | 21 => ["given"]
    | 22 => ["given"]
    | 23 => ["given"]
    | 24 => ["given"]
    | 25 => ["given"]
    | 26 => ["given"]
    | 27 => ["given"]
    | 28 => ["given"]
    | 29 => ["given"]
    | 30 => ["given"]
    | 31 => ["given"]
    | 32 => ["index"]
    | 33 => ["index"]
    | _ => []
def cs_start : Str := ⟨#[115, 116, 97, 114, 116]⟩
theorem cs_start_eq : ("start" : Str) = cs_start := by decide +kernel
def cs_x20 : Str := ⟨#[32]⟩
theorem cs_x20_eq : (" " : Str) = cs_x20 := by decide +kernel
def cs_packet : Str := ⟨#[112, 97, 99, 107, 101, 116]⟩
theorem cs_packet_eq : ("packet" : Str) = cs_packet := by decide +kernel
def cs_pages : Str := ⟨#[112, 97, 103, 101, 115]⟩
theorem cs_pages_eq : ("pages" : Str) = cs_pages := by decide +kernel
def cs_new : Str := ⟨#[110, 101, 119]⟩
theorem cs_new_eq : ("new" : Str) = cs_new := by decide +kernel
def cs_gone : Str := ⟨#[103, 111, 110, 101]⟩
theorem cs_gone_eq : ("gone" : Str) = cs_gone := by decide +kernel
def cs_ : Str := ⟨#[]⟩
theorem cs__eq : ("" : Str) = cs_ := by decide +kernel
def cs_first : Str := ⟨#[102, 105, 114, 115, 116]⟩
theorem cs_first_eq : ("first" : Str) = cs_first := by decide +kernel
def cs_all : Str := ⟨#[97, 108, 108]⟩
theorem cs_all_eq : ("all" : Str) = cs_all := by decide +kernel
def cs_twice : Str := ⟨#[116, 119, 105, 99, 101]⟩
theorem cs_twice_eq : ("twice" : Str) = cs_twice := by decide +kernel
def cs_ins : Str := ⟨#[105, 110, 115]⟩
theorem cs_ins_eq : ("ins" : Str) = cs_ins := by decide +kernel
def cs_outs : Str := ⟨#[111, 117, 116, 115]⟩
theorem cs_outs_eq : ("outs" : Str) = cs_outs := by decide +kernel
def cs_late : Str := ⟨#[108, 97, 116, 101]⟩
theorem cs_late_eq : ("late" : Str) = cs_late := by decide +kernel
def cs_good : Str := ⟨#[103, 111, 111, 100]⟩
theorem cs_good_eq : ("good" : Str) = cs_good := by decide +kernel
def cs_bad : Str := ⟨#[98, 97, 100]⟩
theorem cs_bad_eq : ("bad" : Str) = cs_bad := by decide +kernel
def cs_missing : Str := ⟨#[109, 105, 115, 115, 105, 110, 103]⟩
theorem cs_missing_eq : ("missing" : Str) = cs_missing := by decide +kernel
def cs_extra : Str := ⟨#[101, 120, 116, 114, 97]⟩
theorem cs_extra_eq : ("extra" : Str) = cs_extra := by decide +kernel
def cs_none : Str := ⟨#[110, 111, 110, 101]⟩
theorem cs_none_eq : ("none" : Str) = cs_none := by decide +kernel
def cs_skip : Str := ⟨#[115, 107, 105, 112]⟩
theorem cs_skip_eq : ("skip" : Str) = cs_skip := by decide +kernel
def cs_1 : Str := ⟨#[49]⟩
theorem cs_1_eq : ("1" : Str) = cs_1 := by decide +kernel
def cs_skips : Str := ⟨#[115, 107, 105, 112, 115]⟩
theorem cs_skips_eq : ("skips" : Str) = cs_skips := by decide +kernel
def cs_given : Str := ⟨#[103, 105, 118, 101, 110]⟩
theorem cs_given_eq : ("given" : Str) = cs_given := by decide +kernel
def cs_C : Str := ⟨#[67]⟩
theorem cs_C_eq : ("C" : Str) = cs_C := by decide +kernel
def cs_A : Str := ⟨#[65]⟩
theorem cs_A_eq : ("A" : Str) = cs_A := by decide +kernel
def cs_count : Str := ⟨#[99, 111, 117, 110, 116]⟩
theorem cs_count_eq : ("count" : Str) = cs_count := by decide +kernel
def cs_0 : Str := ⟨#[48]⟩
theorem cs_0_eq : ("0" : Str) = cs_0 := by decide +kernel
def cs_AC : Str := ⟨#[65, 67]⟩
theorem cs_AC_eq : ("AC" : Str) = cs_AC := by decide +kernel
def cs_B : Str := ⟨#[66]⟩
theorem cs_B_eq : ("B" : Str) = cs_B := by decide +kernel
def cs_alla : Str := ⟨#[97, 108, 108, 97]⟩
theorem cs_alla_eq : ("alla" : Str) = cs_alla := by decide +kernel
def cs_All : Str := ⟨#[65, 108, 108]⟩
theorem cs_All_eq : ("All" : Str) = cs_All := by decide +kernel
def cs_startx20Ax201 : Str := ⟨#[115, 116, 97, 114, 116, 32, 65, 32, 49]⟩
theorem cs_startx20Ax201_eq : ("start A 1" : Str) = cs_startx20Ax201 := by decide +kernel
def cs_x0a : Str := ⟨#[10]⟩
theorem cs_x0a_eq : ("\n" : Str) = cs_x0a := by decide +kernel
def cs_startx20Ax201x202x0astartx20Cx203x0apacketx0aAx20pagesx201x0aCx20pagesx206 : Str := ⟨#[115, 116, 97, 114, 116, 32, 65, 32, 49, 32, 50, 10, 115, 116, 97, 114, 116, 32, 67, 32, 51, 10, 112, 97, 99, 107, 101, 116, 10, 65, 32, 112, 97, 103, 101, 115, 32, 49, 10, 67, 32, 112, 97, 103, 101, 115, 32, 54]⟩
theorem cs_startx20Ax201x202x0astartx20Cx203x0apacketx0aAx20pagesx201x0aCx20pagesx206_eq : ("start A 1 2\nstart C 3\npacket\nA pages 1\nC pages 6" : Str) = cs_startx20Ax201x202x0astartx20Cx203x0apacketx0aAx20pagesx201x0aCx20pagesx206 := by decide +kernel
def gg_ahead : Nat → Option Nat := fun c => match c with
  | 0 => some 0
  | _ => none
def gg_behind : Nat → Option Nat := fun c => match c with
  | 0 => some 4
  | _ => none
def gg_changed : Nat → Option Nat := fun c => match c with
  | 0 => some 1
  | _ => none
def gg_in_labels : Nat → Option Nat := fun c => match c with
  | 0 => some 2
  | _ => none
def gg_manner : Nat → Option Nat := fun c => match c with
  | 2 => some 1
  | _ => none
def gg_number : Nat → Option Nat := fun c => match c with
  | 2 => some 2
  | _ => none
def gg_out_labels : Nat → Option Nat := fun c => match c with
  | 0 => some 3
  | _ => none
def gg_plan : Nat → Option Nat := fun c => match c with
  | 2 => some 0
  | _ => none
def gg_plans : Nat → Option Nat := fun c => match c with
  | 1 => some 1
  | _ => none
def gg_runs : Nat → Option Nat := fun c => match c with
  | 0 => some 5
  | _ => none
def gg_sections : Nat → Option Nat := fun c => match c with
  | 1 => some 2
  | _ => none
def gg_size : Nat → Option Nat := fun c => match c with
  | 1 => some 3
  | _ => none
def gg_state : Nat → Option Nat := fun c => match c with
  | 2 => some 3
  | _ => none
def gg_text : Nat → Option Nat := fun c => match c with
  | 1 => some 0
  | _ => none
def gl_GREATEST : Dat := .int 1000000000000000000000000000000
def gl_HEADS : Dat := .tup .b [.str cs_pages, .str cs_new, .str cs_gone]
def gl_KINDS : Dat := .tup .b [.str cs_ins, .str cs_late, .str cs_outs, .str cs_skip, .str cs_twice]
def gl_MANNERS : Dat := .tup .b [.str cs_all, .str cs_first, .str cs_count]
def gl_MOST_LABEL : Dat := .int 9
def gl_MOST_LEAVES : Dat := .int 8
def gl_MOST_PACKETS : Dat := .int 6
def gl_MOST_SLIPS : Dat := .int 3
def gl_SECTIONS : Dat := .tup .b [.str cs_A, .str cs_B, .str cs_C]
def nsX : List Nat := [21, 22, 23, 24, 25, 26, 27, 28, 29, 30, 31, 32, 33]
def lmX : List Str := ["_law_right"]
def tblX (K : PySem.W.Frag) : List (Addr × Str) := [((tabP K "_law_right").2, ("_law_right" : Str) ++ ".<locals>." ++ "<lambda>")]
abbrev s_InvalidSection_init : Stmt := inClass (topS 9) 0
theorem ID_InvalidSection : IniD s_InvalidSection_init "given" "given" := ⟨⟨_, _, _, _, _, _, _, _, _, _, _, rfl, by decide +kernel, rfl, rfl⟩, NdefX.nscope_by (by decide +kernel), rfl, by decide +kernel, by decide +kernel, fun _ _ _ _ _ _ _ _ us hl => match us, hl with | [_, _], _ => rfl⟩
abbrev s_InvalidManner_init : Stmt := inClass (topS 10) 0
theorem ID_InvalidManner : IniD s_InvalidManner_init "given" "given" := ⟨⟨_, _, _, _, _, _, _, _, _, _, _, rfl, by decide +kernel, rfl, rfl⟩, NdefX.nscope_by (by decide +kernel), rfl, by decide +kernel, by decide +kernel, fun _ _ _ _ _ _ _ _ us hl => match us, hl with | [_, _], _ => rfl⟩
abbrev s_InvalidMoment_init : Stmt := inClass (topS 11) 0
theorem ID_InvalidMoment : IniD s_InvalidMoment_init "given" "given" := ⟨⟨_, _, _, _, _, _, _, _, _, _, _, rfl, by decide +kernel, rfl, rfl⟩, NdefX.nscope_by (by decide +kernel), rfl, by decide +kernel, by decide +kernel, fun _ _ _ _ _ _ _ _ us hl => match us, hl with | [_, _], _ => rfl⟩
abbrev s_InvalidPage_init : Stmt := inClass (topS 12) 0
theorem ID_InvalidPage : IniD s_InvalidPage_init "given" "given" := ⟨⟨_, _, _, _, _, _, _, _, _, _, _, rfl, by decide +kernel, rfl, rfl⟩, NdefX.nscope_by (by decide +kernel), rfl, by decide +kernel, by decide +kernel, fun _ _ _ _ _ _ _ _ us hl => match us, hl with | [_, _], _ => rfl⟩
abbrev s_NotAService_init : Stmt := inClass (topS 18) 0
theorem ID_NotAService : IniD s_NotAService_init "given" "given" := ⟨⟨_, _, _, _, _, _, _, _, _, _, _, rfl, by decide +kernel, rfl, rfl⟩, NdefX.nscope_by (by decide +kernel), rfl, by decide +kernel, by decide +kernel, fun _ _ _ _ _ _ _ _ us hl => match us, hl with | [_, _], _ => rfl⟩
abbrev s_InvalidSlips_init : Stmt := inClass (topS 19) 0
theorem ID_InvalidSlips : IniD s_InvalidSlips_init "index" "index" := ⟨⟨_, _, _, _, _, _, _, _, _, _, _, rfl, by decide +kernel, rfl, rfl⟩, NdefX.nscope_by (by decide +kernel), rfl, by decide +kernel, by decide +kernel, fun _ _ _ _ _ _ _ _ us hl => match us, hl with | [_, _], _ => rfl⟩
def ixf_InvalidIndexl : List (Nat × Bool) := [(21, false), (22, false), (23, false), (24, false), (25, false), (26, false), (27, false), (28, false), (29, false), (30, true), (31, false), (32, false), (33, false)]
def ixf_InvalidIndex : Nat → Option Bool := fun c => ixf_InvalidIndexl.lookup c
def ixf_InvalidKindl : List (Nat × Bool) := [(21, false), (22, false), (23, false), (24, false), (25, false), (26, false), (27, false), (28, true), (29, false), (30, false), (31, false), (32, false), (33, false)]
def ixf_InvalidKind : Nat → Option Bool := fun c => ixf_InvalidKindl.lookup c
def ixf_InvalidListsl : List (Nat × Bool) := [(21, false), (22, false), (23, false), (24, false), (25, false), (26, false), (27, false), (28, false), (29, false), (30, false), (31, false), (32, false), (33, true)]
def ixf_InvalidLists : Nat → Option Bool := fun c => ixf_InvalidListsl.lookup c
def ixf_InvalidMannerl : List (Nat × Bool) := [(21, false), (22, false), (23, true), (24, false), (25, false), (26, false), (27, false), (28, false), (29, false), (30, false), (31, false), (32, false), (33, false)]
def ixf_InvalidManner : Nat → Option Bool := fun c => ixf_InvalidMannerl.lookup c
def ixf_InvalidManyl : List (Nat × Bool) := [(21, false), (22, false), (23, false), (24, false), (25, false), (26, false), (27, true), (28, false), (29, false), (30, false), (31, false), (32, false), (33, false)]
def ixf_InvalidMany : Nat → Option Bool := fun c => ixf_InvalidManyl.lookup c
def ixf_InvalidMomentl : List (Nat × Bool) := [(21, false), (22, false), (23, false), (24, true), (25, false), (26, false), (27, false), (28, false), (29, false), (30, false), (31, false), (32, false), (33, false)]
def ixf_InvalidMoment : Nat → Option Bool := fun c => ixf_InvalidMomentl.lookup c
def ixf_InvalidNumberl : List (Nat × Bool) := [(21, false), (22, false), (23, false), (24, false), (25, false), (26, false), (27, false), (28, false), (29, true), (30, false), (31, false), (32, false), (33, false)]
def ixf_InvalidNumber : Nat → Option Bool := fun c => ixf_InvalidNumberl.lookup c
def ixf_InvalidPagel : List (Nat × Bool) := [(21, false), (22, false), (23, false), (24, false), (25, true), (26, false), (27, false), (28, false), (29, false), (30, false), (31, false), (32, false), (33, false)]
def ixf_InvalidPage : Nat → Option Bool := fun c => ixf_InvalidPagel.lookup c
def ixf_InvalidSectionl : List (Nat × Bool) := [(21, false), (22, true), (23, false), (24, false), (25, false), (26, false), (27, false), (28, false), (29, false), (30, false), (31, false), (32, false), (33, false)]
def ixf_InvalidSection : Nat → Option Bool := fun c => ixf_InvalidSectionl.lookup c
def ixf_InvalidTextl : List (Nat × Bool) := [(21, true), (22, false), (23, false), (24, false), (25, false), (26, false), (27, false), (28, false), (29, false), (30, false), (31, false), (32, false), (33, false)]
def ixf_InvalidText : Nat → Option Bool := fun c => ixf_InvalidTextl.lookup c
def ixf_InvalidWordl : List (Nat × Bool) := [(21, false), (22, false), (23, false), (24, false), (25, false), (26, true), (27, false), (28, false), (29, false), (30, false), (31, false), (32, false), (33, false)]
def ixf_InvalidWord : Nat → Option Bool := fun c => ixf_InvalidWordl.lookup c
def ixf_NotAServicel : List (Nat × Bool) := [(21, false), (22, false), (23, false), (24, false), (25, false), (26, false), (27, false), (28, false), (29, false), (30, false), (31, true), (32, false), (33, false)]
def ixf_NotAService : Nat → Option Bool := fun c => ixf_NotAServicel.lookup c
def hdm__law_caught_0l : List (Nat × Bool) := [(21, true), (22, true), (23, true), (24, true), (25, true), (26, true), (27, false), (28, false), (29, false), (30, false), (31, false), (32, false), (33, false)]
def hdm__law_caught_0 : Nat → Option Bool := fun c => hdm__law_caught_0l.lookup c
def hdm__law_caught_1l : List (Nat × Bool) := [(21, false), (22, false), (23, false), (24, false), (25, false), (26, false), (27, true), (28, true), (29, true), (30, true), (31, true), (32, false), (33, false)]
def hdm__law_caught_1 : Nat → Option Bool := fun c => hdm__law_caught_1l.lookup c
def hdm__law_caught_2l : List (Nat × Bool) := [(21, false), (22, false), (23, false), (24, false), (25, false), (26, false), (27, false), (28, false), (29, false), (30, false), (31, false), (32, true), (33, true)]
def hdm__law_caught_2 : Nat → Option Bool := fun c => hdm__law_caught_2l.lookup c
def xff_givenl : List (Nat × Bool) := [(21, true), (22, true), (23, true), (24, true), (25, true), (26, true), (27, true), (28, true), (29, true), (30, true), (31, true), (32, false), (33, false)]
def xff_given : Nat → Bool := fun c => (xff_givenl.lookup c).getD false
def xff_indexl : List (Nat × Bool) := [(21, false), (22, false), (23, false), (24, false), (25, false), (26, false), (27, false), (28, false), (29, false), (30, false), (31, false), (32, true), (33, true)]
def xff_index : Nat → Bool := fun c => (xff_indexl.lookup c).getD false
structure Facts (C : Ctx) : Prop where
  b_abs : C.mg "abs" = none
  b_all : C.mg "all" = none
  b_any : C.mg "any" = none
  b_bool : C.mg "bool" = none
  b_divmod : C.mg "divmod" = none
  b_enumerate : C.mg "enumerate" = none
  b_int : C.mg "int" = none
  b_isinstance : C.mg "isinstance" = none
  b_len : C.mg "len" = none
  b_list : C.mg "list" = none
  b_max : C.mg "max" = none
  b_min : C.mg "min" = none
  b_range : C.mg "range" = none
  b_repr : C.mg "repr" = none
  b_sorted : C.mg "sorted" = none
  b_str : C.mg "str" = none
  b_tuple : C.mg "tuple" = none
  exo : C.exo = none
  f_Course_go : MethAt C 2 "go" "Course.go" s_Course_go ["self", "kind"]
  f_Course_go_to : MethAt C 2 "go_to" "Course.go_to" s_Course_go_to ["self", "number"]
  f_Course_init : MakeAt C "Course" 2 "Course.__init__" s_Course_init ["self", "plan", "manner", "number", "state"]
  f_Entry_init : MakeAt C "Entry" 0 "Entry.__init__" s_Entry_init ["self", "ahead", "told"]
  f_Service_init : MakeAt C "Service" 1 "Service.__init__" s_Service_init ["self", "text"]
  f__law_caught : FunAt C "_law_caught" "_law_caught" s__law_caught ["_law_act"]
  f__law_cup : FunAt C "_law_cup" "_law_cup" s__law_cup ["_law_script", "_law_spot"]
  f__law_first : FunAt C "_law_first" "_law_first" s__law_first ["_law_some"]
  f__law_pick : FunAt C "_law_pick" "_law_pick" s__law_pick ["_law_cup_here", "_law_things"]
  f__law_right : FunAtL C "_law_right" "_law_right" s__law_right ["_law_cup_here"]
  f__law_sip : FunAt C "_law_sip" "_law_sip" s__law_sip ["_law_cup_here", "_law_top"]
  f__law_some_errs : FunAt C "_law_some_errs" "_law_some_errs" s__law_some_errs ["_law_cup_here"]
  f_aged : FunAt C "aged" "aged" s_aged ["row", "changed"]
  f_check_all : FunAt C "check_all" "check_all" s_check_all ["service", "manner", "section", "slips", "moment"]
  f_check_manner : FunAt C "check_manner" "check_manner" s_check_manner ["value"]
  f_check_moment : FunAt C "check_moment" "check_moment" s_check_moment ["value"]
  f_check_page : FunAt C "check_page" "check_page" s_check_page ["value"]
  f_check_place : FunAt C "check_place" "check_place" s_check_place ["service", "manner", "section"]
  f_check_section : FunAt C "check_section" "check_section" s_check_section ["service", "value"]
  f_check_service : FunAt C "check_service" "check_service" s_check_service ["value"]
  f_check_slips : FunAt C "check_slips" "check_slips" s_check_slips ["value"]
  f_entries_of : FunAt C "entries_of" "entries_of" s_entries_of ["section", "labels", "packets"]
  f_filed : FunAt C "filed" "filed" s_filed ["row", "entry", "manner", "changed"]
  f_first_bad_slip : FunAt C "first_bad_slip" "first_bad_slip" s_first_bad_slip ["value"]
  f_handled : FunAt C "handled" "handled" s_handled ["row", "entry", "manner", "kind"]
  f_is_between : FunAt C "is_between" "is_between" s_is_between ["value", "least", "most"]
  f_is_one_of : FunAt C "is_one_of" "is_one_of" s_is_one_of ["value", "words"]
  f_is_page : FunAt C "is_page" "is_page" s_is_page ["value"]
  f_is_right : FunAt C "is_right" "is_right" s_is_right ["service", "manner", "section", "slips", "moment"]
  f_is_side_good : FunAt C "is_side_good" "is_side_good" s_is_side_good ["page", "good", "changed"]
  f_is_slip : FunAt C "is_slip" "is_slip" s_is_slip ["value"]
  f_is_sound : FunAt C "is_sound" "is_sound" s_is_sound ["word"]
  f_is_told_right : FunAt C "is_told_right" "is_told_right" s_is_told_right ["ahead", "told"]
  f_labels_at : FunAt C "labels_at" "labels_at" s_labels_at ["plan", "moment"]
  f_labels_of : FunAt C "labels_of" "labels_of" s_labels_of ["words"]
  f_law : FunAt C "law" "law" s_law ["_law_script"]
  f_leaf_of : FunAt C "leaf_of" "leaf_of" s_leaf_of ["page"]
  f_numbers_of : FunAt C "numbers_of" "numbers_of" s_numbers_of ["words"]
  f_packets_in : FunAt C "packets_in" "packets_in" s_packets_in ["lines"]
  f_pages_wrong : FunAt C "pages_wrong" "pages_wrong" s_pages_wrong ["leaves", "labels"]
  f_place_for : FunAt C "place_for" "place_for" s_place_for ["row", "label"]
  f_plans_of : FunAt C "plans_of" "plans_of" s_plans_of ["text"]
  f_put : FunAt C "put" "put" s_put ["row", "entry", "changed"]
  f_read : FunAt C "read" "read" s_read ["service", "manner", "section", "slips", "moment", "page"]
  f_read_in : FunAt C "read_in" "read_in" s_read_in ["row", "labels", "page"]
  f_right_row : FunAt C "right_row" "right_row" s_right_row ["labels"]
  f_row : FunAt C "row" "row" s_row ["service", "manner", "section", "slips", "moment"]
  f_runs_of : FunAt C "runs_of" "runs_of" s_runs_of ["labels", "ahead"]
  f_starts_in : FunAt C "starts_in" "starts_in" s_starts_in ["lines"]
  f_state_at : FunAt C "state_at" "state_at" s_state_at ["plan", "manner", "slips", "moment"]
  f_taken : FunAt C "taken" "taken" s_taken ["row", "entry", "manner"]
  f_turned : FunAt C "turned" "turned" s_turned ["plan", "manner", "index", "state", "kind"]
  f_without_first : FunAt C "without_first" "without_first" s_without_first ["row", "label"]
  f_wrong : FunAt C "wrong" "wrong" s_wrong ["service", "manner", "section", "slips", "moment"]
  fl_ahead : Fld C "ahead" gg_ahead
  fl_behind : Fld C "behind" gg_behind
  fl_changed : Fld C "changed" gg_changed
  fl_in_labels : Fld C "in_labels" gg_in_labels
  fl_manner : Fld C "manner" gg_manner
  fl_number : Fld C "number" gg_number
  fl_out_labels : Fld C "out_labels" gg_out_labels
  fl_plan : Fld C "plan" gg_plan
  fl_plans : Fld C "plans" gg_plans
  fl_runs : Fld C "runs" gg_runs
  fl_sections : Fld C "sections" gg_sections
  fl_size : Fld C "size" gg_size
  fl_state : Fld C "state" gg_state
  fl_text : Fld C "text" gg_text
  g_GREATEST : Cn C "GREATEST" gl_GREATEST
  g_HEADS : Cn C "HEADS" gl_HEADS
  g_KINDS : Cn C "KINDS" gl_KINDS
  g_MANNERS : Cn C "MANNERS" gl_MANNERS
  g_MOST_LABEL : Cn C "MOST_LABEL" gl_MOST_LABEL
  g_MOST_LEAVES : Cn C "MOST_LEAVES" gl_MOST_LEAVES
  g_MOST_PACKETS : Cn C "MOST_PACKETS" gl_MOST_PACKETS
  g_MOST_SLIPS : Cn C "MOST_SLIPS" gl_MOST_SLIPS
  g_SECTIONS : Cn C "SECTIONS" gl_SECTIONS
  hd__law_caught_0 : HdIn C ["InvalidText", "InvalidSection", "InvalidManner", "InvalidMoment", "InvalidPage", "InvalidWord"] hdm__law_caught_0
  hd__law_caught_1 : HdIn C ["InvalidMany", "InvalidKind", "InvalidNumber", "InvalidIndex", "NotAService"] hdm__law_caught_1
  hd__law_caught_2 : HdIn C ["InvalidSlips", "InvalidLists"] hdm__law_caught_2
  i_Service : IsiO C "Service" (fiOX 1)
  ix_InvalidIndex : IsX C "InvalidIndex" ixf_InvalidIndex
  ix_InvalidKind : IsX C "InvalidKind" ixf_InvalidKind
  ix_InvalidLists : IsX C "InvalidLists" ixf_InvalidLists
  ix_InvalidManner : IsX C "InvalidManner" ixf_InvalidManner
  ix_InvalidMany : IsX C "InvalidMany" ixf_InvalidMany
  ix_InvalidMoment : IsX C "InvalidMoment" ixf_InvalidMoment
  ix_InvalidNumber : IsX C "InvalidNumber" ixf_InvalidNumber
  ix_InvalidPage : IsX C "InvalidPage" ixf_InvalidPage
  ix_InvalidSection : IsX C "InvalidSection" ixf_InvalidSection
  ix_InvalidText : IsX C "InvalidText" ixf_InvalidText
  ix_InvalidWord : IsX C "InvalidWord" ixf_InvalidWord
  ix_NotAService : IsX C "NotAService" ixf_NotAService
  x_InvalidManner : ExcIn C "InvalidManner" 23
  x_InvalidMoment : ExcIn C "InvalidMoment" 24
  x_InvalidPage : ExcIn C "InvalidPage" 25
  x_InvalidSection : ExcIn C "InvalidSection" 22
  x_InvalidSlips : ExcIn C "InvalidSlips" 32
  x_NotAService : ExcIn C "NotAService" 31
  xf_given : XfX C "given" xff_given
  xf_index : XfX C "index" xff_index
theorem Facts.ng {C : Ctx} (T : Facts C) : Facts C.ng where
  b_abs := T.b_abs
  b_all := T.b_all
  b_any := T.b_any
  b_bool := T.b_bool
  b_divmod := T.b_divmod
  b_enumerate := T.b_enumerate
  b_int := T.b_int
  b_isinstance := T.b_isinstance
  b_len := T.b_len
  b_list := T.b_list
  b_max := T.b_max
  b_min := T.b_min
  b_range := T.b_range
  b_repr := T.b_repr
  b_sorted := T.b_sorted
  b_str := T.b_str
  b_tuple := T.b_tuple
  exo := T.exo
  f_Course_go := T.f_Course_go.ng
  f_Course_go_to := T.f_Course_go_to.ng
  f_Course_init := T.f_Course_init.ng
  f_Entry_init := T.f_Entry_init.ng
  f_Service_init := T.f_Service_init.ng
  f__law_caught := T.f__law_caught.ng
  f__law_cup := T.f__law_cup.ng
  f__law_first := T.f__law_first.ng
  f__law_pick := T.f__law_pick.ng
  f__law_right := T.f__law_right.ng
  f__law_sip := T.f__law_sip.ng
  f__law_some_errs := T.f__law_some_errs.ng
  f_aged := T.f_aged.ng
  f_check_all := T.f_check_all.ng
  f_check_manner := T.f_check_manner.ng
  f_check_moment := T.f_check_moment.ng
  f_check_page := T.f_check_page.ng
  f_check_place := T.f_check_place.ng
  f_check_section := T.f_check_section.ng
  f_check_service := T.f_check_service.ng
  f_check_slips := T.f_check_slips.ng
  f_entries_of := T.f_entries_of.ng
  f_filed := T.f_filed.ng
  f_first_bad_slip := T.f_first_bad_slip.ng
  f_handled := T.f_handled.ng
  f_is_between := T.f_is_between.ng
  f_is_one_of := T.f_is_one_of.ng
  f_is_page := T.f_is_page.ng
  f_is_right := T.f_is_right.ng
  f_is_side_good := T.f_is_side_good.ng
  f_is_slip := T.f_is_slip.ng
  f_is_sound := T.f_is_sound.ng
  f_is_told_right := T.f_is_told_right.ng
  f_labels_at := T.f_labels_at.ng
  f_labels_of := T.f_labels_of.ng
  f_law := T.f_law.ng
  f_leaf_of := T.f_leaf_of.ng
  f_numbers_of := T.f_numbers_of.ng
  f_packets_in := T.f_packets_in.ng
  f_pages_wrong := T.f_pages_wrong.ng
  f_place_for := T.f_place_for.ng
  f_plans_of := T.f_plans_of.ng
  f_put := T.f_put.ng
  f_read := T.f_read.ng
  f_read_in := T.f_read_in.ng
  f_right_row := T.f_right_row.ng
  f_row := T.f_row.ng
  f_runs_of := T.f_runs_of.ng
  f_starts_in := T.f_starts_in.ng
  f_state_at := T.f_state_at.ng
  f_taken := T.f_taken.ng
  f_turned := T.f_turned.ng
  f_without_first := T.f_without_first.ng
  f_wrong := T.f_wrong.ng
  fl_ahead := T.fl_ahead.ng
  fl_behind := T.fl_behind.ng
  fl_changed := T.fl_changed.ng
  fl_in_labels := T.fl_in_labels.ng
  fl_manner := T.fl_manner.ng
  fl_number := T.fl_number.ng
  fl_out_labels := T.fl_out_labels.ng
  fl_plan := T.fl_plan.ng
  fl_plans := T.fl_plans.ng
  fl_runs := T.fl_runs.ng
  fl_sections := T.fl_sections.ng
  fl_size := T.fl_size.ng
  fl_state := T.fl_state.ng
  fl_text := T.fl_text.ng
  g_GREATEST := T.g_GREATEST.ng
  g_HEADS := T.g_HEADS.ng
  g_KINDS := T.g_KINDS.ng
  g_MANNERS := T.g_MANNERS.ng
  g_MOST_LABEL := T.g_MOST_LABEL.ng
  g_MOST_LEAVES := T.g_MOST_LEAVES.ng
  g_MOST_PACKETS := T.g_MOST_PACKETS.ng
  g_MOST_SLIPS := T.g_MOST_SLIPS.ng
  g_SECTIONS := T.g_SECTIONS.ng
  hd__law_caught_0 := T.hd__law_caught_0.ng
  hd__law_caught_1 := T.hd__law_caught_1.ng
  hd__law_caught_2 := T.hd__law_caught_2.ng
  i_Service := T.i_Service.ng
  ix_InvalidIndex := T.ix_InvalidIndex.ng
  ix_InvalidKind := T.ix_InvalidKind.ng
  ix_InvalidLists := T.ix_InvalidLists.ng
  ix_InvalidManner := T.ix_InvalidManner.ng
  ix_InvalidMany := T.ix_InvalidMany.ng
  ix_InvalidMoment := T.ix_InvalidMoment.ng
  ix_InvalidNumber := T.ix_InvalidNumber.ng
  ix_InvalidPage := T.ix_InvalidPage.ng
  ix_InvalidSection := T.ix_InvalidSection.ng
  ix_InvalidText := T.ix_InvalidText.ng
  ix_InvalidWord := T.ix_InvalidWord.ng
  ix_NotAService := T.ix_NotAService.ng
  x_InvalidManner := T.x_InvalidManner.ng
  x_InvalidMoment := T.x_InvalidMoment.ng
  x_InvalidPage := T.x_InvalidPage.ng
  x_InvalidSection := T.x_InvalidSection.ng
  x_InvalidSlips := T.x_InvalidSlips.ng
  x_NotAService := T.x_NotAService.ng
  xf_given := T.xf_given.ng
  xf_index := T.xf_index.ng
theorem S_is_between : FnScope ["value", "least", "most"] ["value", "least", "most"] (defScope s_is_between) := ⟨rfl, rfl, rfl, by decide +kernel, rfl, by decide +kernel, by decide +kernel⟩
def x_is_between : XS := (xRet (xAndV (x1 (xVar 0) (xIsi (fiB "int"))) (xAndV (xNotV (x1 (xVar 0) (xIsi (fiB "bool")))) (xChain true true (xVar 1) (xVar 0) (xVar 2) xLe xLe))))
def r_is_between := runF 3 3 x_is_between
theorem D_is_between {C : Ctx} (T : Facts C) : JSs (C.fn ["value", "least", "most"] (defScope s_is_between) 0 []) (defBody s_is_between) (xwS x_is_between) := DSs.ok (C := C.fn ["value", "least", "most"] (defScope s_is_between) 0 []) (ss := defBody s_is_between)
    (dss_one (ds_ret (de_and (dv (de_isi (u := .type "int") isi_ty (.ty _) (.inl ⟨T.b_int, rfl, by decide⟩) T.b_isinstance (dv_var 0))) (de_and (dv (de_not (dv (de_isi (u := .type "bool") isi_ty (.ty _) (.inl ⟨T.b_bool, rfl, by decide⟩) T.b_isinstance (dv_var 0))))) (de_one (de_chain c_le c_le (dv_var 1) (dv_var 0) (dv_var 2)))))))
theorem F_is_between {C : Ctx} (T : Facts C) : FnF C "is_between" 1 (spX r_is_between) := FnF.ofNg (mk_fn' rfl 0 T.ng.f_is_between S_is_between (D_is_between T.ng))
theorem S_is_one_of : FnScope ["value", "words"] ["value", "words"] (defScope s_is_one_of) := ⟨rfl, rfl, rfl, by decide +kernel, rfl, by decide +kernel, by decide +kernel⟩
def x_is_one_of : XS := (xRet (xAndV (x1 (xVar 0) (xIsi (fiB "str"))) (x2 true (xVar 0) (xVar 1) xIn)))
def r_is_one_of := runF 2 2 x_is_one_of
theorem D_is_one_of {C : Ctx} (T : Facts C) : JSs (C.fn ["value", "words"] (defScope s_is_one_of) 0 []) (defBody s_is_one_of) (xwS x_is_one_of) := DSs.ok (C := C.fn ["value", "words"] (defScope s_is_one_of) 0 []) (ss := defBody s_is_one_of)
    (dss_one (ds_ret (de_and (dv (de_isi (u := .type "str") isi_ty (.ty _) (.inl ⟨T.b_str, rfl, by decide⟩) T.b_isinstance (dv_var 0))) (de_one (de_cmp c_in (dv_var 0) (dv_var 1))))))
theorem F_is_one_of {C : Ctx} (T : Facts C) : FnF C "is_one_of" 1 (spX r_is_one_of) := FnF.ofNg (mk_fn' rfl 0 T.ng.f_is_one_of S_is_one_of (D_is_one_of T.ng))
theorem S_is_page : FnScope ["value"] ["value"] (defScope s_is_page) := ⟨rfl, rfl, rfl, by decide +kernel, rfl, by decide +kernel, by decide +kernel⟩
def x_is_page : XS := (xRet (xCall (xCons (xTake 0) (xCons (xC (.int 1)) (xCons (x2 true (xC (.int 2)) (xC gl_MOST_LABEL) xMul) xNil))) r_is_between))
def r_is_page := runF 1 1 x_is_page
theorem D_is_page {C : Ctx} (T : Facts C) : JSs (C.fn ["value"] (defScope s_is_page) 1 []) (defBody s_is_page) (xwS x_is_page) := DSs.ok (C := C.fn ["value"] (defScope s_is_page) 1 []) (ss := defBody s_is_page)
    (dss_one (ds_ret (de_call (F_is_between T).fn (da_cons (de_var 0) (da_cons de_int (da_cons (de_mul (dv de_int) (dv (de_glb T.g_MOST_LABEL.fn))) da_nil))))))
theorem F_is_page {C : Ctx} (T : Facts C) : FnF C "is_page" 2 (spX r_is_page) := FnF.ofNg (mk_fn' rfl 1 T.ng.f_is_page S_is_page (D_is_page T.ng))
theorem S_is_slip : FnScope ["value"] ["value"] (defScope s_is_slip) := ⟨rfl, rfl, rfl, by decide +kernel, rfl, by decide +kernel, by decide +kernel⟩
def x_is_slip : XS := (xSeq (xIfS (xOr (xNot (xTru (x1 (xVar 0) (xIsi (fiB "tuple"))))) (xTest (x2 true (x1 (xVar 0) xLen) (xC (.int 2)) xNe))) (xRet (xC (.bl false))) xSkip)
    (xRet (xAndV (xCall (xCons (xOf (x2 true (xVar 0) (xC (.int 0)) xIdx)) (xCons (xC (.int 0)) (xCons (xC gl_GREATEST) xNil))) r_is_between) (xCall (xCons (xOf (x2 true (xVar 0) (xC (.int 1)) xIdx)) (xCons (xC gl_KINDS) xNil)) r_is_one_of))))
def r_is_slip := runF 1 1 x_is_slip
theorem D_is_slip {C : Ctx} (T : Facts C) : JSs (C.fn ["value"] (defScope s_is_slip) 1 []) (defBody s_is_slip) (xwS x_is_slip) := DSs.ok (C := C.fn ["value"] (defScope s_is_slip) 1 []) (ss := defBody s_is_slip)
    (dss_cons (ds_if (dt_w (dw_or (dt_not (dt_tru (dv (de_isi (u := .type "tuple") isi_ty (.ty _) (.inl ⟨T.b_tuple, rfl, by decide⟩) T.b_isinstance (dv_var 0))))) (dw_or1 (dt_cmp c_ne (dv (de_b1 l_len T.b_len (dv_var 0))) (dv de_int))))) (dss_one (ds_ret de_bl)) dss_nil)
    (dss_one (ds_ret (de_and (dv (de_call (F_is_between T).fn (da_cons (de_of (dv_idx (dv_var 0) (dv de_int))) (da_cons de_int (da_cons (de_glb T.g_GREATEST.fn) da_nil))))) (de_one (de_call (F_is_one_of T).fn (da_cons (de_of (dv_idx (dv_var 0) (dv de_int))) (da_cons (de_glb T.g_KINDS.fn) da_nil))))))))
theorem F_is_slip {C : Ctx} (T : Facts C) : FnF C "is_slip" 2 (spX r_is_slip) := FnF.ofNg (mk_fn' rfl 1 T.ng.f_is_slip S_is_slip (D_is_slip T.ng))
theorem S_first_bad_slip : FnScope ["value", "index", "pair"] ["value"] (defScope s_first_bad_slip) := ⟨rfl, rfl, rfl, by decide +kernel, rfl, by decide +kernel, by decide +kernel⟩
def x_first_bad_slip : XS := (xSeq (xFor (xEnumT (xTake 0)) (xgTup 2 (xgCons (xgNm 1) (xgCons (xgNm 2) xgNil))) (xIfS (xOr (xTest (x2 true (xVar 1) (xC gl_MOST_SLIPS) xGe)) (xOr (xNot (xTru (xCall (xCons (xTake 2) xNil) r_is_slip))) (xAnd (xTest (x2 true (xVar 1) (xC (.int 0)) xGt)) (xTest (x2 true (x2 true (xVar 2) (xC (.int 0)) xIdx) (x2 true (x2 true (xVar 0) (x2 true (xVar 1) (xC (.int 1)) xSub) xIdx) (xC (.int 0)) xIdx) xLe))))) (xMove 1) xSkip))
    (xRet (xC .non)))
def r_first_bad_slip := runF 1 3 x_first_bad_slip
theorem D_first_bad_slip {C : Ctx} (T : Facts C) : JSs (C.fn ["value", "index", "pair"] (defScope s_first_bad_slip) 2 []) (defBody s_first_bad_slip) (xwS x_first_bad_slip) := DSs.ok (C := C.fn ["value", "index", "pair"] (defScope s_first_bad_slip) 2 []) (ss := defBody s_first_bad_slip)
    (dss_cons (ds_for (di_enumT T.b_enumerate (de_var 0)) (dg_tup 2 (dgs_cons (dg_name 1 nmF) (dgs_cons (dg_name 2 nmF) dgs_nil))) (dss_one (ds_if (dt_w (dw_or (dt_cmp c_ge (dv_var 1) (dv (de_glb T.g_MOST_SLIPS.fn))) (dw_or (dt_not (dt_tru (dv (de_call (F_is_slip T).fn (da_cons (de_var 2) da_nil))))) (dw_or1 (dt_w (dw_and (dt_cmp c_gt (dv_var 1) (dv de_int)) (dw_and1 (dt_cmp c_le (dv_idx (dv_var 2) (dv de_int)) (dv_idx (dv_idx (dv_var 0) (dv (de_sub (dv_var 1) (dv de_int)))) (dv de_int)))))))))) (dss_one (ds_move 1)) dss_nil)))
    (dss_one (ds_ret de_non)))
theorem F_first_bad_slip {C : Ctx} (T : Facts C) : FnF C "first_bad_slip" 3 (spX r_first_bad_slip) := FnF.ofNg (mk_fn' rfl 2 T.ng.f_first_bad_slip S_first_bad_slip (D_first_bad_slip T.ng))
theorem S_check_slips : FnScope ["value", "index"] ["value"] (defScope s_check_slips) := ⟨rfl, rfl, rfl, by decide +kernel, rfl, by decide +kernel, by decide +kernel⟩
def x_check_slips : YS := (ySeq (yIf (xNot (xTru (x1 (xVar 0) (xIsi (fiB "tuple"))))) (yRaise 32 (xC .non)) (yOf xSkip))
    (ySeq (yOf (xSet 1 (xCall (xCons (xTake 0) xNil) r_first_bad_slip)))
    (yIf (xTest (x2 true (xVar 1) (xC .non) (xIs true))) (yRaise 32 (xTake 1)) (yOf xSkip))))
def rx_check_slips := runFX 1 2 x_check_slips
theorem D_check_slips {C : Ctx} (T : Facts C) : JXs (C.fn ["value", "index"] (defScope s_check_slips) 3 []) (defBody s_check_slips) (ywS x_check_slips) := DXs.ok (C := C.fn ["value", "index"] (defScope s_check_slips) 3 []) (ss := defBody s_check_slips)
    (dxs_cons (dx_if (dt_not (dt_tru (dv (de_isi (u := .type "tuple") isi_ty (.ty _) (.inl ⟨T.b_tuple, rfl, by decide⟩) T.b_isinstance (dv_var 0))))) (dxs_one (dx_raise T.x_InvalidSlips.fn (by exact Nat.le_of_ble_eq_true rfl) de_non)) (dxs_of dss_nil))
    (dxs_cons (dxx_of (ds_set 1 nmF (de_call (F_first_bad_slip T).fn (da_cons (de_var 0) da_nil))))
    (dxs_one (dx_if (dt_cmp c_isn (dv_var 1) (dv de_non)) (dxs_one (dx_raise T.x_InvalidSlips.fn (by exact Nat.le_of_ble_eq_true rfl) (de_var 1))) (dxs_of dss_nil)))))
theorem F_check_slips {C : Ctx} (T : Facts C) : FnFX C "check_slips" 4 (spXX rx_check_slips) := FnFX.ofNg (mk_fnX' rfl 3 T.ng.f_check_slips S_check_slips (D_check_slips T.ng))
theorem S_check_manner : FnScope ["value"] ["value"] (defScope s_check_manner) := ⟨rfl, rfl, rfl, by decide +kernel, rfl, by decide +kernel, by decide +kernel⟩
def x_check_manner : YS := (yIf (xNot (xTru (xCall (xCons (xTake 0) (xCons (xC gl_MANNERS) xNil)) r_is_one_of))) (yRaise 23 (xTake 0)) (yOf xSkip))
def rx_check_manner := runFX 1 1 x_check_manner
theorem D_check_manner {C : Ctx} (T : Facts C) : JXs (C.fn ["value"] (defScope s_check_manner) 2 []) (defBody s_check_manner) (ywS x_check_manner) := DXs.ok (C := C.fn ["value"] (defScope s_check_manner) 2 []) (ss := defBody s_check_manner)
    (dxs_one (dx_if (dt_not (dt_tru (dv (de_call (F_is_one_of T).fn (da_cons (de_var 0) (da_cons (de_glb T.g_MANNERS.fn) da_nil)))))) (dxs_one (dx_raise T.x_InvalidManner.fn (by exact Nat.le_of_ble_eq_true rfl) (de_var 0))) (dxs_of dss_nil)))
theorem F_check_manner {C : Ctx} (T : Facts C) : FnFX C "check_manner" 3 (spXX rx_check_manner) := FnFX.ofNg (mk_fnX' rfl 2 T.ng.f_check_manner S_check_manner (D_check_manner T.ng))
theorem S_check_moment : FnScope ["value"] ["value"] (defScope s_check_moment) := ⟨rfl, rfl, rfl, by decide +kernel, rfl, by decide +kernel, by decide +kernel⟩
def x_check_moment : YS := (yIf (xNot (xTru (xCall (xCons (xTake 0) (xCons (xC (.int 0)) (xCons (xC gl_GREATEST) xNil))) r_is_between))) (yRaise 24 (xTake 0)) (yOf xSkip))
def rx_check_moment := runFX 1 1 x_check_moment
theorem D_check_moment {C : Ctx} (T : Facts C) : JXs (C.fn ["value"] (defScope s_check_moment) 2 []) (defBody s_check_moment) (ywS x_check_moment) := DXs.ok (C := C.fn ["value"] (defScope s_check_moment) 2 []) (ss := defBody s_check_moment)
    (dxs_one (dx_if (dt_not (dt_tru (dv (de_call (F_is_between T).fn (da_cons (de_var 0) (da_cons de_int (da_cons (de_glb T.g_GREATEST.fn) da_nil))))))) (dxs_one (dx_raise T.x_InvalidMoment.fn (by exact Nat.le_of_ble_eq_true rfl) (de_var 0))) (dxs_of dss_nil)))
theorem F_check_moment {C : Ctx} (T : Facts C) : FnFX C "check_moment" 3 (spXX rx_check_moment) := FnFX.ofNg (mk_fnX' rfl 2 T.ng.f_check_moment S_check_moment (D_check_moment T.ng))
theorem S_check_page : FnScope ["value"] ["value"] (defScope s_check_page) := ⟨rfl, rfl, rfl, by decide +kernel, rfl, by decide +kernel, by decide +kernel⟩
def x_check_page : YS := (yIf (xNot (xTru (xCall (xCons (xTake 0) xNil) r_is_page))) (yRaise 25 (xTake 0)) (yOf xSkip))
def rx_check_page := runFX 1 1 x_check_page
theorem D_check_page {C : Ctx} (T : Facts C) : JXs (C.fn ["value"] (defScope s_check_page) 2 []) (defBody s_check_page) (ywS x_check_page) := DXs.ok (C := C.fn ["value"] (defScope s_check_page) 2 []) (ss := defBody s_check_page)
    (dxs_one (dx_if (dt_not (dt_tru (dv (de_call (F_is_page T).fn (da_cons (de_var 0) da_nil))))) (dxs_one (dx_raise T.x_InvalidPage.fn (by exact Nat.le_of_ble_eq_true rfl) (de_var 0))) (dxs_of dss_nil)))
theorem F_check_page {C : Ctx} (T : Facts C) : FnFX C "check_page" 3 (spXX rx_check_page) := FnFX.ofNg (mk_fnX' rfl 2 T.ng.f_check_page S_check_page (D_check_page T.ng))
theorem S_leaf_of : FnScope ["page"] ["page"] (defScope s_leaf_of) := ⟨rfl, rfl, rfl, by decide +kernel, rfl, by decide +kernel, by decide +kernel⟩
def x_leaf_of : XS := (xRet (x2 true (x2 true (xVar 0) (xC (.int 1)) xAdd) (xC (.int 2)) xFdiv))
def r_leaf_of := runF 1 1 x_leaf_of
theorem D_leaf_of {C : Ctx} (T : Facts C) : JSs (C.fn ["page"] (defScope s_leaf_of) 0 []) (defBody s_leaf_of) (xwS x_leaf_of) := DSs.ok (C := C.fn ["page"] (defScope s_leaf_of) 0 []) (ss := defBody s_leaf_of)
    (dss_one (ds_ret (de_fdiv (dv (de_add (dv_var 0) (dv de_int))) (dv de_int))))
theorem F_leaf_of {C : Ctx} (T : Facts C) : FnF C "leaf_of" 1 (spX r_leaf_of) := FnF.ofNg (mk_fn' rfl 0 T.ng.f_leaf_of S_leaf_of (D_leaf_of T.ng))
theorem S_runs_of : FnScope ["labels", "ahead", "found", "last", "label", "spot"] ["labels", "ahead"] (defScope s_runs_of) := ⟨rfl, rfl, rfl, by decide +kernel, rfl, by decide +kernel, by decide +kernel⟩
def x_runs_of : XS := (xSeq (xSet 2 (xLst xNil))
    (xSeq (xSet 3 (xC .non))
    (xSeq (xFor (xInT (xTake 0)) (xgNm 4) (xSeq (xSet 5 (xM isTupKB true (xVar 1) (xVar 4) xIdxT))
    (xSeq (xIfS (xAnd (xTest (x2 true (xVar 3) (xC .non) (xIs true))) (xTest (x2 true (xVar 5) (x2 true (xVar 3) (xC (.int 1)) xAdd) xEq))) (xAsg (xTup (xCons (xOf (x2 true (x2 true (xVar 2) (x1 (xC (.int 1)) xNeg) xIdx) (xC (.int 0)) xIdx)) (xCons (x2 true (x2 true (x2 true (xVar 2) (x1 (xC (.int 1)) xNeg) xIdx) (xC (.int 1)) xIdx) (xC (.int 1)) xAdd) xNil))) (xgIx 2 (x1 (xC (.int 1)) xNeg))) (xApp 2 (xTup (xCons (xTake 4) (xCons (xC (.int 1)) xNil)))))
    (xSet 3 (xTake 5)))))
    (xRet (x1 (xTake 2) xTuple)))))
def r_runs_of := runF 2 6 x_runs_of
theorem D_runs_of {C : Ctx} (T : Facts C) : JSs (C.fn ["labels", "ahead", "found", "last", "label", "spot"] (defScope s_runs_of) 0 []) (defBody s_runs_of) (xwS x_runs_of) := DSs.ok (C := C.fn ["labels", "ahead", "found", "last", "label", "spot"] (defScope s_runs_of) 0 []) (ss := defBody s_runs_of)
    (dss_cons (ds_set 2 nmF (de_lst da_nil))
    (dss_cons (ds_set 3 nmF de_non)
    (dss_cons (ds_for (di_tup (de_var 0)) (dg_name 4 nmF) (dss_cons (ds_set 5 nmF (de_m1 t_tindex (dv_var 1) (dv_var 4)))
    (dss_cons (ds_if (dt_w (dw_and (dt_cmp c_isn (dv_var 3) (dv de_non)) (dw_and1 (dt_cmp c_eq (dv_var 5) (dv (de_add (dv_var 3) (dv de_int))))))) (dss_one (ds_asg (de_tup (da_cons (de_of (dv_idx (dv_idx (dv_var 2) (dv (de_neg (dv de_int)))) (dv de_int))) (da_cons (de_add (dv_idx (dv_idx (dv_var 2) (dv (de_neg (dv de_int)))) (dv de_int)) (dv de_int)) da_nil))) (dg_ix 2 (dv (de_neg (dv de_int)))))) (dss_one (ds_app 2 (de_tup (da_cons (de_var 4) (da_cons de_int da_nil))))))
    (dss_one (ds_set 3 nmF (de_var 5))))))
    (dss_one (ds_ret (de_t1 l_tuple T.b_tuple (dv (de_var 2))))))))
theorem F_runs_of {C : Ctx} (T : Facts C) : FnF C "runs_of" 1 (spX r_runs_of) := FnF.ofNg (mk_fn' rfl 0 T.ng.f_runs_of S_runs_of (D_runs_of T.ng))
theorem S_numbers_of : FnScope ["words", "figures", "found", "number", "word"] ["words"] (defScope s_numbers_of) := ⟨rfl, rfl, rfl, by decide +kernel, rfl, by decide +kernel, by decide +kernel⟩
def x_numbers_of : XS := (xSeq (xSet 1 (xLc (xRng2 (xCons (xC (.int 1)) (xCons (x2 true (x2 true (xC (.int 2)) (xC gl_MOST_LABEL) xMul) (xC (.int 1)) xAdd) xNil))) (xgNm 3) xYes (x1 (xVar 3) xFmt) [3]))
    (xSeq (xIfS (xOr (xTest (x2 true (x1 (xVar 0) xLen) (xC (.int 0)) xEq)) (xNot (xTru (x1 (xLc (xInL (xTake 0)) (xgNm 4) xYes (x2 true (xVar 4) (xVar 1) xIn) [4]) (xBools fun bs => bs.all id))))) (xRet (xC .non)) xSkip)
    (xSeq (xSet 2 (x1 (xLc (xInL (xTake 0)) (xgNm 4) xYes (x1 (xVar 4) xIntF) [4]) xTupleK))
    (xRet (xIf (xTest (x2 false (xFrz (x1 (xVar 2) xList)) (x1 (xDc (xInT (xTake 2)) (xgNm 3) xYes (xVar 3) (xC (.bl true)) [3]) xSorted) xEq)) (xTake 2) (xC .non))))))
def r_numbers_of := runF 1 5 x_numbers_of
theorem D_numbers_of {C : Ctx} (T : Facts C) : JSs (C.fn ["words", "figures", "found", "number", "word"] (defScope s_numbers_of) 0 []) (defBody s_numbers_of) (xwS x_numbers_of) := DSs.ok (C := C.fn ["words", "figures", "found", "number", "word"] (defScope s_numbers_of) 0 []) (ss := defBody s_numbers_of)
    (dss_cons (ds_set 1 nmF (de_lc [("number", 3)] (di_rng2 T.b_range (da_cons de_int (da_cons (de_add (dv (de_mul (dv de_int) (dv (de_glb T.g_MOST_LABEL.fn)))) (dv de_int)) da_nil))) (dg_name 3 nmB) dts_nil (de_fmt (dv_var 3))) (hs := fun env he => sw_false (by rw [he]; rfl)))
    (dss_cons (ds_if (dt_w (dw_or (dt_cmp c_eq (dv (de_b1 l_len T.b_len (dv_var 0))) (dv de_int)) (dw_or1 (dt_not (dt_tru (dv (de_b1 l_all T.b_all (dv (de_lc [("word", 4)] (di_lst (de_var 0)) (dg_name 4 nmB) dts_nil (de_cmp c_in (dv_var 4) (dv_var 1))))))))))) (dss_one (ds_ret de_non)) dss_nil)
    (dss_cons (ds_set 2 nmF (de_t1 l_tupleK T.b_tuple (dv (de_lc [("word", 4)] (di_lst (de_var 0)) (dg_name 4 nmB) dts_nil (de_t1 l_int T.b_int (dv_var 4))))))
    (dss_one (ds_ret (de_if (dt_cmp c_eq (dv (de_frz (de_t1 l_list T.b_list (dv_var 2)))) (dv (de_b1 l_sorted T.b_sorted (dv (de_dc [("number", 3)] (di_tup (de_var 2)) (dg_name 3 nmB) dts_nil (dv_var 3) de_bl))))) (de_var 2) de_non))))))
theorem F_numbers_of {C : Ctx} (T : Facts C) : FnF C "numbers_of" 1 (spX r_numbers_of) := FnF.ofNg (mk_fn' rfl 0 T.ng.f_numbers_of S_numbers_of (D_numbers_of T.ng))
theorem S_labels_of : FnScope ["words", "found"] ["words"] (defScope s_labels_of) := ⟨rfl, rfl, rfl, by decide +kernel, rfl, by decide +kernel, by decide +kernel⟩
def x_labels_of : XS := (xSeq (xSet 1 (xCall (xCons (xTake 0) xNil) r_numbers_of))
    (xRet (xIf (xAnd (xTest (x2 true (xVar 1) (xC .non) (xIs true))) (xTest (x2 true (x2 true (xVar 1) (x1 (xC (.int 1)) xNeg) xIdx) (xC gl_MOST_LABEL) xLe))) (xTake 1) (xC .non))))
def r_labels_of := runF 1 2 x_labels_of
theorem D_labels_of {C : Ctx} (T : Facts C) : JSs (C.fn ["words", "found"] (defScope s_labels_of) 1 []) (defBody s_labels_of) (xwS x_labels_of) := DSs.ok (C := C.fn ["words", "found"] (defScope s_labels_of) 1 []) (ss := defBody s_labels_of)
    (dss_cons (ds_set 1 nmF (de_call (F_numbers_of T).fn (da_cons (de_var 0) da_nil)))
    (dss_one (ds_ret (de_if (dt_w (dw_and (dt_cmp c_isn (dv_var 1) (dv de_non)) (dw_and1 (dt_cmp c_le (dv_idx (dv_var 1) (dv (de_neg (dv de_int)))) (dv (de_glb T.g_MOST_LABEL.fn)))))) (de_var 1) de_non))))
theorem F_labels_of {C : Ctx} (T : Facts C) : FnF C "labels_of" 2 (spX r_labels_of) := FnF.ofNg (mk_fn' rfl 1 T.ng.f_labels_of S_labels_of (D_labels_of T.ng))
theorem S_starts_in : FnScope ["lines", "found", "line", "words", "labels", "section"] ["lines"] (defScope s_starts_in) := ⟨rfl, rfl, rfl, by decide +kernel, rfl, by decide +kernel, by decide +kernel⟩
def x_starts_in : XS := (xSeq (xSet 1 (xC (.dct true [] [])))
    (xSeq (xFor (xInL (xTake 0)) (xgNm 2) (xSeq (xSet 3 (xM isStrB true (xVar 2) (xC (.str cs_x20)) xSplit))
    (xSeq (xIfS (xTest (x2 true (x2 true (xVar 3) (xC (.int 0)) xIdx) (xC (.str cs_start)) xNe)) (xMove 1) xSkip)
    (xSeq (xSet 4 (xCall (xCons (xSl true (xVar 3) (xPart (xC (.int 2))) xNoPart) xNil) r_labels_of))
    (xSeq (xIfS (xOr (xTest (x2 true (x1 (xVar 3) xLen) (xC (.int 3)) xLt)) (xOr (xNot (xTru (xCall (xCons (xOf (x2 true (xVar 3) (xC (.int 1)) xIdx)) (xCons (xC gl_SECTIONS) xNil)) r_is_one_of))) (xOr (xTest (x2 true (xVar 4) (xC .non) (xIs false))) (xTest (x2 true (x1 (xVar 4) xLen) (xC gl_MOST_LEAVES) xGt))))) (xRet (xC .non)) xSkip)
    (xSeq (xIfS (xTru (x1 (xLcKO 1 (xgNm 5) xYes (x2 true (xVar 5) (x2 true (xVar 3) (xC (.int 1)) xIdx) xGe) [5]) (xBools fun bs => bs.any id))) (xRet (xC .non)) xSkip)
    (xDput 1 (xTake 4) (x2 true (xVar 3) (xC (.int 1)) xIdx))))))))
    (xRet (xC .non))))
def r_starts_in := runF 1 6 x_starts_in
theorem D_starts_in {C : Ctx} (T : Facts C) : JSs (C.fn ["lines", "found", "line", "words", "labels", "section"] (defScope s_starts_in) 2 []) (defBody s_starts_in) (xwS x_starts_in) := DSs.ok (C := C.fn ["lines", "found", "line", "words", "labels", "section"] (defScope s_starts_in) 2 []) (ss := defBody s_starts_in)
    (dss_cons (ds_set 1 nmF de_dnew)
    (dss_cons (ds_for (di_lst (de_var 0)) (dg_name 2 nmF) (dss_cons (ds_set 3 nmF (de_m1 t_split (dv_var 2) (dv (de_strE cs_x20_eq))))
    (dss_cons (ds_if (dt_cmp c_ne (dv_idx (dv_var 3) (dv de_int)) (dv (de_strE cs_start_eq))) (dss_one (ds_move 1)) dss_nil)
    (dss_cons (ds_set 4 nmF (de_call (F_labels_of T).fn (da_cons (de_slice (dv_var 3) (do_some (dv de_int)) do_none) da_nil)))
    (dss_cons (ds_if (dt_w (dw_or (dt_cmp c_lt (dv (de_b1 l_len T.b_len (dv_var 3))) (dv de_int)) (dw_or (dt_not (dt_tru (dv (de_call (F_is_one_of T).fn (da_cons (de_of (dv_idx (dv_var 3) (dv de_int))) (da_cons (de_glb T.g_SECTIONS.fn) da_nil)))))) (dw_or (dt_cmp c_is (dv_var 4) (dv de_non)) (dw_or1 (dt_cmp c_gt (dv (de_b1 l_len T.b_len (dv_var 4))) (dv (de_glb T.g_MOST_LEAVES.fn)))))))) (dss_one (ds_ret de_non)) dss_nil)
    (dss_cons (ds_if (dt_tru (dv (de_b1 l_any T.b_any (dv (de_lcKO 1 [("section", 5)] (dg_name 5 nmB) dts_nil (de_cmp c_ge (dv_var 5) (dv_idx (dv_var 3) (dv de_int)))))))) (dss_one (ds_ret de_non)) dss_nil)
    (dss_one (ds_dput 1 (de_var 4) (dv_idx (dv_var 3) (dv de_int))))))))))
    (dss_one (ds_ret de_non))))
theorem F_starts_in {C : Ctx} (T : Facts C) : FnF C "starts_in" 3 (spX r_starts_in) := FnF.ofNg (mk_fn' rfl 2 T.ng.f_starts_in S_starts_in (D_starts_in T.ng))
theorem S_packets_in : FnScope ["lines", "found", "line", "words", "key", "numbers", "other"] ["lines"] (defScope s_packets_in) := ⟨rfl, rfl, rfl, by decide +kernel, rfl, by decide +kernel, by decide +kernel⟩
def x_packets_in : XS := (xSeq (xSet 1 (xLst xNil))
    (xSeq (xFor (xInL (xTake 0)) (xgNm 2) (xSeq (xSet 3 (xM isStrB true (xVar 2) (xC (.str cs_x20)) xSplit))
    (xIfS (xTest (x2 true (xVar 2) (xC (.str cs_packet)) xEq)) (xApp 1 (xC (.dtt true [] []))) (xIfS (xOr (xTest (x2 true (x1 (xVar 1) xLen) (xC (.int 0)) xEq)) (xOr (xTest (x2 true (x1 (xVar 3) xLen) (xC (.int 3)) xLt)) (xNot (xTru (xCall (xCons (xOf (x2 true (xVar 3) (xC (.int 1)) xIdx)) (xCons (xC gl_HEADS) xNil)) r_is_one_of))))) (xRet (xC .non)) (xSeq (xSet 4 (xTup (xCons (xOf (x2 true (xVar 3) (xC (.int 0)) xIdx)) (xCons (xM isTupKB true (xC gl_HEADS) (x2 true (xVar 3) (xC (.int 1)) xIdx) xIdxT) xNil))))
    (xSeq (xSet 5 (xIf (xTest (x2 true (x2 true (xVar 3) (xC (.int 1)) xIdx) (xC (.str cs_pages)) xEq)) (xCall (xCons (xSl true (xVar 3) (xPart (xC (.int 2))) xNoPart) xNil) r_numbers_of) (xCall (xCons (xSl true (xVar 3) (xPart (xC (.int 2))) xNoPart) xNil) r_labels_of)))
    (xSeq (xIfS (xOr (xTest (x2 true (xVar 5) (xC .non) (xIs false))) (xTru (x1 (xLcKI 1 (-1) (xgNm 6) xYes (x2 true (xVar 6) (xVar 4) xGeT) [6]) (xBools fun bs => bs.any id)))) (xRet (xC .non)) xSkip)
    (xDput2 1 (-1) (xTake 5) (xVar 4)))))))))
    (xMove 1)))
def r_packets_in := runF 1 7 x_packets_in
theorem D_packets_in {C : Ctx} (T : Facts C) : JSs (C.fn ["lines", "found", "line", "words", "key", "numbers", "other"] (defScope s_packets_in) 2 []) (defBody s_packets_in) (xwS x_packets_in) := DSs.ok (C := C.fn ["lines", "found", "line", "words", "key", "numbers", "other"] (defScope s_packets_in) 2 []) (ss := defBody s_packets_in)
    (dss_cons (ds_set 1 nmF (de_lst da_nil))
    (dss_cons (ds_for (di_lst (de_var 0)) (dg_name 2 nmF) (dss_cons (ds_set 3 nmF (de_m1 t_split (dv_var 2) (dv (de_strE cs_x20_eq))))
    (dss_one (ds_if (dt_cmp c_eq (dv_var 2) (dv (de_strE cs_packet_eq))) (dss_one (ds_app 1 de_dnewT)) (dss_one (ds_if (dt_w (dw_or (dt_cmp c_eq (dv (de_b1 l_len T.b_len (dv_var 1))) (dv de_int)) (dw_or (dt_cmp c_lt (dv (de_b1 l_len T.b_len (dv_var 3))) (dv de_int)) (dw_or1 (dt_not (dt_tru (dv (de_call (F_is_one_of T).fn (da_cons (de_of (dv_idx (dv_var 3) (dv de_int))) (da_cons (de_glb T.g_HEADS.fn) da_nil)))))))))) (dss_one (ds_ret de_non)) (dss_cons (ds_set 4 nmF (de_tup (da_cons (de_of (dv_idx (dv_var 3) (dv de_int))) (da_cons (de_m1 t_tindex (dv (de_glb T.g_HEADS.fn)) (dv_idx (dv_var 3) (dv de_int))) da_nil))))
    (dss_cons (ds_set 5 nmF (de_if (dt_cmp c_eq (dv_idx (dv_var 3) (dv de_int)) (dv (de_strE cs_pages_eq))) (de_call (F_numbers_of T).fn (da_cons (de_slice (dv_var 3) (do_some (dv de_int)) do_none) da_nil)) (de_call (F_labels_of T).fn (da_cons (de_slice (dv_var 3) (do_some (dv de_int)) do_none) da_nil))))
    (dss_cons (ds_if (dt_w (dw_or (dt_cmp c_is (dv_var 5) (dv de_non)) (dw_or1 (dt_tru (dv (de_b1 l_any T.b_any (dv (de_lcKI 1 [("other", 6)] ci_neg (dg_name 6 nmB) dts_nil (de_cmp c_geT (dv_var 6) (dv_var 4)))))))))) (dss_one (ds_ret de_non)) dss_nil)
    (dss_one (ds_dput2 1 ci_neg (de_var 5) (dv_var 4))))))))))))
    (dss_one (ds_move 1))))
theorem F_packets_in {C : Ctx} (T : Facts C) : FnF C "packets_in" 3 (spX r_packets_in) := FnF.ofNg (mk_fn' rfl 2 T.ng.f_packets_in S_packets_in (D_packets_in T.ng))
theorem S_is_told_right : FnScope ["ahead", "told", "gone", "label", "page"] ["ahead", "told"] (defScope s_is_told_right) := ⟨rfl, rfl, rfl, by decide +kernel, rfl, by decide +kernel, by decide +kernel⟩
def x_is_told_right : XS := (xSeq (xSet 2 (xOf (xGet true true (xVar 1) (xC (.str cs_gone)) (xTup xNil))))
    (xSeq (xIfS (xOr (xNot (xTru (x1 (xLc (xInT (xTake 2)) (xgNm 3) xYes (x2 true (xVar 3) (xVar 0) xIn) [3]) (xBools fun bs => bs.all id)))) (xTru (x1 (xLc (xInT (xOf (xGet true true (xVar 1) (xC (.str cs_new)) (xTup xNil)))) (xgNm 3) xYes (x2 true (xVar 3) (xVar 0) xIn) [3]) (xBools fun bs => bs.any id)))) (xRet (xC (.bl false))) xSkip)
    (xSeq (xIfS (xNot (xTru (x1 (xLc (xInT (xOf (xGet true true (xVar 1) (xC (.str cs_pages)) (xTup xNil)))) (xgNm 4) xYes (xAndV (x2 true (xCall (xCons (xTake 4) xNil) r_leaf_of) (xVar 0) xIn) (x2 true (xCall (xCons (xTake 4) xNil) r_leaf_of) (xVar 2) xNotIn)) [4]) (xBools fun bs => bs.all id)))) (xRet (xC (.bl false))) xSkip)
    (xRet (xChain true true (xC (.int 1)) (x2 true (x2 true (x1 (xVar 0) xLen) (x1 (xVar 2) xLen) xSub) (x1 (xGet true true (xVar 1) (xC (.str cs_new)) (xTup xNil)) xLen) xAdd) (xC gl_MOST_LEAVES) xLe xLe)))))
def r_is_told_right := runF 2 5 x_is_told_right
theorem D_is_told_right {C : Ctx} (T : Facts C) : JSs (C.fn ["ahead", "told", "gone", "label", "page"] (defScope s_is_told_right) 1 []) (defBody s_is_told_right) (xwS x_is_told_right) := DSs.ok (C := C.fn ["ahead", "told", "gone", "label", "page"] (defScope s_is_told_right) 1 []) (ss := defBody s_is_told_right)
    (dss_cons (ds_set 2 nmF (de_of (dv_get2 (dv_var 1) (dv (de_strE cs_gone_eq)) (dv (de_tup da_nil)))))
    (dss_cons (ds_if (dt_w (dw_or (dt_not (dt_tru (dv (de_b1 l_all T.b_all (dv (de_lc [("label", 3)] (di_tup (de_var 2)) (dg_name 3 nmB) dts_nil (de_cmp c_in (dv_var 3) (dv_var 0)))))))) (dw_or1 (dt_tru (dv (de_b1 l_any T.b_any (dv (de_lc [("label", 3)] (di_tup (de_of (dv_get2 (dv_var 1) (dv (de_strE cs_new_eq)) (dv (de_tup da_nil))))) (dg_name 3 nmB) dts_nil (de_cmp c_in (dv_var 3) (dv_var 0)))))))))) (dss_one (ds_ret de_bl)) dss_nil)
    (dss_cons (ds_if (dt_not (dt_tru (dv (de_b1 l_all T.b_all (dv (de_lc [("page", 4)] (di_tup (de_of (dv_get2 (dv_var 1) (dv (de_strE cs_pages_eq)) (dv (de_tup da_nil))))) (dg_name 4 nmB) dts_nil (de_and (dv (de_cmp c_in (dv (de_call (F_leaf_of T).fn.blk (da_cons (de_var 4) da_nil))) (dv_var 0))) (de_one (de_cmp c_nin (dv (de_call (F_leaf_of T).fn.blk (da_cons (de_var 4) da_nil))) (dv_var 2)))))))))) (dss_one (ds_ret de_bl)) dss_nil)
    (dss_one (ds_ret (de_chain c_le c_le (dv de_int) (dv (de_add (dv (de_sub (dv (de_b1 l_len T.b_len (dv_var 0))) (dv (de_b1 l_len T.b_len (dv_var 2))))) (dv (de_b1 l_len T.b_len (dv_get2 (dv_var 1) (dv (de_strE cs_new_eq)) (dv (de_tup da_nil))))))) (dv (de_glb T.g_MOST_LEAVES.fn))))))))
theorem F_is_told_right {C : Ctx} (T : Facts C) : FnF C "is_told_right" 2 (spX r_is_told_right) := FnF.ofNg (mk_fn' rfl 1 T.ng.f_is_told_right S_is_told_right (D_is_told_right T.ng))
theorem S_check_service : FnScope ["value"] ["value"] (defScope s_check_service) := ⟨rfl, rfl, rfl, by decide +kernel, rfl, by decide +kernel, by decide +kernel⟩
def x_check_service : YS := (yIf (xNot (xTru (x1 (xVar 0) (xIsi (fiOX 1))))) (yRaise 31 (xTake 0)) (yOf xSkip))
def rx_check_service := runFX 1 1 x_check_service
theorem D_check_service {C : Ctx} (T : Facts C) : JXs (C.fn ["value"] (defScope s_check_service) 2 []) (defBody s_check_service) (ywS x_check_service) := DXs.ok (C := C.fn ["value"] (defScope s_check_service) 2 []) (ss := defBody s_check_service)
    (dxs_one (dx_if (dt_not (dt_tru (dv (de_isiO T.i_Service.fn T.b_isinstance (dv_var 0))))) (dxs_one (dx_raise T.x_NotAService.fn (by exact Nat.le_of_ble_eq_true rfl) (de_var 0))) (dxs_of dss_nil)))
theorem F_check_service {C : Ctx} (T : Facts C) : FnFX C "check_service" 3 (spXX rx_check_service) := FnFX.ofNg (mk_fnX' rfl 2 T.ng.f_check_service S_check_service (D_check_service T.ng))
theorem S_check_section : FnScope ["service", "value"] ["service", "value"] (defScope s_check_section) := ⟨rfl, rfl, rfl, by decide +kernel, rfl, by decide +kernel, by decide +kernel⟩
def x_check_section : YS := (yIf (xOr (xNot (xTru (x1 (xVar 1) (xIsi (fiB "str"))))) (xOr (xTest (x2 true (x1 (xVar 1) xLen) (xC (.int 1)) xNe)) (xTest (x2 true (xVar 1) (xFld gg_sections (xVar 0)) xNotIn)))) (yRaise 22 (xTake 1)) (yOf xSkip))
def rx_check_section := runFX 2 2 x_check_section
theorem D_check_section {C : Ctx} (T : Facts C) : JXs (C.fn ["service", "value"] (defScope s_check_section) 2 []) (defBody s_check_section) (ywS x_check_section) := DXs.ok (C := C.fn ["service", "value"] (defScope s_check_section) 2 []) (ss := defBody s_check_section)
    (dxs_one (dx_if (dt_w (dw_or (dt_not (dt_tru (dv (de_isi (u := .type "str") isi_ty (.ty _) (.inl ⟨T.b_str, rfl, by decide⟩) T.b_isinstance (dv_var 1))))) (dw_or (dt_cmp c_ne (dv (de_b1 l_len T.b_len (dv_var 1))) (dv de_int)) (dw_or1 (dt_cmp c_nin (dv_var 1) (dv_fld T.fl_sections.fn (dv_var 0))))))) (dxs_one (dx_raise T.x_InvalidSection.fn (by exact Nat.le_of_ble_eq_true rfl) (de_var 1))) (dxs_of dss_nil)))
theorem F_check_section {C : Ctx} (T : Facts C) : FnFX C "check_section" 3 (spXX rx_check_section) := FnFX.ofNg (mk_fnX' rfl 2 T.ng.f_check_section S_check_section (D_check_section T.ng))
theorem S_right_row : FnScope ["labels", "label"] ["labels"] (defScope s_right_row) := ⟨rfl, rfl, rfl, by decide +kernel, rfl, by decide +kernel, by decide +kernel⟩
def x_right_row : XS := (xRet (x1 (xLc (xInT (xTake 0)) (xgNm 1) xYes (xTup (xCons (xTake 1) (xCons (xC (.bl true)) (xCons (xC (.bl true)) xNil)))) [1]) xTuple))
def r_right_row := runF 1 2 x_right_row
theorem D_right_row {C : Ctx} (T : Facts C) : JSs (C.fn ["labels", "label"] (defScope s_right_row) 0 []) (defBody s_right_row) (xwS x_right_row) := DSs.ok (C := C.fn ["labels", "label"] (defScope s_right_row) 0 []) (ss := defBody s_right_row)
    (dss_one (ds_ret (de_t1 l_tuple T.b_tuple (dv (de_lc [("label", 1)] (di_tup (de_var 0)) (dg_name 1 nmB) dts_nil (de_tup (da_cons (de_var 1) (da_cons de_bl (da_cons de_bl da_nil)))))))))
theorem F_right_row {C : Ctx} (T : Facts C) : FnF C "right_row" 1 (spX r_right_row) := FnF.ofNg (mk_fn' rfl 0 T.ng.f_right_row S_right_row (D_right_row T.ng))
theorem S_is_side_good : FnScope ["page", "good", "changed"] ["page", "good", "changed"] (defScope s_is_side_good) := ⟨rfl, rfl, rfl, by decide +kernel, rfl, by decide +kernel, by decide +kernel⟩
def x_is_side_good : XS := (xRet (xAndV (xVar 1) (x2 true (xVar 0) (xVar 2) xNotIn)))
def r_is_side_good := runF 3 3 x_is_side_good
theorem D_is_side_good {C : Ctx} (T : Facts C) : JSs (C.fn ["page", "good", "changed"] (defScope s_is_side_good) 0 []) (defBody s_is_side_good) (xwS x_is_side_good) := DSs.ok (C := C.fn ["page", "good", "changed"] (defScope s_is_side_good) 0 []) (ss := defBody s_is_side_good)
    (dss_one (ds_ret (de_and (dv_var 1) (de_one (de_cmp c_nin (dv_var 0) (dv_var 2))))))
theorem F_is_side_good {C : Ctx} (T : Facts C) : FnF C "is_side_good" 1 (spX r_is_side_good) := FnF.ofNg (mk_fn' rfl 0 T.ng.f_is_side_good S_is_side_good (D_is_side_good T.ng))
theorem S_aged : FnScope ["row", "changed", "found", "label", "front", "back", "front_now"] ["row", "changed"] (defScope s_aged) := ⟨rfl, rfl, rfl, by decide +kernel, rfl, by decide +kernel, by decide +kernel⟩
def x_aged : XS := (xSeq (xSet 2 (xLst xNil))
    (xSeq (xFor (xInT (xTake 0)) (xgTup 3 (xgCons (xgNm 3) (xgCons (xgNm 4) (xgCons (xgNm 5) xgNil)))) (xSeq (xSet 6 (xCall (xCons (x2 true (x2 true (xC (.int 2)) (xVar 3) xMul) (xC (.int 1)) xSub) (xCons (xTake 4) (xCons (xTake 1) xNil))) r_is_side_good))
    (xApp 2 (xTup (xCons (xTake 3) (xCons (xTake 6) (xCons (xCall (xCons (x2 true (xC (.int 2)) (xVar 3) xMul) (xCons (xTake 5) (xCons (xTake 1) xNil))) r_is_side_good) xNil)))))))
    (xRet (x1 (xTake 2) xTuple))))
def r_aged := runF 2 7 x_aged
theorem D_aged {C : Ctx} (T : Facts C) : JSs (C.fn ["row", "changed", "found", "label", "front", "back", "front_now"] (defScope s_aged) 1 []) (defBody s_aged) (xwS x_aged) := DSs.ok (C := C.fn ["row", "changed", "found", "label", "front", "back", "front_now"] (defScope s_aged) 1 []) (ss := defBody s_aged)
    (dss_cons (ds_set 2 nmF (de_lst da_nil))
    (dss_cons (ds_for (di_tup (de_var 0)) (dg_tup 3 (dgs_cons (dg_name 3 nmF) (dgs_cons (dg_name 4 nmF) (dgs_cons (dg_name 5 nmF) dgs_nil)))) (dss_cons (ds_set 6 nmF (de_call (F_is_side_good T).fn (da_cons (de_sub (dv (de_mul (dv de_int) (dv_var 3))) (dv de_int)) (da_cons (de_var 4) (da_cons (de_var 1) da_nil)))))
    (dss_one (ds_app 2 (de_tup (da_cons (de_var 3) (da_cons (de_var 6) (da_cons (de_call (F_is_side_good T).fn (da_cons (de_mul (dv de_int) (dv_var 3)) (da_cons (de_var 5) (da_cons (de_var 1) da_nil)))) da_nil))))))))
    (dss_one (ds_ret (de_t1 l_tuple T.b_tuple (dv (de_var 2)))))))
theorem F_aged {C : Ctx} (T : Facts C) : FnF C "aged" 2 (spX r_aged) := FnF.ofNg (mk_fn' rfl 1 T.ng.f_aged S_aged (D_aged T.ng))
theorem S_without_first : FnScope ["row", "label", "spot", "leaf"] ["row", "label"] (defScope s_without_first) := ⟨rfl, rfl, rfl, by decide +kernel, rfl, by decide +kernel, by decide +kernel⟩
def x_without_first : XS := (xSeq (xFor (xEnumT (xTake 0)) (xgTup 2 (xgCons (xgNm 2) (xgCons (xgNm 3) xgNil))) (xIfS (xTest (x2 true (x2 true (xVar 3) (xC (.int 0)) xIdx) (xVar 1) xEq)) (xRet (x2 true (xSl true (xVar 0) xNoPart (xPart (xVar 2))) (xSl true (xVar 0) (xPart (x2 true (xVar 2) (xC (.int 1)) xAdd)) xNoPart) xAdd)) xSkip))
    (xMove 0))
def r_without_first := runF 2 4 x_without_first
theorem D_without_first {C : Ctx} (T : Facts C) : JSs (C.fn ["row", "label", "spot", "leaf"] (defScope s_without_first) 0 []) (defBody s_without_first) (xwS x_without_first) := DSs.ok (C := C.fn ["row", "label", "spot", "leaf"] (defScope s_without_first) 0 []) (ss := defBody s_without_first)
    (dss_cons (ds_for (di_enumT T.b_enumerate (de_var 0)) (dg_tup 2 (dgs_cons (dg_name 2 nmF) (dgs_cons (dg_name 3 nmF) dgs_nil))) (dss_one (ds_if (dt_cmp c_eq (dv_idx (dv_var 3) (dv de_int)) (dv_var 1)) (dss_one (ds_ret (de_add (dv (de_slice (dv_var 0) do_none (do_some (dv_var 2)))) (dv (de_slice (dv_var 0) (do_some (dv (de_add (dv_var 2) (dv de_int)))) do_none))))) dss_nil)))
    (dss_one (ds_move 0)))
theorem F_without_first {C : Ctx} (T : Facts C) : FnF C "without_first" 1 (spX r_without_first) := FnF.ofNg (mk_fn' rfl 0 T.ng.f_without_first S_without_first (D_without_first T.ng))
theorem S_place_for : FnScope ["row", "label", "spot", "leaf"] ["row", "label"] (defScope s_place_for) := ⟨rfl, rfl, rfl, by decide +kernel, rfl, by decide +kernel, by decide +kernel⟩
def x_place_for : XS := (xSeq (xFor (xEnumT (xTake 0)) (xgTup 2 (xgCons (xgNm 2) (xgCons (xgNm 3) xgNil))) (xIfS (xTest (x2 true (x2 true (xVar 3) (xC (.int 0)) xIdx) (xVar 1) xGe)) (xMove 2) xSkip))
    (xRet (x1 (xVar 0) xLen)))
def r_place_for := runF 2 4 x_place_for
theorem D_place_for {C : Ctx} (T : Facts C) : JSs (C.fn ["row", "label", "spot", "leaf"] (defScope s_place_for) 0 []) (defBody s_place_for) (xwS x_place_for) := DSs.ok (C := C.fn ["row", "label", "spot", "leaf"] (defScope s_place_for) 0 []) (ss := defBody s_place_for)
    (dss_cons (ds_for (di_enumT T.b_enumerate (de_var 0)) (dg_tup 2 (dgs_cons (dg_name 2 nmF) (dgs_cons (dg_name 3 nmF) dgs_nil))) (dss_one (ds_if (dt_cmp c_ge (dv_idx (dv_var 3) (dv de_int)) (dv_var 1)) (dss_one (ds_move 2)) dss_nil)))
    (dss_one (ds_ret (de_b1 l_len T.b_len (dv_var 0)))))
theorem F_place_for {C : Ctx} (T : Facts C) : FnF C "place_for" 1 (spX r_place_for) := FnF.ofNg (mk_fn' rfl 0 T.ng.f_place_for S_place_for (D_place_for T.ng))
theorem S_taken : FnScope ["row", "entry", "manner", "label", "many", "spot", "leaf"] ["row", "entry", "manner"] (defScope s_taken) := ⟨rfl, rfl, rfl, by decide +kernel, rfl, by decide +kernel, by decide +kernel⟩
def x_taken : XS := (xSeq (xIfS (xTest (x2 true (xVar 2) (xC (.str cs_all)) xEq)) (xRet (x1 (xLc (xInT (xTake 0)) (xgNm 6) (xTest (x2 true (x2 true (xVar 6) (xC (.int 0)) xIdx) (xFld gg_out_labels (xVar 1)) xNotIn)) (xTake 6) [6]) xTuple)) xSkip)
    (xSeq (xIfS (xTest (x2 true (xVar 2) (xC (.str cs_first)) xEq)) (xSeq (xFor (xInT (xOf (xFld gg_out_labels (xVar 1)))) (xgNm 3) (xSet 0 (xCall (xCons (xTake 0) (xCons (xTake 3) xNil)) r_without_first)))
    (xMove 0)) xSkip)
    (xSeq (xFor (xInT (xOf (xFld gg_runs (xVar 1)))) (xgTup 2 (xgCons (xgNm 3) (xgCons (xgNm 4) xgNil))) (xSeq (xSet 5 (xCall (xCons (xTake 0) (xCons (xTake 3) xNil)) r_place_for))
    (xSet 0 (x2 true (xSl true (xVar 0) xNoPart (xPart (xVar 5))) (xSl true (xVar 0) (xPart (x2 true (xVar 5) (xVar 4) xAdd)) xNoPart) xAdd))))
    (xMove 0))))
def r_taken := runF 3 7 x_taken
theorem D_taken {C : Ctx} (T : Facts C) : JSs (C.fn ["row", "entry", "manner", "label", "many", "spot", "leaf"] (defScope s_taken) 1 []) (defBody s_taken) (xwS x_taken) := DSs.ok (C := C.fn ["row", "entry", "manner", "label", "many", "spot", "leaf"] (defScope s_taken) 1 []) (ss := defBody s_taken)
    (dss_cons (ds_if (dt_cmp c_eq (dv_var 2) (dv (de_strE cs_all_eq))) (dss_one (ds_ret (de_t1 l_tuple T.b_tuple (dv (de_lc [("leaf", 6)] (di_tup (de_var 0)) (dg_name 6 nmB) (dts_one (dt_cmp c_nin (dv_idx (dv_var 6) (dv de_int)) (dv_fld T.fl_out_labels.fn.blk (dv_var 1)))) (de_var 6)))))) dss_nil)
    (dss_cons (ds_if (dt_cmp c_eq (dv_var 2) (dv (de_strE cs_first_eq))) (dss_cons (ds_for (di_tup (de_of (dv_fld T.fl_out_labels.fn (dv_var 1)))) (dg_name 3 nmF) (dss_one (ds_set 0 nmF (de_call (F_without_first T).fn (da_cons (de_var 0) (da_cons (de_var 3) da_nil))))))
    (dss_one (ds_move 0))) dss_nil)
    (dss_cons (ds_for (di_tup (de_of (dv_fld T.fl_runs.fn (dv_var 1)))) (dg_tup 2 (dgs_cons (dg_name 3 nmF) (dgs_cons (dg_name 4 nmF) dgs_nil))) (dss_cons (ds_set 5 nmF (de_call (F_place_for T).fn (da_cons (de_var 0) (da_cons (de_var 3) da_nil))))
    (dss_one (ds_set 0 nmF (de_add (dv (de_slice (dv_var 0) do_none (do_some (dv_var 5)))) (dv (de_slice (dv_var 0) (do_some (dv (de_add (dv_var 5) (dv_var 4)))) do_none)))))))
    (dss_one (ds_move 0)))))
theorem F_taken {C : Ctx} (T : Facts C) : FnF C "taken" 2 (spX r_taken) := FnF.ofNg (mk_fn' rfl 1 T.ng.f_taken S_taken (D_taken T.ng))
theorem S_put : FnScope ["row", "entry", "changed", "label", "spot"] ["row", "entry", "changed"] (defScope s_put) := ⟨rfl, rfl, rfl, by decide +kernel, rfl, by decide +kernel, by decide +kernel⟩
def x_put : XS := (xSeq (xFor (xInT (xOf (xFld gg_in_labels (xVar 1)))) (xgNm 3) (xSeq (xSet 4 (xCall (xCons (xTake 0) (xCons (xTake 3) xNil)) r_place_for))
    (xSet 0 (x2 true (x2 true (xSl true (xVar 0) xNoPart (xPart (xVar 4))) (xCall (xCons (xTup (xCons (xTup (xCons (xTake 3) (xCons (xC (.bl true)) (xCons (xC (.bl true)) xNil)))) xNil)) (xCons (xTake 2) xNil)) r_aged) xAdd) (xSl true (xVar 0) (xPart (xVar 4)) xNoPart) xAdd))))
    (xMove 0))
def r_put := runF 3 5 x_put
theorem D_put {C : Ctx} (T : Facts C) : JSs (C.fn ["row", "entry", "changed", "label", "spot"] (defScope s_put) 2 []) (defBody s_put) (xwS x_put) := DSs.ok (C := C.fn ["row", "entry", "changed", "label", "spot"] (defScope s_put) 2 []) (ss := defBody s_put)
    (dss_cons (ds_for (di_tup (de_of (dv_fld T.fl_in_labels.fn (dv_var 1)))) (dg_name 3 nmF) (dss_cons (ds_set 4 nmF (de_call (F_place_for T).fn (da_cons (de_var 0) (da_cons (de_var 3) da_nil))))
    (dss_one (ds_set 0 nmF (de_add (dv (de_add (dv (de_slice (dv_var 0) do_none (do_some (dv_var 4)))) (dv (de_call (F_aged T).fn (da_cons (de_tup (da_cons (de_tup (da_cons (de_var 3) (da_cons de_bl (da_cons de_bl da_nil)))) da_nil)) (da_cons (de_var 2) da_nil)))))) (dv (de_slice (dv_var 0) (do_some (dv_var 4)) do_none)))))))
    (dss_one (ds_move 0)))
theorem F_put {C : Ctx} (T : Facts C) : FnF C "put" 3 (spX r_put) := FnF.ofNg (mk_fn' rfl 2 T.ng.f_put S_put (D_put T.ng))
theorem S_filed : FnScope ["row", "entry", "manner", "changed"] ["row", "entry", "manner", "changed"] (defScope s_filed) := ⟨rfl, rfl, rfl, by decide +kernel, rfl, by decide +kernel, by decide +kernel⟩
def x_filed : XS := (xRet (xCall (xCons (xCall (xCons (xTake 0) (xCons (xTake 1) (xCons (xTake 2) xNil))) r_taken) (xCons (xTake 1) (xCons (xTake 3) xNil))) r_put))
def r_filed := runF 4 4 x_filed
theorem D_filed {C : Ctx} (T : Facts C) : JSs (C.fn ["row", "entry", "manner", "changed"] (defScope s_filed) 3 []) (defBody s_filed) (xwS x_filed) := DSs.ok (C := C.fn ["row", "entry", "manner", "changed"] (defScope s_filed) 3 []) (ss := defBody s_filed)
    (dss_one (ds_ret (de_call (F_put T).fn (da_cons (de_call (F_taken T).fn (da_cons (de_var 0) (da_cons (de_var 1) (da_cons (de_var 2) da_nil)))) (da_cons (de_var 1) (da_cons (de_var 3) da_nil))))))
theorem F_filed {C : Ctx} (T : Facts C) : FnF C "filed" 4 (spX r_filed) := FnF.ofNg (mk_fn' rfl 3 T.ng.f_filed S_filed (D_filed T.ng))
theorem S_handled : FnScope ["row", "entry", "manner", "kind"] ["row", "entry", "manner", "kind"] (defScope s_handled) := ⟨rfl, rfl, rfl, by decide +kernel, rfl, by decide +kernel, by decide +kernel⟩
def x_handled : XS := (xSeq (xIfS (xTest (x2 true (xVar 3) (xC .non) (xIs false))) (xRet (xCall (xCons (xTake 0) (xCons (xTake 1) (xCons (xTake 2) (xCons (xTup xNil) xNil)))) r_filed)) xSkip)
    (xSeq (xIfS (xTest (x2 true (xVar 3) (xC (.str cs_outs)) xEq)) (xRet (xCall (xCons (xTake 0) (xCons (xTake 1) (xCons (xTake 2) xNil))) r_taken)) xSkip)
    (xSeq (xIfS (xTest (x2 true (xVar 3) (xC (.str cs_ins)) xEq)) (xRet (xCall (xCons (xTake 0) (xCons (xTake 1) (xCons (xTup xNil) xNil))) r_put)) xSkip)
    (xSeq (xIfS (xTest (x2 true (xVar 3) (xC (.str cs_twice)) xEq)) (xRet (xCall (xCons (xCall (xCons (xTake 0) (xCons (xTake 1) (xCons (xTake 2) (xCons (xTup xNil) xNil)))) r_filed) (xCons (xTake 1) (xCons (xTake 2) (xCons (xTup xNil) xNil)))) r_filed)) xSkip)
    (xMove 0)))))
def r_handled := runF 4 4 x_handled
theorem D_handled {C : Ctx} (T : Facts C) : JSs (C.fn ["row", "entry", "manner", "kind"] (defScope s_handled) 4 []) (defBody s_handled) (xwS x_handled) := DSs.ok (C := C.fn ["row", "entry", "manner", "kind"] (defScope s_handled) 4 []) (ss := defBody s_handled)
    (dss_cons (ds_if (dt_cmp c_is (dv_var 3) (dv de_non)) (dss_one (ds_ret (de_call (F_filed T).fn (da_cons (de_var 0) (da_cons (de_var 1) (da_cons (de_var 2) (da_cons (de_tup da_nil) da_nil))))))) dss_nil)
    (dss_cons (ds_if (dt_cmp c_eq (dv_var 3) (dv (de_strE cs_outs_eq))) (dss_one (ds_ret (de_call (F_taken T).fn (da_cons (de_var 0) (da_cons (de_var 1) (da_cons (de_var 2) da_nil)))))) dss_nil)
    (dss_cons (ds_if (dt_cmp c_eq (dv_var 3) (dv (de_strE cs_ins_eq))) (dss_one (ds_ret (de_call (F_put T).fn (da_cons (de_var 0) (da_cons (de_var 1) (da_cons (de_tup da_nil) da_nil)))))) dss_nil)
    (dss_cons (ds_if (dt_cmp c_eq (dv_var 3) (dv (de_strE cs_twice_eq))) (dss_one (ds_ret (de_call (F_filed T).fn (da_cons (de_call (F_filed T).fn (da_cons (de_var 0) (da_cons (de_var 1) (da_cons (de_var 2) (da_cons (de_tup da_nil) da_nil))))) (da_cons (de_var 1) (da_cons (de_var 2) (da_cons (de_tup da_nil) da_nil))))))) dss_nil)
    (dss_one (ds_move 0))))))
theorem F_handled {C : Ctx} (T : Facts C) : FnF C "handled" 5 (spX r_handled) := FnF.ofNg (mk_fn' rfl 4 T.ng.f_handled S_handled (D_handled T.ng))
theorem S_turned : FnScope ["plan", "manner", "index", "state", "kind", "row", "late", "entry"] ["plan", "manner", "index", "state", "kind"] (defScope s_turned) := ⟨rfl, rfl, rfl, by decide +kernel, rfl, by decide +kernel, by decide +kernel⟩
def x_turned : XS := (xSeq (xAsg (xTake 3) (xgTup 2 (xgCons (xgNm 5) (xgCons (xgNm 6) xgNil))))
    (xSeq (xSet 7 (xOf (x2 true (xVar 0) (xVar 2) xIdx)))
    (xSeq (xSet 5 (xCall (xCons (xCall (xCons (xTake 5) (xCons (xOf (xFld gg_changed (xVar 7))) xNil)) r_aged) (xCons (xTake 7) (xCons (xTake 1) (xCons (xTake 4) xNil)))) r_handled))
    (xSeq (xIfS (xTru (xVar 6)) (xSet 5 (xCall (xCons (xTake 5) (xCons (xOf (x2 true (xVar 0) (x2 true (xVar 2) (xC (.int 1)) xSub) xIdx)) (xCons (xTake 1) (xCons (xOf (xFld gg_changed (xVar 7))) xNil)))) r_filed)) xSkip)
    (xRet (xTup (xCons (xTake 5) (xCons (x2 true (xVar 4) (xC (.str cs_late)) xEq) xNil))))))))
def r_turned := runF 5 8 x_turned
theorem D_turned {C : Ctx} (T : Facts C) : JSs (C.fn ["plan", "manner", "index", "state", "kind", "row", "late", "entry"] (defScope s_turned) 5 []) (defBody s_turned) (xwS x_turned) := DSs.ok (C := C.fn ["plan", "manner", "index", "state", "kind", "row", "late", "entry"] (defScope s_turned) 5 []) (ss := defBody s_turned)
    (dss_cons (ds_asg (de_var 3) (dg_tup 2 (dgs_cons (dg_name 5 nmF) (dgs_cons (dg_name 6 nmF) dgs_nil))))
    (dss_cons (ds_set 7 nmF (de_of (dv_idx (dv_var 0) (dv_var 2))))
    (dss_cons (ds_set 5 nmF (de_call (F_handled T).fn (da_cons (de_call (F_aged T).fn (da_cons (de_var 5) (da_cons (de_of (dv_fld T.fl_changed.fn (dv_var 7))) da_nil))) (da_cons (de_var 7) (da_cons (de_var 1) (da_cons (de_var 4) da_nil))))))
    (dss_cons (ds_if (dt_tru (dv_var 6)) (dss_one (ds_set 5 nmF (de_call (F_filed T).fn (da_cons (de_var 5) (da_cons (de_of (dv_idx (dv_var 0) (dv (de_sub (dv_var 2) (dv de_int))))) (da_cons (de_var 1) (da_cons (de_of (dv_fld T.fl_changed.fn (dv_var 7))) da_nil))))))) dss_nil)
    (dss_one (ds_ret (de_tup (da_cons (de_var 5) (da_cons (de_cmp c_eq (dv_var 4) (dv (de_strE cs_late_eq))) da_nil)))))))))
theorem F_turned {C : Ctx} (T : Facts C) : FnF C "turned" 6 (spX r_turned) := FnF.ofNg (mk_fn' rfl 5 T.ng.f_turned S_turned (D_turned T.ng))
theorem S_read_in : FnScope ["row", "labels", "page", "label", "there", "leaf"] ["row", "labels", "page"] (defScope s_read_in) := ⟨rfl, rfl, rfl, by decide +kernel, rfl, by decide +kernel, by decide +kernel⟩
def x_read_in : XS := (xSeq (xSet 3 (xCall (xCons (xTake 2) xNil) r_leaf_of))
    (xSeq (xSet 4 (xLc (xInT (xTake 0)) (xgNm 5) (xTest (x2 true (x2 true (xVar 5) (xC (.int 0)) xIdx) (xVar 3) xEq)) (xTake 5) [5]))
    (xSeq (xIfS (xTest (x2 true (xVar 3) (xVar 1) xNotIn)) (xRet (xIf (xTest (x2 true (x1 (xVar 4) xLen) (xC (.int 0)) xGt)) (xC (.str cs_extra)) (xC (.str cs_none)))) xSkip)
    (xSeq (xIfS (xTest (x2 true (x1 (xVar 4) xLen) (xC (.int 0)) xEq)) (xRet (xC (.str cs_missing))) xSkip)
    (xRet (xIf (xTru (x2 true (x2 true (xVar 4) (xC (.int 0)) xIdx) (x2 true (xC (.int 2)) (x2 true (x1 (xVar 2) xIntF) (xC (.int 2)) xMod) xSub) xIdx)) (xC (.str cs_good)) (xC (.str cs_bad))))))))
def r_read_in := runF 3 6 x_read_in
theorem D_read_in {C : Ctx} (T : Facts C) : JSs (C.fn ["row", "labels", "page", "label", "there", "leaf"] (defScope s_read_in) 1 []) (defBody s_read_in) (xwS x_read_in) := DSs.ok (C := C.fn ["row", "labels", "page", "label", "there", "leaf"] (defScope s_read_in) 1 []) (ss := defBody s_read_in)
    (dss_cons (ds_set 3 nmF (de_call (F_leaf_of T).fn (da_cons (de_var 2) da_nil)))
    (dss_cons (ds_setLc 4 [("leaf", 5)] nmF (di_tup (de_var 0)) (dg_name 5 nmB) (dts_one (dt_cmp c_eq (dv_idx (dv_var 5) (dv de_int)) (dv_var 3))) (de_var 5) (hsw := (fun env he => sw_true (by rw [he]; rfl) (by rw [he]; rfl) rfl rfl)))
    (dss_cons (ds_if (dt_cmp c_nin (dv_var 3) (dv_var 1)) (dss_one (ds_ret (de_if (dt_cmp c_gt (dv (de_b1 l_len T.b_len (dv_var 4))) (dv de_int)) (de_strE cs_extra_eq) (de_strE cs_none_eq)))) dss_nil)
    (dss_cons (ds_if (dt_cmp c_eq (dv (de_b1 l_len T.b_len (dv_var 4))) (dv de_int)) (dss_one (ds_ret (de_strE cs_missing_eq))) dss_nil)
    (dss_one (ds_ret (de_if (dt_tru (dv_idx (dv_idx (dv_var 4) (dv de_int)) (dv (de_sub (dv de_int) (dv (de_mod (dv (de_t1 l_int T.b_int (dv_var 2))) (dv de_int))))))) (de_strE cs_good_eq) (de_strE cs_bad_eq))))))))
theorem F_read_in {C : Ctx} (T : Facts C) : FnF C "read_in" 2 (spX r_read_in) := FnF.ofNg (mk_fn' rfl 1 T.ng.f_read_in S_read_in (D_read_in T.ng))
theorem S_is_sound : FnScope ["word"] ["word"] (defScope s_is_sound) := ⟨rfl, rfl, rfl, by decide +kernel, rfl, by decide +kernel, by decide +kernel⟩
def x_is_sound : XS := (xRet (xOrV (x2 true (xVar 0) (xC (.str cs_good)) xEq) (x2 true (xVar 0) (xC (.str cs_none)) xEq)))
def r_is_sound := runF 1 1 x_is_sound
theorem D_is_sound {C : Ctx} (T : Facts C) : JSs (C.fn ["word"] (defScope s_is_sound) 0 []) (defBody s_is_sound) (xwS x_is_sound) := DSs.ok (C := C.fn ["word"] (defScope s_is_sound) 0 []) (ss := defBody s_is_sound)
    (dss_one (ds_ret (de_or (dv (de_cmp c_eq (dv_var 0) (dv (de_strE cs_good_eq)))) (de_one (de_cmp c_eq (dv_var 0) (dv (de_strE cs_none_eq)))))))
theorem F_is_sound {C : Ctx} (T : Facts C) : FnF C "is_sound" 1 (spX r_is_sound) := FnF.ofNg (mk_fn' rfl 0 T.ng.f_is_sound S_is_sound (D_is_sound T.ng))
theorem S_Course_init : FnScope ["self", "plan", "manner", "number", "state"] ["self", "plan", "manner", "number", "state"] (defScope s_Course_init) := ⟨rfl, rfl, rfl, by decide +kernel, rfl, by decide +kernel, by decide +kernel⟩
def x_Course_init : XS := (xSeq (xFs 0 gg_plan (xTake 1))
    (xSeq (xFs 0 gg_manner (xTake 2))
    (xSeq (xFs 0 gg_number (xTake 3))
    (xFs 0 gg_state (xTake 4)))))
def r_Course_init := runM 5 5 x_Course_init
theorem D_Course_init {C : Ctx} (T : Facts C) : JSs (C.fn ["self", "plan", "manner", "number", "state"] (defScope s_Course_init) 0 [0]) (defBody s_Course_init) (xwS x_Course_init) := DSs.ok (C := C.fn ["self", "plan", "manner", "number", "state"] (defScope s_Course_init) 0 [0]) (ss := defBody s_Course_init)
    (dss_cons (ds_fset (i := 0) T.fl_plan.fn (de_var 1))
    (dss_cons (ds_fset (i := 0) T.fl_manner.fn (de_var 2))
    (dss_cons (ds_fset (i := 0) T.fl_number.fn (de_var 3))
    (dss_one (ds_fset (i := 0) T.fl_state.fn (de_var 4))))))
theorem F_Course_init {C : Ctx} (T : Facts C) : MkM C "Course" 2 1 (spXM r_Course_init) := MkM.ofNg (mk_make' rfl 0 T.ng.f_Course_init S_Course_init (D_Course_init T.ng))
theorem S_Course_go : FnScope ["self", "kind"] ["self", "kind"] (defScope s_Course_go) := ⟨rfl, rfl, rfl, by decide +kernel, rfl, by decide +kernel, by decide +kernel⟩
def x_Course_go : XS := (xSeq (xFs 0 gg_state (xCall (xCons (xOf (xFld gg_plan (xVar 0))) (xCons (xOf (xFld gg_manner (xVar 0))) (xCons (x2 true (x1 (xFld gg_number (xVar 0)) xIntF) (x1 (xFld gg_plan (xVar 0)) xLen) xMod) (xCons (xOf (xFld gg_state (xVar 0))) (xCons (xTake 1) xNil))))) r_turned))
    (xFAug 0 gg_number (fun a b => a + b) (xC (.int 1))))
def r_Course_go := runM 2 2 x_Course_go
theorem D_Course_go {C : Ctx} (T : Facts C) : JSs (C.fn ["self", "kind"] (defScope s_Course_go) 6 [0]) (defBody s_Course_go) (xwS x_Course_go) := DSs.ok (C := C.fn ["self", "kind"] (defScope s_Course_go) 6 [0]) (ss := defBody s_Course_go)
    (dss_cons (ds_fset (i := 0) T.fl_state.fn (de_call (F_turned T).fn (da_cons (de_of (dv_fld T.fl_plan.fn (dv_var 0))) (da_cons (de_of (dv_fld T.fl_manner.fn (dv_var 0))) (da_cons (de_mod (dv (de_t1 l_int T.b_int (dv_fld T.fl_number.fn (dv_var 0)))) (dv (de_b1 l_len T.b_len (dv_fld T.fl_plan.fn (dv_var 0))))) (da_cons (de_of (dv_fld T.fl_state.fn (dv_var 0))) (da_cons (de_var 1) da_nil)))))))
    (dss_one (ds_faug (fun a b => a + b) 0 (fun _ => ip_add) T.fl_number.fn (dv de_int))))
theorem F_Course_go {C : Ctx} (T : Facts C) : MeM C 2 "go" 7 (spXM r_Course_go) := MeM.ofNg (mk_meM' rfl 6 T.ng.f_Course_go S_Course_go (D_Course_go T.ng))
theorem S_Course_go_to : FnScope ["self", "number", "known", "turn", "many", "rounds"] ["self", "number"] (defScope s_Course_go_to) := ⟨rfl, rfl, rfl, by decide +kernel, rfl, by decide +kernel, by decide +kernel⟩
def x_Course_go_to : XS := (xSeq (xWhile (xAnd (xTest (x2 true (xFld gg_number (xVar 0)) (xVar 1) xLt)) (xOr (xTest (x2 true (x2 true (x1 (xFld gg_number (xVar 0)) xIntF) (x1 (xFld gg_plan (xVar 0)) xLen) xMod) (xC (.int 0)) xNe)) (xTru (x2 true (xFld gg_state (xVar 0)) (xC (.int 1)) xIdx)))) (xDrop (xMethM 2 0 (xCons (xC .non) xNil) r_Course_go)))
    (xSeq (xSet 2 (xLst xNil))
    (xSeq (xWhile (xAnd (xTest (x2 true (x2 true (xFld gg_number (xVar 0)) (x1 (xFld gg_plan (xVar 0)) xLen) xAdd) (xVar 1) xLe)) (xTest (x2 true (xFld gg_state (xVar 0)) (xVar 2) xNotIn))) (xSeq (xApp 2 (xOf (xFld gg_state (xVar 0))))
    (xFor (xRng1 (xCons (x1 (xFld gg_plan (xVar 0)) xLen) xNil)) (xgNm 3) (xDrop (xMethM 2 0 (xCons (xC .non) xNil) r_Course_go)))))
    (xSeq (xIfS (xTest (x2 true (xFld gg_state (xVar 0)) (xVar 2) xIn)) (xSeq (xSet 4 (x2 true (x1 (xVar 2) xLen) (xM isLstB true (xVar 2) (xFld gg_state (xVar 0)) xIdxP) xSub))
    (xSeq (xSet 5 (x2 true (x2 true (xVar 1) (xFld gg_number (xVar 0)) xSub) (x1 (xFld gg_plan (xVar 0)) xLen) xFdiv))
    (xSeq (xFs 0 gg_state (xOf (x2 true (xVar 2) (x2 true (xM isLstB true (xVar 2) (xFld gg_state (xVar 0)) xIdxP) (x2 true (x1 (xVar 5) xIntF) (xVar 4) xMod) xAdd) xIdx)))
    (xFAug 0 gg_number (fun a b => a + b) (x2 true (xVar 5) (x1 (xFld gg_plan (xVar 0)) xLen) xMul))))) xSkip)
    (xWhile (xTest (x2 true (xFld gg_number (xVar 0)) (xVar 1) xLt)) (xDrop (xMethM 2 0 (xCons (xC .non) xNil) r_Course_go)))))))
def r_Course_go_to := runM 2 6 x_Course_go_to
theorem D_Course_go_to {C : Ctx} (T : Facts C) : JSs (C.fn ["self", "number", "known", "turn", "many", "rounds"] (defScope s_Course_go_to) 7 [0]) (defBody s_Course_go_to) (xwS x_Course_go_to) := DSs.ok (C := C.fn ["self", "number", "known", "turn", "many", "rounds"] (defScope s_Course_go_to) 7 [0]) (ss := defBody s_Course_go_to)
    (dss_cons (ds_while (dt_w (dw_and (dt_cmp c_lt (dv_fld T.fl_number.fn (dv_var 0)) (dv_var 1)) (dw_and1 (dt_w (dw_or (dt_cmp c_ne (dv (de_mod (dv (de_t1 l_int T.b_int (dv_fld T.fl_number.fn (dv_var 0)))) (dv (de_b1 l_len T.b_len (dv_fld T.fl_plan.fn (dv_var 0)))))) (dv de_int)) (dw_or1 (dt_tru (dv_idx (dv_fld T.fl_state.fn (dv_var 0)) (dv de_int))))))))) (dss_one (ds_expr (dv (de_methM 0 (F_Course_go T).fn (da_cons de_non da_nil))))))
    (dss_cons (ds_set 2 nmM (de_lst da_nil))
    (dss_cons (ds_while (dt_w (dw_and (dt_cmp c_le (dv (de_add (dv_fld T.fl_number.fn (dv_var 0)) (dv (de_b1 l_len T.b_len (dv_fld T.fl_plan.fn (dv_var 0)))))) (dv_var 1)) (dw_and1 (dt_cmp c_nin (dv_fld T.fl_state.fn (dv_var 0)) (dv_var 2))))) (dss_cons (ds_app 2 (de_of (dv_fld T.fl_state.fn (dv_var 0))))
    (dss_one (ds_for (di_rng1 T.b_range (da_cons (de_b1 l_len T.b_len (dv_fld T.fl_plan.fn (dv_var 0))) da_nil)) (dg_name 3 nmM) (dss_one (ds_expr (dv (de_methM 0 (F_Course_go T).fn (da_cons de_non da_nil)))))))))
    (dss_cons (ds_if (dt_cmp c_in (dv_fld T.fl_state.fn (dv_var 0)) (dv_var 2)) (dss_cons (ds_set 4 nmM (de_sub (dv (de_b1 l_len T.b_len (dv_var 2))) (dv (de_m1 t_pindex (dv_var 2) (dv_fld T.fl_state.fn (dv_var 0))))))
    (dss_cons (ds_set 5 nmM (de_fdiv (dv (de_sub (dv_var 1) (dv_fld T.fl_number.fn (dv_var 0)))) (dv (de_b1 l_len T.b_len (dv_fld T.fl_plan.fn (dv_var 0))))))
    (dss_cons (ds_fset (i := 0) T.fl_state.fn (de_of (dv_idx (dv_var 2) (dv (de_add (dv (de_m1 t_pindex (dv_var 2) (dv_fld T.fl_state.fn (dv_var 0)))) (dv (de_mod (dv (de_t1 l_int T.b_int (dv_var 5))) (dv_var 4))))))))
    (dss_one (ds_faug (fun a b => a + b) 0 (fun _ => ip_add) T.fl_number.fn (dv (de_mul (dv_var 5) (dv (de_b1 l_len T.b_len (dv_fld T.fl_plan.fn (dv_var 0))))))))))) dss_nil)
    (dss_one (ds_while (dt_cmp c_lt (dv_fld T.fl_number.fn (dv_var 0)) (dv_var 1)) (dss_one (ds_expr (dv (de_methM 0 (F_Course_go T).fn (da_cons de_non da_nil)))))))))))
theorem F_Course_go_to {C : Ctx} (T : Facts C) : MeM C 2 "go_to" 8 (spXM r_Course_go_to) := MeM.ofNg (mk_meM' rfl 7 T.ng.f_Course_go_to S_Course_go_to (D_Course_go_to T.ng))
theorem S_state_at : FnScope ["plan", "manner", "slips", "moment", "course", "number", "kind"] ["plan", "manner", "slips", "moment"] (defScope s_state_at) := ⟨rfl, rfl, rfl, by decide +kernel, rfl, by decide +kernel, by decide +kernel⟩
def x_state_at : XS := (xSeq (xSet 4 (xMake 2 (xCons (xTake 0) (xCons (xTake 1) (xCons (xC (.int 0)) (xCons (xTup (xCons (xCall (xCons (xOf (xFld gg_ahead (x2 true (xVar 0) (xC (.int 0)) xIdx))) xNil) r_right_row) (xCons (xC (.bl false)) xNil))) xNil)))) r_Course_init))
    (xSeq (xFor (xInT (xTake 2)) (xgTup 2 (xgCons (xgNm 5) (xgCons (xgNm 6) xgNil))) (xIfS (xTest (x2 true (xVar 5) (xVar 3) xLt)) (xSeq (xDrop (xMethM 2 4 (xCons (xTake 5) xNil) r_Course_go_to))
    (xDrop (xMethM 2 4 (xCons (xTake 6) xNil) r_Course_go))) xSkip))
    (xSeq (xDrop (xMethM 2 4 (xCons (xTake 3) xNil) r_Course_go_to))
    (xRet (xOf (xFld gg_state (xVar 4)))))))
def r_state_at := runF 4 7 x_state_at
theorem D_state_at {C : Ctx} (T : Facts C) : JSs (C.fn ["plan", "manner", "slips", "moment", "course", "number", "kind"] (defScope s_state_at) 8 []) (defBody s_state_at) (xwS x_state_at) := DSs.ok (C := C.fn ["plan", "manner", "slips", "moment", "course", "number", "kind"] (defScope s_state_at) 8 []) (ss := defBody s_state_at)
    (dss_cons (ds_set 4 nmF (de_make (F_Course_init T).fn (da_cons (de_var 0) (da_cons (de_var 1) (da_cons de_int (da_cons (de_tup (da_cons (de_call (F_right_row T).fn (da_cons (de_of (dv_fld T.fl_ahead.fn (dv_idx (dv_var 0) (dv de_int)))) da_nil)) (da_cons de_bl da_nil))) da_nil))))))
    (dss_cons (ds_for (di_tup (de_var 2)) (dg_tup 2 (dgs_cons (dg_name 5 nmF) (dgs_cons (dg_name 6 nmF) dgs_nil))) (dss_one (ds_if (dt_cmp c_lt (dv_var 5) (dv_var 3)) (dss_cons (ds_expr (dv (de_methM 4 (F_Course_go_to T).fn (da_cons (de_var 5) da_nil))))
    (dss_one (ds_expr (dv (de_methM 4 (F_Course_go T).fn (da_cons (de_var 6) da_nil)))))) dss_nil)))
    (dss_cons (ds_expr (dv (de_methM 4 (F_Course_go_to T).fn (da_cons (de_var 3) da_nil))))
    (dss_one (ds_ret (de_of (dv_fld T.fl_state.fn (dv_var 4))))))))
theorem F_state_at {C : Ctx} (T : Facts C) : FnF C "state_at" 9 (spX r_state_at) := FnF.ofNg (mk_fn' rfl 8 T.ng.f_state_at S_state_at (D_state_at T.ng))
theorem S_labels_at : FnScope ["plan", "moment"] ["plan", "moment"] (defScope s_labels_at) := ⟨rfl, rfl, rfl, by decide +kernel, rfl, by decide +kernel, by decide +kernel⟩
def x_labels_at : XS := (xRet (xOf (xFld gg_ahead (x2 true (xVar 0) (x2 true (x1 (xVar 1) xIntF) (x1 (xVar 0) xLen) xMod) xIdx))))
def r_labels_at := runF 2 2 x_labels_at
theorem D_labels_at {C : Ctx} (T : Facts C) : JSs (C.fn ["plan", "moment"] (defScope s_labels_at) 0 []) (defBody s_labels_at) (xwS x_labels_at) := DSs.ok (C := C.fn ["plan", "moment"] (defScope s_labels_at) 0 []) (ss := defBody s_labels_at)
    (dss_one (ds_ret (de_of (dv_fld T.fl_ahead.fn (dv_idx (dv_var 0) (dv (de_mod (dv (de_t1 l_int T.b_int (dv_var 1))) (dv (de_b1 l_len T.b_len (dv_var 0))))))))))
theorem F_labels_at {C : Ctx} (T : Facts C) : FnF C "labels_at" 1 (spX r_labels_at) := FnF.ofNg (mk_fn' rfl 0 T.ng.f_labels_at S_labels_at (D_labels_at T.ng))
theorem S_pages_wrong : FnScope ["leaves", "labels", "page"] ["leaves", "labels"] (defScope s_pages_wrong) := ⟨rfl, rfl, rfl, by decide +kernel, rfl, by decide +kernel, by decide +kernel⟩
def x_pages_wrong : XS := (xRet (x1 (xLc (xRng2 (xCons (xC (.int 1)) (xCons (x2 true (x2 true (xC (.int 2)) (xC gl_MOST_LABEL) xMul) (xC (.int 1)) xAdd) xNil))) (xgNm 2) (xNot (xTru (xCall (xCons (xCall (xCons (xTake 0) (xCons (xTake 1) (xCons (xTake 2) xNil))) r_read_in) xNil) r_is_sound))) (xTake 2) [2]) xTuple))
def r_pages_wrong := runF 2 3 x_pages_wrong
theorem D_pages_wrong {C : Ctx} (T : Facts C) : JSs (C.fn ["leaves", "labels", "page"] (defScope s_pages_wrong) 2 []) (defBody s_pages_wrong) (xwS x_pages_wrong) := DSs.ok (C := C.fn ["leaves", "labels", "page"] (defScope s_pages_wrong) 2 []) (ss := defBody s_pages_wrong)
    (dss_one (ds_ret (de_t1 l_tuple T.b_tuple (dv (de_lc [("page", 2)] (di_rng2 T.b_range (da_cons de_int (da_cons (de_add (dv (de_mul (dv de_int) (dv (de_glb T.g_MOST_LABEL.fn)))) (dv de_int)) da_nil))) (dg_name 2 nmB) (dts_one (dt_not (dt_tru (dv (de_call (F_is_sound T).fn.blk (da_cons (de_call (F_read_in T).fn.blk (da_cons (de_var 0) (da_cons (de_var 1) (da_cons (de_var 2) da_nil)))) da_nil)))))) (de_var 2))))))
theorem F_pages_wrong {C : Ctx} (T : Facts C) : FnF C "pages_wrong" 3 (spX r_pages_wrong) := FnF.ofNg (mk_fn' rfl 2 T.ng.f_pages_wrong S_pages_wrong (D_pages_wrong T.ng))
theorem S_check_place : FnScope ["service", "manner", "section"] ["service", "manner", "section"] (defScope s_check_place) := ⟨rfl, rfl, rfl, by decide +kernel, rfl, by decide +kernel, by decide +kernel⟩
def x_check_place : YS := (ySeq (yDrop (yCall (xCons (xTake 0) xNil) rx_check_service))
    (ySeq (yDrop (yCall (xCons (xTake 1) xNil) rx_check_manner))
    (yDrop (yCall (xCons (xTake 0) (xCons (xTake 2) xNil)) rx_check_section))))
def rx_check_place := runFX 3 3 x_check_place
theorem D_check_place {C : Ctx} (T : Facts C) : JXs (C.fn ["service", "manner", "section"] (defScope s_check_place) 3 []) (defBody s_check_place) (ywS x_check_place) := DXs.ok (C := C.fn ["service", "manner", "section"] (defScope s_check_place) 3 []) (ss := defBody s_check_place)
    (dxs_cons (dx_expr (dex_call (F_check_service T).fn (da_cons (de_var 0) da_nil) (by exact Nat.le_of_ble_eq_true rfl)))
    (dxs_cons (dx_expr (dex_call (F_check_manner T).fn (da_cons (de_var 1) da_nil) (by exact Nat.le_of_ble_eq_true rfl)))
    (dxs_one (dx_expr (dex_call (F_check_section T).fn (da_cons (de_var 0) (da_cons (de_var 2) da_nil)) (by exact Nat.le_of_ble_eq_true rfl))))))
theorem F_check_place {C : Ctx} (T : Facts C) : FnFX C "check_place" 4 (spXX rx_check_place) := FnFX.ofNg (mk_fnX' rfl 3 T.ng.f_check_place S_check_place (D_check_place T.ng))
theorem S_check_all : FnScope ["service", "manner", "section", "slips", "moment"] ["service", "manner", "section", "slips", "moment"] (defScope s_check_all) := ⟨rfl, rfl, rfl, by decide +kernel, rfl, by decide +kernel, by decide +kernel⟩
def x_check_all : YS := (ySeq (yDrop (yCall (xCons (xTake 0) (xCons (xTake 1) (xCons (xTake 2) xNil))) rx_check_place))
    (ySeq (yDrop (yCall (xCons (xTake 3) xNil) rx_check_slips))
    (yDrop (yCall (xCons (xTake 4) xNil) rx_check_moment))))
def rx_check_all := runFX 5 5 x_check_all
theorem D_check_all {C : Ctx} (T : Facts C) : JXs (C.fn ["service", "manner", "section", "slips", "moment"] (defScope s_check_all) 4 []) (defBody s_check_all) (ywS x_check_all) := DXs.ok (C := C.fn ["service", "manner", "section", "slips", "moment"] (defScope s_check_all) 4 []) (ss := defBody s_check_all)
    (dxs_cons (dx_expr (dex_call (F_check_place T).fn (da_cons (de_var 0) (da_cons (de_var 1) (da_cons (de_var 2) da_nil))) (by exact Nat.le_of_ble_eq_true rfl)))
    (dxs_cons (dx_expr (dex_call (F_check_slips T).fn (da_cons (de_var 3) da_nil) (by exact Nat.le_of_ble_eq_true rfl)))
    (dxs_one (dx_expr (dex_call (F_check_moment T).fn (da_cons (de_var 4) da_nil) (by exact Nat.le_of_ble_eq_true rfl))))))
theorem F_check_all {C : Ctx} (T : Facts C) : FnFX C "check_all" 5 (spXX rx_check_all) := FnFX.ofNg (mk_fnX' rfl 4 T.ng.f_check_all S_check_all (D_check_all T.ng))
theorem S_row : FnScope ["service", "manner", "section", "slips", "moment"] ["service", "manner", "section", "slips", "moment"] (defScope s_row) := ⟨rfl, rfl, rfl, by decide +kernel, rfl, by decide +kernel, by decide +kernel⟩
def x_row : YS := (ySeq (yDrop (yCall (xCons (xTake 0) (xCons (xTake 1) (xCons (xTake 2) (xCons (xTake 3) (xCons (xTake 4) xNil))))) rx_check_all))
    (yOf (xRet (xOf (x2 true (xCall (xCons (xOf (x2 true (xFld gg_plans (xVar 0)) (xVar 2) xIdx)) (xCons (xTake 1) (xCons (xTake 3) (xCons (xTake 4) xNil)))) r_state_at) (xC (.int 0)) xIdx)))))
def rx_row := runFX 5 5 x_row
theorem D_row {C : Ctx} (T : Facts C) : JXs (C.fn ["service", "manner", "section", "slips", "moment"] (defScope s_row) 9 []) (defBody s_row) (ywS x_row) := DXs.ok (C := C.fn ["service", "manner", "section", "slips", "moment"] (defScope s_row) 9 []) (ss := defBody s_row)
    (dxs_cons (dx_expr (dex_call (F_check_all T).fn (da_cons (de_var 0) (da_cons (de_var 1) (da_cons (de_var 2) (da_cons (de_var 3) (da_cons (de_var 4) da_nil))))) (by exact Nat.le_of_ble_eq_true rfl)))
    (dxs_one (dxx_of (ds_ret (de_of (dv_idx (dv (de_call (F_state_at T).fn (da_cons (de_of (dv_idx (dv_fld T.fl_plans.fn (dv_var 0)) (dv_var 2))) (da_cons (de_var 1) (da_cons (de_var 3) (da_cons (de_var 4) da_nil)))))) (dv de_int)))))))
theorem F_row {C : Ctx} (T : Facts C) : FnFX C "row" 10 (spXX rx_row) := FnFX.ofNg (mk_fnX' rfl 9 T.ng.f_row S_row (D_row T.ng))
theorem S_read : FnScope ["service", "manner", "section", "slips", "moment", "page", "plan"] ["service", "manner", "section", "slips", "moment", "page"] (defScope s_read) := ⟨rfl, rfl, rfl, by decide +kernel, rfl, by decide +kernel, by decide +kernel⟩
def x_read : YS := (ySeq (yDrop (yCall (xCons (xTake 0) (xCons (xTake 1) (xCons (xTake 2) (xCons (xTake 3) (xCons (xTake 4) xNil))))) rx_check_all))
    (ySeq (yDrop (yCall (xCons (xTake 5) xNil) rx_check_page))
    (ySeq (yOf (xSet 6 (xOf (x2 true (xFld gg_plans (xVar 0)) (xVar 2) xIdx))))
    (yOf (xRet (xCall (xCons (xOf (x2 true (xCall (xCons (xTake 6) (xCons (xTake 1) (xCons (xTake 3) (xCons (xTake 4) xNil)))) r_state_at) (xC (.int 0)) xIdx)) (xCons (xCall (xCons (xTake 6) (xCons (xTake 4) xNil)) r_labels_at) (xCons (xTake 5) xNil))) r_read_in))))))
def rx_read := runFX 6 7 x_read
theorem D_read {C : Ctx} (T : Facts C) : JXs (C.fn ["service", "manner", "section", "slips", "moment", "page", "plan"] (defScope s_read) 9 []) (defBody s_read) (ywS x_read) := DXs.ok (C := C.fn ["service", "manner", "section", "slips", "moment", "page", "plan"] (defScope s_read) 9 []) (ss := defBody s_read)
    (dxs_cons (dx_expr (dex_call (F_check_all T).fn (da_cons (de_var 0) (da_cons (de_var 1) (da_cons (de_var 2) (da_cons (de_var 3) (da_cons (de_var 4) da_nil))))) (by exact Nat.le_of_ble_eq_true rfl)))
    (dxs_cons (dx_expr (dex_call (F_check_page T).fn (da_cons (de_var 5) da_nil) (by exact Nat.le_of_ble_eq_true rfl)))
    (dxs_cons (dxx_of (ds_set 6 nmF (de_of (dv_idx (dv_fld T.fl_plans.fn (dv_var 0)) (dv_var 2)))))
    (dxs_one (dxx_of (ds_ret (de_call (F_read_in T).fn (da_cons (de_of (dv_idx (dv (de_call (F_state_at T).fn (da_cons (de_var 6) (da_cons (de_var 1) (da_cons (de_var 3) (da_cons (de_var 4) da_nil)))))) (dv de_int))) (da_cons (de_call (F_labels_at T).fn (da_cons (de_var 6) (da_cons (de_var 4) da_nil))) (da_cons (de_var 5) da_nil))))))))))
theorem F_read {C : Ctx} (T : Facts C) : FnFX C "read" 10 (spXX rx_read) := FnFX.ofNg (mk_fnX' rfl 9 T.ng.f_read S_read (D_read T.ng))
theorem FK_read_0 {C : Ctx} (T : Facts C) : FnKX C "read" 10 ["page", "moment", "slips", "section", "manner", "service"] [5, 4, 3, 2, 1, 0] (spXX rx_read) := FnKX.ofNg (mk_fnKX' rfl 9 T.ng.f_read S_read (D_read T.ng) (fun _ _ _ _ _ _ ws hl => match ws, hl with | [_, _, _, _, _, _], _ => rfl))
theorem S_wrong : FnScope ["service", "manner", "section", "slips", "moment", "plan"] ["service", "manner", "section", "slips", "moment"] (defScope s_wrong) := ⟨rfl, rfl, rfl, by decide +kernel, rfl, by decide +kernel, by decide +kernel⟩
def x_wrong : YS := (ySeq (yDrop (yCall (xCons (xTake 0) (xCons (xTake 1) (xCons (xTake 2) (xCons (xTake 3) (xCons (xTake 4) xNil))))) rx_check_all))
    (ySeq (yOf (xSet 5 (xOf (x2 true (xFld gg_plans (xVar 0)) (xVar 2) xIdx))))
    (yOf (xRet (xCall (xCons (xOf (x2 true (xCall (xCons (xTake 5) (xCons (xTake 1) (xCons (xTake 3) (xCons (xTake 4) xNil)))) r_state_at) (xC (.int 0)) xIdx)) (xCons (xCall (xCons (xTake 5) (xCons (xTake 4) xNil)) r_labels_at) xNil)) r_pages_wrong)))))
def rx_wrong := runFX 5 6 x_wrong
theorem D_wrong {C : Ctx} (T : Facts C) : JXs (C.fn ["service", "manner", "section", "slips", "moment", "plan"] (defScope s_wrong) 9 []) (defBody s_wrong) (ywS x_wrong) := DXs.ok (C := C.fn ["service", "manner", "section", "slips", "moment", "plan"] (defScope s_wrong) 9 []) (ss := defBody s_wrong)
    (dxs_cons (dx_expr (dex_call (F_check_all T).fn (da_cons (de_var 0) (da_cons (de_var 1) (da_cons (de_var 2) (da_cons (de_var 3) (da_cons (de_var 4) da_nil))))) (by exact Nat.le_of_ble_eq_true rfl)))
    (dxs_cons (dxx_of (ds_set 5 nmF (de_of (dv_idx (dv_fld T.fl_plans.fn (dv_var 0)) (dv_var 2)))))
    (dxs_one (dxx_of (ds_ret (de_call (F_pages_wrong T).fn (da_cons (de_of (dv_idx (dv (de_call (F_state_at T).fn (da_cons (de_var 5) (da_cons (de_var 1) (da_cons (de_var 3) (da_cons (de_var 4) da_nil)))))) (dv de_int))) (da_cons (de_call (F_labels_at T).fn (da_cons (de_var 5) (da_cons (de_var 4) da_nil))) da_nil))))))))
theorem FK_wrong_0 {C : Ctx} (T : Facts C) : FnKX C "wrong" 10 ["moment", "slips", "section", "manner", "service"] [4, 3, 2, 1, 0] (spXX rx_wrong) := FnKX.ofNg (mk_fnKX' rfl 9 T.ng.f_wrong S_wrong (D_wrong T.ng) (fun _ _ _ _ _ _ ws hl => match ws, hl with | [_, _, _, _, _], _ => rfl))
theorem S_is_right : FnScope ["service", "manner", "section", "slips", "moment", "plan"] ["service", "manner", "section", "slips", "moment"] (defScope s_is_right) := ⟨rfl, rfl, rfl, by decide +kernel, rfl, by decide +kernel, by decide +kernel⟩
def x_is_right : YS := (ySeq (yDrop (yCall (xCons (xTake 0) (xCons (xTake 1) (xCons (xTake 2) (xCons (xTake 3) (xCons (xTake 4) xNil))))) rx_check_all))
    (ySeq (yOf (xSet 5 (xOf (x2 true (xFld gg_plans (xVar 0)) (xVar 2) xIdx))))
    (yOf (xRet (x2 true (x2 true (xCall (xCons (xTake 5) (xCons (xTake 1) (xCons (xTake 3) (xCons (xTake 4) xNil)))) r_state_at) (xC (.int 0)) xIdx) (xCall (xCons (xCall (xCons (xTake 5) (xCons (xTake 4) xNil)) r_labels_at) xNil) r_right_row) xEq)))))
def rx_is_right := runFX 5 6 x_is_right
theorem D_is_right {C : Ctx} (T : Facts C) : JXs (C.fn ["service", "manner", "section", "slips", "moment", "plan"] (defScope s_is_right) 9 []) (defBody s_is_right) (ywS x_is_right) := DXs.ok (C := C.fn ["service", "manner", "section", "slips", "moment", "plan"] (defScope s_is_right) 9 []) (ss := defBody s_is_right)
    (dxs_cons (dx_expr (dex_call (F_check_all T).fn (da_cons (de_var 0) (da_cons (de_var 1) (da_cons (de_var 2) (da_cons (de_var 3) (da_cons (de_var 4) da_nil))))) (by exact Nat.le_of_ble_eq_true rfl)))
    (dxs_cons (dxx_of (ds_set 5 nmF (de_of (dv_idx (dv_fld T.fl_plans.fn (dv_var 0)) (dv_var 2)))))
    (dxs_one (dxx_of (ds_ret (de_cmp c_eq (dv_idx (dv (de_call (F_state_at T).fn (da_cons (de_var 5) (da_cons (de_var 1) (da_cons (de_var 3) (da_cons (de_var 4) da_nil)))))) (dv de_int)) (dv (de_call (F_right_row T).fn (da_cons (de_call (F_labels_at T).fn (da_cons (de_var 5) (da_cons (de_var 4) da_nil))) da_nil)))))))))
theorem F_is_right {C : Ctx} (T : Facts C) : FnFX C "is_right" 10 (spXX rx_is_right) := FnFX.ofNg (mk_fnX' rfl 9 T.ng.f_is_right S_is_right (D_is_right T.ng))
theorem S__law_cup : FnScope ["_law_script", "_law_spot", "_law_cell", "_law_one"] ["_law_script", "_law_spot"] (defScope s__law_cup) := ⟨rfl, rfl, rfl, by decide +kernel, rfl, by decide +kernel, by decide +kernel⟩
def x__law_cup : XS := (xSeq (xSet 2 (xIf (xTest (x2 true (xVar 1) (x1 (xVar 0) xLen) xLt)) (xOf (x2 true (xVar 0) (xVar 1) xIdx)) (x2 true (x2 true (xC (.int 5167)) (xVar 1) xMul) (xC (.int 90173)) xAdd)))
    (xSeq (xFor (xInL (xIf (xTest (x2 true (xVar 1) (x1 (xVar 0) xLen) xGe)) (xSl true (xVar 0) xNoPart (xPart (xC (.int 2)))) (xLst xNil))) (xgNm 3) (xSet 2 (x2 true (x1 (x2 true (x2 true (xVar 2) (xC (.int 31)) xMul) (xVar 3) xAdd) xIntF) (xC (.int 1000000007)) xMod)))
    (xRet (xLst (xCons (x2 true (x1 (x2 true (x2 true (x2 true (xVar 2) (xC (.int 4093)) xMul) (x2 true (xC (.int 269)) (xVar 1) xMul) xAdd) (xC (.int 19)) xAdd) xIntF) (xC (.int 2147483629)) xMod) (xCons (xIf (xOr (xTest (x2 true (xVar 2) (xC (.int 0)) xLt)) (xTest (x2 true (xVar 2) (x2 true (xC (.int 10)) (xC (.int 18)) xPow) xGe))) (x1 (xVar 2) xAbs) (xC (.int 0))) xNil))))))
def r__law_cup := runF 2 4 x__law_cup
theorem D__law_cup {C : Ctx} (T : Facts C) : JSs (C.fn ["_law_script", "_law_spot", "_law_cell", "_law_one"] (defScope s__law_cup) 0 []) (defBody s__law_cup) (xwS x__law_cup) := DSs.ok (C := C.fn ["_law_script", "_law_spot", "_law_cell", "_law_one"] (defScope s__law_cup) 0 []) (ss := defBody s__law_cup)
    (dss_cons (ds_set 2 nmF (de_if (dt_cmp c_lt (dv_var 1) (dv (de_b1 l_len T.b_len (dv_var 0)))) (de_of (dv_idx (dv_var 0) (dv_var 1))) (de_add (dv (de_mul (dv de_int) (dv_var 1))) (dv de_int))))
    (dss_cons (ds_for (di_lst (de_if (dt_cmp c_ge (dv_var 1) (dv (de_b1 l_len T.b_len (dv_var 0)))) (de_slice (dv_var 0) do_none (do_some (dv de_int))) (de_lst da_nil))) (dg_name 3 nmF) (dss_one (ds_set 2 nmF (de_mod (dv (de_t1 l_int T.b_int (dv (de_add (dv (de_mul (dv_var 2) (dv de_int))) (dv_var 3))))) (dv de_int)))))
    (dss_one (ds_ret (de_lst (da_cons (de_mod (dv (de_t1 l_int T.b_int (dv (de_add (dv (de_add (dv (de_mul (dv_var 2) (dv de_int))) (dv (de_mul (dv de_int) (dv_var 1))))) (dv de_int))))) (dv de_int)) (da_cons (de_if (dt_w (dw_or (dt_cmp c_lt (dv_var 2) (dv de_int)) (dw_or1 (dt_cmp c_ge (dv_var 2) (dv (de_pow (dv de_int) (dv de_int))))))) (de_b1 l_abs T.b_abs (dv_var 2)) de_int) da_nil)))))))
theorem F__law_cup {C : Ctx} (T : Facts C) : FnF C "_law_cup" 1 (spX r__law_cup) := FnF.ofNg (mk_fn' rfl 0 T.ng.f__law_cup S__law_cup (D__law_cup T.ng))
theorem S__law_sip : FnScope ["_law_cup_here", "_law_top", "_law_part"] ["_law_cup_here", "_law_top"] (defScope s__law_sip) := ⟨rfl, rfl, rfl, by decide +kernel, rfl, by decide +kernel, by decide +kernel⟩
def x__law_sip : XS := (xSeq (xAsg (x2 true (x1 (x2 true (x2 true (x2 true (xVar 0) (xC (.int 0)) xIdx) (xC (.int 48271)) xMul) (xC (.int 13)) xAdd) xIntF) (xC (.int 2147483629)) xMod) (xgIx 0 (xC (.int 0))))
    (xSeq (xIfS (xTest (x2 true (x2 true (xVar 0) (xC (.int 1)) xIdx) (xC (.int 0)) xGt)) (xSeq (xAsg (x2 true (x2 true (xVar 0) (xC (.int 1)) xIdx) (xVar 1) xDivmod) (xgTup 2 (xgCons (xgIx 0 (xC (.int 1))) (xgCons (xgNm 2) xgNil))))
    (xMove 2)) xSkip)
    (xRet (x2 true (x1 (x2 true (x2 true (xVar 0) (xC (.int 0)) xIdx) (xC (.int 1019)) xFdiv) xIntF) (xVar 1) xMod))))
def r__law_sip := runM 2 3 x__law_sip
theorem D__law_sip {C : Ctx} (T : Facts C) : JSs (C.fn ["_law_cup_here", "_law_top", "_law_part"] (defScope s__law_sip) 0 [0]) (defBody s__law_sip) (xwS x__law_sip) := DSs.ok (C := C.fn ["_law_cup_here", "_law_top", "_law_part"] (defScope s__law_sip) 0 [0]) (ss := defBody s__law_sip)
    (dss_cons (ds_asg (de_mod (dv (de_t1 l_int T.b_int (dv (de_add (dv (de_mul (dv_idx (dv_var 0) (dv de_int)) (dv de_int))) (dv de_int))))) (dv de_int)) (dg_ix 0 (dv de_int)))
    (dss_cons (ds_if (dt_cmp c_gt (dv_idx (dv_var 0) (dv de_int)) (dv de_int)) (dss_cons (ds_asg (de_b2 l_divmod T.b_divmod (dv_idx (dv_var 0) (dv de_int)) (dv_var 1)) (dg_tup 2 (dgs_cons (dg_ix 0 (dv de_int)) (dgs_cons (dg_name 2 nmM) dgs_nil))))
    (dss_one (ds_move 2))) dss_nil)
    (dss_one (ds_ret (de_mod (dv (de_t1 l_int T.b_int (dv (de_fdiv (dv_idx (dv_var 0) (dv de_int)) (dv de_int))))) (dv_var 1))))))
theorem F__law_sip {C : Ctx} (T : Facts C) : FnM C "_law_sip" 1 (spXM r__law_sip) := FnM.ofNg (mk_fnM' rfl 0 T.ng.f__law_sip S__law_sip (D__law_sip T.ng))
theorem S__law_pick : FnScope ["_law_cup_here", "_law_things"] ["_law_cup_here", "_law_things"] (defScope s__law_pick) := ⟨rfl, rfl, rfl, by decide +kernel, rfl, by decide +kernel, by decide +kernel⟩
def x__law_pick : XS := (xRet (xOf (x2 false (xVar 1) (xCallM 0 (xCons (x1 (xVar 1) xLen) xNil) r__law_sip) xIdx)))
def r__law_pick := runM 2 2 x__law_pick
theorem D__law_pick {C : Ctx} (T : Facts C) : JSs (C.fn ["_law_cup_here", "_law_things"] (defScope s__law_pick) 1 [0]) (defBody s__law_pick) (xwS x__law_pick) := DSs.ok (C := C.fn ["_law_cup_here", "_law_things"] (defScope s__law_pick) 1 [0]) (ss := defBody s__law_pick)
    (dss_one (ds_ret (de_of (dv_idx (dv_var 1) (dv (de_callM 0 (F__law_sip T).fn (da_cons (de_b1 l_len T.b_len (dv_var 1)) da_nil)))))))
theorem F__law_pick {C : Ctx} (T : Facts C) : FnM C "_law_pick" 2 (spXM r__law_pick) := FnM.ofNg (mk_fnM' rfl 1 T.ng.f__law_pick S__law_pick (D__law_pick T.ng))
theorem S__law_caught : FnScope ["_law_act", "e", "_law_names"] ["_law_act"] (defScope s__law_caught) := ⟨rfl, rfl, rfl, by decide +kernel, rfl, by decide +kernel, by decide +kernel⟩
def x__law_caught_h0 : XS := (xSeq (xSet 2 (xLst (xCons (x1 (xVar 1) (xIsX ixf_InvalidText)) (xCons (x1 (xVar 1) (xIsX ixf_InvalidSection)) (xCons (x1 (xVar 1) (xIsX ixf_InvalidManner)) xNil)))))
    (xSeq (xSet 2 (x2 true (xVar 2) (xLst (xCons (x1 (xVar 1) (xIsX ixf_InvalidMoment)) (xCons (x1 (xVar 1) (xIsX ixf_InvalidPage)) (xCons (x1 (xVar 1) (xIsX ixf_InvalidWord)) xNil)))) xAdd))
    (xRet (xLst (xCons (xM isLstB true (xVar 2) (xC (.bl true)) xIdxP) (xCons (x1 (x1 (xVar 1) (xXf xff_given)) xReprD) xNil))))))
set_option maxHeartbeats 1000000 in
theorem D__law_caught_h0 {C : Ctx} (T : Facts C) (hq : C.gd = true) (k : Nat) (a : Addr) (c : Nat) (d : Option Addr) : JSs ((C.fn ["_law_act", "e", "_law_names"] (defScope s__law_caught) k []).ho a c d) (hdB ((defBody s__law_caught).getD 0 (.Pass ⟨0, 0, 0, 0⟩)) 0) (xwS x__law_caught_h0) := DSs.ok (C := (C.fn ["_law_act", "e", "_law_names"] (defScope s__law_caught) k []).ho a c d) (ss := hdB ((defBody s__law_caught).getD 0 (.Pass ⟨0, 0, 0, 0⟩)) 0)
    (dss_cons (ds_set 2 nmFh (de_lst (da_cons (de_isX T.ix_InvalidText.fn.ho (dv_var 1) (hm := T.b_isinstance)) (da_cons (de_isX T.ix_InvalidSection.fn.ho (dv_var 1) (hm := T.b_isinstance)) (da_cons (de_isX T.ix_InvalidManner.fn.ho (dv_var 1) (hm := T.b_isinstance)) da_nil)))))
    (dss_cons (ds_set 2 nmFh (de_add (dv_var 2) (dv (de_lst (da_cons (de_isX T.ix_InvalidMoment.fn.ho (dv_var 1) (hm := T.b_isinstance)) (da_cons (de_isX T.ix_InvalidPage.fn.ho (dv_var 1) (hm := T.b_isinstance)) (da_cons (de_isX T.ix_InvalidWord.fn.ho (dv_var 1) (hm := T.b_isinstance)) da_nil)))))))
    (dss_one (ds_ret (de_lst (da_cons (de_m1 t_pindex (dv_var 2) (dv de_bl)) (da_cons (de_b1r (l_reprD hq) T.b_repr (dv_xf T.xf_given.fn.ho (dv_var 1))) da_nil)))))))
def x__law_caught_h1 : XS := (xSeq (xSet 2 (xLst (xCons (x1 (xVar 1) (xIsX ixf_InvalidMany)) (xCons (x1 (xVar 1) (xIsX ixf_InvalidKind)) (xCons (x1 (xVar 1) (xIsX ixf_InvalidNumber)) xNil)))))
    (xRet (xLst (xCons (x2 true (xC (.int 6)) (xM isLstB true (x2 true (xVar 2) (xLst (xCons (x1 (xVar 1) (xIsX ixf_InvalidIndex)) (xCons (x1 (xVar 1) (xIsX ixf_NotAService)) xNil))) xAdd) (xC (.bl true)) xIdxP) xAdd) (xCons (x1 (x1 (xVar 1) (xXf xff_given)) xReprD) xNil)))))
set_option maxHeartbeats 1000000 in
theorem D__law_caught_h1 {C : Ctx} (T : Facts C) (hq : C.gd = true) (k : Nat) (a : Addr) (c : Nat) (d : Option Addr) : JSs ((C.fn ["_law_act", "e", "_law_names"] (defScope s__law_caught) k []).ho a c d) (hdB ((defBody s__law_caught).getD 0 (.Pass ⟨0, 0, 0, 0⟩)) 1) (xwS x__law_caught_h1) := DSs.ok (C := (C.fn ["_law_act", "e", "_law_names"] (defScope s__law_caught) k []).ho a c d) (ss := hdB ((defBody s__law_caught).getD 0 (.Pass ⟨0, 0, 0, 0⟩)) 1)
    (dss_cons (ds_set 2 nmFh (de_lst (da_cons (de_isX T.ix_InvalidMany.fn.ho (dv_var 1) (hm := T.b_isinstance)) (da_cons (de_isX T.ix_InvalidKind.fn.ho (dv_var 1) (hm := T.b_isinstance)) (da_cons (de_isX T.ix_InvalidNumber.fn.ho (dv_var 1) (hm := T.b_isinstance)) da_nil)))))
    (dss_one (ds_ret (de_lst (da_cons (de_add (dv de_int) (dv (de_m1 t_pindex (dv (de_add (dv_var 2) (dv (de_lst (da_cons (de_isX T.ix_InvalidIndex.fn.ho (dv_var 1) (hm := T.b_isinstance)) (da_cons (de_isX T.ix_NotAService.fn.ho (dv_var 1) (hm := T.b_isinstance)) da_nil)))))) (dv de_bl)))) (da_cons (de_b1r (l_reprD hq) T.b_repr (dv_xf T.xf_given.fn.ho (dv_var 1))) da_nil))))))
def x__law_caught_h2 : XS := (xRet (xLst (xCons (x2 true (xC (.int 11)) (x1 (x1 (xVar 1) (xIsX ixf_InvalidLists)) xIntB) xAdd) (xCons (x1 (x1 (xVar 1) (xXf xff_index)) xReprD) xNil))))
set_option maxHeartbeats 1000000 in
theorem D__law_caught_h2 {C : Ctx} (T : Facts C) (hq : C.gd = true) (k : Nat) (a : Addr) (c : Nat) (d : Option Addr) : JSs ((C.fn ["_law_act", "e", "_law_names"] (defScope s__law_caught) k []).ho a c d) (hdB ((defBody s__law_caught).getD 0 (.Pass ⟨0, 0, 0, 0⟩)) 2) (xwS x__law_caught_h2) := DSs.ok (C := (C.fn ["_law_act", "e", "_law_names"] (defScope s__law_caught) k []).ho a c d) (ss := hdB ((defBody s__law_caught).getD 0 (.Pass ⟨0, 0, 0, 0⟩)) 2)
    (dss_one (ds_ret (de_lst (da_cons (de_add (dv de_int) (dv (de_intH (dv (de_isX T.ix_InvalidLists.fn.ho (dv_var 1) (hm := T.b_isinstance))) T.b_int))) (da_cons (de_b1r (l_reprD hq) T.b_repr (dv_xf T.xf_index.fn.ho (dv_var 1))) da_nil)))))
def rc__law_caught : RX → Option Dat := rGiven cs_given 3 1 [(hdm__law_caught_0, x__law_caught_h0), (hdm__law_caught_1, x__law_caught_h1), (hdm__law_caught_2, x__law_caught_h2)]
set_option maxHeartbeats 1000000 in
theorem CA__law_caught {C : Ctx} (T : Facts C) (hq : C.gd = true) (k : Nat) : Catch C "_law_caught" k rc__law_caught := by
  have h := catch_lst (C := C) (k := k) (gv := "given") (i := 1) T.f__law_caught S__law_caught rfl rfl (by first | exact Or.inl rfl | exact Or.inr (Or.inl rfl)) (by decide +kernel) (by decide +kernel) rfl (by decide) rfl T.exo (fun _ => rfl) (fun _ => rfl)
    (.cons ⟨_, _, _, _, _, _, _, rfl, (.cons rfl (by decide +kernel) (.cons rfl (by decide +kernel) (.cons rfl (by decide +kernel) (.cons rfl (by decide +kernel) (.cons rfl (by decide +kernel) (.cons rfl (by decide +kernel) .nil)))))), T.hd__law_caught_0.fn, D__law_caught_h0 T hq k⟩
      (.cons ⟨_, _, _, _, _, _, _, rfl, (.cons rfl (by decide +kernel) (.cons rfl (by decide +kernel) (.cons rfl (by decide +kernel) (.cons rfl (by decide +kernel) (.cons rfl (by decide +kernel) .nil))))), T.hd__law_caught_1.fn, D__law_caught_h1 T hq k⟩
      (.cons ⟨_, _, _, _, _, _, _, rfl, (.cons rfl (by decide +kernel) (.cons rfl (by decide +kernel) .nil)), T.hd__law_caught_2.fn, D__law_caught_h2 T hq k⟩
      .nil)))
  rw [cs_given_eq] at h
  exact h
theorem S__law_some_errs : FnScope ["_law_cup_here", "_law_menu"] ["_law_cup_here"] (defScope s__law_some_errs) := ⟨rfl, rfl, rfl, by decide +kernel, rfl, by decide +kernel, by decide +kernel⟩
def x__law_some_errs : XS := (xSeq (xSet 1 (xLst (xCons (xTup (xCons (xTup xNil) (xCons (x1 (xC (.int 1)) xNeg) xNil))) (xCons (xTup (xCons (xTup (xCons (xTup (xCons (xC (.int 0)) (xCons (xC (.str cs_skip)) xNil))) (xCons (xTup (xCons (x2 true (xC (.int 10)) (xC (.int 30)) xPow) (xCons (xC (.str cs_late)) xNil))) xNil))) (xCons (x1 (xC (.int 1)) xNeg) xNil))) (xCons (xTup (xCons (xTup (xCons (xTup (xCons (xC (.int 3)) (xCons (xC (.str cs_ins)) xNil))) (xCons (xTup (xCons (xC (.int 3)) (xCons (xC (.str cs_outs)) xNil))) xNil))) (xCons (xC (.int 1)) xNil))) (xCons (xTup (xCons (xTup (xCons (xTup (xCons (xC (.int 5)) (xCons (xC (.str cs_ins)) xNil))) (xCons (xTup (xCons (xC (.int 4)) (xCons (xC (.str cs_outs)) xNil))) xNil))) (xCons (xC (.int 1)) xNil))) xNil))))))
    (xSeq (xSet 1 (x2 true (xVar 1) (xLst (xCons (xTup (xCons (xTup (xCons (xTup (xCons (xC (.int 1)) (xCons (xC (.str cs_skip)) xNil))) (xCons (xTup (xCons (xC (.int 2)) (xCons (xC (.str cs_skip)) xNil))) (xCons (xTup (xCons (xC (.int 3)) (xCons (xC (.str cs_skip)) xNil))) (xCons (xTup (xCons (xC (.int 4)) (xCons (xC (.str cs_skip)) xNil))) xNil))))) (xCons (xC (.int 3)) xNil))) (xCons (xTup (xCons (xTup (xCons (xTup (xCons (x1 (xC (.int 1)) xNeg) (xCons (xC (.str cs_skip)) xNil))) xNil)) (xCons (xC (.int 0)) xNil))) (xCons (xTup (xCons (xTup (xCons (xTup (xCons (xC (.bl true)) (xCons (xC (.str cs_skip)) xNil))) xNil)) (xCons (xC (.int 0)) xNil))) xNil)))) xAdd))
    (xSeq (xSet 1 (x2 true (xVar 1) (xLst (xCons (xTup (xCons (xTup (xCons (xTup (xCons (xC (.int 1)) (xCons (xC (.str cs_skips)) xNil))) xNil)) (xCons (xC (.int 0)) xNil))) (xCons (xTup (xCons (xTup (xCons (xTup (xCons (xC (.int 1)) (xCons (xC .non) xNil))) xNil)) (xCons (xC (.int 0)) xNil))) (xCons (xTup (xCons (xTup (xCons (xTup (xCons (xC (.int 1)) xNil)) xNil)) (xCons (xC (.int 0)) xNil))) (xCons (xTup (xCons (xTup (xCons (xLst (xCons (xC (.int 1)) (xCons (xC (.str cs_skip)) xNil))) xNil)) (xCons (xC (.int 0)) xNil))) (xCons (xTup (xCons (xLst xNil) (xCons (x1 (xC (.int 2)) xNeg) xNil))) (xCons (xTup (xCons (xC .non) (xCons (x1 (xC (.int 2)) xNeg) xNil))) xNil))))))) xAdd))
    (xRet (xCallM 0 (xCons (x2 true (xVar 1) (xLst (xCons (xTup (xCons (xTup (xCons (xTup (xCons (xC (.str cs_1)) (xCons (xC (.str cs_skip)) xNil))) xNil)) (xCons (xC (.int 0)) xNil))) (xCons (xTup (xCons (xTup (xCons (xTup (xCons (x2 true (x2 true (xC (.int 10)) (xC (.int 30)) xPow) (xC (.int 1)) xAdd) (xCons (xC (.str cs_skip)) xNil))) xNil)) (xCons (xC (.int 0)) xNil))) (xCons (xTup (xCons (xC (.str cs_late)) (xCons (x1 (xC (.int 2)) xNeg) xNil))) (xCons (xTup (xCons (xTup (xCons (xTup (xCons (xC (.int 1)) (xCons (xLst (xCons (xC (.str cs_late)) xNil)) xNil))) xNil)) (xCons (xC (.int 0)) xNil))) xNil))))) xAdd) xNil) r__law_pick)))))
def r__law_some_errs := runM 1 2 x__law_some_errs
set_option maxHeartbeats 2000000 in
theorem D__law_some_errs {C : Ctx} (T : Facts C) : JSs (C.fn ["_law_cup_here", "_law_menu"] (defScope s__law_some_errs) 2 [0]) (defBody s__law_some_errs) (xwS x__law_some_errs) := DSs.ok (C := C.fn ["_law_cup_here", "_law_menu"] (defScope s__law_some_errs) 2 [0]) (ss := defBody s__law_some_errs)
    (dss_cons (ds_set 1 nmM (de_lst (da_cons (de_tup (da_cons (de_tup da_nil) (da_cons (de_neg (dv de_int)) da_nil))) (da_cons (de_tup (da_cons (de_tup (da_cons (de_tup (da_cons de_int (da_cons (de_strE cs_skip_eq) da_nil))) (da_cons (de_tup (da_cons (de_pow (dv de_int) (dv de_int)) (da_cons (de_strE cs_late_eq) da_nil))) da_nil))) (da_cons (de_neg (dv de_int)) da_nil))) (da_cons (de_tup (da_cons (de_tup (da_cons (de_tup (da_cons de_int (da_cons (de_strE cs_ins_eq) da_nil))) (da_cons (de_tup (da_cons de_int (da_cons (de_strE cs_outs_eq) da_nil))) da_nil))) (da_cons de_int da_nil))) (da_cons (de_tup (da_cons (de_tup (da_cons (de_tup (da_cons de_int (da_cons (de_strE cs_ins_eq) da_nil))) (da_cons (de_tup (da_cons de_int (da_cons (de_strE cs_outs_eq) da_nil))) da_nil))) (da_cons de_int da_nil))) da_nil))))))
    (dss_cons (ds_set 1 nmM (de_add (dv_var 1) (dv (de_lst (da_cons (de_tup (da_cons (de_tup (da_cons (de_tup (da_cons de_int (da_cons (de_strE cs_skip_eq) da_nil))) (da_cons (de_tup (da_cons de_int (da_cons (de_strE cs_skip_eq) da_nil))) (da_cons (de_tup (da_cons de_int (da_cons (de_strE cs_skip_eq) da_nil))) (da_cons (de_tup (da_cons de_int (da_cons (de_strE cs_skip_eq) da_nil))) da_nil))))) (da_cons de_int da_nil))) (da_cons (de_tup (da_cons (de_tup (da_cons (de_tup (da_cons (de_neg (dv de_int)) (da_cons (de_strE cs_skip_eq) da_nil))) da_nil)) (da_cons de_int da_nil))) (da_cons (de_tup (da_cons (de_tup (da_cons (de_tup (da_cons de_bl (da_cons (de_strE cs_skip_eq) da_nil))) da_nil)) (da_cons de_int da_nil))) da_nil)))))))
    (dss_cons (ds_set 1 nmM (de_add (dv_var 1) (dv (de_lst (da_cons (de_tup (da_cons (de_tup (da_cons (de_tup (da_cons de_int (da_cons (de_strE cs_skips_eq) da_nil))) da_nil)) (da_cons de_int da_nil))) (da_cons (de_tup (da_cons (de_tup (da_cons (de_tup (da_cons de_int (da_cons de_non da_nil))) da_nil)) (da_cons de_int da_nil))) (da_cons (de_tup (da_cons (de_tup (da_cons (de_tup (da_cons de_int da_nil)) da_nil)) (da_cons de_int da_nil))) (da_cons (de_tup (da_cons (de_tup (da_cons (de_lst (da_cons de_int (da_cons (de_strE cs_skip_eq) da_nil))) da_nil)) (da_cons de_int da_nil))) (da_cons (de_tup (da_cons (de_lst da_nil) (da_cons (de_neg (dv de_int)) da_nil))) (da_cons (de_tup (da_cons de_non (da_cons (de_neg (dv de_int)) da_nil))) da_nil))))))))))
    (dss_one (ds_ret (de_callM 0 (F__law_pick T).fn (da_cons (de_add (dv_var 1) (dv (de_lst (da_cons (de_tup (da_cons (de_tup (da_cons (de_tup (da_cons (de_strE cs_1_eq) (da_cons (de_strE cs_skip_eq) da_nil))) da_nil)) (da_cons de_int da_nil))) (da_cons (de_tup (da_cons (de_tup (da_cons (de_tup (da_cons (de_add (dv (de_pow (dv de_int) (dv de_int))) (dv de_int)) (da_cons (de_strE cs_skip_eq) da_nil))) da_nil)) (da_cons de_int da_nil))) (da_cons (de_tup (da_cons (de_strE cs_late_eq) (da_cons (de_neg (dv de_int)) da_nil))) (da_cons (de_tup (da_cons (de_tup (da_cons (de_tup (da_cons de_int (da_cons (de_lst (da_cons (de_strE cs_late_eq) da_nil)) da_nil))) da_nil)) (da_cons de_int da_nil))) da_nil))))))) da_nil)))))))
theorem F__law_some_errs {C : Ctx} (T : Facts C) : FnM C "_law_some_errs" 3 (spXM r__law_some_errs) := FnM.ofNg (mk_fnM' rfl 2 T.ng.f__law_some_errs S__law_some_errs (D__law_some_errs T.ng))
theorem S__law_first : FnScope ["_law_some"] ["_law_some"] (defScope s__law_first) := ⟨rfl, rfl, rfl, by decide +kernel, rfl, by decide +kernel, by decide +kernel⟩
def x__law_first : XS := (xRet (xIf (xTest (x2 true (xVar 0) (xLst xNil) xNe)) (xOf (x2 true (xVar 0) (xC (.int 0)) xIdx)) (xC .non)))
def r__law_first := runF 1 1 x__law_first
theorem D__law_first {C : Ctx} (T : Facts C) : JSs (C.fn ["_law_some"] (defScope s__law_first) 0 []) (defBody s__law_first) (xwS x__law_first) := DSs.ok (C := C.fn ["_law_some"] (defScope s__law_first) 0 []) (ss := defBody s__law_first)
    (dss_one (ds_ret (de_if (dt_cmp c_ne (dv_var 0) (dv (de_lst da_nil))) (de_of (dv_idx (dv_var 0) (dv de_int))) de_non)))
theorem F__law_first {C : Ctx} (T : Facts C) : FnF C "_law_first" 1 (spX r__law_first) := FnF.ofNg (mk_fn' rfl 0 T.ng.f__law_first S__law_first (D__law_first T.ng))
theorem S_Entry_init : FnScope ["self", "ahead", "told", "pages", "fresh", "gone", "anew", "page", "label"] ["self", "ahead", "told"] (defScope s_Entry_init) := ⟨rfl, rfl, rfl, by decide +kernel, rfl, by decide +kernel, by decide +kernel⟩
def x_Entry_init : XS := (xSeq (xSet 3 (xOf (xGet true true (xVar 2) (xC (.str cs_pages)) (xTup xNil))))
    (xSeq (xSet 4 (xOf (xGet true true (xVar 2) (xC (.str cs_new)) (xTup xNil))))
    (xSeq (xSet 5 (xOf (xGet true true (xVar 2) (xC (.str cs_gone)) (xTup xNil))))
    (xSeq (xSet 6 (x1 (xDc (xInT (xTake 3)) (xgNm 7) xYes (xCall (xCons (xTake 7) xNil) r_leaf_of) (xC (.bl true)) [7]) xSorted))
    (xSeq (xFs 0 gg_ahead (xTake 1))
    (xSeq (xFs 0 gg_changed (x1 (x1 (x2 false (xFrz (x2 false (xFrz (x1 (xVar 3) xList)) (xLc (xInT (xTake 4)) (xgNm 8) xYes (x2 true (x2 true (xC (.int 2)) (xVar 8) xMul) (xC (.int 1)) xSub) [8]) xAdd)) (xLc (xInT (xTake 4)) (xgNm 8) xYes (x2 true (xC (.int 2)) (xVar 8) xMul) [8]) xAdd) xSorted) xTuple))
    (xSeq (xFs 0 gg_in_labels (x1 (x1 (x2 true (xVar 6) (x1 (xVar 4) xList) xAdd) xSorted) xTuple))
    (xSeq (xFs 0 gg_out_labels (x1 (x1 (x2 true (xVar 6) (x1 (xVar 5) xList) xAdd) xSorted) xTuple))
    (xSeq (xFs 0 gg_behind (x1 (x1 (x2 true (xLc (xInT (xTake 1)) (xgNm 8) (xTest (x2 true (xVar 8) (xVar 5) xNotIn)) (xTake 8) [8]) (x1 (xVar 4) xList) xAdd) xSorted) xTupleK))
    (xFs 0 gg_runs (xCall (xCons (xOf (xFld gg_out_labels (xVar 0))) (xCons (xTake 1) xNil)) r_runs_of)))))))))))
def r_Entry_init := runM 3 9 x_Entry_init
theorem D_Entry_init {C : Ctx} (T : Facts C) : JSs (C.fn ["self", "ahead", "told", "pages", "fresh", "gone", "anew", "page", "label"] (defScope s_Entry_init) 1 [0]) (defBody s_Entry_init) (xwS x_Entry_init) := DSs.ok (C := C.fn ["self", "ahead", "told", "pages", "fresh", "gone", "anew", "page", "label"] (defScope s_Entry_init) 1 [0]) (ss := defBody s_Entry_init)
    (dss_cons (ds_set 3 nmM (de_of (dv_get2 (dv_var 2) (dv (de_strE cs_pages_eq)) (dv (de_tup da_nil)))))
    (dss_cons (ds_set 4 nmM (de_of (dv_get2 (dv_var 2) (dv (de_strE cs_new_eq)) (dv (de_tup da_nil)))))
    (dss_cons (ds_set 5 nmM (de_of (dv_get2 (dv_var 2) (dv (de_strE cs_gone_eq)) (dv (de_tup da_nil)))))
    (dss_cons (ds_set 6 nmM (de_b1 l_sorted T.b_sorted (dv (de_dc [("page", 7)] (di_tup (de_var 3)) (dg_name 7 nmB) dts_nil (dv (de_call (F_leaf_of T).fn.blk (da_cons (de_var 7) da_nil))) de_bl))))
    (dss_cons (ds_fset (i := 0) T.fl_ahead.fn (de_var 1))
    (dss_cons (ds_fset (i := 0) T.fl_changed.fn (de_t1 l_tuple T.b_tuple (dv (de_b1 l_sorted T.b_sorted (dv (de_add (dv (de_frz (de_add (dv (de_frz (de_t1 l_list T.b_list (dv_var 3)))) (dv (de_lc [("label", 8)] (di_tup (de_var 4)) (dg_name 8 nmB) dts_nil (de_sub (dv (de_mul (dv de_int) (dv_var 8))) (dv de_int))))))) (dv (de_lc [("label", 8)] (di_tup (de_var 4)) (dg_name 8 nmB) dts_nil (de_mul (dv de_int) (dv_var 8))))))))))
    (dss_cons (ds_fset (i := 0) T.fl_in_labels.fn (de_t1 l_tuple T.b_tuple (dv (de_b1 l_sorted T.b_sorted (dv (de_add (dv_var 6) (dv (de_t1 l_list T.b_list (dv_var 4)))))))))
    (dss_cons (ds_fset (i := 0) T.fl_out_labels.fn (de_t1 l_tuple T.b_tuple (dv (de_b1 l_sorted T.b_sorted (dv (de_add (dv_var 6) (dv (de_t1 l_list T.b_list (dv_var 5)))))))))
    (dss_cons (ds_fset (i := 0) T.fl_behind.fn (de_t1 l_tupleK T.b_tuple (dv (de_b1 l_sorted T.b_sorted (dv (de_add (dv (de_lc [("label", 8)] (di_tup (de_var 1)) (dg_name 8 nmB) (dts_one (dt_cmp c_nin (dv_var 8) (dv_var 5))) (de_var 8))) (dv (de_t1 l_list T.b_list (dv_var 4)))))))))
    (dss_one (ds_fset (i := 0) T.fl_runs.fn (de_call (F_runs_of T).fn (da_cons (de_of (dv_fld T.fl_out_labels.fn (dv_var 0))) (da_cons (de_var 1) da_nil))))))))))))))
theorem F_Entry_init {C : Ctx} (T : Facts C) : MkM C "Entry" 0 2 (spXM r_Entry_init) := MkM.ofNg (mk_make' rfl 1 T.ng.f_Entry_init S_Entry_init (D_Entry_init T.ng))
theorem S_entries_of : FnScope ["section", "labels", "packets", "found", "ahead", "packet", "told", "key"] ["section", "labels", "packets"] (defScope s_entries_of) := ⟨rfl, rfl, rfl, by decide +kernel, rfl, by decide +kernel, by decide +kernel⟩
def x_entries_of : XS := (xSeq (xSet 3 (xLst xNil))
    (xSeq (xSet 4 (xTake 1))
    (xSeq (xFor (xInL (xTake 2)) (xgNm 5) (xSeq (xSet 6 (xDcK 5 (xgNm 7) (xTest (x2 true (x2 true (xVar 7) (xC (.int 0)) xIdx) (xVar 0) xEq)) (x2 true (xC gl_HEADS) (x2 true (xVar 7) (xC (.int 1)) xIdx) xIdx) (xOf (x2 true (xVar 5) (xVar 7) xIdxT2)) [7]))
    (xSeq (xIfS (xNot (xTru (xCall (xCons (xTake 4) (xCons (xTake 6) xNil)) r_is_told_right))) (xRet (xC .non)) xSkip)
    (xSeq (xApp 3 (xMake 0 (xCons (xTake 4) (xCons (xTake 6) xNil)) r_Entry_init))
    (xSet 4 (xOf (xFld gg_behind (x2 true (xVar 3) (x1 (xC (.int 1)) xNeg) xIdx))))))))
    (xRet (xIf (xTest (x2 true (xVar 4) (xVar 1) xEq)) (x1 (xTake 3) xTuple) (xC .non))))))
def r_entries_of := runF 3 8 x_entries_of
theorem D_entries_of {C : Ctx} (T : Facts C) : JSs (C.fn ["section", "labels", "packets", "found", "ahead", "packet", "told", "key"] (defScope s_entries_of) 3 []) (defBody s_entries_of) (xwS x_entries_of) := DSs.ok (C := C.fn ["section", "labels", "packets", "found", "ahead", "packet", "told", "key"] (defScope s_entries_of) 3 []) (ss := defBody s_entries_of)
    (dss_cons (ds_set 3 nmF (de_lst da_nil))
    (dss_cons (ds_set 4 nmF (de_var 1))
    (dss_cons (ds_for (di_lst (de_var 2)) (dg_name 5 nmF) (dss_cons (ds_setDcK 6 5 [("key", 7)] nmF (dg_name 7 nmB) (dts_one (dt_cmp c_eq (dv_idx (dv_var 7) (dv de_int)) (dv_var 0))) (dv_idx (dv (de_glb T.g_HEADS.fn.blk)) (dv_idx (dv_var 7) (dv de_int))) (de_of (dv_idxT (dv_var 5) (dv_var 7))) (hsw := (fun env he => sw_trueD (by rw [he]; rfl) (by rw [he]; rfl) rfl rfl)))
    (dss_cons (ds_if (dt_not (dt_tru (dv (de_call (F_is_told_right T).fn (da_cons (de_var 4) (da_cons (de_var 6) da_nil)))))) (dss_one (ds_ret de_non)) dss_nil)
    (dss_cons (ds_app 3 (de_make (F_Entry_init T).fn (da_cons (de_var 4) (da_cons (de_var 6) da_nil))))
    (dss_one (ds_set 4 nmF (de_of (dv_fld T.fl_behind.fn (dv_idx (dv_var 3) (dv (de_neg (dv de_int))))))))))))
    (dss_one (ds_ret (de_if (dt_cmp c_eq (dv_var 4) (dv_var 1)) (de_t1 l_tuple T.b_tuple (dv (de_var 3))) de_non))))))
theorem F_entries_of {C : Ctx} (T : Facts C) : FnF C "entries_of" 4 (spX r_entries_of) := FnF.ofNg (mk_fn' rfl 3 T.ng.f_entries_of S_entries_of (D_entries_of T.ng))
theorem S_plans_of : FnScope ["text", "lines", "starts", "packets", "found", "packet", "key", "section"] ["text"] (defScope s_plans_of) := ⟨rfl, rfl, rfl, by decide +kernel, rfl, by decide +kernel, by decide +kernel⟩
def x_plans_of : XS := (xSeq (xIfS (xNot (xTru (x1 (xVar 0) (xIsi (fiB "str"))))) (xRet (xC .non)) xSkip)
    (xSeq (xSet 1 (xM isStrB true (xVar 0) (xC (.str cs_x0a)) xSplit))
    (xSeq (xSet 2 (xFrz (xCall (xCons (xTake 1) xNil) r_starts_in)))
    (xSeq (xIfS (xOr (xTest (x2 true (xVar 2) (xC .non) (xIs false))) (xTest (x2 true (x1 (xVar 2) xLen) (xC (.int 0)) xEq))) (xRet (xC .non)) xSkip)
    (xSeq (xSet 3 (xFrz (xCall (xCons (xSl true (xVar 1) (xPart (x1 (xVar 2) xLen)) xNoPart) xNil) r_packets_in)))
    (xSeq (xIfS (xOr (xTest (x2 true (xVar 3) (xC .non) (xIs false))) (xNot (xTest (xChain true true (xC (.int 1)) (x1 (xVar 3) xLen) (xC gl_MOST_PACKETS) xLe xLe)))) (xRet (xC .non)) xSkip)
    (xSeq (xIfS (xTru (x1 (xLc2K 3 5 [5, 6] [6] (xgNm 6) (x2 true (x2 true (xVar 6) (xC (.int 0)) xIdx) (xVar 2) xNotIn)) (xBools fun bs => bs.any id))) (xRet (xC .non)) xSkip)
    (xSeq (xSet 4 (xFrz (xDcK 2 (xgNm 7) xYes (xVar 7) (xCall (xCons (xTake 7) (xCons (xOf (x2 true (xVar 2) (xVar 7) xIdx)) (xCons (xTake 3) xNil))) r_entries_of) [7])))
    (xRet (xIf (xTru (x1 (xLcK 4 (xgNm 7) xYes (x2 true (x2 true (xVar 4) (xVar 7) xIdx) (xC .non) (xIs false)) [7]) (xBools fun bs => bs.any id))) (xC .non) (xTake 4)))))))))))
def r_plans_of := runF 1 8 x_plans_of
theorem D_plans_of {C : Ctx} (T : Facts C) : JSs (C.fn ["text", "lines", "starts", "packets", "found", "packet", "key", "section"] (defScope s_plans_of) 4 []) (defBody s_plans_of) (xwS x_plans_of) := DSs.ok (C := C.fn ["text", "lines", "starts", "packets", "found", "packet", "key", "section"] (defScope s_plans_of) 4 []) (ss := defBody s_plans_of)
    (dss_cons (ds_if (dt_not (dt_tru (dv (de_isi (u := .type "str") isi_ty (.ty _) (.inl ⟨T.b_str, rfl, by decide⟩) T.b_isinstance (dv_var 0))))) (dss_one (ds_ret de_non)) dss_nil)
    (dss_cons (ds_set 1 nmF (de_m1 t_split (dv_var 0) (dv (de_strE cs_x0a_eq))))
    (dss_cons (ds_set 2 nmF (de_frz (de_call (F_starts_in T).fn (da_cons (de_var 1) da_nil))))
    (dss_cons (ds_if (dt_w (dw_or (dt_cmp c_is (dv_var 2) (dv de_non)) (dw_or1 (dt_cmp c_eq (dv (de_b1 l_len T.b_len (dv_var 2))) (dv de_int))))) (dss_one (ds_ret de_non)) dss_nil)
    (dss_cons (ds_set 3 nmF (de_frz (de_call (F_packets_in T).fn (da_cons (de_slice (dv_var 1) (do_some (dv (de_b1 l_len T.b_len (dv_var 2)))) do_none) da_nil))))
    (dss_cons (ds_if (dt_w (dw_or (dt_cmp c_is (dv_var 3) (dv de_non)) (dw_or1 (dt_not (dt_chain c_le c_le (dv de_int) (dv (de_b1 l_len T.b_len (dv_var 3))) (dv (de_glb T.g_MOST_PACKETS.fn))))))) (dss_one (ds_ret de_non)) dss_nil)
    (dss_cons (ds_if (dt_tru (dv (de_b1 l_any T.b_any (dv (de_lc2K 3 5 [("packet", 5), ("key", 6)] [6] (dg_name 6 nmB1) (de_cmp c_nin (dv_idx (dv_var 6) (dv de_int)) (dv_var 2)) nmB))))) (dss_one (ds_ret de_non)) dss_nil)
    (dss_cons (ds_set 4 nmF (de_frz (de_dcK 2 [("section", 7)] (dg_name 7 nmB) dts_nil (dv_var 7) (de_call (F_entries_of T).fn.blk (da_cons (de_var 7) (da_cons (de_of (dv_idx (dv_var 2) (dv_var 7))) (da_cons (de_var 3) da_nil)))))) (hs := fun env he => sw_false (by rw [he]; rfl)))
    (dss_one (ds_ret (de_if (dt_tru (dv (de_b1 l_any T.b_any (dv (de_lcK 4 [("section", 7)] (dg_name 7 nmB) dts_nil (de_cmp c_is (dv_idx (dv_var 4) (dv_var 7)) (dv de_non))))))) de_non (de_var 4))))))))))))
theorem F_plans_of {C : Ctx} (T : Facts C) : FnF C "plans_of" 5 (spX r_plans_of) := FnF.ofNg (mk_fn' rfl 4 T.ng.f_plans_of S_plans_of (D_plans_of T.ng))
theorem S_Service_init : FnScope ["self", "text", "plans", "section"] ["self", "text"] (defScope s_Service_init) := ⟨rfl, rfl, rfl, by decide +kernel, rfl, by decide +kernel, by decide +kernel⟩
def x_Service_init : XS := (xSeq (xSet 2 (xCall (xCons (xTake 1) xNil) r_plans_of))
    (xSeq (xIfS (xTest (x2 true (xVar 2) (xC .non) (xIs false))) xNever xSkip)
    (xSeq (xFs 0 gg_text (xTake 1))
    (xSeq (xFs 0 gg_plans (xTake 2))
    (xSeq (xFs 0 gg_sections (xM isStrB false (xC (.str cs_)) (xLc (xInT (xC gl_SECTIONS)) (xgNm 3) (xTest (x2 true (xVar 3) (xVar 2) xIn)) (xTake 3) [3]) xJoin))
    (xFs 0 gg_size (x1 (x2 true (xVar 2) (x2 true (xFld gg_sections (xVar 0)) (xC (.int 0)) xIdx) xIdx) xLen)))))))
def r_Service_init := runM 2 4 x_Service_init
theorem D_Service_init {C : Ctx} (T : Facts C) : JSs (C.fn ["self", "text", "plans", "section"] (defScope s_Service_init) 5 [0]) (defBody s_Service_init) (xwS x_Service_init) := DSs.ok (C := C.fn ["self", "text", "plans", "section"] (defScope s_Service_init) 5 [0]) (ss := defBody s_Service_init)
    (dss_cons (ds_set 2 nmM (de_call (F_plans_of T).fn (da_cons (de_var 1) da_nil)))
    (dss_cons (ds_if (dt_cmp c_is (dv_var 2) (dv de_non)) (dss_one ds_never) dss_nil)
    (dss_cons (ds_fset (i := 0) T.fl_text.fn (de_var 1))
    (dss_cons (ds_fset (i := 0) T.fl_plans.fn (de_var 2))
    (dss_cons (ds_fset (i := 0) T.fl_sections.fn (de_m1 t_join (dv (de_strE cs__eq)) (dv (de_lc [("section", 3)] (di_tup (de_glb T.g_SECTIONS.fn)) (dg_name 3 nmB) (dts_one (dt_cmp c_in (dv_var 3) (dv_var 2))) (de_var 3)))))
    (dss_one (ds_fset (i := 0) T.fl_size.fn (de_b1 l_len T.b_len (dv_idx (dv_var 2) (dv_idx (dv_fld T.fl_sections.fn (dv_var 0)) (dv de_int)))))))))))
theorem F_Service_init {C : Ctx} (T : Facts C) : MkM C "Service" 1 6 (spXM r_Service_init) := MkM.ofNg (mk_make' rfl 5 T.ng.f_Service_init S_Service_init (D_Service_init T.ng))
theorem S__law_right : FnScope ["_law_cup_here", "_law_guide", "_law_turn", "_law_some", "_law_style", "_law_letter", "_law_errs", "_law_bad", "_law_then", "_law_side", "_law_due", "_law_told_here", "_law_part"] ["_law_cup_here"] (defScope s__law_right) := ⟨rfl, rfl, rfl, by decide +kernel, rfl, by decide +kernel, by decide +kernel⟩
def x__law_right_p1 : XS := (xSeq (xSet 3 (xCallM 0 (xCons (xLst (xCons (xTake 1) (xCons (xTake 1) (xCons (xTake 1) (xCons (xC .non) (xCons (xC (.str cs_startx20Ax201)) (xCons (xC (.int 3)) (xCons (xC (.dct true [] [])) xNil)))))))) xNil) r__law_pick))
    (xSeq (xSet 4 (xCallM 0 (xCons (xLst (xCons (xC (.str cs_all)) (xCons (xC (.str cs_first)) (xCons (xC (.str cs_count)) (xCons (xC (.str cs_All)) (xCons (xC (.str cs_)) (xCons (xC .non) (xCons (xLst (xCons (xC (.str cs_all)) xNil)) (xCons (xC (.int 0)) (xCons (xC (.str cs_alla)) xNil)))))))))) xNil) r__law_pick))
    (xSeq (xSet 5 (xCallM 0 (xCons (xLst (xCons (xC (.str cs_A)) (xCons (xC (.str cs_C)) (xCons (xC (.str cs_A)) (xCons (xC (.str cs_B)) (xCons (xC (.str cs_AC)) (xCons (xC (.str cs_)) (xCons (xC .non) (xCons (xC (.int 1)) (xCons (xLst (xCons (xC (.str cs_A)) xNil)) xNil)))))))))) xNil) r__law_pick))
    (xSeq (xAsg (xCallM 0 xNil r__law_some_errs) (xgTup 2 (xgCons (xgNm 6) (xgCons (xgNm 7) xgNil))))
    (xSeq (xSet 8 (xCallM 0 (xCons (xLst (xCons (xC (.int 0)) (xCons (xC (.int 1)) (xCons (x2 true (xC (.int 10)) (xC (.int 30)) xPow) (xCons (x2 true (x2 true (xC (.int 10)) (xC (.int 30)) xPow) (xC (.int 1)) xAdd) (xCons (x1 (xC (.int 1)) xNeg) (xCons (xC (.bl true)) (xCons (xC .non) (xCons (xC (.str cs_0)) (xCons (xTup (xCons (xC (.int 1)) xNil)) xNil)))))))))) xNil) r__law_pick))
    (xSeq (xSet 9 (xCallM 0 (xCons (xLst (xCons (xC (.int 1)) (xCons (xC (.int 18)) (xCons (xC (.int 6)) (xCons (xC (.int 0)) (xCons (xC (.int 19)) (xCons (xC (.bl true)) (xCons (xC .non) (xCons (xC (.str cs_1)) (xCons (x1 (xC (.int 1)) xNeg) xNil)))))))))) xNil) r__law_pick))
    (xSeq (xSet 10 (xIf (xTru (x1 (xVar 3) (xIsi (fiOX 1)))) (xLst xNil) (xLst (xCons (xLst (xCons (xC (.int 10)) (xCons (x1 (xVar 3) xReprD) xNil))) xNil))))
    (xSeq (xSet 10 (x2 true (xVar 10) (xIf (xAnd (xTru (x1 (xVar 4) (xIsi (fiB "str")))) (xTest (x2 true (xVar 4) (xLst (xCons (xC (.str cs_all)) (xCons (xC (.str cs_first)) (xCons (xC (.str cs_count)) xNil)))) xIn))) (xLst xNil) (xLst (xCons (xLst (xCons (xC (.int 2)) (xCons (x1 (xVar 4) xReprD) xNil))) xNil))) xAdd))
    (xSeq (xIfS (xTru (x1 (xVar 3) (xIsi (fiOX 1)))) (xSet 10 (x2 true (xVar 10) (xIf (xAnd (xTru (x1 (xVar 5) (xIsi (fiB "str")))) (xTest (x2 true (xVar 5) (xLst (xCons (xC (.str cs_A)) (xCons (xC (.str cs_C)) xNil))) xIn))) (xLst xNil) (xLst (xCons (xLst (xCons (xC (.int 1)) (xCons (x1 (xVar 5) xReprD) xNil))) xNil))) xAdd)) xSkip)
    (xSeq (xIfS (xTest (x2 true (xVar 7) (x1 (xC (.int 1)) xNeg) xNe)) (xApp 10 (xFrz (xLst (xCons (xC (.int 11)) (xCons (x1 (xIf (xTest (x2 true (xVar 7) (x1 (xC (.int 2)) xNeg) xEq)) (xC .non) (xVar 7)) xReprD) xNil))))) xSkip)
    (xSeq (xIfS (xOr (xNot (xTru (x1 (xVar 8) (xIsi (fiB "int"))))) (xOr (xTru (x1 (xVar 8) (xIsi (fiB "bool")))) (xNot (xTest (xChain true true (xC (.int 0)) (xVar 8) (x2 true (xC (.int 10)) (xC (.int 30)) xPow) xLe xLe))))) (xApp 10 (xFrz (xLst (xCons (xC (.int 3)) (xCons (x1 (xVar 8) xReprD) xNil))))) xSkip)
    (xSeq (xSet 11 (xLst (xCons (xLam rc__law_caught (yCall (xCons (xTake 3) (xCons (xTake 4) (xCons (xTake 5) (xCons (xTake 6) (xCons (xTake 8) xNil))))) rx_row)) xNil)))
    (xSeq (xApp 11 (xFrz (xLam rc__law_caught (yCallK 5 [4, 3, 2, 1, 0] (xCons (xTake 8) (xCons (xTake 6) (xCons (xTake 5) (xCons (xTake 4) (xCons (xTake 3) xNil))))) rx_wrong))))
    (xSeq (xApp 11 (xFrz (xLam rc__law_caught (yCall (xCons (xTake 3) (xCons (xTake 4) (xCons (xTake 5) (xCons (xTake 6) (xCons (xTake 8) xNil))))) rx_is_right))))
    (xSeq (xIfS (xTest (x2 true (xLc (xInL (xTake 11)) (xgNm 12) (xTest (x2 true (xSl true (xVar 12) xNoPart (xPart (xC (.int 2)))) (xOrL (xCallF 10 r__law_first) (xSl true (xVar 12) xNoPart (xPart (xC (.int 2))))) xNe)) (xTake 12) [12]) (xLst xNil) xNe)) (xRet (xC (.bl false))) xSkip)
    (xSeq (xIfS (xAnd (xTest (x2 true (xVar 10) (xLst xNil) xEq)) (xTest (x2 true (xLc (xInL (xTake 11)) (xgNm 12) xYes (xOf (x2 true (xVar 12) (xC (.int 0)) xIdx)) [12]) (x2 true (xLst (xCons (xC (.str cs_given)) xNil)) (xC (.int 3)) xMul) xNe))) (xRet (xC (.bl false))) xSkip)
    (xSeq (xIfS (xOr (xNot (xTru (x1 (xVar 9) (xIsi (fiB "int"))))) (xOr (xTru (x1 (xVar 9) (xIsi (fiB "bool")))) (xNot (xTest (xChain true true (xC (.int 1)) (xVar 9) (xC (.int 18)) xLe xLe))))) (xApp 10 (xFrz (xLst (xCons (xC (.int 4)) (xCons (x1 (xVar 9) xReprD) xNil))))) xSkip)
    (xSeq (xSet 11 (xLst (xCons (xLam rc__law_caught (yCall (xCons (xTake 3) (xCons (xTake 4) (xCons (xTake 5) (xCons (xTake 6) (xCons (xTake 8) (xCons (xTake 9) xNil)))))) rx_read)) xNil)))
    (xSeq (xApp 11 (xFrz (xLam rc__law_caught (yCallK 6 [5, 4, 3, 2, 1, 0] (xCons (xTake 9) (xCons (xTake 8) (xCons (xTake 6) (xCons (xTake 5) (xCons (xTake 4) (xCons (xTake 3) xNil)))))) rx_read))))
    (xIfS (xOr (xAnd (xTest (x2 true (xVar 10) (xLst xNil) xEq)) (xTest (x2 true (xLc (xInL (xTake 11)) (xgNm 12) xYes (xOf (x2 true (xVar 12) (xC (.int 0)) xIdx)) [12]) (x2 true (xLst (xCons (xC (.str cs_given)) xNil)) (xC (.int 2)) xMul) xNe))) (xAnd (xTest (x2 true (xVar 10) (xLst xNil) xNe)) (xTest (x2 true (xVar 11) (x2 true (xLst (xCons (xOf (x2 true (xVar 10) (xC (.int 0)) xIdx)) xNil)) (xC (.int 2)) xMul) xNe)))) (xRet (xC (.bl false))) xSkip))))))))))))))))))))
set_option maxHeartbeats 1000000 in
theorem D__law_right_p1 {C : Ctx} (T : Facts C) (hq : C.gd = true) (c0 : Addr) (hl : LamAt (C.fnq ["_law_cup_here", "_law_guide", "_law_turn", "_law_some", "_law_style", "_law_letter", "_law_errs", "_law_bad", "_law_then", "_law_side", "_law_due", "_law_told_here", "_law_part"] (defScope s__law_right) 12 [0] c0 (("_law_right" : Str) ++ ".<locals>."))) : JSs (C.fnq ["_law_cup_here", "_law_guide", "_law_turn", "_law_some", "_law_style", "_law_letter", "_law_errs", "_law_bad", "_law_then", "_law_side", "_law_due", "_law_told_here", "_law_part"] (defScope s__law_right) 12 [0] c0 (("_law_right" : Str) ++ ".<locals>.")) (forB ((defBody s__law_right).getD 1 (.Pass ⟨0, 0, 0, 0⟩))) (xwS x__law_right_p1) := DSs.ok (C := C.fnq ["_law_cup_here", "_law_guide", "_law_turn", "_law_some", "_law_style", "_law_letter", "_law_errs", "_law_bad", "_law_then", "_law_side", "_law_due", "_law_told_here", "_law_part"] (defScope s__law_right) 12 [0] c0 (("_law_right" : Str) ++ ".<locals>.")) (ss := forB ((defBody s__law_right).getD 1 (.Pass ⟨0, 0, 0, 0⟩)))
    (dss_cons (ds_set 3 nmMq (de_callM 0 (F__law_pick T).fnq (da_cons (de_lst (da_cons (de_var 1) (da_cons (de_var 1) (da_cons (de_var 1) (da_cons de_non (da_cons (de_strE cs_startx20Ax201_eq) (da_cons de_int (da_cons de_dnew da_nil)))))))) da_nil)))
    (dss_cons (ds_set 4 nmMq (de_callM 0 (F__law_pick T).fnq (da_cons (de_lst (da_cons (de_strE cs_all_eq) (da_cons (de_strE cs_first_eq) (da_cons (de_strE cs_count_eq) (da_cons (de_strE cs_All_eq) (da_cons (de_strE cs__eq) (da_cons de_non (da_cons (de_lst (da_cons (de_strE cs_all_eq) da_nil)) (da_cons de_int (da_cons (de_strE cs_alla_eq) da_nil)))))))))) da_nil)))
    (dss_cons (ds_set 5 nmMq (de_callM 0 (F__law_pick T).fnq (da_cons (de_lst (da_cons (de_strE cs_A_eq) (da_cons (de_strE cs_C_eq) (da_cons (de_strE cs_A_eq) (da_cons (de_strE cs_B_eq) (da_cons (de_strE cs_AC_eq) (da_cons (de_strE cs__eq) (da_cons de_non (da_cons de_int (da_cons (de_lst (da_cons (de_strE cs_A_eq) da_nil)) da_nil)))))))))) da_nil)))
    (dss_cons (ds_asg (de_callM 0 (F__law_some_errs T).fnq da_nil) (dg_tup 2 (dgs_cons (dg_name 6 nmMq) (dgs_cons (dg_name 7 nmMq) dgs_nil))))
    (dss_cons (ds_set 8 nmMq (de_callM 0 (F__law_pick T).fnq (da_cons (de_lst (da_cons de_int (da_cons de_int (da_cons (de_pow (dv de_int) (dv de_int)) (da_cons (de_add (dv (de_pow (dv de_int) (dv de_int))) (dv de_int)) (da_cons (de_neg (dv de_int)) (da_cons de_bl (da_cons de_non (da_cons (de_strE cs_0_eq) (da_cons (de_tup (da_cons de_int da_nil)) da_nil)))))))))) da_nil)))
    (dss_cons (ds_set 9 nmMq (de_callM 0 (F__law_pick T).fnq (da_cons (de_lst (da_cons de_int (da_cons de_int (da_cons de_int (da_cons de_int (da_cons de_int (da_cons de_bl (da_cons de_non (da_cons (de_strE cs_1_eq) (da_cons (de_neg (dv de_int)) da_nil)))))))))) da_nil)))
    (dss_cons (ds_set 10 nmMq (de_if (dt_tru (dv (de_isiO T.i_Service.fnq T.b_isinstance (dv_var 3)))) (de_lst da_nil) (de_lst (da_cons (de_lst (da_cons de_int (da_cons (de_b1r (l_reprD hq) T.b_repr (dv_var 3)) da_nil))) da_nil))))
    (dss_cons (ds_set 10 nmMq (de_add (dv_var 10) (dv_if (dt_w (dw_and (dt_tru (dv (de_isi (u := .type "str") isi_ty (.ty _) (.inl ⟨T.b_str, rfl, by decide⟩) T.b_isinstance (dv_var 4)))) (dw_and1 (dt_cmp c_in (dv_var 4) (dv (de_lst (da_cons (de_strE cs_all_eq) (da_cons (de_strE cs_first_eq) (da_cons (de_strE cs_count_eq) da_nil))))))))) (dv (de_lst da_nil)) (dv (de_lst (da_cons (de_lst (da_cons de_int (da_cons (de_b1r (l_reprD hq) T.b_repr (dv_var 4)) da_nil))) da_nil))))))
    (dss_cons (ds_if (dt_tru (dv (de_isiO T.i_Service.fnq T.b_isinstance (dv_var 3)))) (dss_one (ds_set 10 nmMq (de_add (dv_var 10) (dv_if (dt_w (dw_and (dt_tru (dv (de_isi (u := .type "str") isi_ty (.ty _) (.inl ⟨T.b_str, rfl, by decide⟩) T.b_isinstance (dv_var 5)))) (dw_and1 (dt_cmp c_in (dv_var 5) (dv (de_lst (da_cons (de_strE cs_A_eq) (da_cons (de_strE cs_C_eq) da_nil)))))))) (dv (de_lst da_nil)) (dv (de_lst (da_cons (de_lst (da_cons de_int (da_cons (de_b1r (l_reprD hq) T.b_repr (dv_var 5)) da_nil))) da_nil))))))) dss_nil)
    (dss_cons (ds_if (dt_cmp c_ne (dv_var 7) (dv (de_neg (dv de_int)))) (dss_one (ds_app 10 (de_frz (de_lst (da_cons de_int (da_cons (de_b1r (l_reprD hq) T.b_repr (dv_if (dt_cmp c_eq (dv_var 7) (dv (de_neg (dv de_int)))) (dv de_non) (dv_var 7))) da_nil)))))) dss_nil)
    (dss_cons (ds_if (dt_w (dw_or (dt_not (dt_tru (dv (de_isi (u := .type "int") isi_ty (.ty _) (.inl ⟨T.b_int, rfl, by decide⟩) T.b_isinstance (dv_var 8))))) (dw_or (dt_tru (dv (de_isi (u := .type "bool") isi_ty (.ty _) (.inl ⟨T.b_bool, rfl, by decide⟩) T.b_isinstance (dv_var 8)))) (dw_or1 (dt_not (dt_chain c_le c_le (dv de_int) (dv_var 8) (dv (de_pow (dv de_int) (dv de_int))))))))) (dss_one (ds_app 10 (de_frz (de_lst (da_cons de_int (da_cons (de_b1r (l_reprD hq) T.b_repr (dv_var 8)) da_nil)))))) dss_nil)
    (dss_cons (ds_set 11 nmMq (de_lst (da_cons (de_lam (CA__law_caught T hq 10).fnq hl (dex_call (F_row T).fnq.lam (da_cons (de_var 3) (da_cons (de_var 4) (da_cons (de_var 5) (da_cons (de_var 6) (da_cons (de_var 8) da_nil))))) (by exact Nat.le_of_ble_eq_true rfl))) da_nil)))
    (dss_cons (ds_app 11 (de_frz (de_lam (CA__law_caught T hq 10).fnq hl (dex_callKW (FK_wrong_0 T).fnq.lam (dk_cons (de_var 8) (dk_cons (de_var 6) (dk_cons (de_var 5) (dk_cons (de_var 4) (dk_cons (de_var 3) dk_nil)))))))))
    (dss_cons (ds_app 11 (de_frz (de_lam (CA__law_caught T hq 10).fnq hl (dex_call (F_is_right T).fnq.lam (da_cons (de_var 3) (da_cons (de_var 4) (da_cons (de_var 5) (da_cons (de_var 6) (da_cons (de_var 8) da_nil))))) (by exact Nat.le_of_ble_eq_true rfl)))))
    (dss_cons (ds_if (dt_cmp c_ne (dv (de_lc [("_law_part", 12)] (di_lst (de_var 11)) (dg_name 12 nmB) (dts_one (dt_cmp c_ne (dv (de_slice (dv_var 12) do_none (do_some (dv de_int)))) (dv (de_orL (de_callF 10 (F__law_first T).fnq.blk) (de_slice (dv_var 12) do_none (do_some (dv de_int))))))) (de_var 12))) (dv (de_lst da_nil))) (dss_one (ds_ret de_bl)) dss_nil)
    (dss_cons (ds_if (dt_w (dw_and (dt_cmp c_eq (dv_var 10) (dv (de_lst da_nil))) (dw_and1 (dt_cmp c_ne (dv (de_lc [("_law_part", 12)] (di_lst (de_var 11)) (dg_name 12 nmB) dts_nil (de_of (dv_idx (dv_var 12) (dv de_int))))) (dv (de_mul (dv (de_lst (da_cons (de_strE cs_given_eq) da_nil))) (dv de_int))))))) (dss_one (ds_ret de_bl)) dss_nil)
    (dss_cons (ds_if (dt_w (dw_or (dt_not (dt_tru (dv (de_isi (u := .type "int") isi_ty (.ty _) (.inl ⟨T.b_int, rfl, by decide⟩) T.b_isinstance (dv_var 9))))) (dw_or (dt_tru (dv (de_isi (u := .type "bool") isi_ty (.ty _) (.inl ⟨T.b_bool, rfl, by decide⟩) T.b_isinstance (dv_var 9)))) (dw_or1 (dt_not (dt_chain c_le c_le (dv de_int) (dv_var 9) (dv de_int))))))) (dss_one (ds_app 10 (de_frz (de_lst (da_cons de_int (da_cons (de_b1r (l_reprD hq) T.b_repr (dv_var 9)) da_nil)))))) dss_nil)
    (dss_cons (ds_set 11 nmMq (de_lst (da_cons (de_lam (CA__law_caught T hq 10).fnq hl (dex_call (F_read T).fnq.lam (da_cons (de_var 3) (da_cons (de_var 4) (da_cons (de_var 5) (da_cons (de_var 6) (da_cons (de_var 8) (da_cons (de_var 9) da_nil)))))) (by exact Nat.le_of_ble_eq_true rfl))) da_nil)))
    (dss_cons (ds_app 11 (de_frz (de_lam (CA__law_caught T hq 10).fnq hl (dex_callKW (FK_read_0 T).fnq.lam (dk_cons (de_var 9) (dk_cons (de_var 8) (dk_cons (de_var 6) (dk_cons (de_var 5) (dk_cons (de_var 4) (dk_cons (de_var 3) dk_nil))))))))))
    (dss_one (ds_if (dt_w (dw_or (dt_w (dw_and (dt_cmp c_eq (dv_var 10) (dv (de_lst da_nil))) (dw_and1 (dt_cmp c_ne (dv (de_lc [("_law_part", 12)] (di_lst (de_var 11)) (dg_name 12 nmB) dts_nil (de_of (dv_idx (dv_var 12) (dv de_int))))) (dv (de_mul (dv (de_lst (da_cons (de_strE cs_given_eq) da_nil))) (dv de_int))))))) (dw_or1 (dt_w (dw_and (dt_cmp c_ne (dv_var 10) (dv (de_lst da_nil))) (dw_and1 (dt_cmp c_ne (dv_var 11) (dv (de_mul (dv (de_lst (da_cons (de_of (dv_idx (dv_var 10) (dv de_int))) da_nil))) (dv de_int)))))))))) (dss_one (ds_ret de_bl)) dss_nil)))))))))))))))))))))
def x__law_right : XS := (xSeq (xSet 1 (xMake 1 (xCons (xC (.str cs_startx20Ax201x202x0astartx20Cx203x0apacketx0aAx20pagesx201x0aCx20pagesx206)) xNil) r_Service_init))
    (xSeq (xFor (xRng1 (xCons (xC (.int 8)) xNil)) (xgNm 2) x__law_right_p1)
    (xRet (xC (.bl true)))))
def r__law_right := runM 1 13 x__law_right
set_option maxHeartbeats 2000000 in
theorem D__law_right {C : Ctx} (T : Facts C) (hq : C.gd = true) (c0 : Addr) (hl : LamAt (C.fnq ["_law_cup_here", "_law_guide", "_law_turn", "_law_some", "_law_style", "_law_letter", "_law_errs", "_law_bad", "_law_then", "_law_side", "_law_due", "_law_told_here", "_law_part"] (defScope s__law_right) 12 [0] c0 (("_law_right" : Str) ++ ".<locals>."))) : JSs (C.fnq ["_law_cup_here", "_law_guide", "_law_turn", "_law_some", "_law_style", "_law_letter", "_law_errs", "_law_bad", "_law_then", "_law_side", "_law_due", "_law_told_here", "_law_part"] (defScope s__law_right) 12 [0] c0 (("_law_right" : Str) ++ ".<locals>.")) (defBody s__law_right) (xwS x__law_right) := DSs.ok (C := C.fnq ["_law_cup_here", "_law_guide", "_law_turn", "_law_some", "_law_style", "_law_letter", "_law_errs", "_law_bad", "_law_then", "_law_side", "_law_due", "_law_told_here", "_law_part"] (defScope s__law_right) 12 [0] c0 (("_law_right" : Str) ++ ".<locals>.")) (ss := defBody s__law_right)
    (dss_cons (ds_set 1 nmMq (de_make (F_Service_init T).fnq (da_cons (de_strE cs_startx20Ax201x202x0astartx20Cx203x0apacketx0aAx20pagesx201x0aCx20pagesx206_eq) da_nil)))
    (dss_cons (ds_for (di_rng1 T.b_range (da_cons de_int da_nil)) (dg_name 2 nmMq) (dss_of (D__law_right_p1 T hq c0 hl)))
    (dss_one (ds_ret de_bl))))
theorem F__law_right {C : Ctx} (T : Facts C) (hq : C.gd = true) : FnGM C "_law_right" 13 (spXM r__law_right) := mk_fnGMq' (k := 12) T.f__law_right S__law_right (fun c0 hl => D__law_right T hq c0 hl)
theorem S_law : FnScope ["_law_script", "_law_spot"] ["_law_script"] (defScope s_law) := ⟨rfl, rfl, rfl, by decide +kernel, rfl, by decide +kernel, by decide +kernel⟩
def x_law : XS := (xRet (x1 (xLc (xRng1 (xCons (x2 true (xC (.int 2)) (x2 true (x1 (xVar 0) xLen) (xC (.int 6)) xMin2) xMax2) xNil)) (xgNm 1) xYes (xCallT (xCall (xCons (xTake 0) (xCons (xTake 1) xNil)) r__law_cup) xNil r__law_right) [1]) (xBools fun bs => bs.all id)))
theorem D_law {C : Ctx} (T : Facts C) (hq : C.gd = true) : JSs (C.fn ["_law_script", "_law_spot"] (defScope s_law) 13 []) (defBody s_law) (xwS x_law) := DSs.ok (C := C.fn ["_law_script", "_law_spot"] (defScope s_law) 13 []) (ss := defBody s_law)
    (dss_one (ds_ret (de_b1 l_all T.b_all (dv (de_lc [("_law_spot", 1)] (di_rng1 T.b_range (da_cons (de_b2 l_max2 T.b_max (dv de_int) (dv (de_b2 l_min2 T.b_min (dv (de_b1 l_len T.b_len (dv_var 0))) (dv de_int)))) da_nil)) (dg_name 1 nmB) dts_nil (de_callGT hq (F__law_right T hq).fn.blk (de_call (F__law_cup T).fn.blk (da_cons (de_var 0) (da_cons (de_var 1) da_nil))) da_nil))))))
set_option maxHeartbeats 0 in
theorem facts_mk {K : PySem.W.Frag} {mg : Str → Option Value} {h : Heap} (X : K.In h) (G : h.Ns mainGlobals mg)
    {A_Entry : Addr}
    (c_Entry : ClsIn K "Entry" A_Entry)
    (n_Entry_ahead : PySem.W.findIn K (.ref A_Entry) "ahead" = some none)
    (n_Entry_changed : PySem.W.findIn K (.ref A_Entry) "changed" = some none)
    (n_Entry_in_labels : PySem.W.findIn K (.ref A_Entry) "in_labels" = some none)
    (n_Entry_out_labels : PySem.W.findIn K (.ref A_Entry) "out_labels" = some none)
    (n_Entry_behind : PySem.W.findIn K (.ref A_Entry) "behind" = some none)
    (n_Entry_runs : PySem.W.findIn K (.ref A_Entry) "runs" = some none)
    (mk_Entry : PySem.W.makesIn K A_Entry = true)
    (kp_Entry : PySem.W.keepIn K (.ref A_Entry) = true)
    {A_Service : Addr}
    (c_Service : ClsIn K "Service" A_Service)
    (n_Service_text : PySem.W.findIn K (.ref A_Service) "text" = some none)
    (n_Service_plans : PySem.W.findIn K (.ref A_Service) "plans" = some none)
    (n_Service_sections : PySem.W.findIn K (.ref A_Service) "sections" = some none)
    (n_Service_size : PySem.W.findIn K (.ref A_Service) "size" = some none)
    (mk_Service : PySem.W.makesIn K A_Service = true)
    (kp_Service : PySem.W.keepIn K (.ref A_Service) = true)
    {A_Course : Addr}
    (c_Course : ClsIn K "Course" A_Course)
    (n_Course_plan : PySem.W.findIn K (.ref A_Course) "plan" = some none)
    (n_Course_manner : PySem.W.findIn K (.ref A_Course) "manner" = some none)
    (n_Course_number : PySem.W.findIn K (.ref A_Course) "number" = some none)
    (n_Course_state : PySem.W.findIn K (.ref A_Course) "state" = some none)
    (mk_Course : PySem.W.makesIn K A_Course = true)
    (kp_Course : PySem.W.keepIn K (.ref A_Course) = true)
    (z_ : PySem.W.nsIn K mainGlobals "" = some none)
    (hn_ : PySem.W.specialIn K (.builtin "object.__class__") "__get__" = some (some (.builtin "getset_descriptor.__get__")))
    (ht_ : PySem.W.takesIn K (.builtin "object.__class__") = some true)
    (ha_Entry : PySem.W.findIn K (.ref A_Entry) "__class__" = some (some (.builtin "object.__class__")))
    (hm_Entry : PySem.W.mroIn K A_Entry (.type "object") = some true)
    (ha_Service : PySem.W.findIn K (.ref A_Service) "__class__" = some (some (.builtin "object.__class__")))
    (hm_Service : PySem.W.mroIn K A_Service (.type "object") = some true)
    (ha_Course : PySem.W.findIn K (.ref A_Course) "__class__" = some (some (.builtin "object.__class__")))
    (hm_Course : PySem.W.mroIn K A_Course (.type "object") = some true)
    (ic_Service : PySem.W.isClsIn K A_Service = true)
    (it_Service : PySem.W.typeIn K (.ref A_Service) = some (.type "type"))
    (m_Entry_Service : PySem.W.mroIn K A_Entry (.ref A_Service) = some false)
    (m_Service_Service : PySem.W.mroIn K A_Service (.ref A_Service) = some true)
    (m_Course_Service : PySem.W.mroIn K A_Course (.ref A_Service) = some false)
    {P : Program}
    (top_ : (P.main.scope.names.lookup ("super" : Str)).isSome = false)
    (eall : excAll TB nsX K = true)
    (b_abs : PySem.W.nsIn K mainGlobals "abs" = some none)
    (b_all : PySem.W.nsIn K mainGlobals "all" = some none)
    (b_any : PySem.W.nsIn K mainGlobals "any" = some none)
    (b_bool : PySem.W.nsIn K mainGlobals "bool" = some none)
    (b_divmod : PySem.W.nsIn K mainGlobals "divmod" = some none)
    (b_enumerate : PySem.W.nsIn K mainGlobals "enumerate" = some none)
    (b_int : PySem.W.nsIn K mainGlobals "int" = some none)
    (b_isinstance : PySem.W.nsIn K mainGlobals "isinstance" = some none)
    (b_len : PySem.W.nsIn K mainGlobals "len" = some none)
    (b_list : PySem.W.nsIn K mainGlobals "list" = some none)
    (b_max : PySem.W.nsIn K mainGlobals "max" = some none)
    (b_min : PySem.W.nsIn K mainGlobals "min" = some none)
    (b_range : PySem.W.nsIn K mainGlobals "range" = some none)
    (b_repr : PySem.W.nsIn K mainGlobals "repr" = some none)
    (b_sorted : PySem.W.nsIn K mainGlobals "sorted" = some none)
    (b_str : PySem.W.nsIn K mainGlobals "str" = some none)
    (b_tuple : PySem.W.nsIn K mainGlobals "tuple" = some none)
    (f_Course_go : MethIn K A_Course "go" "Course.go" s_Course_go)
    (f_Course_go_to : MethIn K A_Course "go_to" "Course.go_to" s_Course_go_to)
    (f_Course_init : MethIn K A_Course "__init__" "Course.__init__" s_Course_init)
    (f_Entry_init : MethIn K A_Entry "__init__" "Entry.__init__" s_Entry_init)
    (f_Service_init : MethIn K A_Service "__init__" "Service.__init__" s_Service_init)
    (f__law_caught : DefIn K "_law_caught" "_law_caught" s__law_caught)
    (f__law_cup : DefIn K "_law_cup" "_law_cup" s__law_cup)
    (f__law_first : DefIn K "_law_first" "_law_first" s__law_first)
    (f__law_pick : DefIn K "_law_pick" "_law_pick" s__law_pick)
    (f__law_right : DefIn K "_law_right" "_law_right" s__law_right)
    (lam__law_right : LamK h K "_law_right")
    (f__law_sip : DefIn K "_law_sip" "_law_sip" s__law_sip)
    (f__law_some_errs : DefIn K "_law_some_errs" "_law_some_errs" s__law_some_errs)
    (f_aged : DefIn K "aged" "aged" s_aged)
    (f_check_all : DefIn K "check_all" "check_all" s_check_all)
    (f_check_manner : DefIn K "check_manner" "check_manner" s_check_manner)
    (f_check_moment : DefIn K "check_moment" "check_moment" s_check_moment)
    (f_check_page : DefIn K "check_page" "check_page" s_check_page)
    (f_check_place : DefIn K "check_place" "check_place" s_check_place)
    (f_check_section : DefIn K "check_section" "check_section" s_check_section)
    (f_check_service : DefIn K "check_service" "check_service" s_check_service)
    (f_check_slips : DefIn K "check_slips" "check_slips" s_check_slips)
    (f_entries_of : DefIn K "entries_of" "entries_of" s_entries_of)
    (f_filed : DefIn K "filed" "filed" s_filed)
    (f_first_bad_slip : DefIn K "first_bad_slip" "first_bad_slip" s_first_bad_slip)
    (f_handled : DefIn K "handled" "handled" s_handled)
    (f_is_between : DefIn K "is_between" "is_between" s_is_between)
    (f_is_one_of : DefIn K "is_one_of" "is_one_of" s_is_one_of)
    (f_is_page : DefIn K "is_page" "is_page" s_is_page)
    (f_is_right : DefIn K "is_right" "is_right" s_is_right)
    (f_is_side_good : DefIn K "is_side_good" "is_side_good" s_is_side_good)
    (f_is_slip : DefIn K "is_slip" "is_slip" s_is_slip)
    (f_is_sound : DefIn K "is_sound" "is_sound" s_is_sound)
    (f_is_told_right : DefIn K "is_told_right" "is_told_right" s_is_told_right)
    (f_labels_at : DefIn K "labels_at" "labels_at" s_labels_at)
    (f_labels_of : DefIn K "labels_of" "labels_of" s_labels_of)
    (f_law : DefIn K "law" "law" s_law)
    (f_leaf_of : DefIn K "leaf_of" "leaf_of" s_leaf_of)
    (f_numbers_of : DefIn K "numbers_of" "numbers_of" s_numbers_of)
    (f_packets_in : DefIn K "packets_in" "packets_in" s_packets_in)
    (f_pages_wrong : DefIn K "pages_wrong" "pages_wrong" s_pages_wrong)
    (f_place_for : DefIn K "place_for" "place_for" s_place_for)
    (f_plans_of : DefIn K "plans_of" "plans_of" s_plans_of)
    (f_put : DefIn K "put" "put" s_put)
    (f_read : DefIn K "read" "read" s_read)
    (f_read_in : DefIn K "read_in" "read_in" s_read_in)
    (f_right_row : DefIn K "right_row" "right_row" s_right_row)
    (f_row : DefIn K "row" "row" s_row)
    (f_runs_of : DefIn K "runs_of" "runs_of" s_runs_of)
    (f_starts_in : DefIn K "starts_in" "starts_in" s_starts_in)
    (f_state_at : DefIn K "state_at" "state_at" s_state_at)
    (f_taken : DefIn K "taken" "taken" s_taken)
    (f_turned : DefIn K "turned" "turned" s_turned)
    (f_without_first : DefIn K "without_first" "without_first" s_without_first)
    (f_wrong : DefIn K "wrong" "wrong" s_wrong)
    {t_GREATEST : Tok}
    (g_GREATEST : PySem.W.nsIn K mainGlobals "GREATEST" = some (some (.int 1000000000000000000000000000000 t_GREATEST)))
    (g_HEADS : TupIn K "HEADS" [.str cs_pages, .str cs_new, .str cs_gone])
    (g_KINDS : TupIn K "KINDS" [.str cs_ins, .str cs_late, .str cs_outs, .str cs_skip, .str cs_twice])
    (g_MANNERS : TupIn K "MANNERS" [.str cs_all, .str cs_first, .str cs_count])
    {t_MOST_LABEL : Tok}
    (g_MOST_LABEL : PySem.W.nsIn K mainGlobals "MOST_LABEL" = some (some (.int 9 t_MOST_LABEL)))
    {t_MOST_LEAVES : Tok}
    (g_MOST_LEAVES : PySem.W.nsIn K mainGlobals "MOST_LEAVES" = some (some (.int 8 t_MOST_LEAVES)))
    {t_MOST_PACKETS : Tok}
    (g_MOST_PACKETS : PySem.W.nsIn K mainGlobals "MOST_PACKETS" = some (some (.int 6 t_MOST_PACKETS)))
    {t_MOST_SLIPS : Tok}
    (g_MOST_SLIPS : PySem.W.nsIn K mainGlobals "MOST_SLIPS" = some (some (.int 3 t_MOST_SLIPS)))
    (g_SECTIONS : TupIn K "SECTIONS" [.str cs_A, .str cs_B, .str cs_C])
    (hdb__law_caught_0 : hdB' TB ["InvalidText", "InvalidSection", "InvalidManner", "InvalidMoment", "InvalidPage", "InvalidWord"] hdm__law_caught_0l K = true)
    (hdb__law_caught_1 : hdB' TB ["InvalidMany", "InvalidKind", "InvalidNumber", "InvalidIndex", "NotAService"] hdm__law_caught_1l K = true)
    (hdb__law_caught_2 : hdB' TB ["InvalidSlips", "InvalidLists"] hdm__law_caught_2l K = true)
    (ixb_InvalidIndex : isxB TB "InvalidIndex" ixf_InvalidIndexl K = true)
    (ixb_InvalidKind : isxB TB "InvalidKind" ixf_InvalidKindl K = true)
    (ixb_InvalidLists : isxB TB "InvalidLists" ixf_InvalidListsl K = true)
    (ixb_InvalidManner : isxB TB "InvalidManner" ixf_InvalidMannerl K = true)
    (ixb_InvalidMany : isxB TB "InvalidMany" ixf_InvalidManyl K = true)
    (ixb_InvalidMoment : isxB TB "InvalidMoment" ixf_InvalidMomentl K = true)
    (ixb_InvalidNumber : isxB TB "InvalidNumber" ixf_InvalidNumberl K = true)
    (ixb_InvalidPage : isxB TB "InvalidPage" ixf_InvalidPagel K = true)
    (ixb_InvalidSection : isxB TB "InvalidSection" ixf_InvalidSectionl K = true)
    (ixb_InvalidText : isxB TB "InvalidText" ixf_InvalidTextl K = true)
    (ixb_InvalidWord : isxB TB "InvalidWord" ixf_InvalidWordl K = true)
    (ixb_NotAService : isxB TB "NotAService" ixf_NotAServicel K = true)
    (ini_InvalidManner : iniW K "InvalidManner" = (InD.mk "InvalidManner" "InvalidManner.__init__" s_InvalidManner_init).val)
    (inb_InvalidManner : iniB P "InvalidManner" "InvalidManner.__init__" "given" K = true)
    (ini_InvalidMoment : iniW K "InvalidMoment" = (InD.mk "InvalidMoment" "InvalidMoment.__init__" s_InvalidMoment_init).val)
    (inb_InvalidMoment : iniB P "InvalidMoment" "InvalidMoment.__init__" "given" K = true)
    (ini_InvalidPage : iniW K "InvalidPage" = (InD.mk "InvalidPage" "InvalidPage.__init__" s_InvalidPage_init).val)
    (inb_InvalidPage : iniB P "InvalidPage" "InvalidPage.__init__" "given" K = true)
    (ini_InvalidSection : iniW K "InvalidSection" = (InD.mk "InvalidSection" "InvalidSection.__init__" s_InvalidSection_init).val)
    (inb_InvalidSection : iniB P "InvalidSection" "InvalidSection.__init__" "given" K = true)
    (ini_InvalidSlips : iniW K "InvalidSlips" = (InD.mk "InvalidSlips" "InvalidSlips.__init__" s_InvalidSlips_init).val)
    (inb_InvalidSlips : iniB P "InvalidSlips" "InvalidSlips.__init__" "index" K = true)
    (ini_NotAService : iniW K "NotAService" = (InD.mk "NotAService" "NotAService.__init__" s_NotAService_init).val)
    (inb_NotAService : iniB P "NotAService" "NotAService.__init__" "given" K = true)
    (xfb_given : xfxB TB "given" xff_givenl K = true)
    (xfb_index : xfxB TB "index" xff_indexl K = true)
    : DefIn K "law" "law" s_law ∧ ∀ C : Ctx, C.P = P → C.K = K → C.mg = mg → C.T = TB → C.exo = none → C.tb = (tblX K).map (fun p => (p.1, fun _ _ => p.2)) → (∀ x ∈ lmX, LamX.TabB C.base C.mg (tabP K x).1 (tabP K x).2) → Facts C := by
  refine ⟨f_law, ?_⟩
  rintro C hP rfl rfl hT hexo htb hTB
  have o_Entry : ClsOk C 0 := ClsIn.ok X G c_Entry (by rw [hT]; rfl) (by rw [hT]; decide +kernel) (by rw [hT]; exact List.forall_mem_cons.mpr ⟨n_Entry_ahead, List.forall_mem_cons.mpr ⟨n_Entry_changed, List.forall_mem_cons.mpr ⟨n_Entry_in_labels, List.forall_mem_cons.mpr ⟨n_Entry_out_labels, List.forall_mem_cons.mpr ⟨n_Entry_behind, List.forall_mem_cons.mpr ⟨n_Entry_runs, fun f hf => nomatch hf⟩⟩⟩⟩⟩⟩)
  have o_Service : ClsOk C 1 := ClsIn.ok X G c_Service (by rw [hT]; rfl) (by rw [hT]; decide +kernel) (by rw [hT]; exact List.forall_mem_cons.mpr ⟨n_Service_text, List.forall_mem_cons.mpr ⟨n_Service_plans, List.forall_mem_cons.mpr ⟨n_Service_sections, List.forall_mem_cons.mpr ⟨n_Service_size, fun f hf => nomatch hf⟩⟩⟩⟩)
  have o_Course : ClsOk C 2 := ClsIn.ok X G c_Course (by rw [hT]; rfl) (by rw [hT]; decide +kernel) (by rw [hT]; exact List.forall_mem_cons.mpr ⟨n_Course_plan, List.forall_mem_cons.mpr ⟨n_Course_manner, List.forall_mem_cons.mpr ⟨n_Course_number, List.forall_mem_cons.mpr ⟨n_Course_state, fun f hf => nomatch hf⟩⟩⟩⟩)
  have i_Service : IsiO C "Service" (fiOX 1) := isiO_ofX X G c_Service (kitB_of ic_Service it_Service) fun j A' hj e => match j, A', hj, e with
    | 0, A', _, e => by
      have e2 : C.mg "Entry" = some (Value.ref A') := by rw [hT] at e; exact e
      have e' : some (Value.ref A_Entry) = some (Value.ref A') := (PySem.W.mg_of X G c_Entry.1).symm.trans e2
      cases e'
      exact ⟨⟨c_Entry.2, ha_Entry, hn_, ht_, hm_Entry⟩, kitO_of ic_Service it_Service m_Service_Service m_Entry_Service⟩
    | 1, A', _, e => by
      have e2 : C.mg "Service" = some (Value.ref A') := by rw [hT] at e; exact e
      have e' : some (Value.ref A_Service) = some (Value.ref A') := (PySem.W.mg_of X G c_Service.1).symm.trans e2
      cases e'
      exact ⟨⟨c_Service.2, ha_Service, hn_, ht_, hm_Service⟩, kitS_of⟩
    | 2, A', _, e => by
      have e2 : C.mg "Course" = some (Value.ref A') := by rw [hT] at e; exact e
      have e' : some (Value.ref A_Course) = some (Value.ref A') := (PySem.W.mg_of X G c_Course.1).symm.trans e2
      cases e'
      exact ⟨⟨c_Course.2, ha_Course, hn_, ht_, hm_Course⟩, kitO_of ic_Service it_Service m_Service_Service m_Course_Service⟩
    | 3, A', _, e => by rw [hT] at e; cases (PySem.W.mg_none_of X G z_).symm.trans e
    | 4, A', _, e => by rw [hT] at e; cases (PySem.W.mg_none_of X G z_).symm.trans e
    | 5, A', _, e => by rw [hT] at e; cases (PySem.W.mg_none_of X G z_).symm.trans e
    | 6, A', _, e => by rw [hT] at e; cases (PySem.W.mg_none_of X G z_).symm.trans e
    | 7, A', _, e => by rw [hT] at e; cases (PySem.W.mg_none_of X G z_).symm.trans e
    | 8, A', _, e => by rw [hT] at e; cases (PySem.W.mg_none_of X G z_).symm.trans e
    | 9, A', _, e => by rw [hT] at e; cases (PySem.W.mg_none_of X G z_).symm.trans e
    | 10, A', _, e => by rw [hT] at e; cases (PySem.W.mg_none_of X G z_).symm.trans e
    | 11, A', _, e => by rw [hT] at e; cases (PySem.W.mg_none_of X G z_).symm.trans e
    | 12, A', _, e => by rw [hT] at e; cases (PySem.W.mg_none_of X G z_).symm.trans e
    | 13, A', _, e => by rw [hT] at e; cases (PySem.W.mg_none_of X G z_).symm.trans e
    | 14, A', _, e => by rw [hT] at e; cases (PySem.W.mg_none_of X G z_).symm.trans e
    | 15, A', _, e => by rw [hT] at e; cases (PySem.W.mg_none_of X G z_).symm.trans e
    | 16, A', _, e => by rw [hT] at e; cases (PySem.W.mg_none_of X G z_).symm.trans e
    | 17, A', _, e => by rw [hT] at e; cases (PySem.W.mg_none_of X G z_).symm.trans e
    | 18, A', _, e => by rw [hT] at e; cases (PySem.W.mg_none_of X G z_).symm.trans e
    | 19, A', _, e => by rw [hT] at e; cases (PySem.W.mg_none_of X G z_).symm.trans e
    | j + 20, A', hj, e => absurd hj (by omega)
  exact {
    b_abs := PySem.W.mg_none_of X G b_abs,
    b_all := PySem.W.mg_none_of X G b_all,
    b_any := PySem.W.mg_none_of X G b_any,
    b_bool := PySem.W.mg_none_of X G b_bool,
    b_divmod := PySem.W.mg_none_of X G b_divmod,
    b_enumerate := PySem.W.mg_none_of X G b_enumerate,
    b_int := PySem.W.mg_none_of X G b_int,
    b_isinstance := PySem.W.mg_none_of X G b_isinstance,
    b_len := PySem.W.mg_none_of X G b_len,
    b_list := PySem.W.mg_none_of X G b_list,
    b_max := PySem.W.mg_none_of X G b_max,
    b_min := PySem.W.mg_none_of X G b_min,
    b_range := PySem.W.mg_none_of X G b_range,
    b_repr := PySem.W.mg_none_of X G b_repr,
    b_sorted := PySem.W.mg_none_of X G b_sorted,
    b_str := PySem.W.mg_none_of X G b_str,
    b_tuple := PySem.W.mg_none_of X G b_tuple,
    exo := hexo,
    f_Course_go := MethIn.methAt X G c_Course (by rw [hT]; rfl) f_Course_go (by rw [hT]; decide +kernel) (fun _ _ _ _ _ _ us hl => match us, hl with | [_, _], _ => rfl),
    f_Course_go_to := MethIn.methAt X G c_Course (by rw [hT]; rfl) f_Course_go_to (by rw [hT]; decide +kernel) (fun _ _ _ _ _ _ us hl => match us, hl with | [_, _], _ => rfl),
    f_Course_init := MethIn.makeAt X G c_Course (by rw [hT]; rfl) mk_Course kp_Course f_Course_init (fun _ _ _ _ _ _ us hl => match us, hl with | [_, _, _, _, _], _ => rfl),
    f_Entry_init := MethIn.makeAt X G c_Entry (by rw [hT]; rfl) mk_Entry kp_Entry f_Entry_init (fun _ _ _ _ _ _ us hl => match us, hl with | [_, _, _], _ => rfl),
    f_Service_init := MethIn.makeAt X G c_Service (by rw [hT]; rfl) mk_Service kp_Service f_Service_init (fun _ _ _ _ _ _ us hl => match us, hl with | [_, _], _ => rfl),
    f__law_caught := DefIn.funAt X G f__law_caught (fun _ _ _ _ _ _ us hl => match us, hl with | [_], _ => rfl),
    f__law_cup := DefIn.funAt X G f__law_cup (fun _ _ _ _ _ _ us hl => match us, hl with | [_, _], _ => rfl),
    f__law_first := DefIn.funAt X G f__law_first (fun _ _ _ _ _ _ us hl => match us, hl with | [_], _ => rfl),
    f__law_pick := DefIn.funAt X G f__law_pick (fun _ _ _ _ _ _ us hl => match us, hl with | [_, _], _ => rfl),
    f__law_right := funAtL_of X G f__law_right (fun _ _ _ _ _ _ us hl => match us, hl with | [_], _ => rfl) lam__law_right (T := tblX C.K) htb (hTB _ List.mem_cons_self) List.mem_cons_self (fun p hp _ => by rw [List.mem_singleton.mp hp]),
    f__law_sip := DefIn.funAt X G f__law_sip (fun _ _ _ _ _ _ us hl => match us, hl with | [_, _], _ => rfl),
    f__law_some_errs := DefIn.funAt X G f__law_some_errs (fun _ _ _ _ _ _ us hl => match us, hl with | [_], _ => rfl),
    f_aged := DefIn.funAt X G f_aged (fun _ _ _ _ _ _ us hl => match us, hl with | [_, _], _ => rfl),
    f_check_all := DefIn.funAt X G f_check_all (fun _ _ _ _ _ _ us hl => match us, hl with | [_, _, _, _, _], _ => rfl),
    f_check_manner := DefIn.funAt X G f_check_manner (fun _ _ _ _ _ _ us hl => match us, hl with | [_], _ => rfl),
    f_check_moment := DefIn.funAt X G f_check_moment (fun _ _ _ _ _ _ us hl => match us, hl with | [_], _ => rfl),
    f_check_page := DefIn.funAt X G f_check_page (fun _ _ _ _ _ _ us hl => match us, hl with | [_], _ => rfl),
    f_check_place := DefIn.funAt X G f_check_place (fun _ _ _ _ _ _ us hl => match us, hl with | [_, _, _], _ => rfl),
    f_check_section := DefIn.funAt X G f_check_section (fun _ _ _ _ _ _ us hl => match us, hl with | [_, _], _ => rfl),
    f_check_service := DefIn.funAt X G f_check_service (fun _ _ _ _ _ _ us hl => match us, hl with | [_], _ => rfl),
    f_check_slips := DefIn.funAt X G f_check_slips (fun _ _ _ _ _ _ us hl => match us, hl with | [_], _ => rfl),
    f_entries_of := DefIn.funAt X G f_entries_of (fun _ _ _ _ _ _ us hl => match us, hl with | [_, _, _], _ => rfl),
    f_filed := DefIn.funAt X G f_filed (fun _ _ _ _ _ _ us hl => match us, hl with | [_, _, _, _], _ => rfl),
    f_first_bad_slip := DefIn.funAt X G f_first_bad_slip (fun _ _ _ _ _ _ us hl => match us, hl with | [_], _ => rfl),
    f_handled := DefIn.funAt X G f_handled (fun _ _ _ _ _ _ us hl => match us, hl with | [_, _, _, _], _ => rfl),
    f_is_between := DefIn.funAt X G f_is_between (fun _ _ _ _ _ _ us hl => match us, hl with | [_, _, _], _ => rfl),
    f_is_one_of := DefIn.funAt X G f_is_one_of (fun _ _ _ _ _ _ us hl => match us, hl with | [_, _], _ => rfl),
    f_is_page := DefIn.funAt X G f_is_page (fun _ _ _ _ _ _ us hl => match us, hl with | [_], _ => rfl),
    f_is_right := DefIn.funAt X G f_is_right (fun _ _ _ _ _ _ us hl => match us, hl with | [_, _, _, _, _], _ => rfl),
    f_is_side_good := DefIn.funAt X G f_is_side_good (fun _ _ _ _ _ _ us hl => match us, hl with | [_, _, _], _ => rfl),
    f_is_slip := DefIn.funAt X G f_is_slip (fun _ _ _ _ _ _ us hl => match us, hl with | [_], _ => rfl),
    f_is_sound := DefIn.funAt X G f_is_sound (fun _ _ _ _ _ _ us hl => match us, hl with | [_], _ => rfl),
    f_is_told_right := DefIn.funAt X G f_is_told_right (fun _ _ _ _ _ _ us hl => match us, hl with | [_, _], _ => rfl),
    f_labels_at := DefIn.funAt X G f_labels_at (fun _ _ _ _ _ _ us hl => match us, hl with | [_, _], _ => rfl),
    f_labels_of := DefIn.funAt X G f_labels_of (fun _ _ _ _ _ _ us hl => match us, hl with | [_], _ => rfl),
    f_law := DefIn.funAt X G f_law (fun _ _ _ _ _ _ us hl => match us, hl with | [_], _ => rfl),
    f_leaf_of := DefIn.funAt X G f_leaf_of (fun _ _ _ _ _ _ us hl => match us, hl with | [_], _ => rfl),
    f_numbers_of := DefIn.funAt X G f_numbers_of (fun _ _ _ _ _ _ us hl => match us, hl with | [_], _ => rfl),
    f_packets_in := DefIn.funAt X G f_packets_in (fun _ _ _ _ _ _ us hl => match us, hl with | [_], _ => rfl),
    f_pages_wrong := DefIn.funAt X G f_pages_wrong (fun _ _ _ _ _ _ us hl => match us, hl with | [_, _], _ => rfl),
    f_place_for := DefIn.funAt X G f_place_for (fun _ _ _ _ _ _ us hl => match us, hl with | [_, _], _ => rfl),
    f_plans_of := DefIn.funAt X G f_plans_of (fun _ _ _ _ _ _ us hl => match us, hl with | [_], _ => rfl),
    f_put := DefIn.funAt X G f_put (fun _ _ _ _ _ _ us hl => match us, hl with | [_, _, _], _ => rfl),
    f_read := DefIn.funAt X G f_read (fun _ _ _ _ _ _ us hl => match us, hl with | [_, _, _, _, _, _], _ => rfl),
    f_read_in := DefIn.funAt X G f_read_in (fun _ _ _ _ _ _ us hl => match us, hl with | [_, _, _], _ => rfl),
    f_right_row := DefIn.funAt X G f_right_row (fun _ _ _ _ _ _ us hl => match us, hl with | [_], _ => rfl),
    f_row := DefIn.funAt X G f_row (fun _ _ _ _ _ _ us hl => match us, hl with | [_, _, _, _, _], _ => rfl),
    f_runs_of := DefIn.funAt X G f_runs_of (fun _ _ _ _ _ _ us hl => match us, hl with | [_, _], _ => rfl),
    f_starts_in := DefIn.funAt X G f_starts_in (fun _ _ _ _ _ _ us hl => match us, hl with | [_], _ => rfl),
    f_state_at := DefIn.funAt X G f_state_at (fun _ _ _ _ _ _ us hl => match us, hl with | [_, _, _, _], _ => rfl),
    f_taken := DefIn.funAt X G f_taken (fun _ _ _ _ _ _ us hl => match us, hl with | [_, _, _], _ => rfl),
    f_turned := DefIn.funAt X G f_turned (fun _ _ _ _ _ _ us hl => match us, hl with | [_, _, _, _, _], _ => rfl),
    f_without_first := DefIn.funAt X G f_without_first (fun _ _ _ _ _ _ us hl => match us, hl with | [_, _], _ => rfl),
    f_wrong := DefIn.funAt X G f_wrong (fun _ _ _ _ _ _ us hl => match us, hl with | [_, _, _, _, _], _ => rfl),
    fl_ahead := ⟨fun c i e => match c, i, e with
    | 0, _, e => by cases e; exact ⟨by rw [hT]; rfl, o_Entry⟩
    | j + 1, _, e => nomatch e⟩,
    fl_behind := ⟨fun c i e => match c, i, e with
    | 0, _, e => by cases e; exact ⟨by rw [hT]; rfl, o_Entry⟩
    | j + 1, _, e => nomatch e⟩,
    fl_changed := ⟨fun c i e => match c, i, e with
    | 0, _, e => by cases e; exact ⟨by rw [hT]; rfl, o_Entry⟩
    | j + 1, _, e => nomatch e⟩,
    fl_in_labels := ⟨fun c i e => match c, i, e with
    | 0, _, e => by cases e; exact ⟨by rw [hT]; rfl, o_Entry⟩
    | j + 1, _, e => nomatch e⟩,
    fl_manner := ⟨fun c i e => match c, i, e with
    | 0, _, e => nomatch e
    | 1, _, e => nomatch e
    | 2, _, e => by cases e; exact ⟨by rw [hT]; rfl, o_Course⟩
    | j + 3, _, e => nomatch e⟩,
    fl_number := ⟨fun c i e => match c, i, e with
    | 0, _, e => nomatch e
    | 1, _, e => nomatch e
    | 2, _, e => by cases e; exact ⟨by rw [hT]; rfl, o_Course⟩
    | j + 3, _, e => nomatch e⟩,
    fl_out_labels := ⟨fun c i e => match c, i, e with
    | 0, _, e => by cases e; exact ⟨by rw [hT]; rfl, o_Entry⟩
    | j + 1, _, e => nomatch e⟩,
    fl_plan := ⟨fun c i e => match c, i, e with
    | 0, _, e => nomatch e
    | 1, _, e => nomatch e
    | 2, _, e => by cases e; exact ⟨by rw [hT]; rfl, o_Course⟩
    | j + 3, _, e => nomatch e⟩,
    fl_plans := ⟨fun c i e => match c, i, e with
    | 0, _, e => nomatch e
    | 1, _, e => by cases e; exact ⟨by rw [hT]; rfl, o_Service⟩
    | j + 2, _, e => nomatch e⟩,
    fl_runs := ⟨fun c i e => match c, i, e with
    | 0, _, e => by cases e; exact ⟨by rw [hT]; rfl, o_Entry⟩
    | j + 1, _, e => nomatch e⟩,
    fl_sections := ⟨fun c i e => match c, i, e with
    | 0, _, e => nomatch e
    | 1, _, e => by cases e; exact ⟨by rw [hT]; rfl, o_Service⟩
    | j + 2, _, e => nomatch e⟩,
    fl_size := ⟨fun c i e => match c, i, e with
    | 0, _, e => nomatch e
    | 1, _, e => by cases e; exact ⟨by rw [hT]; rfl, o_Service⟩
    | j + 2, _, e => nomatch e⟩,
    fl_state := ⟨fun c i e => match c, i, e with
    | 0, _, e => nomatch e
    | 1, _, e => nomatch e
    | 2, _, e => by cases e; exact ⟨by rw [hT]; rfl, o_Course⟩
    | j + 3, _, e => nomatch e⟩,
    fl_text := ⟨fun c i e => match c, i, e with
    | 0, _, e => nomatch e
    | 1, _, e => by cases e; exact ⟨by rw [hT]; rfl, o_Service⟩
    | j + 2, _, e => nomatch e⟩,
    g_GREATEST := Cn.int X G g_GREATEST,
    g_HEADS := TupIn.cn X G g_HEADS,
    g_KINDS := TupIn.cn X G g_KINDS,
    g_MANNERS := TupIn.cn X G g_MANNERS,
    g_MOST_LABEL := Cn.int X G g_MOST_LABEL,
    g_MOST_LEAVES := Cn.int X G g_MOST_LEAVES,
    g_MOST_PACKETS := Cn.int X G g_MOST_PACKETS,
    g_MOST_SLIPS := Cn.int X G g_MOST_SLIPS,
    g_SECTIONS := TupIn.cn X G g_SECTIONS,
    hd__law_caught_0 := hdIn_of X G (by rw [hT]; exact eall) (by rw [hT]; exact hdb__law_caught_0) rfl (by decide),
    hd__law_caught_1 := hdIn_of X G (by rw [hT]; exact eall) (by rw [hT]; exact hdb__law_caught_1) rfl (by decide),
    hd__law_caught_2 := hdIn_of X G (by rw [hT]; exact eall) (by rw [hT]; exact hdb__law_caught_2) rfl (by decide),
    i_Service := i_Service,
    ix_InvalidIndex := isX_of X G (by rw [hT]; exact eall) (by rw [hT]; exact ixb_InvalidIndex) rfl,
    ix_InvalidKind := isX_of X G (by rw [hT]; exact eall) (by rw [hT]; exact ixb_InvalidKind) rfl,
    ix_InvalidLists := isX_of X G (by rw [hT]; exact eall) (by rw [hT]; exact ixb_InvalidLists) rfl,
    ix_InvalidManner := isX_of X G (by rw [hT]; exact eall) (by rw [hT]; exact ixb_InvalidManner) rfl,
    ix_InvalidMany := isX_of X G (by rw [hT]; exact eall) (by rw [hT]; exact ixb_InvalidMany) rfl,
    ix_InvalidMoment := isX_of X G (by rw [hT]; exact eall) (by rw [hT]; exact ixb_InvalidMoment) rfl,
    ix_InvalidNumber := isX_of X G (by rw [hT]; exact eall) (by rw [hT]; exact ixb_InvalidNumber) rfl,
    ix_InvalidPage := isX_of X G (by rw [hT]; exact eall) (by rw [hT]; exact ixb_InvalidPage) rfl,
    ix_InvalidSection := isX_of X G (by rw [hT]; exact eall) (by rw [hT]; exact ixb_InvalidSection) rfl,
    ix_InvalidText := isX_of X G (by rw [hT]; exact eall) (by rw [hT]; exact ixb_InvalidText) rfl,
    ix_InvalidWord := isX_of X G (by rw [hT]; exact eall) (by rw [hT]; exact ixb_InvalidWord) rfl,
    ix_NotAService := isX_of X G (by rw [hT]; exact eall) (by rw [hT]; exact ixb_NotAService) rfl,
    x_InvalidManner := excIn_of X G ID_InvalidManner ini_InvalidManner (by rw [hP]; exact inb_InvalidManner) (by rw [hP]; exact top_) (by rw [hT]; rfl) (by rw [hT]; rfl),
    x_InvalidMoment := excIn_of X G ID_InvalidMoment ini_InvalidMoment (by rw [hP]; exact inb_InvalidMoment) (by rw [hP]; exact top_) (by rw [hT]; rfl) (by rw [hT]; rfl),
    x_InvalidPage := excIn_of X G ID_InvalidPage ini_InvalidPage (by rw [hP]; exact inb_InvalidPage) (by rw [hP]; exact top_) (by rw [hT]; rfl) (by rw [hT]; rfl),
    x_InvalidSection := excIn_of X G ID_InvalidSection ini_InvalidSection (by rw [hP]; exact inb_InvalidSection) (by rw [hP]; exact top_) (by rw [hT]; rfl) (by rw [hT]; rfl),
    x_InvalidSlips := excIn_of X G ID_InvalidSlips ini_InvalidSlips (by rw [hP]; exact inb_InvalidSlips) (by rw [hP]; exact top_) (by rw [hT]; rfl) (by rw [hT]; rfl),
    x_NotAService := excIn_of X G ID_NotAService ini_NotAService (by rw [hP]; exact inb_NotAService) (by rw [hP]; exact top_) (by rw [hT]; rfl) (by rw [hT]; rfl),
    xf_given := xfX_of X G (by rw [hT]; exact eall) (by rw [hT]; exact xfb_given) rfl (by rw [hT]; decide +kernel),
    xf_index := xfX_of X G (by rw [hT]; exact eall) (by rw [hT]; exact xfb_index) rfl (by rw [hT]; decide +kernel) }
end PP
end M
end
namespace M
noncomputable section
open PySem PySem.Spec PyProof.Rows L2
theorem cmulR (i j : Int) (h : -1000000 < j) (h2 : j < 1000000) : CMul i j := by unfold CMul; omega
theorem cmulL (i j : Int) (h : -1000000 < i) (h2 : i < 1000000) : CMul i j := by unfold CMul; omega
theorem cdiv (i j : Int) (h : 0 < j) (h2 : j < 2 ^ 30) : CDiv i j := by unfold CDiv; omega
theorem xForL_inv {g : XG} {b : XS} {P : Env → Prop} : ∀ {ds : List Dat}, (∀ d ∈ ds, ∀ e, P e → ∃ e1 e2, g d e = some e1 ∧ b e1 = some (.nx e2) ∧ P e2) → ∀ {e}, P e → ∃ e', xForL g b ds e = some (.nx e') ∧ P e'
  | [], _, e, p => ⟨e, rfl, p⟩
  | d :: ds, h, e, p => by
    obtain ⟨e1, e2, h1, h2, p2⟩ := h d List.mem_cons_self e p
    obtain ⟨e3, h3, p3⟩ := xForL_inv (ds := ds) (fun d hd => h d (List.mem_cons_of_mem _ hd)) p2
    refine ⟨e3, ?_, p3⟩
    simp only [xForL_cons, h1, Option.bind_some, h2]
    exact h3
theorem runF_rt {np n : Nat} {x : XS} {ds : List Dat} {d : Dat} {e : Env} (hl : ds.length = np) (h : x (startE n ds) = some (.rt d e)) : runF np n x ds = some d := by
  unfold runF; rw [if_pos hl, h]; rfl
theorem runF_nx {np n : Nat} {x : XS} {ds : List Dat} {e : Env} (hl : ds.length = np) (h : x (startE n ds) = some (.nx e)) : runF np n x ds = some .non := by
  unfold runF; rw [if_pos hl, h]; rfl
theorem runM_rt {np n : Nat} {x : XS} {ds : List Dat} {d c c' : Dat} {e : Env} (hl : ds.length + 1 = np) (h : x (startE n (c :: ds)) = some (.rt d e)) (h0 : e[0]? = some (some c')) : runM np n x c ds = some (d, c') := by
  unfold runM; rw [if_pos hl, h]; simp only [Option.bind_some, h0, Option.map_some]
theorem runM_nx {np n : Nat} {x : XS} {ds : List Dat} {c c' : Dat} {e : Env} (hl : ds.length + 1 = np) (h : x (startE n (c :: ds)) = some (.nx e)) (h0 : e[0]? = some (some c')) : runM np n x c ds = some (.non, c') := by
  unfold runM; rw [if_pos hl, h]; simp only [Option.bind_some, h0, Option.map_some]
/-- the text of _law_sip, of _law_cup, of _law_pick, the same in each law -/
def xSip : XS := (xSeq (xAsg (x2 true (x1 (x2 true (x2 true (x2 true (xVar 0) (xC (.int 0)) xIdx) (xC (.int 48271)) xMul) (xC (.int 13)) xAdd) xIntF) (xC (.int 2147483629)) xMod) (xgIx 0 (xC (.int 0))))
    (xSeq (xIfS (xTest (x2 true (x2 true (xVar 0) (xC (.int 1)) xIdx) (xC (.int 0)) xGt)) (xSeq (xAsg (x2 true (x2 true (xVar 0) (xC (.int 1)) xIdx) (xVar 1) xDivmod) (xgTup 2 (xgCons (xgIx 0 (xC (.int 1))) (xgCons (xgNm 2) xgNil))))
    (xMove 2)) xSkip)
    (xRet (x2 true (x1 (x2 true (x2 true (xVar 0) (xC (.int 0)) xIdx) (xC (.int 1019)) xFdiv) xIntF) (xVar 1) xMod))))
def rSip := runM 2 3 xSip
def xCup : XS := (xSeq (xSet 2 (xIf (xTest (x2 true (xVar 1) (x1 (xVar 0) xLen) xLt)) (xOf (x2 true (xVar 0) (xVar 1) xIdx)) (x2 true (x2 true (xC (.int 5167)) (xVar 1) xMul) (xC (.int 90173)) xAdd)))
    (xSeq (xFor (xInL (xIf (xTest (x2 true (xVar 1) (x1 (xVar 0) xLen) xGe)) (xSl true (xVar 0) xNoPart (xPart (xC (.int 2)))) (xLst xNil))) (xgNm 3) (xSet 2 (x2 true (x1 (x2 true (x2 true (xVar 2) (xC (.int 31)) xMul) (xVar 3) xAdd) xIntF) (xC (.int 1000000007)) xMod)))
    (xRet (xLst (xCons (x2 true (x1 (x2 true (x2 true (x2 true (xVar 2) (xC (.int 4093)) xMul) (x2 true (xC (.int 269)) (xVar 1) xMul) xAdd) (xC (.int 19)) xAdd) xIntF) (xC (.int 2147483629)) xMod) (xCons (xIf (xOr (xTest (x2 true (xVar 2) (xC (.int 0)) xLt)) (xTest (x2 true (xVar 2) (x2 true (xC (.int 10)) (xC (.int 18)) xPow) xGe))) (x1 (xVar 2) xAbs) (xC (.int 0))) xNil))))))
def rCup := runF 2 4 xCup
def CupP (d : Dat) : Prop := ∃ m q : Int, d = .lst true [.int m, .int q] ∧ 0 ≤ q
theorem sip_ok (m d t : Int) (ht : 0 < t) (ht2 : t < 2 ^ 30) (hd : 0 ≤ d) : ∃ v m' d', rSip (.lst true [.int m, .int d]) [.int t] = some (.int v, .lst true [.int m', .int d']) ∧ 0 ≤ v ∧ v < t ∧ 0 ≤ d' := by
  have c1 := cmulR m 48271 (by decide) (by decide)
  have c2 := cdiv ((m * 48271 + 13) % 2147483629) 1019 (by decide) (by decide)
  have c3 := cdiv d t ht ht2
  by_cases h : 0 < d
  · refine ⟨d % t, (m * 48271 + 13) % 2147483629, d / t, ?_, Int.emod_nonneg _ (by omega), Int.emod_lt_of_pos _ ht, Int.ediv_nonneg hd (by omega)⟩
    simp [rSip, xSip, runM, startE, xSeq, xAsg, x2, x1, xVar, xC, xIdx, xMul, xAdd, xIntF, xMod, xInt, xgIx, xIfS, xTest, xGt, xOrd, xDivmod, xgTup, xgCons, xgNm, xgNil, xMove, xSkip, xRet, xFdiv, isFz, isFzs, frz, frzs, ixN, atI, h, c1, c2, c3]
  · refine ⟨(m * 48271 + 13) % 2147483629 / 1019 % t, (m * 48271 + 13) % 2147483629, d, ?_, Int.emod_nonneg _ (by omega), Int.emod_lt_of_pos _ ht, hd⟩
    simp [rSip, xSip, runM, startE, xSeq, xAsg, x2, x1, xVar, xC, xIdx, xMul, xAdd, xIntF, xMod, xInt, xgIx, xIfS, xTest, xGt, xOrd, xDivmod, xgTup, xgCons, xgNm, xgNil, xMove, xSkip, xRet, xFdiv, isFz, isFzs, frz, frzs, ixN, atI, h, c1, c2, c3, ht]
theorem sipP {c : Dat} (h : CupP c) {t : Int} (ht : 0 < t) (ht2 : t < 2 ^ 30) : ∃ v c', rSip c [.int t] = some (.int v, c') ∧ 0 ≤ v ∧ v < t ∧ CupP c' := by
  obtain ⟨m, q, rfl, hq⟩ := h
  obtain ⟨v, m', d', h1, h2, h3, h4⟩ := sip_ok m q t ht ht2 hq
  exact ⟨v, _, h1, h2, h3, m', d', rfl, h4⟩
theorem x1_val {xa : XE} {f : X1} {e e' : Env} {d d' : Dat} (h : xa e = some (d, e')) (hf : f d = some d') : x1 xa f e = some (d', e') := by
  unfold x1; rw [h, Option.bind_some, hf]; rfl
theorem xRet_val {xa : XE} {e e' : Env} {d : Dat} (h : xa e = some (d, e')) : xRet xa e = some (.rt d e') := by
  unfold xRet; rw [h]; rfl
theorem cup_end (ns : List Int) (k c : Int) (o : Option Dat) (hk : 0 ≤ k) (hk2 : k < 1000) : ∃ d e, (xRet (xLst (xCons (x2 true (x1 (x2 true (x2 true (x2 true (xVar 2) (xC (.int 4093)) xMul) (x2 true (xC (.int 269)) (xVar 1) xMul) xAdd) (xC (.int 19)) xAdd) xIntF) (xC (.int 2147483629)) xMod) (xCons (xIf (xOr (xTest (x2 true (xVar 2) (xC (.int 0)) xLt)) (xTest (x2 true (xVar 2) (x2 true (xC (.int 10)) (xC (.int 18)) xPow) xGe))) (x1 (xVar 2) xAbs) (xC (.int 0))) xNil)))) [some (.scr ns), some (.int k), some (.int c), o] = some (.rt d e) ∧ CupP d := by
  have c1 := cmulR c 4093 (by decide) (by decide)
  have c2 := cmulL 269 k (by decide) (by decide)
  have c3 : CPow 10 18 := by decide
  have hs : (2 : Nat) ≤ sizeLine := by decide
  refine ⟨.lst true [.int ((c * 4093 + 269 * k + 19) % 2147483629), .int (if c < 0 ∨ 1000000000000000000 ≤ c then (if c < 0 then -c else c) else 0)], [some (.scr ns), some (.int k), some (.int c), o], ?_, _, _, rfl, ?_⟩
  · by_cases h1 : c < 0
    · simp [xSeq, xRet, xLst, xCons, xNil, x2, x1, xVar, xC, xMul, xAdd, xIntF, xMod, xInt, xIf, xOr, xTest, xLt, xOrd, xGe, xPow, xAbs, isFz, frz, frzs, c1, c2, c3, hs, h1]
    · by_cases h2 : 1000000000000000000 ≤ c
      · simp [xSeq, xRet, xLst, xCons, xNil, x2, x1, xVar, xC, xMul, xAdd, xIntF, xMod, xInt, xIf, xOr, xTest, xLt, xOrd, xGe, xPow, xAbs, isFz, frz, frzs, c1, c2, c3, hs, h1, h2]
      · simp [xSeq, xRet, xLst, xCons, xNil, x2, x1, xVar, xC, xMul, xAdd, xIntF, xMod, xInt, xIf, xOr, xTest, xLt, xOrd, xGe, xPow, xAbs, isFz, frz, frzs, c1, c2, c3, hs, h1, h2]
  · split <;> (try split) <;> omega
theorem mem_ints {ns : List Int} {lo hi : Option Int} {d : Dat} (h : d ∈ cutD (ns.map .int) lo hi) : ∃ i, d = .int i := by
  unfold cutD at h
  obtain ⟨i, _, rfl⟩ := List.mem_map.mp (List.mem_of_mem_drop (List.mem_of_mem_take h))
  exact ⟨i, rfl⟩
theorem frz_ints {ns : List Int} {lo hi : Option Int} : frzs (cutD (ns.map .int) lo hi) = cutD (ns.map .int) lo hi := by
  have : ∀ ds : List Dat, (∀ d ∈ ds, ∃ i, d = .int i) → frzs ds = ds := by
    intro ds
    induction ds with
    | nil => intro _; rfl
    | cons d ds ih =>
      intro h
      obtain ⟨i, rfl⟩ := h d List.mem_cons_self
      simp only [frzs, frz]
      rw [ih fun d hd => h d (List.mem_cons_of_mem _ hd)]
  exact this _ fun d => mem_ints
theorem xSeq_nx {a b : XS} {e e' : Env} (h : a e = some (.nx e')) : xSeq a b e = b e' := by unfold xSeq; rw [h]; rfl
theorem cup_ok (ns : List Int) (k : Int) (hk : 0 ≤ k) (hk2 : k < 1000) : ∃ d, rCup [.scr ns, .int k] = some d ∧ CupP d := by
  suffices h : ∃ d e, xCup (startE 4 [.scr ns, .int k]) = some (.rt d e) ∧ CupP d by
    obtain ⟨d, e, h, p⟩ := h
    exact ⟨d, runF_rt rfl h, p⟩
  unfold xCup
  by_cases hn : k < ns.length
  · obtain ⟨i, hi⟩ : ∃ i, atI ns k = some i := by
      unfold atI ixN
      rw [if_pos hk, if_pos hn, Option.bind_some]
      exact ⟨_, List.getElem?_eq_getElem (by omega)⟩
    rw [xSeq_nx (e' := [some (.scr ns), some (.int k), some (.int i), none]) (by simp [xSet, startE, xIf, xTest, x2, x1, xVar, xLen, xLt, xOrd, xOf, xIdx, isFz, hn, hi])]
    rw [xSeq_nx (e' := [some (.scr ns), some (.int k), some (.int i), none]) (by simp [xFor, xInL, startE, xIf, xTest, x2, x1, xVar, xLen, xGe, xOrd, xLst, xNil, frzs, frzI, xForL_nil, isFz, hn, Int.not_le.mpr hn])]
    exact cup_end ns k i none hk hk2
  · have c1 := cmulL 5167 k (by decide) (by decide)
    have hn' : (ns.length : Int) ≤ k := by omega
    rw [xSeq_nx (e' := [some (.scr ns), some (.int k), some (.int (5167 * k + 90173)), none]) (by simp [xSet, startE, xIf, xTest, x2, x1, xVar, xLen, xLt, xOrd, isFz, hn, xC, xMul, xAdd, c1])]
    obtain ⟨e', h, c, o, rfl⟩ := xForL_inv (g := xgNm 3) (b := xSet 2 (x2 true (x1 (x2 true (x2 true (xVar 2) (xC (.int 31)) xMul) (xVar 3) xAdd) xIntF) (xC (.int 1000000007)) xMod)) (P := fun e => ∃ c o, e = [some (.scr ns), some (.int k), some (.int c), o]) (ds := cutD (ns.map .int) none (some 2)) (fun d hd e ⟨c, o, he⟩ => by
      obtain ⟨i, rfl⟩ := mem_ints hd
      subst he
      have c2 := cmulR c 31 (by decide) (by decide)
      exact ⟨_, [some (.scr ns), some (.int k), some (.int ((c * 31 + i) % 1000000007)), some (.int i)], rfl, by simp [xSet, x2, x1, xVar, xC, xMul, xAdd, xMod, xInt, xIntF, isFz, c2], _, _, rfl⟩) (e := [some (.scr ns), some (.int k), some (.int (5167 * k + 90173)), none]) ⟨_, _, rfl⟩
    rw [xSeq_nx (e' := [some (.scr ns), some (.int k), some (.int c), o]) (by rw [← h]; simp [xFor, xInL, xIf, xTest, x2, x1, xVar, xLen, xGe, xOrd, isFz, hn', xSl, xNoPart, xPart, xC, slD, frz_ints, frzI])]
    exact cup_end ns k c o hk hk2
theorem xLcL_all {vs : List Nat} {g : XG} {t : XT} {w : XE} {P : Env → Prop} : ∀ {ds acc : List Dat} {e : Env}, (∀ d ∈ ds, ∀ e, P e → ∃ e1 e2 e3, g d (wipeE e vs) = some e1 ∧ t e1 = some (true, e2) ∧ w e2 = some (.bl true, e3) ∧ P (wipeE e3 vs)) → P e → (∀ a ∈ acc, a = .bl true) → ∃ r e', xLcL vs g t w ds acc e = some (r, e') ∧ (∀ a ∈ r, a = .bl true) ∧ P e'
  | [], acc, e, _, p, q => ⟨acc, e, rfl, q, p⟩
  | d :: ds, acc, e, h, p, q => by
    obtain ⟨e1, e2, e3, h1, h2, h3, p3⟩ := h d List.mem_cons_self e p
    obtain ⟨r, e', h4, h5⟩ := xLcL_all (ds := ds) (acc := acc ++ [frz (.bl true)]) (fun d hd => h d (List.mem_cons_of_mem _ hd)) p3 (by
      intro a ha
      rcases List.mem_append.mp ha with ha | ha
      · exact q a ha
      · simp [frz] at ha; exact ha)
    exact ⟨r, e', by simp only [xLcL_cons, wipeX_eq, h1, Option.bind_some, h2, if_true, h3]; exact h4, h5⟩
theorem all_true : ∀ {ds : List Dat}, (∀ a ∈ ds, a = .bl true) → xBools (fun bs => bs.all id) (.lst true ds) = some (.bl true) := by
  intro ds h
  have : ∀ ds : List Dat, (∀ a ∈ ds, a = .bl true) → ∃ bs, allB ds = some bs ∧ bs.all id = true := by
    intro ds
    induction ds with
    | nil => intro _; exact ⟨[], rfl, rfl⟩
    | cons d ds ih =>
      intro h
      obtain ⟨bs, h1, h2⟩ := ih fun a ha => h a (List.mem_cons_of_mem _ ha)
      rw [h d List.mem_cons_self]
      exact ⟨true :: bs, by simp [allB, h1], by simp [h2]⟩
  obtain ⟨bs, h1, h2⟩ := this ds h
  simp only [xBools, h1, Option.map_some, h2]
theorem law_all {rc : List Dat → Option Dat} {rr : Dat → List Dat → Option (Dat × Dat)} (L : Int) (hL : L < 100) (hc : ∀ (ns : List Int) (k : Int), 0 ≤ k → k < 1000 → ∃ d, rc [.scr ns, .int k] = some d ∧ CupP d) (hr : ∀ c, CupP c → ∃ c', rr c [] = some (.bl true, c')) (ns : List Int) :
    runF 1 2 (xRet (x1 (xLc (xRng1 (xCons (x2 true (xC (.int 2)) (x2 true (x1 (xVar 0) xLen) (xC (.int L)) xMin2) xMax2) xNil)) (xgNm 1) xYes (xCallT (xCall (xCons (xTake 0) (xCons (xTake 1) xNil)) rc) xNil rr) [1]) (xBools fun bs => bs.all id))) [.scr ns] = some (.bl true) := by
  let n : Int := if (if L < ns.length then L else ns.length : Int) > 2 then (if L < ns.length then L else ns.length : Int) else 2
  have hn : 0 ≤ n ∧ n < 100 := by
    show 0 ≤ (if (if L < ns.length then L else ns.length : Int) > 2 then (if L < ns.length then L else ns.length : Int) else 2) ∧ (if (if L < ns.length then L else ns.length : Int) > 2 then (if L < ns.length then L else ns.length : Int) else 2) < 100
    split <;> split at * <;> omega
  have hrng : xRng1 (xCons (x2 true (xC (.int 2)) (x2 true (x1 (xVar 0) xLen) (xC (.int L)) xMin2) xMax2) xNil) [some (.scr ns), none] = some (rngD 0 n.toNat, [some (.scr ns), none]) := by
    simp [xRng1, xCons, xNil, x2, x1, xC, xVar, xLen, xMin2, xMax2, xInt]
    refine ⟨?_, rfl⟩
    show -4611686018427387904 ≤ n ∧ n < 4611686018427387904
    omega
  obtain ⟨r, e', h1, h2, h3⟩ := xLcL_all (vs := [1]) (g := xgNm 1) (t := xYes) (w := xCallT (xCall (xCons (xTake 0) (xCons (xTake 1) xNil)) rc) xNil rr) (P := fun e => e = [some (.scr ns), none]) (ds := rngD 0 n.toNat) (acc := []) (e := [some (.scr ns), none]) (fun d hd e he => by
    subst he
    obtain ⟨k, hk, rfl⟩ : ∃ k : Nat, k < n.toNat ∧ d = .int k := by
      unfold rngD at hd
      obtain ⟨k, hk, rfl⟩ := List.mem_map.mp hd
      exact ⟨k, List.mem_range.mp hk, by simp⟩
    obtain ⟨c, hc1, hc2⟩ := hc ns k (by omega) (by omega)
    obtain ⟨c', hr⟩ := hr c hc2
    refine ⟨[some (.scr ns), some (.int k)], [some (.scr ns), some (.int k)], [some (.scr ns), some (.int k)], rfl, rfl, ?_, rfl⟩
    simp [xCallT, xCall, xCons, xNil, xTake, frz, frzs, hc1, hr]) rfl (by simp)
  have hlen : (rngD 0 n.toNat).length < sizeLine := by
    unfold rngD
    rw [List.length_map, List.length_range]
    have : (100 : Nat) < sizeLine := by decide
    omega
  refine runF_rt (e := e') rfl ?_
  have : (xRet (x1 (xLc (xRng1 (xCons (x2 true (xC (.int 2)) (x2 true (x1 (xVar 0) xLen) (xC (.int L)) xMin2) xMax2) xNil)) (xgNm 1) xYes (xCallT (xCall (xCons (xTake 0) (xCons (xTake 1) xNil)) rc) xNil rr) [1]) (xBools fun bs => bs.all id))) (startE 2 [.scr ns]) = some (.rt (.bl true) e') := by
    refine xRet_val (x1_val (d := .lst true r) ?_ (all_true h2))
    show xLc _ _ _ _ _ [some (.scr ns), none] = _
    unfold xLc
    rw [hrng, Option.bind_some, if_pos hlen, h1]
    rfl
  exact this
end
end M
namespace M
noncomputable section
open PySem PySem.Spec PyProof.Rows L2
universe u
/-- a mark: simp leaves what it speaks of as it is -/
inductive Tg {α : Sort u} (a : α) : Type where | mk
def B {α : Type} (o : Option α) (Q : α → Prop) (_ : Tg Q := .mk) : Prop := ∃ a, o = some a ∧ Q a
theorem B_ext {α : Type} {o : Option α} {Q R : α → Prop} (h : ∀ a, Q a = R a) : B o Q = B o R := by
  have : Q = R := funext h
  subst this; rfl
section
variable {α β : Type}
@[simp ↓] theorem B_some (a : α) (Q : α → Prop) : B (some a) Q = Q a := propext ⟨fun ⟨_, h, q⟩ => by cases h; exact q, fun q => ⟨a, rfl, q⟩⟩
@[simp ↓] theorem B_none (Q : α → Prop) : B none Q = False := propext ⟨fun ⟨_, h, _⟩ => (nomatch h), fun h => h.elim⟩
@[simp ↓] theorem B_bind (o : Option α) (f : α → Option β) (Q : β → Prop) : B (o.bind f) Q = B o fun a => B (f a) Q := propext ⟨fun ⟨b, h, q⟩ => by
  obtain ⟨a, h1, h2⟩ := bind_ok h
  exact ⟨a, h1, b, h2, q⟩, fun ⟨a, h1, b, h2, q⟩ => ⟨b, by rw [h1]; exact h2, q⟩⟩
@[simp ↓] theorem B_map (o : Option α) (f : α → β) (Q : β → Prop) : B (o.map f) Q = B o fun a => Q (f a) := propext ⟨fun ⟨b, h, q⟩ => by
  obtain ⟨a, h1, rfl⟩ := map_ok h
  exact ⟨a, h1, q⟩, fun ⟨a, h1, q⟩ => ⟨_, by rw [h1]; rfl, q⟩⟩
/-- a condition: both ways -/
def IF (c : Prop) (p q : Prop) (_ : Tg p := .mk) (_ : Tg q := .mk) : Prop := (c → p) ∧ (¬ c → q)
@[simp ↓] theorem IF_true (p q : Prop) : IF True p q = p := propext ⟨fun h => h.1 True.intro, fun h => ⟨fun _ => h, fun z => (z True.intro).elim⟩⟩
@[simp ↓] theorem IF_false (p q : Prop) : IF False p q = q := propext ⟨fun h => h.2 id, fun h => ⟨fun z => z.elim, fun _ => h⟩⟩
theorem IF_i {c p q : Prop} (h1 : c → p) (h2 : ¬ c → q) : IF c p q := ⟨h1, h2⟩
@[simp ↓] theorem B_ite (c : Prop) [Decidable c] (x y : Option α) (Q : α → Prop) : B (if c then x else y) Q = IF c (B x Q) (B y Q) := propext ⟨fun h => ⟨fun z => by rwa [if_pos z] at h, fun z => by rwa [if_neg z] at h⟩, fun h => by
  by_cases z : c
  · rw [if_pos z]; exact h.1 z
  · rw [if_neg z]; exact h.2 z⟩
theorem B_imp {o : Option α} {Q R : α → Prop} (h : B o Q) (i : ∀ a, Q a → R a) : B o R := by
  obtain ⟨a, h, q⟩ := h; exact ⟨a, h, i a q⟩
theorem B_of {o : Option α} {Q : α → Prop} {a : α} (h : o = some a) (q : Q a) : B o Q := ⟨a, h, q⟩
end
/-- what follows a statement -/
def onS (o : Out) (k : Env → Prop) (Q : Out → Prop) (_ : Tg k := .mk) (_ : Tg Q := .mk) : Prop := match o with | .nx e => k e | .rt d e => Q (.rt d e) | .bk e => Q (.bk e) | .ct e => Q (.ct e)
@[simp ↓] theorem onS_nx (e : Env) (k Q) : onS (.nx e) k Q = k e := rfl
@[simp ↓] theorem onS_rt (d : Dat) (e : Env) (k Q) : onS (.rt d e) k Q = Q (.rt d e) := rfl
@[simp ↓] theorem onS_bk (e : Env) (k Q) : onS (.bk e) k Q = Q (.bk e) := rfl
@[simp ↓] theorem onS_ct (e : Env) (k Q) : onS (.ct e) k Q = Q (.ct e) := rfl
def onL (o : Out) (k : Env → Prop) (Q : Out → Prop) (_ : Tg k := .mk) (_ : Tg Q := .mk) : Prop := match o with | .nx e => k e | .ct e => k e | .bk e => Q (.nx e) | .rt d e => Q (.rt d e)
@[simp ↓] theorem onL_nx (e : Env) (k Q) : onL (.nx e) k Q = k e := rfl
@[simp ↓] theorem onL_rt (d : Dat) (e : Env) (k Q) : onL (.rt d e) k Q = Q (.rt d e) := rfl
@[simp ↓] theorem onL_bk (e : Env) (k Q) : onL (.bk e) k Q = Q (.nx e) := rfl
@[simp ↓] theorem onL_ct (e : Env) (k Q) : onL (.ct e) k Q = k e := rfl
/-- what a def's body must end with -/
def onF (o : Out) (Q : Dat → Prop) (_ : Tg Q := .mk) : Prop := match o with | .nx e => Q .non | .rt d e => Q d | _ => False
@[simp ↓] theorem onF_nx (e : Env) (Q) : onF (.nx e) Q = Q .non := rfl
@[simp ↓] theorem onF_rt (d : Dat) (e : Env) (Q) : onF (.rt d e) Q = Q d := rfl
def onM (o : Out) (Q : Dat → Dat → Prop) (_ : Tg Q := .mk) : Prop := match o with | .nx e => ∃ c, e[0]? = some (some c) ∧ Q .non c | .rt d e => ∃ c, e[0]? = some (some c) ∧ Q d c | _ => False
@[simp ↓] theorem onM_nx (c : Dat) (e : Env) (Q) : onM (.nx (some c :: e)) Q = Q .non c := propext ⟨fun ⟨_, h, q⟩ => by cases h; exact q, fun q => ⟨c, rfl, q⟩⟩
@[simp ↓] theorem onM_rt (d c : Dat) (e : Env) (Q) : onM (.rt d (some c :: e)) Q = Q d c := propext ⟨fun ⟨_, h, q⟩ => by cases h; exact q, fun q => ⟨c, rfl, q⟩⟩
/-- the parts of a value -/
def asL (d : Dat) (f : Bool → List Dat → Prop) (_ : Tg f := .mk) : Prop := match d with | .lst o xs => f o xs | _ => False
def asT (d : Dat) (f : TK → List Dat → Prop) (_ : Tg f := .mk) : Prop := match d with | .tup o xs => f o xs | _ => False
def asO (d : Dat) (f : Bool → Nat → List Dat → Prop) (_ : Tg f := .mk) : Prop := match d with | .obj o k xs => f o k xs | _ => False
def asB (d : Dat) (f : Bool → Prop) (_ : Tg f := .mk) : Prop := match d with | .bl b => f b | _ => False
def asI (d : Dat) (f : Int → Prop) (_ : Tg f := .mk) : Prop := match d with | .int b => f b | _ => False
@[simp ↓] theorem asB_i (b : Bool) (f) : asB (.bl b) f = f b := rfl
@[simp ↓] theorem asI_i (b : Int) (f) : asI (.int b) f = f b := rfl
def as1 (l : List Dat) (f : Int → Prop) (_ : Tg f := .mk) : Prop := match l with | [.int i] => f i | _ => False
def as2 (l : List Dat) (f : Int → Int → Prop) (_ : Tg f := .mk) : Prop := match l with | [.int i, .int j] => f i j | _ => False
def asP (l : List Dat) (f : Dat → Dat → Prop) (_ : Tg f := .mk) : Prop := match l with | [i, j] => f i j | _ => False
@[simp ↓] theorem asL_i (o : Bool) (xs : List Dat) (f) : asL (.lst o xs) f = f o xs := rfl
@[simp ↓] theorem asT_i (o : TK) (xs : List Dat) (f) : asT (.tup o xs) f = f o xs := rfl
@[simp ↓] theorem asO_i (o : Bool) (k : Nat) (xs : List Dat) (f) : asO (.obj o k xs) f = f o k xs := rfl
@[simp ↓] theorem as1_i (i : Int) (f) : as1 [.int i] f = f i := rfl
@[simp ↓] theorem as2_i (i j : Int) (f) : as2 [.int i, .int j] f = f i j := rfl
@[simp ↓] theorem asP_i (i j : Dat) (f) : asP [i, j] f = f i j := rfl
theorem runF_B {np n : Nat} {x : XS} {ds : List Dat} {Q : Dat → Prop} (hl : ds.length = np) (h : B (x (startE n ds)) fun o => onF o Q) : B (runF np n x ds) Q := by
  obtain ⟨o, ho, q⟩ := h
  cases o with
  | nx e => exact ⟨_, runF_nx hl ho, q⟩
  | rt d e => exact ⟨_, runF_rt hl ho, q⟩
  | bk e => exact q.elim
  | ct e => exact q.elim
theorem runM_B {np n : Nat} {x : XS} {c : Dat} {ds : List Dat} {Q : Dat × Dat → Prop} (hl : ds.length + 1 = np) (h : B (x (startE n (c :: ds))) fun o => onM o fun d c => Q (d, c)) : B (runM np n x c ds) Q := by
  obtain ⟨o, ho, q⟩ := h
  cases o with
  | nx e =>
    obtain ⟨c', h0, q⟩ := q
    exact ⟨_, runM_nx hl ho h0, q⟩
  | rt d e =>
    obtain ⟨c', h0, q⟩ := q
    exact ⟨_, runM_rt hl ho h0, q⟩
  | bk e => exact q.elim
  | ct e => exact q.elim
theorem B_eq {α : Type} {o : Option α} {a : α} (h : B o fun b => b = a) : o = some a := by
  obtain ⟨b, h, rfl⟩ := h; exact h
section
variable (a b c : XE) (t u : XT) (s s' : XS) (as bs : XA) (g : XG) (e : Env)
@[simp ↓] theorem B_seq (Q) : B (xSeq s s' e) Q = B (s e) fun o => onS o (fun e => B (s' e) Q) Q := by
  unfold xSeq; rw [B_bind]; refine B_ext fun o => ?_; cases o <;> simp only [B_some, onS]
@[simp ↓] theorem B_skip (Q) : B (xSkip e) Q = Q (.nx e) := B_some _ _
@[simp ↓] theorem B_drop (Q) : B (xDrop a e) Q = B (a e) fun p => Q (.nx p.2) := B_map _ _ _
@[simp ↓] theorem B_ret (Q) : B (xRet a e) Q = B (a e) fun p => Q (.rt p.1 p.2) := B_map _ _ _
@[simp ↓] theorem B_retN (Q) : B (xRetN e) Q = Q (.rt .non e) := B_some _ _
@[simp ↓] theorem B_move (i : Nat) (Q) : B (xMove i e) Q = B (e[i]?) fun o => B o fun d => Q (.rt d (e.set i none)) := by unfold xMove; rw [B_bind]; refine B_ext fun o => ?_; rw [B_map]
@[simp ↓] theorem B_ifs (Q) : B (xIfS t s s' e) Q = B (t e) fun p => IF (p.1 = true) (B (s p.2) Q) (B (s' p.2) Q) := by
  unfold xIfS; rw [B_bind]; refine B_ext fun p => ?_; rw [B_ite]
@[simp ↓] theorem B_set (i : Nat) (Q) : B (xSet i a e) Q = B (a e) fun p => Q (.nx (p.2.set i (some p.1))) := by
  unfold xSet; rw [B_map]; refine B_ext fun p => ?_; rw [setE_eq]
@[simp ↓] theorem B_asg (Q) : B (xAsg a g e) Q = B (a e) fun p => B (g (frz p.1) p.2) fun e => Q (.nx e) := by unfold xAsg; rw [B_bind]; refine B_ext fun p => ?_; rw [B_map]
@[simp ↓] theorem B_par (i j : Nat) (Q) : B (xPar i j as e) Q = B (as e) fun p => asP p.1 fun x y => Q (.nx ((p.2.set i (some x)).set j (some y))) := by
  unfold xPar; rw [B_bind]; refine B_ext fun p => ?_
  obtain ⟨l, e'⟩ := p
  match l with
  | [] => simp [asP]
  | [x] => simp [asP]
  | [x, y] => simp
  | x :: y :: z :: l => simp [asP]
@[simp ↓] theorem B_app (i : Nat) (Q) : B (xApp i a e) Q = ((∃ o xs, e[i]? = some (some (.lst o xs))) ∧ B (a e) fun p => ∃ xs, p.2[i]? = some (some (.lst true xs)) ∧ xs.length < sizeLine ∧ Q (.nx (p.2.set i (some (.lst true (xs ++ [p.1])))))) := by
  apply propext
  constructor
  · rintro ⟨r, h, q⟩
    obtain ⟨o, h1, h⟩ := bind_ok h
    split at h
    · refine ⟨⟨_, _, h1⟩, ?_⟩
      obtain ⟨p, hp, h2⟩ := bind_ok h
      refine ⟨p, hp, ?_⟩
      obtain ⟨o2, h3, h4⟩ := bind_ok h2
      split at h4
      · obtain ⟨c, h5⟩ := ite_ok h4
        cases h5
        exact ⟨_, h3, c, q⟩
      · cases h4
    · cases h
  · rintro ⟨⟨o, xs, h1⟩, p, hp, ys, h2, h3, q⟩
    refine ⟨_, ?_, q⟩
    unfold xApp
    simp only [h1, Option.bind_some, hp, h2, h3, if_true]
@[simp ↓] theorem B_for (i : XA) (Q) : B (xFor i g s e) Q = B (i e) fun p => B (xForL g s p.1 p.2) Q := B_bind _ _ _
@[simp ↓] theorem B_gnm (i : Nat) (d : Dat) (Q) : B (xgNm i d e) Q = Q (e.set i (some d)) := by unfold xgNm; rw [B_some, setE_eq]
@[simp ↓] theorem B_gnil (Q) : B (xgNil [] e) Q = Q e := B_some _ _
@[simp ↓] theorem B_gcons (gs : XGs) (d : Dat) (ds : List Dat) (Q) : B (xgCons g gs (d :: ds) e) Q = B (g d e) fun e => B (gs ds e) Q := B_bind _ _ _
@[simp ↓] theorem B_gtup (n : Nat) (gs : XGs) (k : TK) (ds : List Dat) (Q) : B (xgTup n gs (.tup k ds) e) Q = (ds.length = n ∧ B (gs ds e) Q) := by
  show B (if ds.length = n then gs ds e else none) Q = _
  rw [B_ite, B_none]
  exact propext ⟨fun h => by by_cases z : ds.length = n; exact ⟨z, h.1 z⟩; exact (h.2 z).elim, fun h => ⟨fun _ => h.2, fun z => (z h.1).elim⟩⟩
@[simp ↓] theorem B_var (i : Nat) (Q) : B (xVar i e) Q = B (e[i]?) fun o => B o fun d => Q (d, e) := by
  unfold xVar; rw [B_bind, getE_eq]; refine B_ext fun o => ?_; rw [B_map]
@[simp ↓] theorem B_take (i : Nat) (Q) : B (xTake i e) Q = B (e[i]?) fun o => B o fun d => IF (isFz d = true) (Q (d, e)) (Q (frz d, e.set i (some (frz d)))) := by
  unfold xTake; rw [B_bind, getE_eq]; refine B_ext fun o => ?_; rw [B_map]; refine B_ext fun d => ?_
  rw [setE_eq]
  by_cases z : isFz d = true
  · rw [if_pos z]; exact propext ⟨fun h => ⟨fun _ => h, fun y => (y z).elim⟩, fun h => h.1 z⟩
  · rw [if_neg z]; exact propext ⟨fun h => ⟨fun y => (z y).elim, fun _ => h⟩, fun h => h.2 z⟩
@[simp ↓] theorem B_C (d : Dat) (Q) : B (xC d e) Q = Q (d, e) := B_some _ _
@[simp ↓] theorem B_x2 (p2 : Bool) (f : X2) (Q) : B (x2 p2 a b f e) Q = B (a e) fun p => B (b p.2) fun q => (p2 = true ∨ isFz p.1 = true) ∧ B (f p.1 q.1) fun d => Q (d, q.2) := by
  unfold x2; rw [B_bind]; refine B_ext fun p => ?_; rw [B_bind]; refine B_ext fun q => ?_; rw [B_ite, B_map, B_none]
  exact propext ⟨fun h => by by_cases z : p2 = true ∨ isFz p.1 = true; exact ⟨z, h.1 z⟩; exact (h.2 z).elim, fun h => ⟨fun _ => h.2, fun z => (z h.1).elim⟩⟩
@[simp ↓] theorem B_x1 (f : X1) (Q) : B (x1 a f e) Q = B (a e) fun p => B (f p.1) fun d => Q (d, p.2) := by unfold x1; rw [B_bind]; refine B_ext fun p => ?_; rw [B_map]
@[simp ↓] theorem B_xm (k : Dat → Bool) (p2 : Bool) (f : X2) (Q) : B (xM k p2 a b f e) Q = B (a e) fun p => k p.1 = true ∧ B (b p.2) fun q => (p2 = true ∨ isFz p.1 = true) ∧ B (f p.1 q.1) fun d => Q (d, q.2) := by
  unfold xM; rw [B_bind]; refine B_ext fun p => ?_
  by_cases hk : k p.1 = true
  · rw [if_pos hk, B_bind]
    simp only [hk, true_and]
    refine B_ext fun q => ?_; rw [B_ite, B_map, B_none]
    exact propext ⟨fun h => by by_cases z : p2 = true ∨ isFz p.1 = true; exact ⟨z, h.1 z⟩; exact (h.2 z).elim, fun h => ⟨fun _ => h.2, fun z => (z h.1).elim⟩⟩
  · rw [if_neg hk, B_none]; exact propext ⟨fun h => h.elim, fun h => hk h.1⟩
@[simp ↓] theorem B_test (Q) : B (xTest a e) Q = B (a e) fun p => asB p.1 fun k => Q (k, p.2) := by
  unfold xTest; rw [B_bind]; refine B_ext fun p => ?_
  obtain ⟨d, e'⟩ := p
  cases d <;> simp [asB, asI]
@[simp ↓] theorem B_tru (Q) : B (xTru a e) Q = B (a e) fun p => B (truB p.1) fun k => Q (k, p.2) := by
  unfold xTru; rw [B_bind]; refine B_ext fun p => ?_; rw [B_map]
@[simp ↓] theorem B_and (Q) : B (xAnd t u e) Q = B (t e) fun p => IF (p.1 = true) (B (u p.2) Q) (Q (false, p.2)) := by
  unfold xAnd; rw [B_bind]; refine B_ext fun p => ?_; rw [B_ite, B_some]
@[simp ↓] theorem B_or (Q) : B (xOr t u e) Q = B (t e) fun p => IF (p.1 = true) (Q (true, p.2)) (B (u p.2) Q) := by
  unfold xOr; rw [B_bind]; refine B_ext fun p => ?_; rw [B_ite, B_some]
@[simp ↓] theorem B_not (Q) : B (xNot t e) Q = B (t e) fun p => Q (!p.1, p.2) := B_map _ _ _
@[simp ↓] theorem B_yes (Q) : B (xYes e) Q = Q (true, e) := B_some _ _
@[simp ↓] theorem B_andV (Q) : B (xAndV a b e) Q = B (a e) fun p => asB p.1 fun k => IF (k = true) (B (b p.2) Q) (Q (.bl false, p.2)) := by
  unfold xAndV; rw [B_bind]; refine B_ext fun p => ?_
  obtain ⟨d, e'⟩ := p
  cases d with
  | bl k => show B (if k = true then _ else _) _ = _; rw [B_ite, B_some]; rfl
  | _ => simp [asB]
@[simp ↓] theorem B_orV (Q) : B (xOrV a b e) Q = B (a e) fun p => asB p.1 fun k => IF (k = true) (Q (.bl true, p.2)) (B (b p.2) Q) := by
  unfold xOrV; rw [B_bind]; refine B_ext fun p => ?_
  obtain ⟨d, e'⟩ := p
  cases d with
  | bl k => show B (if k = true then _ else _) _ = _; rw [B_ite, B_some]; rfl
  | _ => simp [asB]
@[simp ↓] theorem B_notV (Q) : B (xNotV a e) Q = B (a e) fun p => asB p.1 fun k => Q (.bl (!k), p.2) := by
  unfold xNotV; rw [B_bind]; refine B_ext fun p => ?_
  obtain ⟨d, e'⟩ := p
  cases d <;> simp [asB, asI]
@[simp ↓] theorem B_if (Q) : B (xIf t a b e) Q = B (t e) fun p => IF (p.1 = true) (B (a p.2) Q) (B (b p.2) Q) := by
  unfold xIf; rw [B_bind]; refine B_ext fun p => ?_; rw [B_ite]
@[simp ↓] theorem B_orL (Q) : B (xOrL a b e) Q = B (a e) fun p => B (truB p.1) fun k => IF (k = true) (Q p) (B (b p.2) Q) := by
  unfold xOrL; rw [B_bind]; refine B_ext fun p => ?_; rw [B_bind]; refine B_ext fun k => ?_; rw [B_ite, B_some]
@[simp ↓] theorem B_nil (Q) : B (xNil e) Q = Q ([], e) := B_some _ _
@[simp ↓] theorem B_cons (Q) : B (xCons a as e) Q = B (a e) fun p => B (as p.2) fun q => Q (p.1 :: q.1, q.2) := by
  unfold xCons; rw [B_bind]; refine B_ext fun p => ?_; rw [B_map]
theorem B_g {α : Type} {c : Prop} [Decidable c] {o : Option α} {Q : α → Prop} : B (if c then o else none) Q = (c ∧ B o Q) := by
  rw [B_ite, B_none]
  exact propext ⟨fun h => by by_cases z : c; exact ⟨z, h.1 z⟩; exact (h.2 z).elim, fun h => ⟨fun _ => h.2, fun z => (z h.1).elim⟩⟩
@[simp ↓] theorem B_tup (Q) : B (xTup as e) Q = B (as e) fun p => p.1.length ≤ sizeLine ∧ Q (.tup .p (frzs p.1), p.2) := by
  unfold xTup; rw [B_bind]; refine B_ext fun p => ?_; rw [B_g, B_some]
@[simp ↓] theorem B_lst (Q) : B (xLst as e) Q = B (as e) fun p => p.1.length ≤ sizeLine ∧ Q (.lst true (frzs p.1), p.2) := by
  unfold xLst; rw [B_bind]; refine B_ext fun p => ?_; rw [B_g, B_some]
@[simp ↓] theorem B_frz (Q) : B (xFrz a e) Q = B (a e) fun p => Q (frz p.1, p.2) := B_map _ _ _
@[simp ↓] theorem B_of' (Q) : B (xOf a e) Q = B (a e) fun p => isFz p.1 = true ∧ Q p := by
  unfold xOf; rw [B_bind]; refine B_ext fun p => ?_; rw [B_g, B_some]
@[simp ↓] theorem B_fld (g : Nat → Option Nat) (Q) : B (xFld g a e) Q = B (a e) fun p => asO p.1 fun o k vs => B (g k) fun i => B (vs[i]?) fun d => Q (d, p.2) := by
  unfold xFld; rw [B_bind]; refine B_ext fun p => ?_
  obtain ⟨d, e'⟩ := p
  cases d with
  | obj o k vs =>
    rw [B_bind]
    exact B_ext fun i => by rw [B_map]
  | _ => simp [asO]
@[simp ↓] theorem B_noPart (Q) : B (xNoPart e) Q = Q (none, e) := B_some _ _
@[simp ↓] theorem B_part (Q) : B (xPart a e) Q = B (a e) fun p => asI p.1 fun i => Q (some i, p.2) := by
  unfold xPart; rw [B_bind]; refine B_ext fun p => ?_
  obtain ⟨d, e'⟩ := p
  cases d <;> simp [asB, asI]
@[simp ↓] theorem B_sl (ph : Bool) (l h : XO) (Q) : B (xSl ph a l h e) Q = B (a e) fun p => B (l p.2) fun l => B (h l.2) fun h => (ph = true ∨ isFz p.1 = true) ∧ B (slD p.1 l.1 h.1) fun d => Q (d, h.2) := by
  unfold xSl; rw [B_bind]; refine B_ext fun p => ?_; rw [B_bind]; refine B_ext fun l => ?_; rw [B_bind]; refine B_ext fun h => ?_; rw [B_g, B_map]
@[simp ↓] theorem B_call (f : List Dat → Option Dat) (Q) : B (xCall as f e) Q = B (as e) fun p => B (f (frzs p.1)) fun d => Q (d, p.2) := by
  unfold xCall; rw [B_bind]; refine B_ext fun p => ?_; rw [B_map]
@[simp ↓] theorem B_callM (i : Nat) (f : Dat → List Dat → Option (Dat × Dat)) (Q) : B (xCallM i as f e) Q = (hasAt i e = true ∧ B (as e) fun p => B (p.2[i]?) fun o => B o fun d => B (f d (frzs p.1)) fun r => Q (r.1, p.2.set i (some r.2))) := by
  unfold xCallM; rw [B_g, B_bind]; refine congrArg (And _) (B_ext fun p => ?_); rw [B_bind]; refine B_ext fun o => ?_; rw [B_bind]; refine B_ext fun d => ?_; rw [B_map]
@[simp ↓] theorem B_callT (f : Dat → List Dat → Option (Dat × Dat)) (Q) : B (xCallT a as f e) Q = B (a e) fun p => B (as p.2) fun q => B (f p.1 (frzs q.1)) fun r => Q (r.1, q.2) := by
  unfold xCallT; rw [B_bind]; refine B_ext fun p => ?_; rw [B_bind]; refine B_ext fun q => ?_; rw [B_map]
@[simp ↓] theorem B_meth (cl : Nat) (f : List Dat → Option Dat) (Q) : B (xMeth cl a as f e) Q = B (a e) fun p => asO p.1 fun o k vs => k = cl ∧ B (as p.2) fun q => B (f (frz p.1 :: frzs q.1)) fun r => Q (r, q.2) := by
  unfold xMeth; rw [B_bind]; refine B_ext fun p => ?_
  obtain ⟨d, e'⟩ := p
  cases d with
  | obj o k vs =>
    rw [B_g]
    show _ = (k = cl ∧ _)
    refine congrArg (And _) ?_
    rw [B_bind]
    exact B_ext fun i => by rw [B_map]
  | _ => simp [asO]
@[simp ↓] theorem B_make (cl : Nat) (f : Dat → List Dat → Option (Dat × Dat)) (Q) : B (xMake cl as f e) Q = B (as e) fun p => B (f (.obj true cl []) (frzs p.1)) fun r => isNon r.1 = true ∧ Q (r.2, p.2) := by
  unfold xMake; rw [B_bind]; refine B_ext fun p => ?_; rw [B_bind]; refine B_ext fun r => ?_; rw [B_g, B_some]
@[simp ↓] theorem B_inL (Q) : B (xInL a e) Q = B (a e) fun p => asL p.1 fun o xs => Q (frzI o xs, p.2) := by
  unfold xInL; rw [B_bind]; refine B_ext fun p => ?_
  obtain ⟨d, e'⟩ := p
  cases d with
  | lst o xs => simp
  | _ => simp [asL]
@[simp ↓] theorem B_inT (Q) : B (xInT a e) Q = B (a e) fun p => asT p.1 fun o xs => Q (frzs xs, p.2) := by
  unfold xInT; rw [B_bind]; refine B_ext fun p => ?_
  obtain ⟨d, e'⟩ := p
  cases d with
  | tup o xs => simp
  | _ => simp [asT]
@[simp ↓] theorem B_enumL (Q) : B (xEnumL a e) Q = B (a e) fun p => asL p.1 fun o xs => Q (enumD 0 (frzI o xs), p.2) := by
  unfold xEnumL; rw [B_bind]; refine B_ext fun p => ?_
  obtain ⟨d, e'⟩ := p
  cases d with
  | lst o xs => simp
  | _ => simp [asL]
@[simp ↓] theorem B_enumT (Q) : B (xEnumT a e) Q = B (a e) fun p => asT p.1 fun o xs => Q (enumD 0 (frzs xs), p.2) := by
  unfold xEnumT; rw [B_bind]; refine B_ext fun p => ?_
  obtain ⟨d, e'⟩ := p
  cases d with
  | tup o xs => simp
  | _ => simp [asT]
@[simp ↓] theorem B_rng1 (Q) : B (xRng1 as e) Q = B (as e) fun p => as1 p.1 fun j => (-(2 ^ 62) ≤ j ∧ j < 2 ^ 62) ∧ Q (rngD 0 j.toNat, p.2) := by
  unfold xRng1; rw [B_bind]; refine B_ext fun p => ?_
  obtain ⟨l, e'⟩ := p
  apply propext
  constructor
  · rintro ⟨r, h, q⟩
    split at h
    · rename_i j hj
      obtain ⟨c, h⟩ := ite_ok h
      cases h
      simp only at hj
      subst hj
      exact ⟨c, q⟩
    · cases h
  · intro h
    unfold as1 at h
    split at h
    · rename_i j hj
      simp only at hj
      subst hj
      exact ⟨_, if_pos h.1, h.2⟩
    · exact h.elim
@[simp ↓] theorem B_rng2 (Q) : B (xRng2 as e) Q = B (as e) fun p => as2 p.1 fun i j => (-(2 ^ 62) ≤ i ∧ i < 2 ^ 62 ∧ -(2 ^ 62) ≤ j ∧ j < 2 ^ 62) ∧ Q (rngD i (j - i).toNat, p.2) := by
  unfold xRng2; rw [B_bind]; refine B_ext fun p => ?_
  obtain ⟨l, e'⟩ := p
  apply propext
  constructor
  · rintro ⟨r, h, q⟩
    split at h
    · rename_i i j hj
      obtain ⟨c, h⟩ := ite_ok h
      cases h
      simp only at hj
      subst hj
      exact ⟨c, q⟩
    · cases h
  · intro h
    unfold as2 at h
    split at h
    · rename_i i j hj
      simp only at hj
      subst hj
      exact ⟨_, if_pos h.1, h.2⟩
    · exact h.elim
@[simp ↓] theorem B_lc (w : XE) (vs : List Nat) (Q) : B (xLc as g t w vs e) Q = B (as e) fun p => p.1.length < sizeLine ∧ B (xLcL vs g t w p.1 [] p.2) fun q => Q (.lst true q.1, q.2) := by
  unfold xLc; rw [B_bind]; refine B_ext fun p => ?_; rw [B_g, B_map]
end
theorem lcL {α : Type} (enc : α → Dat) {vs : List Nat} {g : XG} {t : XT} {w : XE} {Q : List Dat × Env → Prop} (I : List Dat → List α → Env → Prop)
    (step : ∀ acc a r e, I acc (a :: r) e → B (g (enc a) (wipeE e vs)) fun e1 => B (t e1) fun p => IF (p.1 = true) (B (w p.2) fun q => I (acc ++ [frz q.1]) r (wipeE q.2 vs)) (I acc r (wipeE p.2 vs))) (fin : ∀ acc e, I acc [] e → Q (acc, e)) :
    ∀ (xs : List α) {acc : List Dat} {e : Env}, I acc xs e → B (xLcL vs g t w (xs.map enc) acc e) Q
  | [], acc, e, h => ⟨_, rfl, fin acc e h⟩
  | a :: r, acc, e, h => by
    obtain ⟨e1, h1, p, h2, h3⟩ := step acc a r e h
    rw [List.map_cons, xLcL_cons, B_bind, wipeX_eq]
    refine ⟨e1, h1, ?_⟩
    show B (Option.bind _ _) _
    rw [B_bind]
    refine ⟨p, h2, ?_⟩
    show B (if p.1 = true then _ else _) _
    rw [B_ite]
    refine ⟨fun z => ?_, fun z => ?_⟩
    · obtain ⟨q, hq, h4⟩ := h3.1 z
      rw [B_bind]
      refine ⟨q, hq, ?_⟩
      show B (xLcL vs g t w _ _ (wipeX _ _)) Q
      rw [wipeX_eq]
      exact lcL enc I step fin r h4
    · rw [wipeX_eq]; exact lcL enc I step fin r (h3.2 z)
/-- a comprehension that leaves the slots as they are: a filter and a map -/
theorem lcF {α : Type} (enc : α → Dat) (keep : α → Bool) (out : α → Dat) {vs : List Nat} {g : XG} {t : XT} {w : XE} {Q : List Dat × Env → Prop} {E : Env} (xs : List α) (acc : List Dat)
    (step : ∀ a ∈ xs, B (g (enc a) (wipeE E vs)) fun e1 => B (t e1) fun p => p.1 = keep a ∧ IF (keep a = true) (B (w p.2) fun q => frz q.1 = out a ∧ wipeE q.2 vs = E) (wipeE p.2 vs = E)) (h : Q (acc ++ (xs.filter keep).map out, E)) : B (xLcL vs g t w (xs.map enc) acc E) Q := by
  have := lcL (α := α) enc (vs := vs) (g := g) (t := t) (w := w) (Q := Q) (fun acc' r e => e = E ∧ (∀ a ∈ r, a ∈ xs) ∧ acc' ++ (r.filter keep).map out = acc ++ (xs.filter keep).map out) (fun acc' a r e h => by
    obtain ⟨rfl, hm, h2⟩ := h
    refine B_imp (step a (hm a List.mem_cons_self)) fun e1 h1 => B_imp h1 fun p hp => ?_
    obtain ⟨hp1, hp2⟩ := hp
    rw [hp1]
    refine ⟨fun z => B_imp (hp2.1 z) fun q hq => ⟨hq.2, fun b hb => hm b (List.mem_cons_of_mem _ hb), ?_⟩, fun z => ⟨hp2.2 z, fun b hb => hm b (List.mem_cons_of_mem _ hb), ?_⟩⟩
    · rw [hq.1, ← h2, List.filter_cons_of_pos z]; simp
    · rw [← h2, List.filter_cons_of_neg z]) (fun acc' e h' => by
    obtain ⟨rfl, _, h2⟩ := h'
    simp only [List.filter_nil, List.map_nil, List.append_nil] at h2
    subst h2; exact h) xs (acc := acc) (e := E) ⟨rfl, fun _ h => h, rfl⟩
  exact this
@[simp] theorem xAdd_int (i j : Int) : xAdd (.int i) (.int j) = some (.int (i + j)) := rfl
@[simp] theorem xSub_int (i j : Int) : xSub (.int i) (.int j) = some (.int (i - j)) := rfl
@[simp] theorem xLt_int (i j : Int) : xLt (.int i) (.int j) = some (.bl (decide (i < j))) := rfl
@[simp] theorem xLe_int (i j : Int) : xLe (.int i) (.int j) = some (.bl (decide (i ≤ j))) := rfl
@[simp] theorem xGt_int (i j : Int) : xGt (.int i) (.int j) = some (.bl (decide (j < i))) := rfl
@[simp] theorem xGe_int (i j : Int) : xGe (.int i) (.int j) = some (.bl (decide (j ≤ i))) := rfl
@[simp] theorem xEq_int (i j : Int) : xEq (.int i) (.int j) = some (.bl (decide (i = j))) := rfl
@[simp] theorem xNe_int (i j : Int) : xNe (.int i) (.int j) = some (.bl (!decide (i = j))) := rfl
@[simp] theorem xIs_non (n : Bool) (x : Dat) : xIs n x .non = some (.bl (if n then !isNon x else isNon x)) := rfl
@[simp] theorem xMax2_int (i j : Int) : xMax2 (.int i) (.int j) = some (.int (if j > i then j else i)) := rfl
@[simp] theorem xMin2_int (i j : Int) : xMin2 (.int i) (.int j) = some (.int (if j < i then j else i)) := rfl
@[simp] theorem xIntF_int (i : Int) : xIntF (.int i) = some (.int i) := rfl
@[simp] theorem xIdx_t0 (k : TK) (a : Dat) (l : List Dat) : xIdx (.tup k (a :: l)) (.int 0) = some a := by
  show atI (a :: l) 0 = _; unfold atI ixN; simp; try (intro h; omega)
@[simp] theorem xIdx_t1 (k : TK) (a b : Dat) (l : List Dat) : xIdx (.tup k (a :: b :: l)) (.int 1) = some b := by
  show atI (a :: b :: l) 1 = _; unfold atI ixN; simp; rw [if_pos (by omega)]; rfl
@[simp] theorem xIdx_t2 (k : TK) (a b c : Dat) (l : List Dat) : xIdx (.tup k (a :: b :: c :: l)) (.int 2) = some c := by
  show atI (a :: b :: c :: l) 2 = _; unfold atI ixN; simp; rw [if_pos (by omega)]; rfl
@[simp] theorem xIdx_l0 (k : Bool) (a : Dat) (l : List Dat) : xIdx (.lst k (a :: l)) (.int 0) = some a := by
  show atI (a :: l) 0 = _; unfold atI ixN; simp; try (intro h; omega)
@[simp] theorem xIdx_l1 (k : Bool) (a b : Dat) (l : List Dat) : xIdx (.lst k (a :: b :: l)) (.int 1) = some b := by
  show atI (a :: b :: l) 1 = _; unfold atI ixN; simp; rw [if_pos (by omega)]; rfl
@[simp] theorem isFz_int (i : Int) : isFz (.int i) = true := rfl
@[simp] theorem isFz_bl (i : Bool) : isFz (.bl i) = true := rfl
@[simp] theorem isFz_str (i : Str) : isFz (.str i) = true := rfl
@[simp] theorem isFz_non : isFz .non = true := rfl
@[simp] theorem isFz_scr (l) : isFz (.scr l) = true := rfl
@[simp] theorem isFz_exn (c l) : isFz (.exn c l) = true := rfl
@[simp] theorem isFz_tup (k : TK) (xs : List Dat) : isFz (.tup k xs) = isFzs xs := rfl
@[simp] theorem isFz_lst (o : Bool) (xs : List Dat) : isFz (.lst o xs) = !o := rfl
@[simp] theorem isFz_obj (o : Bool) (k) (xs : List Dat) : isFz (.obj o k xs) = !o := rfl
@[simp] theorem isFz_dct (o : Bool) (k) (xs : List Dat) : isFz (.dct o k xs) = !o := rfl
@[simp] theorem isFzs_nil : isFzs [] = true := rfl
@[simp] theorem isFzs_cons (d : Dat) (ds : List Dat) : isFzs (d :: ds) = (isFz d && isFzs ds) := rfl
@[simp] theorem frz_int (i : Int) : frz (.int i) = .int i := rfl
@[simp] theorem frz_bl (i : Bool) : frz (.bl i) = .bl i := rfl
@[simp] theorem frz_str (i : Str) : frz (.str i) = .str i := rfl
@[simp] theorem frz_non : frz .non = .non := rfl
@[simp] theorem frz_scr (l) : frz (.scr l) = .scr l := rfl
@[simp] theorem frz_exn (c l) : frz (.exn c l) = .exn c l := rfl
@[simp] theorem frz_tup (k : TK) (xs : List Dat) : frz (.tup k xs) = .tup k (frzs xs) := by simp only [frz]
@[simp] theorem frz_lstT (xs : List Dat) : frz (.lst true xs) = .lst false (frzs xs) := rfl
@[simp] theorem frz_lstF (xs : List Dat) : frz (.lst false xs) = .lst false xs := rfl
@[simp] theorem frz_objF (k) (xs : List Dat) : frz (.obj false k xs) = .obj false k xs := rfl
@[simp] theorem frz_dctT (k) (xs : List Dat) : frz (.dct true k xs) = .dct false k (frzs xs) := rfl
@[simp] theorem frz_dctF (k) (xs : List Dat) : frz (.dct false k xs) = .dct false k xs := rfl
@[simp] theorem frzs_nil : frzs [] = [] := rfl
@[simp] theorem frzs_cons (d : Dat) (ds : List Dat) : frzs (d :: ds) = frz d :: frzs ds := rfl
@[simp] theorem frzI_t (ds : List Dat) : frzI true ds = frzs ds := rfl
@[simp] theorem frzI_f (ds : List Dat) : frzI false ds = ds := rfl
@[simp] theorem hasAt_0 (d : Dat) (e : Env) : hasAt 0 (some d :: e) = true := rfl
@[simp] theorem wipe_nil (e : Env) : wipeE e [] = e := rfl
@[simp] theorem wipe_cons (e : Env) (v : Nat) (vs : List Nat) : wipeE e (v :: vs) = (wipeE e vs).set v none := rfl
@[simp] theorem truB_bl (b : Bool) : truB (.bl b) = some b := rfl
@[simp] theorem truB_lst (o : Bool) (xs : List Dat) : truB (.lst o xs) = some (!xs.isEmpty) := rfl
@[simp] theorem truB_tup (o : TK) (xs : List Dat) : truB (.tup o xs) = some (!xs.isEmpty) := rfl
@[simp] theorem xLen_lst (o : Bool) (xs : List Dat) : xLen (.lst o xs) = some (.int xs.length) := rfl
@[simp] theorem xLen_tup (o : TK) (xs : List Dat) : xLen (.tup o xs) = some (.int xs.length) := rfl
end
end M
namespace M
open PySem PySem.Spec PyProof.Rows L2
namespace PP
noncomputable section
theorem map_at {α β : Type} {f g : α → β} {xs : List α} (h : xs.map f = xs.map g) {x : α} (hx : x ∈ xs) : f x = g x := List.map_inj_left.mp h x hx
theorem xSeq_as (a b c : XS) : xSeq a (xSeq b c) = xSeq (xSeq a b) c := by
  funext e
  unfold xSeq
  cases a e with
  | none => rfl
  | some o => cases o <;> rfl
theorem isFzs_of : ∀ {xs : List Dat}, (∀ d ∈ xs, isFz d = true) → isFzs xs = true
  | [], _ => rfl
  | d :: ds, h => by
    simp only [isFzs, Bool.and_eq_true]
    exact ⟨h d List.mem_cons_self, isFzs_of fun e he => h e (List.mem_cons_of_mem _ he)⟩
/-- an item of a list at a drawn place -/
theorem idx_mem {o : Bool} {xs : List Dat} {v : Int} (h0 : 0 ≤ v) (h1 : v < xs.length) : ∃ d ∈ xs, xIdx (.lst o xs) (.int v) = some d := by
  obtain ⟨n, rfl⟩ : ∃ n : Nat, v = n := ⟨v.toNat, by omega⟩
  have hn : n < xs.length := by omega
  refine ⟨xs[n], List.getElem_mem hn, ?_⟩
  show atI xs _ = _
  unfold atI ixN
  rw [if_pos (by omega), if_pos (by simp; omega), Option.bind_some]
  simp [hn]
theorem xSet_at {i : Nat} {a : XE} {e e' : Env} {d : Dat} (h : a e = some (d, e')) : xSet i a e = some (.nx (e'.set i (some d))) := by
  unfold xSet
  rw [h]
  simp only [Option.map_some, setE_eq]
end
end PP
end M
namespace M
open PySem PySem.Spec PyProof.Rows L2
namespace PP
noncomputable section
/-- what a lambda's call gives, its arguments known -/
theorem lam_at {rc : RX → Option Dat} {as : XA} {rx : RFX} {e e' : Env} {ds : List Dat} {d : Dat} (ha : as e = some (ds, e')) (hf : frzs ds = ds) (h : ((rx ds).bind fun r => rc (match r with | .ok d => .ok (frz d) | .ex c gs => .ex c gs)) = some d) : xLam rc (yCall as rx) e = some (d, e') := by
  unfold xLam yCall
  rw [ha]
  simp only [Option.bind_some, hf]
  cases q : rx ds with
  | none => rw [q] at h; cases h
  | some r =>
    rw [q] at h
    simp only [Option.bind_some, Option.map_some] at h ⊢
    cases r with
    | ok d0 => show Option.map _ (rc (.ok (frz d0))) = _; rw [show rc (.ok (frz d0)) = some d from h]; rfl
    | ex n gs => show Option.map _ (rc (.ex n gs)) = _; rw [show rc (.ex n gs) = some d from h]; rfl
theorem lamK_at {rc : RX → Option Dat} {as : XA} {rx : RFX} {n : Nat} {π : List Nat} {e e' : Env} {ds' ds : List Dat} {d : Dat} (ha : as e = some (ds', e')) (hn : ds'.length = n) (hf : permL .non π (frzs ds') = ds) (h : ((rx ds).bind fun r => rc (match r with | .ok d => .ok (frz d) | .ex c gs => .ex c gs)) = some d) : xLam rc (yCallK n π as rx) e = some (d, e') := by
  unfold xLam yCallK
  rw [ha]
  simp only [Option.bind_some, hn, if_true, hf]
  cases q : rx ds with
  | none => rw [q] at h; cases h
  | some r =>
    rw [q] at h
    simp only [Option.bind_some, Option.map_some] at h ⊢
    cases r with
    | ok d0 => show Option.map _ (rc (.ok (frz d0))) = _; rw [show rc (.ok (frz d0)) = some d from h]; rfl
    | ex n gs => show Option.map _ (rc (.ex n gs)) = _; rw [show rc (.ex n gs) = some d from h]; rfl
theorem ySeq_ex {a b : YS} {e e' : Env} {c : Nat} {gs : List Dat} (h : a e = some (.ex c gs e')) : ySeq a b e = some (.ex c gs e') := by
  unfold ySeq; rw [h]; rfl
theorem ySeq_nx {a b : YS} {e e' : Env} (h : a e = some (.o (.nx e'))) : ySeq a b e = b e' := by
  unfold ySeq; rw [h]; rfl
theorem yCall_ex {as : XA} {f : RFX} {e e' : Env} {ds : List Dat} {c : Nat} {gs : List Dat} (ha : as e = some (ds, e')) (hf : frzs ds = ds) (h : f ds = some (.ex c gs)) : yDrop (yCall as f) e = some (.ex c gs e') := by
  unfold yDrop yCall
  rw [ha]
  simp only [Option.bind_some, hf, h, Option.map_some]
theorem yCall_ok {as : XA} {f : RFX} {e e' : Env} {ds : List Dat} {d : Dat} (ha : as e = some (ds, e')) (hf : frzs ds = ds) (h : f ds = some (.ok d)) : yDrop (yCall as f) e = some (.o (.nx e')) := by
  unfold yDrop yCall
  rw [ha]
  simp only [Option.bind_some, hf, h, Option.map_some]
theorem runFX_ex {np n : Nat} {x : YS} {ds : List Dat} {c : Nat} {gs : List Dat} {e : Env} (hl : ds.length = np) (h : x (startE n ds) = some (.ex c gs e)) : runFX np n x ds = some (.ex c gs) := by
  unfold runFX
  rw [if_pos hl, h]
  rfl
end
end PP
end M
namespace M
open PySem PySem.Spec PyProof.Rows L2
namespace PP
noncomputable section
def pr1 (o : Bool) (p : Int × Str) : Dat := .lst o [.int p.1, .str p.2]
def dues (o : Bool) (ps : List (Int × Str)) : Dat := .lst o (ps.map (pr1 false))
def okD (p : Int × Str) : Bool := PyData.canLay0 (.str p.2)
theorem py_due : ∀ ps : List (Int × Str), isPys (ps.map (pr1 false)) = true
  | [] => rfl
  | p :: ps => by
    simp only [List.map_cons, isPys, Bool.and_eq_true]
    exact ⟨rfl, py_due ps⟩
theorem can_due : ∀ ps : List (Int × Str), (∀ p ∈ ps, okD p = true) → PyData.canLayAll0 (toPys (ps.map (pr1 false))) = true
  | [], _ => rfl
  | p :: ps, h => by
    simp only [List.map_cons, toPys, PyData.canLayAll0, Bool.and_eq_true]
    refine ⟨?_, can_due ps fun q hq => h q (List.mem_cons_of_mem _ hq)⟩
    have z : PyData.canLay0 (.str p.2) = true := h p List.mem_cons_self
    simp [pr1, toPy, toPys, PyData.canLay0, PyData.canLayAll0] at z ⊢
    exact z
theorem depth_due : ∀ ps : List (Int × Str), PyData.depthAll (toPys (ps.map (pr1 false))) ≤ 1
  | [] => Nat.zero_le _
  | p :: ps => by
    simp only [List.map_cons, toPys, PyData.depthAll]
    exact Nat.max_le.mpr ⟨by simp [pr1, toPy, toPys, PyData.depth, PyData.depthAll], depth_due ps⟩
theorem shaped_due {ps : List (Int × Str)} (h : ∀ p ∈ ps, okD p = true) (o : Bool) : SeqAt.shaped (toPy (dues o ps)) = true := by
  unfold SeqAt.shaped
  rw [Bool.and_eq_true]
  refine ⟨can_due ps h, decide_eq_true ?_⟩
  have := depth_due ps
  show PyData.depthAll (toPys (ps.map (pr1 false))) + 1 ≤ 64
  omega
theorem eqv_due : ∀ ps : List (Int × Str), PyData.eqvAll (toPys (ps.map (pr1 false))) (toPys (ps.map (pr1 false))) = true
  | [] => rfl
  | p :: ps => by
    simp only [List.map_cons, toPys, PyData.eqvAll, Bool.and_eq_true]
    exact ⟨by simp [pr1, toPy, toPys, PyData.eqv, PyData.eqvAll], eqv_due ps⟩
theorem eqB_nil {ps : List (Int × Str)} (h : ∀ p ∈ ps, okD p = true) (o o2 : Bool) : eqB (dues o ps) (.lst o2 []) = some ps.isEmpty := by
  show (if isPys (ps.map (pr1 false)) = true ∧ isPys [] = true ∧ SeqAt.shaped (toPy (dues o ps)) = true ∧ SeqAt.shaped (toPy (.lst o2 [])) = true then some (PyData.eqvAll (toPys (ps.map (pr1 false))) []) else none) = _
  rw [if_pos ⟨py_due ps, rfl, shaped_due h o, rfl⟩]
  cases ps <;> rfl
theorem eqB_self {ps : List (Int × Str)} (h : ∀ p ∈ ps, okD p = true) (o o2 : Bool) : eqB (dues o ps) (dues o2 ps) = some true := by
  show (if isPys (ps.map (pr1 false)) = true ∧ isPys (ps.map (pr1 false)) = true ∧ SeqAt.shaped (toPy (dues o ps)) = true ∧ SeqAt.shaped (toPy (dues o2 ps)) = true then some (PyData.eqvAll (toPys (ps.map (pr1 false))) (toPys (ps.map (pr1 false)))) else none) = _
  rw [if_pos ⟨py_due ps, py_due ps, shaped_due h o, shaped_due h o2⟩, eqv_due]
end
end PP
end M
namespace M
open PySem PySem.Spec PyProof.Rows L2
namespace PP
noncomputable section
def f4 : List Dat := [.str cs_startx20Ax201x202x0astartx20Cx203x0apacketx0aAx20pagesx201x0aCx20pagesx206, .dct false [.str cs_A, .str cs_C] [.tup .u [.obj false 0 [.tup .b [.int 1, .int 2], .tup .u [.int 1], .tup .u [.int 1], .tup .u [.int 1], .tup .b [.int 1, .int 2], .tup .u [.tup .p [.int 1, .int 1]]]], .tup .u [.obj false 0 [.tup .b [.int 3], .tup .u [.int 6], .tup .u [.int 3], .tup .u [.int 3], .tup .b [.int 3], .tup .u [.tup .p [.int 3, .int 1]]]]], .str cs_AC, .int 1]
def gu4 : Dat := .obj true 1 f4
def gd4 : Dat := .obj false 1 f4
def ssB : List Dat := [.non, .str cs_startx20Ax201, .int 3, .dct false [] []]
def ss4 : List Dat := gd4 :: ssB
def stG : List Dat := [.str cs_all, .str cs_first, .str cs_count]
def stB : List Dat := [.str cs_All, .str cs_, .non, .lst false [.str cs_all], .int 0, .str cs_alla]
def st4 : List Dat := stG ++ stB
def lG : List Dat := [.str cs_A, .str cs_C]
def lB : List Dat := [.str cs_B, .str cs_AC, .str cs_, .non, .int 1, .lst false [.str cs_A]]
def l4 : List Dat := lG ++ lB
def tw (a b : Dat) : Dat := .tup .p [a, b]
def erG : List (Dat × Dat) := [(.tup .p [], .int (-1)), (.tup .p [tw (.int 0) (.str cs_skip), tw (.int 1000000000000000000000000000000) (.str cs_late)], .int (-1))]
def erB : List (Dat × Dat) := [(.tup .p [tw (.int 3) (.str cs_ins), tw (.int 3) (.str cs_outs)], .int 1), (.tup .p [tw (.int 5) (.str cs_ins), tw (.int 4) (.str cs_outs)], .int 1),
  (.tup .p [tw (.int 1) (.str cs_skip), tw (.int 2) (.str cs_skip), tw (.int 3) (.str cs_skip), tw (.int 4) (.str cs_skip)], .int 3), (.tup .p [tw (.int (-1)) (.str cs_skip)], .int 0), (.tup .p [tw (.bl true) (.str cs_skip)], .int 0),
  (.tup .p [tw (.int 1) (.str cs_skips)], .int 0), (.tup .p [tw (.int 1) .non], .int 0), (.tup .p [.tup .p [.int 1]], .int 0), (.tup .p [.lst false [.int 1, .str cs_skip]], .int 0), (.lst false [], .int (-2)), (.non, .int (-2)),
  (.tup .p [tw (.str cs_1) (.str cs_skip)], .int 0), (.tup .p [tw (.int 1000000000000000000000000000001) (.str cs_skip)], .int 0), (.str cs_late, .int (-2)), (.tup .p [tw (.int 1) (.lst false [.str cs_late])], .int 0)]
def er4 : List (Dat × Dat) := erG ++ erB
def me4 : List Dat := er4.map fun p => tw p.1 p.2
def bdB : List Dat := [.int 1, .int 3, .int 0, .int (-2)]
def bd4 : List Dat := .int (-1) :: bdB
def thG : List Dat := [.int 0, .int 1, .int 1000000000000000000000000000000]
def thB : List Dat := [.int 1000000000000000000000000000001, .int (-1), .bl true, .non, .str cs_0, .tup .p [.int 1]]
def th4 : List Dat := thG ++ thB
def sdG : List Dat := [.int 1, .int 18, .int 6]
def sdB : List Dat := [.int 0, .int 19, .bl true, .non, .str cs_1, .int (-1)]
def sd4 : List Dat := sdG ++ sdB
def rp4 (d : Dat) : Str := match xReprD d with | some (.str r) => r | _ => cs_
def dS (d : Dat) : List (Int × Str) := match d with | .obj _ _ _ => [] | d => [(10, rp4 d)]
def dSt (d : Dat) : List (Int × Str) := match d with | .str x => if decide (x = cs_all) || (decide (x = cs_first) || decide (x = cs_count)) then [] else [(2, rp4 d)] | d => [(2, rp4 d)]
def dLt (d : Dat) : List (Int × Str) := match d with | .str x => if decide (x = cs_A) || decide (x = cs_C) then [] else [(1, rp4 d)] | d => [(1, rp4 d)]
def b11 (d : Dat) : Dat := match d with | .int i => if decide (i = -2) then .non else .int i | d => d
def e11 (d : Dat) : List (Int × Str) := match d with | .int i => if decide (i = -1) then [] else [(11, rp4 (b11 d))] | _ => []
def e3 (d : Dat) : List (Int × Str) := match d with | .int i => if decide (0 ≤ i) && decide (i ≤ 1000000000000000000000000000000) then [] else [(3, rp4 d)] | d => [(3, rp4 d)]
def e4 (d : Dat) : List (Int × Str) := match d with | .int i => if decide (1 ≤ i) && decide (i ≤ 18) then [] else [(4, rp4 d)] | d => [(4, rp4 d)]
def isOD (d : Dat) : Bool := match d with | .obj _ _ _ => true | _ => false
def d0 (s st l : Dat) : List (Int × Str) := dS s ++ dSt st ++ (if isOD s then dLt l else [])
def E4 (c : Dat) (t : Option Dat) (s st l er b th sd : Dat) (o10 o11 o12 : Option Dat) : Env := [some c, some gd4, t, some s, some st, some l, some er, some b, some th, some sd, o10, o11, o12]
def eA (o : Option Out) : Option (List (Option Dat) × Nat × Option Dat) := match o with | some (.nx e) => some (e.take 11, e.length, e.getD 12 (some .non)) | _ => none
def xL4 (o : Option RX) : Option Dat := o.bind fun r => rc__law_caught (match r with | .ok d => .ok (frz d) | .ex c gs => .ex c gs)
def hdX (ps : List (Int × Str)) : Option Dat := match ps with | p :: _ => some (pr1 true p) | [] => none
def q4_0 : XS := (xSet 3 (xCallM 0 (xCons (xLst (xCons (xTake 1) (xCons (xTake 1) (xCons (xTake 1) (xCons (xC .non) (xCons (xC (.str cs_startx20Ax201)) (xCons (xC (.int 3)) (xCons (xC (.dct true [] [])) xNil)))))))) xNil) r__law_pick))
def q4_1 : XS := (xSet 4 (xCallM 0 (xCons (xLst (xCons (xC (.str cs_all)) (xCons (xC (.str cs_first)) (xCons (xC (.str cs_count)) (xCons (xC (.str cs_All)) (xCons (xC (.str cs_)) (xCons (xC .non) (xCons (xLst (xCons (xC (.str cs_all)) xNil)) (xCons (xC (.int 0)) (xCons (xC (.str cs_alla)) xNil)))))))))) xNil) r__law_pick))
def q4_2 : XS := (xSet 5 (xCallM 0 (xCons (xLst (xCons (xC (.str cs_A)) (xCons (xC (.str cs_C)) (xCons (xC (.str cs_A)) (xCons (xC (.str cs_B)) (xCons (xC (.str cs_AC)) (xCons (xC (.str cs_)) (xCons (xC .non) (xCons (xC (.int 1)) (xCons (xLst (xCons (xC (.str cs_A)) xNil)) xNil)))))))))) xNil) r__law_pick))
def q4_3 : XS := (xAsg (xCallM 0 xNil r__law_some_errs) (xgTup 2 (xgCons (xgNm 6) (xgCons (xgNm 7) xgNil))))
def q4_4 : XS := (xSet 8 (xCallM 0 (xCons (xLst (xCons (xC (.int 0)) (xCons (xC (.int 1)) (xCons (x2 true (xC (.int 10)) (xC (.int 30)) xPow) (xCons (x2 true (x2 true (xC (.int 10)) (xC (.int 30)) xPow) (xC (.int 1)) xAdd) (xCons (x1 (xC (.int 1)) xNeg) (xCons (xC (.bl true)) (xCons (xC .non) (xCons (xC (.str cs_0)) (xCons (xTup (xCons (xC (.int 1)) xNil)) xNil)))))))))) xNil) r__law_pick))
def q4_5 : XS := (xSet 9 (xCallM 0 (xCons (xLst (xCons (xC (.int 1)) (xCons (xC (.int 18)) (xCons (xC (.int 6)) (xCons (xC (.int 0)) (xCons (xC (.int 19)) (xCons (xC (.bl true)) (xCons (xC .non) (xCons (xC (.str cs_1)) (xCons (x1 (xC (.int 1)) xNeg) xNil)))))))))) xNil) r__law_pick))
def q4_6 : XS := (xSet 10 (xIf (xTru (x1 (xVar 3) (xIsi (fiOX 1)))) (xLst xNil) (xLst (xCons (xLst (xCons (xC (.int 10)) (xCons (x1 (xVar 3) xReprD) xNil))) xNil))))
def q4_7 : XS := (xSet 10 (x2 true (xVar 10) (xIf (xAnd (xTru (x1 (xVar 4) (xIsi (fiB "str")))) (xTest (x2 true (xVar 4) (xLst (xCons (xC (.str cs_all)) (xCons (xC (.str cs_first)) (xCons (xC (.str cs_count)) xNil)))) xIn))) (xLst xNil) (xLst (xCons (xLst (xCons (xC (.int 2)) (xCons (x1 (xVar 4) xReprD) xNil))) xNil))) xAdd))
def q4_8 : XS := (xIfS (xTru (x1 (xVar 3) (xIsi (fiOX 1)))) (xSet 10 (x2 true (xVar 10) (xIf (xAnd (xTru (x1 (xVar 5) (xIsi (fiB "str")))) (xTest (x2 true (xVar 5) (xLst (xCons (xC (.str cs_A)) (xCons (xC (.str cs_C)) xNil))) xIn))) (xLst xNil) (xLst (xCons (xLst (xCons (xC (.int 1)) (xCons (x1 (xVar 5) xReprD) xNil))) xNil))) xAdd)) xSkip)
def q4_9 : XS := (xIfS (xTest (x2 true (xVar 7) (x1 (xC (.int 1)) xNeg) xNe)) (xApp 10 (xFrz (xLst (xCons (xC (.int 11)) (xCons (x1 (xIf (xTest (x2 true (xVar 7) (x1 (xC (.int 2)) xNeg) xEq)) (xC .non) (xVar 7)) xReprD) xNil))))) xSkip)
def q4_10 : XS := (xIfS (xOr (xNot (xTru (x1 (xVar 8) (xIsi (fiB "int"))))) (xOr (xTru (x1 (xVar 8) (xIsi (fiB "bool")))) (xNot (xTest (xChain true true (xC (.int 0)) (xVar 8) (x2 true (xC (.int 10)) (xC (.int 30)) xPow) xLe xLe))))) (xApp 10 (xFrz (xLst (xCons (xC (.int 3)) (xCons (x1 (xVar 8) xReprD) xNil))))) xSkip)
def q4_11 : XS := (xSet 11 (xLst (xCons (xLam rc__law_caught (yCall (xCons (xTake 3) (xCons (xTake 4) (xCons (xTake 5) (xCons (xTake 6) (xCons (xTake 8) xNil))))) rx_row)) xNil)))
def q4_12 : XS := (xApp 11 (xFrz (xLam rc__law_caught (yCallK 5 [4, 3, 2, 1, 0] (xCons (xTake 8) (xCons (xTake 6) (xCons (xTake 5) (xCons (xTake 4) (xCons (xTake 3) xNil))))) rx_wrong))))
def q4_13 : XS := (xApp 11 (xFrz (xLam rc__law_caught (yCall (xCons (xTake 3) (xCons (xTake 4) (xCons (xTake 5) (xCons (xTake 6) (xCons (xTake 8) xNil))))) rx_is_right))))
def q4_14 : XS := (xIfS (xTest (x2 true (xLc (xInL (xTake 11)) (xgNm 12) (xTest (x2 true (xSl true (xVar 12) xNoPart (xPart (xC (.int 2)))) (xOrL (xCallF 10 r__law_first) (xSl true (xVar 12) xNoPart (xPart (xC (.int 2))))) xNe)) (xTake 12) [12]) (xLst xNil) xNe)) (xRet (xC (.bl false))) xSkip)
def q4_15 : XS := (xIfS (xAnd (xTest (x2 true (xVar 10) (xLst xNil) xEq)) (xTest (x2 true (xLc (xInL (xTake 11)) (xgNm 12) xYes (xOf (x2 true (xVar 12) (xC (.int 0)) xIdx)) [12]) (x2 true (xLst (xCons (xC (.str cs_given)) xNil)) (xC (.int 3)) xMul) xNe))) (xRet (xC (.bl false))) xSkip)
def q4_16 : XS := (xIfS (xOr (xNot (xTru (x1 (xVar 9) (xIsi (fiB "int"))))) (xOr (xTru (x1 (xVar 9) (xIsi (fiB "bool")))) (xNot (xTest (xChain true true (xC (.int 1)) (xVar 9) (xC (.int 18)) xLe xLe))))) (xApp 10 (xFrz (xLst (xCons (xC (.int 4)) (xCons (x1 (xVar 9) xReprD) xNil))))) xSkip)
def q4_17 : XS := (xSet 11 (xLst (xCons (xLam rc__law_caught (yCall (xCons (xTake 3) (xCons (xTake 4) (xCons (xTake 5) (xCons (xTake 6) (xCons (xTake 8) (xCons (xTake 9) xNil)))))) rx_read)) xNil)))
def q4_18 : XS := (xApp 11 (xFrz (xLam rc__law_caught (yCallK 6 [5, 4, 3, 2, 1, 0] (xCons (xTake 9) (xCons (xTake 8) (xCons (xTake 6) (xCons (xTake 5) (xCons (xTake 4) (xCons (xTake 3) xNil)))))) rx_read))))
def q4_19 : XS := (xIfS (xOr (xAnd (xTest (x2 true (xVar 10) (xLst xNil) xEq)) (xTest (x2 true (xLc (xInL (xTake 11)) (xgNm 12) xYes (xOf (x2 true (xVar 12) (xC (.int 0)) xIdx)) [12]) (x2 true (xLst (xCons (xC (.str cs_given)) xNil)) (xC (.int 2)) xMul) xNe))) (xAnd (xTest (x2 true (xVar 10) (xLst xNil) xNe)) (xTest (x2 true (xVar 11) (x2 true (xLst (xCons (xOf (x2 true (xVar 10) (xC (.int 0)) xIdx)) xNil)) (xC (.int 2)) xMul) xNe)))) (xRet (xC (.bl false))) xSkip)
def w4_0 : XS := (xSet 1 (xLst (xCons (xTup (xCons (xTup xNil) (xCons (x1 (xC (.int 1)) xNeg) xNil))) (xCons (xTup (xCons (xTup (xCons (xTup (xCons (xC (.int 0)) (xCons (xC (.str cs_skip)) xNil))) (xCons (xTup (xCons (x2 true (xC (.int 10)) (xC (.int 30)) xPow) (xCons (xC (.str cs_late)) xNil))) xNil))) (xCons (x1 (xC (.int 1)) xNeg) xNil))) (xCons (xTup (xCons (xTup (xCons (xTup (xCons (xC (.int 3)) (xCons (xC (.str cs_ins)) xNil))) (xCons (xTup (xCons (xC (.int 3)) (xCons (xC (.str cs_outs)) xNil))) xNil))) (xCons (xC (.int 1)) xNil))) (xCons (xTup (xCons (xTup (xCons (xTup (xCons (xC (.int 5)) (xCons (xC (.str cs_ins)) xNil))) (xCons (xTup (xCons (xC (.int 4)) (xCons (xC (.str cs_outs)) xNil))) xNil))) (xCons (xC (.int 1)) xNil))) xNil))))))
def w4_1 : XS := (xSet 1 (x2 true (xVar 1) (xLst (xCons (xTup (xCons (xTup (xCons (xTup (xCons (xC (.int 1)) (xCons (xC (.str cs_skip)) xNil))) (xCons (xTup (xCons (xC (.int 2)) (xCons (xC (.str cs_skip)) xNil))) (xCons (xTup (xCons (xC (.int 3)) (xCons (xC (.str cs_skip)) xNil))) (xCons (xTup (xCons (xC (.int 4)) (xCons (xC (.str cs_skip)) xNil))) xNil))))) (xCons (xC (.int 3)) xNil))) (xCons (xTup (xCons (xTup (xCons (xTup (xCons (x1 (xC (.int 1)) xNeg) (xCons (xC (.str cs_skip)) xNil))) xNil)) (xCons (xC (.int 0)) xNil))) (xCons (xTup (xCons (xTup (xCons (xTup (xCons (xC (.bl true)) (xCons (xC (.str cs_skip)) xNil))) xNil)) (xCons (xC (.int 0)) xNil))) xNil)))) xAdd))
def w4_2 : XS := (xSet 1 (x2 true (xVar 1) (xLst (xCons (xTup (xCons (xTup (xCons (xTup (xCons (xC (.int 1)) (xCons (xC (.str cs_skips)) xNil))) xNil)) (xCons (xC (.int 0)) xNil))) (xCons (xTup (xCons (xTup (xCons (xTup (xCons (xC (.int 1)) (xCons (xC .non) xNil))) xNil)) (xCons (xC (.int 0)) xNil))) (xCons (xTup (xCons (xTup (xCons (xTup (xCons (xC (.int 1)) xNil)) xNil)) (xCons (xC (.int 0)) xNil))) (xCons (xTup (xCons (xTup (xCons (xLst (xCons (xC (.int 1)) (xCons (xC (.str cs_skip)) xNil))) xNil)) (xCons (xC (.int 0)) xNil))) (xCons (xTup (xCons (xLst xNil) (xCons (x1 (xC (.int 2)) xNeg) xNil))) (xCons (xTup (xCons (xC .non) (xCons (x1 (xC (.int 2)) xNeg) xNil))) xNil))))))) xAdd))
def w4_3 : XS := (xRet (xCallM 0 (xCons (x2 true (xVar 1) (xLst (xCons (xTup (xCons (xTup (xCons (xTup (xCons (xC (.str cs_1)) (xCons (xC (.str cs_skip)) xNil))) xNil)) (xCons (xC (.int 0)) xNil))) (xCons (xTup (xCons (xTup (xCons (xTup (xCons (x2 true (x2 true (xC (.int 10)) (xC (.int 30)) xPow) (xC (.int 1)) xAdd) (xCons (xC (.str cs_skip)) xNil))) xNil)) (xCons (xC (.int 0)) xNil))) (xCons (xTup (xCons (xC (.str cs_late)) (xCons (x1 (xC (.int 2)) xNeg) xNil))) (xCons (xTup (xCons (xTup (xCons (xTup (xCons (xC (.int 1)) (xCons (xLst (xCons (xC (.str cs_late)) xNil)) xNil))) xNil)) (xCons (xC (.int 0)) xNil))) xNil))))) xAdd) xNil) r__law_pick))
def xA1 : XA := (xCons (xLst (xCons (xC (.str cs_all)) (xCons (xC (.str cs_first)) (xCons (xC (.str cs_count)) (xCons (xC (.str cs_All)) (xCons (xC (.str cs_)) (xCons (xC .non) (xCons (xLst (xCons (xC (.str cs_all)) xNil)) (xCons (xC (.int 0)) (xCons (xC (.str cs_alla)) xNil)))))))))) xNil)
def xA2 : XA := (xCons (xLst (xCons (xC (.str cs_A)) (xCons (xC (.str cs_C)) (xCons (xC (.str cs_A)) (xCons (xC (.str cs_B)) (xCons (xC (.str cs_AC)) (xCons (xC (.str cs_)) (xCons (xC .non) (xCons (xC (.int 1)) (xCons (xLst (xCons (xC (.str cs_A)) xNil)) xNil)))))))))) xNil)
def xA4 : XA := (xCons (xLst (xCons (xC (.int 0)) (xCons (xC (.int 1)) (xCons (x2 true (xC (.int 10)) (xC (.int 30)) xPow) (xCons (x2 true (x2 true (xC (.int 10)) (xC (.int 30)) xPow) (xC (.int 1)) xAdd) (xCons (x1 (xC (.int 1)) xNeg) (xCons (xC (.bl true)) (xCons (xC .non) (xCons (xC (.str cs_0)) (xCons (xTup (xCons (xC (.int 1)) xNil)) xNil)))))))))) xNil)
def xA5 : XA := (xCons (xLst (xCons (xC (.int 1)) (xCons (xC (.int 18)) (xCons (xC (.int 6)) (xCons (xC (.int 0)) (xCons (xC (.int 19)) (xCons (xC (.bl true)) (xCons (xC .non) (xCons (xC (.str cs_1)) (xCons (x1 (xC (.int 1)) xNeg) xNil)))))))))) xNil)
def a4 : XS := xSeq q4_6 (xSeq q4_7 q4_8)
def g4 : XS := xSeq q4_11 (xSeq q4_12 (xSeq q4_13 (xSeq q4_14 (q4_15))))
def h4 : XS := xSeq q4_17 (xSeq q4_18 (q4_19))
def wz4 : XS := xSeq w4_0 (xSeq w4_1 w4_2)
theorem p1_eq : x__law_right_p1 = xSeq q4_0 (xSeq q4_1 (xSeq q4_2 (xSeq q4_3 (xSeq q4_4 (xSeq q4_5 (xSeq a4 (xSeq q4_9 (xSeq q4_10 (xSeq g4 (xSeq q4_16 (h4))))))))))) := by
  have h : x__law_right_p1 = xSeq q4_0 (xSeq q4_1 (xSeq q4_2 (xSeq q4_3 (xSeq q4_4 (xSeq q4_5 (xSeq q4_6 (xSeq q4_7 (xSeq q4_8 (xSeq q4_9 (xSeq q4_10 (xSeq q4_11 (xSeq q4_12 (xSeq q4_13 (xSeq q4_14 (xSeq q4_15 (xSeq q4_16 (xSeq q4_17 (xSeq q4_18 (q4_19))))))))))))))))))) := rfl
  rw [h, a4, g4, h4]
  simp only [xSeq_as]
theorem w_eq : x__law_some_errs = xSeq wz4 w4_3 := by
  have h : x__law_some_errs = xSeq w4_0 (xSeq w4_1 (xSeq w4_2 (w4_3))) := rfl
  rw [h, wz4]
  simp only [xSeq_as]
def wa4 : XA := (xCons (x2 true (xVar 1) (xLst (xCons (xTup (xCons (xTup (xCons (xTup (xCons (xC (.str cs_1)) (xCons (xC (.str cs_skip)) xNil))) xNil)) (xCons (xC (.int 0)) xNil))) (xCons (xTup (xCons (xTup (xCons (xTup (xCons (x2 true (x2 true (xC (.int 10)) (xC (.int 30)) xPow) (xC (.int 1)) xAdd) (xCons (xC (.str cs_skip)) xNil))) xNil)) (xCons (xC (.int 0)) xNil))) (xCons (xTup (xCons (xC (.str cs_late)) (xCons (x1 (xC (.int 2)) xNeg) xNil))) (xCons (xTup (xCons (xTup (xCons (xTup (xCons (xC (.int 1)) (xCons (xLst (xCons (xC (.str cs_late)) xNil)) xNil))) xNil)) (xCons (xC (.int 0)) xNil))) xNil))))) xAdd) xNil)
theorem w3_eq : w4_3 = xRet (xCallM 0 wa4 r__law_pick) := rfl
def me0 : List Dat := me4.take 13
theorem wz_at (c : Dat) : wz4 (startE 2 [c]) = some (.nx [some c, some (.lst true me0)]) := by kernel_rfl
theorem wa_at (c : Dat) : wa4 [some c, some (.lst true me0)] = some ([.lst true me4], [some c, some (.lst true me0)]) := by kernel_rfl
section
variable (c : Dat) (t : Option Dat) (s st l er b th sd : Dat) (o10 o11 o12 : Option Dat)
set_option maxHeartbeats 0 in
theorem tA : (ss4.map fun s => st4.map fun st => l4.map fun l => eA (a4 (E4 c t s st l er b th sd o10 o11 none))) = ss4.map fun s => st4.map fun st => l4.map fun l => some ([some c, some gd4, t, some s, some st, some l, some er, some b, some th, some sd, some (dues true (d0 s st l))], 13, none) := by kernel_rfl
set_option maxHeartbeats 0 in
theorem t9_0  : (bd4.map fun b => q4_9 (E4 c t s st l er b th sd (some (dues true [])) o11 o12)) = bd4.map fun b => some (.nx (E4 c t s st l er b th sd (some (dues true ([] ++ e11 b))) o11 o12)) := by kernel_rfl
set_option maxHeartbeats 0 in
theorem t9_1 (k0 : Int) (r0 : Str) : (bd4.map fun b => q4_9 (E4 c t s st l er b th sd (some (dues true [(k0, r0)])) o11 o12)) = bd4.map fun b => some (.nx (E4 c t s st l er b th sd (some (dues true ([(k0, r0)] ++ e11 b))) o11 o12)) := by kernel_rfl
set_option maxHeartbeats 0 in
theorem t9_2 (k0 : Int) (r0 : Str) (k1 : Int) (r1 : Str) : (bd4.map fun b => q4_9 (E4 c t s st l er b th sd (some (dues true [(k0, r0), (k1, r1)])) o11 o12)) = bd4.map fun b => some (.nx (E4 c t s st l er b th sd (some (dues true ([(k0, r0), (k1, r1)] ++ e11 b))) o11 o12)) := by kernel_rfl
set_option maxHeartbeats 0 in
theorem t9_3 (k0 : Int) (r0 : Str) (k1 : Int) (r1 : Str) (k2 : Int) (r2 : Str) : (bd4.map fun b => q4_9 (E4 c t s st l er b th sd (some (dues true [(k0, r0), (k1, r1), (k2, r2)])) o11 o12)) = bd4.map fun b => some (.nx (E4 c t s st l er b th sd (some (dues true ([(k0, r0), (k1, r1), (k2, r2)] ++ e11 b))) o11 o12)) := by kernel_rfl
set_option maxHeartbeats 0 in
theorem t10_0  : (th4.map fun th => q4_10 (E4 c t s st l er b th sd (some (dues true [])) o11 o12)) = th4.map fun th => some (.nx (E4 c t s st l er b th sd (some (dues true ([] ++ e3 th))) o11 o12)) := by kernel_rfl
set_option maxHeartbeats 0 in
theorem t10_1 (k0 : Int) (r0 : Str) : (th4.map fun th => q4_10 (E4 c t s st l er b th sd (some (dues true [(k0, r0)])) o11 o12)) = th4.map fun th => some (.nx (E4 c t s st l er b th sd (some (dues true ([(k0, r0)] ++ e3 th))) o11 o12)) := by kernel_rfl
set_option maxHeartbeats 0 in
theorem t10_2 (k0 : Int) (r0 : Str) (k1 : Int) (r1 : Str) : (th4.map fun th => q4_10 (E4 c t s st l er b th sd (some (dues true [(k0, r0), (k1, r1)])) o11 o12)) = th4.map fun th => some (.nx (E4 c t s st l er b th sd (some (dues true ([(k0, r0), (k1, r1)] ++ e3 th))) o11 o12)) := by kernel_rfl
set_option maxHeartbeats 0 in
theorem t10_3 (k0 : Int) (r0 : Str) (k1 : Int) (r1 : Str) (k2 : Int) (r2 : Str) : (th4.map fun th => q4_10 (E4 c t s st l er b th sd (some (dues true [(k0, r0), (k1, r1), (k2, r2)])) o11 o12)) = th4.map fun th => some (.nx (E4 c t s st l er b th sd (some (dues true ([(k0, r0), (k1, r1), (k2, r2)] ++ e3 th))) o11 o12)) := by kernel_rfl
set_option maxHeartbeats 0 in
theorem t10_4 (k0 : Int) (r0 : Str) (k1 : Int) (r1 : Str) (k2 : Int) (r2 : Str) (k3 : Int) (r3 : Str) : (th4.map fun th => q4_10 (E4 c t s st l er b th sd (some (dues true [(k0, r0), (k1, r1), (k2, r2), (k3, r3)])) o11 o12)) = th4.map fun th => some (.nx (E4 c t s st l er b th sd (some (dues true ([(k0, r0), (k1, r1), (k2, r2), (k3, r3)] ++ e3 th))) o11 o12)) := by kernel_rfl
set_option maxHeartbeats 0 in
theorem t16_0  : (sd4.map fun sd => q4_16 (E4 c t s st l er b th sd (some (dues true [])) o11 o12)) = sd4.map fun sd => some (.nx (E4 c t s st l er b th sd (some (dues true ([] ++ e4 sd))) o11 o12)) := by kernel_rfl
set_option maxHeartbeats 0 in
theorem t16_1 (k0 : Int) (r0 : Str) : (sd4.map fun sd => q4_16 (E4 c t s st l er b th sd (some (dues true [(k0, r0)])) o11 o12)) = sd4.map fun sd => some (.nx (E4 c t s st l er b th sd (some (dues true ([(k0, r0)] ++ e4 sd))) o11 o12)) := by kernel_rfl
set_option maxHeartbeats 0 in
theorem t16_2 (k0 : Int) (r0 : Str) (k1 : Int) (r1 : Str) : (sd4.map fun sd => q4_16 (E4 c t s st l er b th sd (some (dues true [(k0, r0), (k1, r1)])) o11 o12)) = sd4.map fun sd => some (.nx (E4 c t s st l er b th sd (some (dues true ([(k0, r0), (k1, r1)] ++ e4 sd))) o11 o12)) := by kernel_rfl
set_option maxHeartbeats 0 in
theorem t16_3 (k0 : Int) (r0 : Str) (k1 : Int) (r1 : Str) (k2 : Int) (r2 : Str) : (sd4.map fun sd => q4_16 (E4 c t s st l er b th sd (some (dues true [(k0, r0), (k1, r1), (k2, r2)])) o11 o12)) = sd4.map fun sd => some (.nx (E4 c t s st l er b th sd (some (dues true ([(k0, r0), (k1, r1), (k2, r2)] ++ e4 sd))) o11 o12)) := by kernel_rfl
set_option maxHeartbeats 0 in
theorem t16_4 (k0 : Int) (r0 : Str) (k1 : Int) (r1 : Str) (k2 : Int) (r2 : Str) (k3 : Int) (r3 : Str) : (sd4.map fun sd => q4_16 (E4 c t s st l er b th sd (some (dues true [(k0, r0), (k1, r1), (k2, r2), (k3, r3)])) o11 o12)) = sd4.map fun sd => some (.nx (E4 c t s st l er b th sd (some (dues true ([(k0, r0), (k1, r1), (k2, r2), (k3, r3)] ++ e4 sd))) o11 o12)) := by kernel_rfl
set_option maxHeartbeats 0 in
theorem t16_5 (k0 : Int) (r0 : Str) (k1 : Int) (r1 : Str) (k2 : Int) (r2 : Str) (k3 : Int) (r3 : Str) (k4 : Int) (r4 : Str) : (sd4.map fun sd => q4_16 (E4 c t s st l er b th sd (some (dues true [(k0, r0), (k1, r1), (k2, r2), (k3, r3), (k4, r4)])) o11 o12)) = sd4.map fun sd => some (.nx (E4 c t s st l er b th sd (some (dues true ([(k0, r0), (k1, r1), (k2, r2), (k3, r3), (k4, r4)] ++ e4 sd))) o11 o12)) := by kernel_rfl
set_option maxHeartbeats 0 in
theorem tG : (stG.map fun st => lG.map fun l => erG.map fun p => thG.map fun th => eA (g4 (E4 c t gd4 st l p.1 p.2 th sd (some (dues true [])) o11 none))) = stG.map fun st => lG.map fun l => erG.map fun p => thG.map fun th => some ([some c, some gd4, t, some gd4, some st, some l, some p.1, some p.2, some th, some sd, some (dues true [])], 13, none) := by kernel_rfl
set_option maxHeartbeats 0 in
theorem tH : (stG.map fun st => lG.map fun l => erG.map fun p => thG.map fun th => sdG.map fun sd => eA (h4 (E4 c t gd4 st l p.1 p.2 th sd (some (dues true [])) o11 none))) = stG.map fun st => lG.map fun l => erG.map fun p => thG.map fun th => sdG.map fun sd => some ([some c, some gd4, t, some gd4, some st, some l, some p.1, some p.2, some th, some sd, some (dues true [])], 13, none) := by kernel_rfl
end
def plX (s st l : Dat) : Option RX := match dS s with
  | _ :: _ => some (.ex 31 [s])
  | [] => match dSt st with
    | _ :: _ => some (.ex 23 [st])
    | [] => match dLt l with
      | _ :: _ => some (.ex 22 [l])
      | [] => some (.ok .non)
def slX (b : Dat) : Option RX := match e11 b with | _ :: _ => some (.ex 32 [b11 b]) | [] => some (.ok .non)
def moX (d : Dat) : Option RX := match e3 d with | _ :: _ => some (.ex 24 [d]) | [] => some (.ok .non)
def pgX (d : Dat) : Option RX := match e4 d with | _ :: _ => some (.ex 25 [d]) | [] => some (.ok .non)
set_option maxHeartbeats 0 in
theorem tP : (ss4.map fun s => st4.map fun st => l4.map fun l => rx_check_place [s, st, l]) = ss4.map fun s => st4.map fun st => l4.map fun l => plX s st l := by kernel_rfl
set_option maxHeartbeats 0 in
theorem tS : (er4.map fun p => rx_check_slips [p.1]) = er4.map fun p => slX p.2 := by kernel_rfl
set_option maxHeartbeats 0 in
theorem tM : (th4.map fun d => rx_check_moment [d]) = th4.map fun d => moX d := by kernel_rfl
set_option maxHeartbeats 0 in
theorem tQ : (sd4.map fun d => rx_check_page [d]) = sd4.map fun d => pgX d := by kernel_rfl
set_option maxHeartbeats 0 in
theorem tK31 : (ssB.map fun d => rc__law_caught (.ex 31 [d])) = ssB.map fun d => hdX (dS d) := by kernel_rfl
set_option maxHeartbeats 0 in
theorem tK23 : (stB.map fun d => rc__law_caught (.ex 23 [d])) = stB.map fun d => hdX (dSt d) := by kernel_rfl
set_option maxHeartbeats 0 in
theorem tK22 : (lB.map fun d => rc__law_caught (.ex 22 [d])) = lB.map fun d => hdX (dLt d) := by kernel_rfl
set_option maxHeartbeats 0 in
theorem tK32 : (bdB.map fun d => rc__law_caught (.ex 32 [b11 d])) = bdB.map fun d => hdX (e11 d) := by kernel_rfl
set_option maxHeartbeats 0 in
theorem tK24 : (thB.map fun d => rc__law_caught (.ex 24 [d])) = thB.map fun d => hdX (e3 d) := by kernel_rfl
set_option maxHeartbeats 0 in
theorem tK25 : (sdB.map fun d => rc__law_caught (.ex 25 [d])) = sdB.map fun d => hdX (e4 d) := by kernel_rfl
def ca4_0 : YS := (yDrop (yCall (xCons (xTake 0) (xCons (xTake 1) (xCons (xTake 2) xNil))) rx_check_place))
def ca4_1 : YS := (yDrop (yCall (xCons (xTake 3) xNil) rx_check_slips))
def ca4_2 : YS := (yDrop (yCall (xCons (xTake 4) xNil) rx_check_moment))
theorem ca_eq : x_check_all = ySeq ca4_0 (ySeq ca4_1 (ca4_2)) := rfl
def ys4 : YS := yDrop (yCall (xCons (xTake 0) (xCons (xTake 1) (xCons (xTake 2) (xCons (xTake 3) (xCons (xTake 4) xNil))))) rx_check_all)
def yr_row : YS := (yOf (xRet (xOf (x2 true (xCall (xCons (xOf (x2 true (xFld gg_plans (xVar 0)) (xVar 2) xIdx)) (xCons (xTake 1) (xCons (xTake 3) (xCons (xTake 4) xNil)))) r_state_at) (xC (.int 0)) xIdx))))
theorem row_eq : x_row = ySeq ys4 yr_row := rfl
def yr_wrong : YS := ySeq (yOf (xSet 5 (xOf (x2 true (xFld gg_plans (xVar 0)) (xVar 2) xIdx)))) ((yOf (xRet (xCall (xCons (xOf (x2 true (xCall (xCons (xTake 5) (xCons (xTake 1) (xCons (xTake 3) (xCons (xTake 4) xNil)))) r_state_at) (xC (.int 0)) xIdx)) (xCons (xCall (xCons (xTake 5) (xCons (xTake 4) xNil)) r_labels_at) xNil)) r_pages_wrong))))
theorem wrong_eq : x_wrong = ySeq ys4 yr_wrong := rfl
def yr_is_right : YS := ySeq (yOf (xSet 5 (xOf (x2 true (xFld gg_plans (xVar 0)) (xVar 2) xIdx)))) ((yOf (xRet (x2 true (x2 true (xCall (xCons (xTake 5) (xCons (xTake 1) (xCons (xTake 3) (xCons (xTake 4) xNil)))) r_state_at) (xC (.int 0)) xIdx) (xCall (xCons (xCall (xCons (xTake 5) (xCons (xTake 4) xNil)) r_labels_at) xNil) r_right_row) xEq))))
theorem is_right_eq : x_is_right = ySeq ys4 yr_is_right := rfl
def yr_read : YS := ySeq (yDrop (yCall (xCons (xTake 5) xNil) rx_check_page)) (ySeq (yOf (xSet 6 (xOf (x2 true (xFld gg_plans (xVar 0)) (xVar 2) xIdx)))) ((yOf (xRet (xCall (xCons (xOf (x2 true (xCall (xCons (xTake 6) (xCons (xTake 1) (xCons (xTake 3) (xCons (xTake 4) xNil)))) r_state_at) (xC (.int 0)) xIdx)) (xCons (xCall (xCons (xTake 6) (xCons (xTake 4) xNil)) r_labels_at) (xCons (xTake 5) xNil))) r_read_in)))))
theorem read_eq : x_read = ySeq ys4 yr_read := rfl
def yp4 : YS := (yDrop (yCall (xCons (xTake 5) xNil) rx_check_page))
def yz4 : YS := ySeq (yOf (xSet 6 (xOf (x2 true (xFld gg_plans (xVar 0)) (xVar 2) xIdx)))) ((yOf (xRet (xCall (xCons (xOf (x2 true (xCall (xCons (xTake 6) (xCons (xTake 1) (xCons (xTake 3) (xCons (xTake 4) xNil)))) r_state_at) (xC (.int 0)) xIdx)) (xCons (xCall (xCons (xTake 6) (xCons (xTake 4) xNil)) r_labels_at) (xCons (xTake 5) xNil))) r_read_in))))
theorem read_eq2 : x_read = ySeq ys4 (ySeq yp4 yz4) := rfl
theorem rx_row_n : rx_row = runFX 5 5 x_row := rfl
theorem rx_wrong_n : rx_wrong = runFX 5 6 x_wrong := rfl
theorem rx_is_right_n : rx_is_right = runFX 5 6 x_is_right := rfl
theorem rx_read_n : rx_read = runFX 6 7 x_read := rfl
end
end PP
end M
namespace M
open PySem PySem.Spec PyProof.Rows L2
namespace PP
noncomputable section
theorem fz4 : (∀ s ∈ ss4, isFz s = true) ∧ (∀ s ∈ st4, isFz s = true) ∧ (∀ s ∈ l4, isFz s = true) ∧ (∀ p ∈ er4, isFz p.1 = true ∧ isFz p.2 = true) ∧ (∀ s ∈ th4, isFz s = true) ∧ ∀ s ∈ sd4, isFz s = true := by decide +kernel
theorem ok4 : (∀ s ∈ ss4, ∀ p ∈ dS s, okD p = true) ∧ (∀ s ∈ st4, ∀ p ∈ dSt s, okD p = true) ∧ (∀ s ∈ l4, ∀ p ∈ dLt s, okD p = true) ∧ (∀ s ∈ bd4, ∀ p ∈ e11 s, okD p = true) ∧ (∀ s ∈ th4, ∀ p ∈ e3 s, okD p = true) ∧ ∀ s ∈ sd4, ∀ p ∈ e4 s, okD p = true := by decide +kernel
theorem len4 : (∀ s ∈ ss4, (dS s).length ≤ 1) ∧ (∀ s ∈ st4, (dSt s).length ≤ 1) ∧ (∀ s ∈ l4, (dLt s).length ≤ 1) ∧ (∀ s ∈ bd4, (e11 s).length ≤ 1) ∧ (∀ s ∈ th4, (e3 s).length ≤ 1) ∧ ∀ s ∈ sd4, (e4 s).length ≤ 1 := by decide +kernel
theorem bad4m : (∀ s ∈ ss4, dS s ≠ [] → s ∈ ssB) ∧ (∀ s ∈ st4, dSt s ≠ [] → s ∈ stB) ∧ (∀ s ∈ l4, dLt s ≠ [] → s ∈ lB) ∧ (∀ s ∈ bd4, e11 s ≠ [] → s ∈ bdB) ∧ (∀ s ∈ th4, e3 s ≠ [] → s ∈ thB) ∧ ∀ s ∈ sd4, e4 s ≠ [] → s ∈ sdB := by
  refine ⟨?_, ?_, ?_, ?_, ?_, ?_⟩
  · intro s h; simp only [ss4, ssB, List.mem_cons, List.not_mem_nil, or_false] at h ⊢; rcases h with rfl | h; · exact fun z => absurd rfl z
    · exact fun _ => h
  · intro s h z
    rcases List.mem_append.mp h with h | h
    · exact absurd ((by decide +kernel : ∀ s ∈ stG, dSt s = []) s h) z
    · exact h
  · intro s h z
    rcases List.mem_append.mp h with h | h
    · exact absurd ((by decide +kernel : ∀ s ∈ lG, dLt s = []) s h) z
    · exact h
  · intro s h z
    rcases List.mem_cons.mp h with rfl | h
    · exact absurd (by decide +kernel) z
    · exact h
  · intro s h z
    rcases List.mem_append.mp h with h | h
    · exact absurd ((by decide +kernel : ∀ s ∈ thG, e3 s = []) s h) z
    · exact h
  · intro s h z
    rcases List.mem_append.mp h with h | h
    · exact absurd ((by decide +kernel : ∀ s ∈ sdG, e4 s = []) s h) z
    · exact h
theorem good4m : (∀ s ∈ ss4, dS s = [] → s = gd4) ∧ (∀ s ∈ st4, dSt s = [] → s ∈ stG) ∧ (∀ s ∈ l4, dLt s = [] → s ∈ lG) ∧ (∀ p ∈ er4, e11 p.2 = [] → p ∈ erG) ∧ (∀ s ∈ th4, e3 s = [] → s ∈ thG) ∧ ∀ s ∈ sd4, e4 s = [] → s ∈ sdG := by
  refine ⟨?_, ?_, ?_, ?_, ?_, ?_⟩
  · intro s h z
    rcases List.mem_cons.mp h with h | h
    · exact h
    · exact absurd z ((by decide +kernel : ∀ s ∈ ssB, dS s ≠ []) s h)
  · intro s h z
    rcases List.mem_append.mp h with h | h
    · exact h
    · exact absurd z ((by decide +kernel : ∀ s ∈ stB, dSt s ≠ []) s h)
  · intro s h z
    rcases List.mem_append.mp h with h | h
    · exact h
    · exact absurd z ((by decide +kernel : ∀ s ∈ lB, dLt s ≠ []) s h)
  · intro s h z
    rcases List.mem_append.mp h with h | h
    · exact h
    · exact absurd z ((by decide +kernel : ∀ p ∈ erB, e11 p.2 ≠ []) s h)
  · intro s h z
    rcases List.mem_append.mp h with h | h
    · exact h
    · exact absurd z ((by decide +kernel : ∀ s ∈ thB, e3 s ≠ []) s h)
  · intro s h z
    rcases List.mem_append.mp h with h | h
    · exact h
    · exact absurd z ((by decide +kernel : ∀ s ∈ sdB, e4 s ≠ []) s h)
theorem bd_of : ∀ p ∈ er4, p.2 ∈ bd4 := by
  intro p h
  simp only [er4, erG, erB, List.cons_append, List.nil_append, List.mem_cons, List.not_mem_nil, or_false] at h
  simp only [bd4, bdB, List.mem_cons, List.not_mem_nil, or_false]
  rcases h with rfl | rfl | rfl | rfl | rfl | rfl | rfl | rfl | rfl | rfl | rfl | rfl | rfl | rfl | rfl | rfl | rfl <;> simp
section
variable {s st l th sd : Dat} {p : Dat × Dat}
def d1 (s st l b th : Dat) : List (Int × Str) := (d0 s st l ++ e11 b) ++ e3 th
/-- the first thing that is wrong -/
theorem all_bad (hs : s ∈ ss4) (ht : st ∈ st4) (hl : l ∈ l4) (hp : p ∈ er4) (hh : th ∈ th4) (hb : d1 s st l p.2 th ≠ []) : ∃ n x, rx_check_all [s, st, l, p.1, th] = some (.ex n [x]) ∧ rc__law_caught (.ex n [x]) = hdX (d1 s st l p.2 th) := by
  have f := fz4
  have fs := f.1 _ hs
  have ft := f.2.1 _ ht
  have fl := f.2.2.1 _ hl
  have fe := (f.2.2.2.1 _ hp).1
  have fh := f.2.2.2.2.1 _ hh
  have hP : rx_check_place [s, st, l] = plX s st l := map_at (map_at (map_at tP hs) ht) hl
  have hS : rx_check_slips [p.1] = slX p.2 := map_at (f := fun p : Dat × Dat => rx_check_slips [p.1]) (g := fun p : Dat × Dat => slX p.2) tS hp
  have hM : rx_check_moment [th] = moX th := map_at tM hh
  let e : Env := startE 5 [s, st, l, p.1, th]
  have a0 : (xCons (xTake 0) (xCons (xTake 1) (xCons (xTake 2) xNil))) (startE 5 [s, st, l, p.1, th]) = some ([s, st, l], startE 5 [s, st, l, p.1, th]) := B_eq (by simp [startE, fs, ft, fl])
  have a1 : (xCons (xTake 3) xNil) (startE 5 [s, st, l, p.1, th]) = some ([p.1], startE 5 [s, st, l, p.1, th]) := B_eq (by simp [startE, fe])
  have a2 : (xCons (xTake 4) xNil) (startE 5 [s, st, l, p.1, th]) = some ([th], startE 5 [s, st, l, p.1, th]) := B_eq (by simp [startE, fh])
  have z0 : frzs [s, st, l] = [s, st, l] := isFzs_ok _ (by simp [isFzs, fs, ft, fl])
  have z1 : frzs [p.1] = [p.1] := isFzs_ok _ (by simp [isFzs, fe])
  have z2 : frzs [th] = [th] := isFzs_ok _ (by simp [isFzs, fh])
  have nm : rx_check_all = runFX 5 5 x_check_all := rfl
  have raise0 : ∀ {n x}, rx_check_place [s, st, l] = some (.ex n [x]) → rx_check_all [s, st, l, p.1, th] = some (.ex n [x]) := fun {n x} h => by
    rw [nm]
    refine runFX_ex (e := startE 5 [s, st, l, p.1, th]) rfl ?_
    rw [ca_eq]
    exact ySeq_ex (yCall_ex a0 z0 h)
  have pb := bad4m
  unfold plX at hP
  cases eS : dS s with
  | cons q r =>
    rw [eS] at hP
    refine ⟨_, _, raise0 hP, ?_⟩
    have := map_at tK31 (pb.1 _ hs (by rw [eS]; exact fun z => nomatch z))
    rw [this, eS]
    unfold d1 d0
    rw [eS]
    rfl
  | nil =>
    rw [eS] at hP
    have sg := good4m.1 _ hs eS
    have io : isOD s = true := by rw [sg]; rfl
    cases eT : dSt st with
    | cons q r =>
      rw [eT] at hP
      refine ⟨_, _, raise0 hP, ?_⟩
      have := map_at tK23 (pb.2.1 _ ht (by rw [eT]; exact fun z => nomatch z))
      rw [this, eT]
      unfold d1 d0
      rw [eS, eT]
      rfl
    | nil =>
      rw [eT] at hP
      cases eL : dLt l with
      | cons q r =>
        rw [eL] at hP
        refine ⟨_, _, raise0 hP, ?_⟩
        have := map_at tK22 (pb.2.2.1 _ hl (by rw [eL]; exact fun z => nomatch z))
        rw [this, eL]
        unfold d1 d0
        rw [eS, eT, eL, io]
        rfl
      | nil =>
        rw [eL] at hP
        have hP : rx_check_place [s, st, l] = some (.ok .non) := hP
        have s0 : ca4_0 (startE 5 [s, st, l, p.1, th]) = some (.o (.nx (startE 5 [s, st, l, p.1, th]))) := yCall_ok a0 z0 hP
        have d00 : d0 s st l = [] := by unfold d0; rw [eS, eT, eL]; simp
        unfold slX at hS
        cases eE : e11 p.2 with
        | cons q r =>
          rw [eE] at hS
          refine ⟨32, b11 p.2, ?_, ?_⟩
          · rw [nm]
            refine runFX_ex (e := startE 5 [s, st, l, p.1, th]) rfl ?_
            rw [ca_eq, ySeq_nx s0]
            exact ySeq_ex (yCall_ex a1 z1 hS)
          · have := map_at tK32 (pb.2.2.2.1 _ (bd_of _ hp) (by rw [eE]; exact fun z => nomatch z))
            rw [this, eE]
            unfold d1
            rw [d00, eE]
            rfl
        | nil =>
          rw [eE] at hS
          have hS : rx_check_slips [p.1] = some (.ok .non) := hS
          have s1 : ca4_1 (startE 5 [s, st, l, p.1, th]) = some (.o (.nx (startE 5 [s, st, l, p.1, th]))) := yCall_ok a1 z1 hS
          unfold moX at hM
          cases eM : e3 th with
          | nil => exact absurd (by unfold d1; rw [d00, eE, eM]; rfl) hb
          | cons q r =>
            rw [eM] at hM
            refine ⟨24, th, ?_, ?_⟩
            · rw [nm]
              refine runFX_ex (e := startE 5 [s, st, l, p.1, th]) rfl ?_
              rw [ca_eq, ySeq_nx s0, ySeq_nx s1]
              exact yCall_ex a2 z2 hM
            · have := map_at tK24 (pb.2.2.2.2.1 _ hh (by rw [eM]; exact fun z => nomatch z))
              rw [this, eM]
              unfold d1
              rw [d00, eE, eM]
              rfl
theorem xL_ex4 {o : Option RX} {c : Nat} {gs : List Dat} (h : o = some (.ex c gs)) : xL4 o = rc__law_caught (.ex c gs) := by rw [h]; rfl
theorem ex_of {rx : RFX} {np n c : Nat} {x yr : YS} {ds gs : List Dat} {e : Env} (h1 : rx = runFX np n x) (h2 : x = ySeq ys4 yr) (hl : ds.length = np) (hy : ys4 (startE n ds) = some (.ex c gs e)) : rx ds = some (.ex c gs) := by
  rw [h1, h2]
  exact runFX_ex hl (ySeq_ex hy)
theorem five_bad (hs : s ∈ ss4) (ht : st ∈ st4) (hl : l ∈ l4) (hp : p ∈ er4) (hh : th ∈ th4) (hb : d1 s st l p.2 th ≠ []) : xL4 (rx_row [s, st, l, p.1, th]) = hdX (d1 s st l p.2 th) ∧ xL4 (rx_wrong [s, st, l, p.1, th]) = hdX (d1 s st l p.2 th) ∧ xL4 (rx_is_right [s, st, l, p.1, th]) = hdX (d1 s st l p.2 th) ∧ xL4 (rx_read [s, st, l, p.1, th, sd]) = hdX (d1 s st l p.2 th) := by
  obtain ⟨n, x, h, hc⟩ := all_bad hs ht hl hp hh hb
  have f := fz4
  have fs := f.1 _ hs
  have ft := f.2.1 _ ht
  have fl := f.2.2.1 _ hl
  have fe := (f.2.2.2.1 _ hp).1
  have fh := f.2.2.2.2.1 _ hh
  have z0 : frzs [s, st, l, p.1, th] = [s, st, l, p.1, th] := isFzs_ok _ (by simp [isFzs, fs, ft, fl, fe, fh])
  have a5 : ∀ r : List (Option Dat), (xCons (xTake 0) (xCons (xTake 1) (xCons (xTake 2) (xCons (xTake 3) (xCons (xTake 4) xNil))))) (some s :: some st :: some l :: some p.1 :: some th :: r) = some ([s, st, l, p.1, th], some s :: some st :: some l :: some p.1 :: some th :: r) := fun r => B_eq (by simp [fs, ft, fl, fe, fh])
  have y5 : ∀ r : List (Option Dat), ys4 (some s :: some st :: some l :: some p.1 :: some th :: r) = some (.ex n [x] (some s :: some st :: some l :: some p.1 :: some th :: r)) := fun r => yCall_ex (a5 r) z0 h
  refine ⟨?_, ?_, ?_, ?_⟩
  · exact (xL_ex4 (ex_of (ds := [s, st, l, p.1, th]) rx_row_n row_eq rfl (y5 []))).trans hc
  · exact (xL_ex4 (ex_of (ds := [s, st, l, p.1, th]) rx_wrong_n wrong_eq rfl (y5 [none]))).trans hc
  · exact (xL_ex4 (ex_of (ds := [s, st, l, p.1, th]) rx_is_right_n is_right_eq rfl (y5 [none]))).trans hc
  · exact (xL_ex4 (ex_of (ds := [s, st, l, p.1, th, sd]) rx_read_n read_eq rfl (y5 [some sd, none]))).trans hc
/-- nothing wrong but the page -/
theorem page_bad (hs : s ∈ ss4) (ht : st ∈ st4) (hl : l ∈ l4) (hp : p ∈ er4) (hh : th ∈ th4) (hd : sd ∈ sd4) (hb : d1 s st l p.2 th = []) (hq : e4 sd ≠ []) : xL4 (rx_read [s, st, l, p.1, th, sd]) = hdX (e4 sd) := by
  have f := fz4
  have fs := f.1 _ hs
  have ft := f.2.1 _ ht
  have fl := f.2.2.1 _ hl
  have fe := (f.2.2.2.1 _ hp).1
  have fh := f.2.2.2.2.1 _ hh
  have fd := f.2.2.2.2.2 _ hd
  unfold d1 at hb
  rw [List.append_eq_nil_iff, List.append_eq_nil_iff] at hb
  obtain ⟨⟨h0, h1⟩, h2⟩ := hb
  unfold d0 at h0
  rw [List.append_eq_nil_iff, List.append_eq_nil_iff] at h0
  obtain ⟨⟨h00, h01⟩, h02⟩ := h0
  have sg := good4m.1 _ hs h00
  have io : isOD s = true := by rw [sg]; rfl
  rw [io, if_pos rfl] at h02
  have hP : rx_check_place [s, st, l] = some (.ok .non) := by
    have := map_at (map_at (map_at tP hs) ht) hl
    unfold plX at this
    rw [h00, h01, h02] at this
    exact this
  have hS : rx_check_slips [p.1] = some (.ok .non) := by
    have := map_at (f := fun p : Dat × Dat => rx_check_slips [p.1]) (g := fun p : Dat × Dat => slX p.2) tS hp
    unfold slX at this
    rw [h1] at this
    exact this
  have hM : rx_check_moment [th] = some (.ok .non) := by
    have := map_at tM hh
    unfold moX at this
    rw [h2] at this
    exact this
  have hQ : rx_check_page [sd] = some (.ex 25 [sd]) := by
    have := map_at tQ hd
    unfold pgX at this
    cases e : e4 sd with
    | nil => exact absurd e hq
    | cons q r => rw [e] at this; exact this
  have a0 : (xCons (xTake 0) (xCons (xTake 1) (xCons (xTake 2) xNil))) (startE 5 [s, st, l, p.1, th]) = some ([s, st, l], startE 5 [s, st, l, p.1, th]) := B_eq (by simp [startE, fs, ft, fl])
  have a1 : (xCons (xTake 3) xNil) (startE 5 [s, st, l, p.1, th]) = some ([p.1], startE 5 [s, st, l, p.1, th]) := B_eq (by simp [startE, fe])
  have a2 : (xCons (xTake 4) xNil) (startE 5 [s, st, l, p.1, th]) = some ([th], startE 5 [s, st, l, p.1, th]) := B_eq (by simp [startE, fh])
  have z0 : frzs [s, st, l] = [s, st, l] := isFzs_ok _ (by simp [isFzs, fs, ft, fl])
  have z1 : frzs [p.1] = [p.1] := isFzs_ok _ (by simp [isFzs, fe])
  have z2 : frzs [th] = [th] := isFzs_ok _ (by simp [isFzs, fh])
  have hA : rx_check_all [s, st, l, p.1, th] = some (.ok .non) := by
    have nm : rx_check_all = runFX 5 5 x_check_all := rfl
    have s0 : ca4_0 (startE 5 [s, st, l, p.1, th]) = some (.o (.nx (startE 5 [s, st, l, p.1, th]))) := yCall_ok a0 z0 hP
    have s1 : ca4_1 (startE 5 [s, st, l, p.1, th]) = some (.o (.nx (startE 5 [s, st, l, p.1, th]))) := yCall_ok a1 z1 hS
    have s2 : ca4_2 (startE 5 [s, st, l, p.1, th]) = some (.o (.nx (startE 5 [s, st, l, p.1, th]))) := yCall_ok a2 z2 hM
    rw [nm]
    unfold runFX
    rw [if_pos (show [s, st, l, p.1, th].length = 5 from rfl), ca_eq, ySeq_nx s0, ySeq_nx s1, s2]
    rfl
  have z5 : frzs [s, st, l, p.1, th] = [s, st, l, p.1, th] := isFzs_ok _ (by simp [isFzs, fs, ft, fl, fe, fh])
  have a5 : (xCons (xTake 0) (xCons (xTake 1) (xCons (xTake 2) (xCons (xTake 3) (xCons (xTake 4) xNil))))) (startE 7 [s, st, l, p.1, th, sd]) = some ([s, st, l, p.1, th], startE 7 [s, st, l, p.1, th, sd]) := B_eq (by simp [startE, fs, ft, fl, fe, fh])
  have a6 : (xCons (xTake 5) xNil) (startE 7 [s, st, l, p.1, th, sd]) = some ([sd], startE 7 [s, st, l, p.1, th, sd]) := B_eq (by simp [startE, fd])
  have y5 : ys4 (startE 7 [s, st, l, p.1, th, sd]) = some (.o (.nx (startE 7 [s, st, l, p.1, th, sd]))) := yCall_ok a5 z5 hA
  have y6 : yp4 (startE 7 [s, st, l, p.1, th, sd]) = some (.ex 25 [sd] (startE 7 [s, st, l, p.1, th, sd])) := yCall_ex a6 (isFzs_ok _ (by simp [isFzs, fd])) hQ
  have hr : rx_read [s, st, l, p.1, th, sd] = some (.ex 25 [sd]) := by
    rw [rx_read_n]
    refine runFX_ex (e := startE 7 [s, st, l, p.1, th, sd]) rfl ?_
    rw [read_eq2, ySeq_nx y5]
    exact ySeq_ex y6
  exact (xL_ex4 hr).trans (map_at tK25 (bad4m.2.2.2.2.2 _ hd hq))
end
end
end PP
end M
namespace M
open PySem PySem.Spec PyProof.Rows L2
namespace PP
noncomputable section
theorem eqB_pr {q : Int × Str} (h : okD q = true) (o o2 : Bool) : eqB (pr1 o q) (pr1 o2 q) = some true := by
  have z : PyData.canLay0 (.str q.2) = true := h
  have sh : ∀ o, SeqAt.shaped (toPy (pr1 o q)) = true := by
    intro o
    unfold SeqAt.shaped
    rw [Bool.and_eq_true]
    refine ⟨?_, decide_eq_true ?_⟩
    · simp [pr1, toPy, toPys, PyData.canLay0, PyData.canLayAll0] at z ⊢
      exact z
    · simp [pr1, toPy, toPys, PyData.depth, PyData.depthAll]
  show (if isPys [.int q.1, .str q.2] = true ∧ isPys [.int q.1, .str q.2] = true ∧ SeqAt.shaped (toPy (pr1 o q)) = true ∧ SeqAt.shaped (toPy (pr1 o2 q)) = true then some (PyData.eqvAll (toPys [.int q.1, .str q.2]) (toPys [.int q.1, .str q.2])) else none) = _
  rw [if_pos ⟨rfl, rfl, sh o, sh o2⟩]
  simp [toPy, toPys, PyData.eqv, PyData.eqvAll]
theorem fzs_due (ps : List (Int × Str)) : isFzs (ps.map (pr1 false)) = true := isFzs_of fun d hd => by
  obtain ⟨p, _, rfl⟩ := List.mem_map.mp hd
  rfl
theorem lst_due (ps : List (Int × Str)) : (ps.map (pr1 false)).all isLstD = true := by
  rw [List.all_eq_true]
  intro d hd
  obtain ⟨p, _, rfl⟩ := List.mem_map.mp hd
  rfl
theorem first_at {q : Int × Str} {r : List (Int × Str)} (h : ∀ p ∈ q :: r, okD p = true) : r__law_first [dues false (q :: r)] = some (pr1 false q) := by
  have e := eqB_nil h false true
  have e2 : xNe (dues false (q :: r)) (.lst true []) = some (.bl true) := by show Option.map _ (eqB _ _) = _; rw [e]; rfl
  have e3 : xIdx (dues false (q :: r)) (.int 0) = some (pr1 false q) := by show xIdx (.lst false (pr1 false q :: r.map (pr1 false))) (.int 0) = _; rw [xIdx_l0]
  refine B_eq (runF_B rfl ?_)
  have fq : isFz (pr1 false q) = true := rfl
  simp [x__law_first, startE, e2, e3, fq]
section
variable {c : Dat} {t : Option Dat} {s st l th sd : Dat} {p : Dat × Dat} {o11 : Option Dat} {q : Int × Str} {r : List (Int × Str)}
theorem callF_at {e : Env} (he : e[10]? = some (some (dues true (q :: r)))) (h : ∀ p ∈ q :: r, okD p = true) : xCallF 10 r__law_first e = some (pr1 false q, e) := by
  unfold xCallF
  rw [he]
  show (if isFzs ((q :: r).map (pr1 false)) = true then _ else none) = _
  rw [if_pos (fzs_due _), show r__law_first [.lst false ((q :: r).map (pr1 false))] = some (pr1 false q) from first_at h]
  have : okA ((q :: r).map (pr1 false)) (pr1 false q) = true := by
    unfold okA
    rw [lst_due]
    rfl
  simp only [Option.bind_some, this, if_true]
abbrev EE (c : Dat) (t : Option Dat) (s st l : Dat) (p : Dat × Dat) (th sd : Dat) (ps : List (Int × Str)) (o11 : Option Dat) : Env := E4 c t s st l p.1 p.2 th sd (some (dues true ps)) o11 none
theorem fz5 (hs : s ∈ ss4) (ht : st ∈ st4) (hl : l ∈ l4) (hp : p ∈ er4) (hh : th ∈ th4) (hd : sd ∈ sd4) : isFz s = true ∧ isFz st = true ∧ isFz l = true ∧ isFz p.1 = true ∧ isFz th = true ∧ isFz sd = true := ⟨fz4.1 _ hs, fz4.2.1 _ ht, fz4.2.2.1 _ hl, (fz4.2.2.2.1 _ hp).1, fz4.2.2.2.2.1 _ hh, fz4.2.2.2.2.2 _ hd⟩
/-- told [D, D, D], D the first that is due -/
theorem g_bad (hs : s ∈ ss4) (ht : st ∈ st4) (hl : l ∈ l4) (hp : p ∈ er4) (hh : th ∈ th4) (hd : sd ∈ sd4) (hb : d1 s st l p.2 th = q :: r) (ok : ∀ p ∈ q :: r, okD p = true) : ∃ p11, g4 (EE c t s st l p th sd (q :: r) o11) = some (.nx (EE c t s st l p th sd (q :: r) p11)) := by
  obtain ⟨fs, ft, fl, fe, fh, fd⟩ := fz5 hs ht hl hp hh hd
  obtain ⟨k1, k2, k3, _⟩ := five_bad (sd := sd) hs ht hl hp hh (by rw [hb]; exact fun z => nomatch z)
  rw [hb] at k1 k2 k3
  have z5 : frzs [s, st, l, p.1, th] = [s, st, l, p.1, th] := isFzs_ok _ (by simp [isFzs, fs, ft, fl, fe, fh])
  have a5 : ∀ o, (xCons (xTake 3) (xCons (xTake 4) (xCons (xTake 5) (xCons (xTake 6) (xCons (xTake 8) xNil))))) (EE c t s st l p th sd (q :: r) o) = some ([s, st, l, p.1, th], EE c t s st l p th sd (q :: r) o) := fun o => B_eq (by simp [EE, E4, fs, ft, fl, fe, fh])
  have b5 : ∀ o, (xCons (xTake 8) (xCons (xTake 6) (xCons (xTake 5) (xCons (xTake 4) (xCons (xTake 3) xNil))))) (EE c t s st l p th sd (q :: r) o) = some ([th, p.1, l, st, s], EE c t s st l p th sd (q :: r) o) := fun o => B_eq (by simp [EE, E4, fs, ft, fl, fe, fh])
  have zk : permL Dat.non [4, 3, 2, 1, 0] (frzs [th, p.1, l, st, s]) = [s, st, l, p.1, th] := by
    rw [isFzs_ok _ (by simp [isFzs, fs, ft, fl, fe, fh])]
    rfl
  have s11 : q4_11 (EE c t s st l p th sd (q :: r) o11) = some (.nx (EE c t s st l p th sd (q :: r) (some (.lst true [pr1 false q])))) := B_eq (by
    unfold q4_11
    rw [B_set, B_lst, B_cons]
    refine B_of (lam_at (a5 o11) z5 k1) ?_
    rw [B_nil]
    exact ⟨by show 1 ≤ sizeLine; decide, rfl⟩)
  have s12 : q4_12 (EE c t s st l p th sd (q :: r) (some (.lst true [pr1 false q]))) = some (.nx (EE c t s st l p th sd (q :: r) (some (.lst true [pr1 false q, pr1 false q])))) := B_eq (by
    unfold q4_12
    rw [B_app]
    refine ⟨⟨_, _, rfl⟩, ?_⟩
    rw [B_frz]
    refine B_of (lamK_at (b5 _) rfl zk k2) ?_
    exact ⟨_, rfl, by show 1 < sizeLine; decide, rfl⟩)
  have s13 : q4_13 (EE c t s st l p th sd (q :: r) (some (.lst true [pr1 false q, pr1 false q]))) = some (.nx (EE c t s st l p th sd (q :: r) (some (.lst true [pr1 false q, pr1 false q, pr1 false q])))) := B_eq (by
    unfold q4_13
    rw [B_app]
    refine ⟨⟨_, _, rfl⟩, ?_⟩
    rw [B_frz]
    refine B_of (lam_at (a5 _) z5 k3) ?_
    exact ⟨_, rfl, by show 2 < sizeLine; decide, rfl⟩)
  have okq := ok q List.mem_cons_self
  have ne1 : xNe (pr1 true q) (pr1 false q) = some (.bl false) := by show Option.map _ (eqB _ _) = _; rw [eqB_pr okq]; rfl
  have s14 : q4_14 (EE c t s st l p th sd (q :: r) (some (.lst true [pr1 false q, pr1 false q, pr1 false q]))) = some (.nx (EE c t s st l p th sd (q :: r) (some (.lst false [pr1 false q, pr1 false q, pr1 false q])))) := B_eq (by
    unfold q4_14
    rw [B_ifs, B_test, B_x2, B_lc, B_inL, B_take]
    refine B_of (a := some (.lst true [pr1 false q, pr1 false q, pr1 false q])) rfl ?_
    rw [B_some]
    refine IF_i (fun z => (nomatch z)) (fun _ => ?_)
    show asL (.lst false [pr1 false q, pr1 false q, pr1 false q]) _
    rw [asL_i, frzI_f]
    refine ⟨by show 3 < sizeLine; decide, ?_⟩
    refine lcF (fun x : Dat => x) (fun _ => false) (fun x => x) (E := EE c t s st l p th sd (q :: r) (some (.lst false [pr1 false q, pr1 false q, pr1 false q]))) [pr1 false q, pr1 false q, pr1 false q] [] ?_ ?_
    · intro a ha
      have ha : a = pr1 false q := by simpa using ha
      subst ha
      rw [B_gnm, B_test, B_x2]
      refine B_of (a := (pr1 true q, (EE c t s st l p th sd (q :: r) (some (.lst false [pr1 false q, pr1 false q, pr1 false q]))).set 12 (some (pr1 false q)))) rfl ?_
      rw [B_orL]
      refine B_of (callF_at rfl ok) ?_
      rw [show truB (pr1 false q) = some true from rfl, B_some]
      refine IF_i (fun _ => ?_) (fun z => (z rfl).elim)
      refine ⟨.inl rfl, ?_⟩
      refine B_of ne1 ?_
      rw [asB_i]
      exact ⟨rfl, fun z => (nomatch z), fun _ => rfl⟩
    · refine B_of (a := (.lst true [], _)) rfl ?_
      refine ⟨.inl rfl, ?_⟩
      refine B_of (a := .bl false) (by kernel_rfl) ?_
      rw [asB_i]
      refine IF_i (fun z => (nomatch z)) (fun _ => ?_)
      rw [B_skip])
  have eq0 : ∀ o2, xEq (dues true (q :: r)) (.lst o2 []) = some (.bl false) := fun o2 => by show Option.map _ (eqB _ _) = _; rw [eqB_nil ok]; rfl
  have s15 : q4_15 (EE c t s st l p th sd (q :: r) (some (.lst false [pr1 false q, pr1 false q, pr1 false q]))) = some (.nx (EE c t s st l p th sd (q :: r) (some (.lst false [pr1 false q, pr1 false q, pr1 false q])))) := B_eq (by
    unfold q4_15
    rw [B_ifs, B_and, B_test, B_x2]
    refine B_of (a := (dues true (q :: r), _)) rfl ?_
    refine B_of (a := (.lst true [], _)) rfl ?_
    refine ⟨.inl rfl, B_of (eq0 true) ?_⟩
    rw [asB_i]
    refine IF_i (fun z => (nomatch z)) (fun _ => ?_)
    refine IF_i (fun z => (nomatch z)) (fun _ => ?_)
    rw [B_skip])
  refine ⟨some (.lst false [pr1 false q, pr1 false q, pr1 false q]), ?_⟩
  unfold g4
  rw [xSeq_nx s11, xSeq_nx s12, xSeq_nx s13, xSeq_nx s14]
  exact s15
/-- read: told [D, D] -/
theorem h_bad (hs : s ∈ ss4) (ht : st ∈ st4) (hl : l ∈ l4) (hp : p ∈ er4) (hh : th ∈ th4) (hd : sd ∈ sd4) (hb : d1 s st l p.2 th ++ e4 sd = q :: r) (ok : ∀ p ∈ q :: r, okD p = true) : ∃ p11, h4 (EE c t s st l p th sd (q :: r) o11) = some (.nx (EE c t s st l p th sd (q :: r) p11)) := by
  obtain ⟨fs, ft, fl, fe, fh, fd⟩ := fz5 hs ht hl hp hh hd
  have k4 : xL4 (rx_read [s, st, l, p.1, th, sd]) = some (pr1 true q) := by
    cases e : d1 s st l p.2 th with
    | cons x xs =>
      have h4 := (five_bad (sd := sd) hs ht hl hp hh (by rw [e]; exact fun z => nomatch z)).2.2.2
      rw [e] at hb h4
      have : x = q := by rw [List.cons_append] at hb; exact (List.cons.inj hb).1
      subst this
      exact h4
    | nil =>
      rw [e, List.nil_append] at hb
      have h4 := page_bad hs ht hl hp hh hd e (by rw [hb]; exact fun z => nomatch z)
      rw [hb] at h4
      exact h4
  have z6 : frzs [s, st, l, p.1, th, sd] = [s, st, l, p.1, th, sd] := isFzs_ok _ (by simp [isFzs, fs, ft, fl, fe, fh, fd])
  have a6 : ∀ o, (xCons (xTake 3) (xCons (xTake 4) (xCons (xTake 5) (xCons (xTake 6) (xCons (xTake 8) (xCons (xTake 9) xNil)))))) (EE c t s st l p th sd (q :: r) o) = some ([s, st, l, p.1, th, sd], EE c t s st l p th sd (q :: r) o) := fun o => B_eq (by simp [EE, E4, fs, ft, fl, fe, fh, fd])
  have b6 : ∀ o, (xCons (xTake 9) (xCons (xTake 8) (xCons (xTake 6) (xCons (xTake 5) (xCons (xTake 4) (xCons (xTake 3) xNil)))))) (EE c t s st l p th sd (q :: r) o) = some ([sd, th, p.1, l, st, s], EE c t s st l p th sd (q :: r) o) := fun o => B_eq (by simp [EE, E4, fs, ft, fl, fe, fh, fd])
  have zk : permL Dat.non [5, 4, 3, 2, 1, 0] (frzs [sd, th, p.1, l, st, s]) = [s, st, l, p.1, th, sd] := by
    rw [isFzs_ok _ (by simp [isFzs, fs, ft, fl, fe, fh, fd])]
    rfl
  have s17 : q4_17 (EE c t s st l p th sd (q :: r) o11) = some (.nx (EE c t s st l p th sd (q :: r) (some (.lst true [pr1 false q])))) := B_eq (by
    unfold q4_17
    rw [B_set, B_lst, B_cons]
    refine B_of (lam_at (a6 o11) z6 k4) ?_
    rw [B_nil]
    exact ⟨by show 1 ≤ sizeLine; decide, rfl⟩)
  have s18 : q4_18 (EE c t s st l p th sd (q :: r) (some (.lst true [pr1 false q]))) = some (.nx (EE c t s st l p th sd (q :: r) (some (.lst true [pr1 false q, pr1 false q])))) := B_eq (by
    unfold q4_18
    rw [B_app]
    refine ⟨⟨_, _, rfl⟩, ?_⟩
    rw [B_frz]
    refine B_of (lamK_at (b6 _) rfl zk k4) ?_
    exact ⟨_, rfl, by show 1 < sizeLine; decide, rfl⟩)
  have okq := ok q List.mem_cons_self
  have eq0 : xEq (dues true (q :: r)) (.lst true []) = some (.bl false) := by show Option.map _ (eqB _ _) = _; rw [eqB_nil ok]; rfl
  have ne0 : xNe (dues true (q :: r)) (.lst true []) = some (.bl true) := by show Option.map _ (eqB _ _) = _; rw [eqB_nil ok]; rfl
  have ix : xIdx (dues true (q :: r)) (.int 0) = some (pr1 false q) := by show xIdx (.lst true (pr1 false q :: r.map (pr1 false))) (.int 0) = _; rw [xIdx_l0]
  have mu : xMul (.lst true [pr1 false q]) (.int 2) = some (dues true [q, q]) := by kernel_rfl
  have ne2 : xNe (dues true [q, q]) (dues true [q, q]) = some (.bl false) := by show Option.map _ (eqB _ _) = _; rw [eqB_self (ps := [q, q]) (fun p hp => by simp only [List.mem_cons, List.not_mem_nil, or_false, or_self] at hp; rw [hp]; exact okq)]; rfl
  have s19 : q4_19 (EE c t s st l p th sd (q :: r) (some (.lst true [pr1 false q, pr1 false q]))) = some (.nx (EE c t s st l p th sd (q :: r) (some (.lst true [pr1 false q, pr1 false q])))) := B_eq (by
    unfold q4_19
    rw [B_ifs, B_or, B_and, B_test, B_x2]
    refine B_of (a := (dues true (q :: r), _)) rfl ?_
    refine B_of (a := (.lst true [], _)) rfl ?_
    refine ⟨.inl rfl, B_of eq0 ?_⟩
    rw [asB_i]
    refine IF_i (fun z => (nomatch z)) (fun _ => ?_)
    refine IF_i (fun z => (nomatch z)) (fun _ => ?_)
    rw [B_and, B_test, B_x2]
    refine B_of (a := (dues true (q :: r), _)) rfl ?_
    refine B_of (a := (.lst true [], _)) rfl ?_
    refine ⟨.inl rfl, B_of ne0 ?_⟩
    rw [asB_i]
    refine IF_i (fun _ => ?_) (fun z => (z rfl).elim)
    rw [B_test, B_x2]
    refine B_of (a := (dues true [q, q], _)) rfl ?_
    rw [B_x2, B_lst, B_cons, B_of', B_x2]
    refine B_of (a := (dues true (q :: r), _)) rfl ?_
    refine B_of (a := (.int 0, _)) rfl ?_
    refine ⟨.inl rfl, B_of ix ⟨rfl, ?_⟩⟩
    rw [B_nil]
    refine ⟨by show 1 ≤ sizeLine; decide, ?_⟩
    refine B_of (a := (.int 2, _)) rfl ?_
    refine ⟨.inl rfl, B_of mu ?_⟩
    refine ⟨.inl rfl, B_of ne2 ?_⟩
    rw [asB_i]
    refine IF_i (fun z => (nomatch z)) (fun _ => ?_)
    rw [B_skip])
  refine ⟨some (.lst true [pr1 false q, pr1 false q]), ?_⟩
  unfold h4
  rw [xSeq_nx s17, xSeq_nx s18]
  exact s19
end
end
end PP
end M
namespace M
open PySem PySem.Spec PyProof.Rows L2
namespace PP
noncomputable section
theorem pick4 {c : Dat} (hc : CupP c) (xs : List Dat) (hz : ∀ d ∈ xs, isFz d = true) (hn : xs ≠ []) (hl : xs.length < 1000) : ∃ d ∈ xs, ∃ c', CupP c' ∧ r__law_pick c [.lst false xs] = some (d, c') := by
  have hp : 0 < xs.length := List.length_pos_iff.mpr hn
  obtain ⟨v, c', h1, h2, h3, h4⟩ := sipP (t := (xs.length : Int)) hc (by omega) (by omega)
  have h1 : r__law_sip c [.int (xs.length : Int)] = some (.int v, c') := h1
  obtain ⟨d, hd, hx⟩ := idx_mem (o := false) (xs := xs) h2 h3
  refine ⟨d, hd, c', h4, ?_⟩
  have hB : B (r__law_pick c [.lst false xs]) fun p => p = (d, c') := by
    refine runM_B rfl ?_
    simp [x__law_pick, startE, h1, hx, hz _ hd]
  exact B_eq hB
theorem call4 {as : XA} {e e' : Env} {c : Dat} {xs : List Dat} (h0 : hasAt 0 e = true) (ha : as e = some ([.lst true xs], e')) (h1 : e'[0]? = some (some c)) (hc : CupP c) (hz : ∀ d ∈ xs, isFz d = true) (hn : xs ≠ []) (hl : xs.length < 1000) :
    ∃ d ∈ xs, ∃ c', CupP c' ∧ xCallM 0 as r__law_pick e = some (d, e'.set 0 (some c')) := by
  obtain ⟨d, hd, c', hc', hp⟩ := pick4 hc xs hz hn hl
  refine ⟨d, hd, c', hc', ?_⟩
  unfold xCallM
  rw [if_pos h0, ha]
  have hf : frzs [Dat.lst true xs] = [.lst false xs] := by simp [frzs, frz, isFzs_ok _ (isFzs_of hz)]
  simp only [Option.bind_some, h1, hf, hp, Option.map_some]
theorem errs4 {c : Dat} (hc : CupP c) : ∃ p ∈ er4, ∃ c', CupP c' ∧ r__law_some_errs c [] = some (tw p.1 p.2, c') := by
  obtain ⟨d, hd, c', hc', h⟩ := call4 (as := wa4) (e := [some c, some (.lst true me0)]) rfl (wa_at c) rfl hc (xs := me4) (by decide +kernel) (by decide) (by decide)
  obtain ⟨p, hp, rfl⟩ := List.mem_map.mp hd
  refine ⟨p, hp, c', hc', ?_⟩
  have hB : B (r__law_some_errs c []) fun r => r = (tw p.1 p.2, c') := by
    refine runM_B rfl ?_
    show B (x__law_some_errs (startE 2 [c])) _
    rw [w_eq, B_seq]
    refine B_of (wz_at c) ?_
    rw [onS_nx, w3_eq, B_ret]
    refine B_of h ?_
    exact ⟨c', rfl, rfl⟩
  exact B_eq hB
section
variable {c : Dat} {t : Option Dat} {s st l th sd : Dat} {p : Dat × Dat} {o10 o11 : Option Dat}
theorem due_len (hs : s ∈ ss4) (ht : st ∈ st4) (hl : l ∈ l4) : (d0 s st l).length ≤ 3 := by
  have h1 := len4.1 _ hs
  have h2 := len4.2.1 _ ht
  have h3 := len4.2.2.1 _ hl
  unfold d0
  rw [List.length_append, List.length_append]
  split
  · omega
  · simp; omega
theorem due_ok (hs : s ∈ ss4) (ht : st ∈ st4) (hl : l ∈ l4) : ∀ x ∈ d0 s st l, okD x = true := by
  intro x hx
  unfold d0 at hx
  rcases List.mem_append.mp hx with hx | hx
  · rcases List.mem_append.mp hx with hx | hx
    · exact ok4.1 _ hs x hx
    · exact ok4.2.1 _ ht x hx
  · split at hx
    · exact ok4.2.2.1 _ hl x hx
    · cases hx
theorem s9_at (hb : p.2 ∈ bd4) (ds : List (Int × Str)) (hl : ds.length ≤ 3) : q4_9 (EE c t s st l p th sd ds o11) = some (.nx (EE c t s st l p th sd (ds ++ e11 p.2) o11)) := by
  match ds, hl with
  | [], _ => exact map_at (t9_0 c t s st l p.1 th sd o11 none) hb
  | [a], _ => exact map_at (t9_1 c t s st l p.1 th sd o11 none a.1 a.2) hb
  | [a, b], _ => exact map_at (t9_2 c t s st l p.1 th sd o11 none a.1 a.2 b.1 b.2) hb
  | [a, b, d], _ => exact map_at (t9_3 c t s st l p.1 th sd o11 none a.1 a.2 b.1 b.2 d.1 d.2) hb
theorem s10_at (hh : th ∈ th4) (ds : List (Int × Str)) (hl : ds.length ≤ 4) : q4_10 (EE c t s st l p th sd ds o11) = some (.nx (EE c t s st l p th sd (ds ++ e3 th) o11)) := by
  match ds, hl with
  | [], _ => exact map_at (t10_0 c t s st l p.1 p.2 sd o11 none) hh
  | [a], _ => exact map_at (t10_1 c t s st l p.1 p.2 sd o11 none a.1 a.2) hh
  | [a, b], _ => exact map_at (t10_2 c t s st l p.1 p.2 sd o11 none a.1 a.2 b.1 b.2) hh
  | [a, b, d], _ => exact map_at (t10_3 c t s st l p.1 p.2 sd o11 none a.1 a.2 b.1 b.2 d.1 d.2) hh
  | [a, b, d, e], _ => exact map_at (t10_4 c t s st l p.1 p.2 sd o11 none a.1 a.2 b.1 b.2 d.1 d.2 e.1 e.2) hh
theorem s16_at (hd : sd ∈ sd4) (ds : List (Int × Str)) (hl : ds.length ≤ 5) : q4_16 (EE c t s st l p th sd ds o11) = some (.nx (EE c t s st l p th sd (ds ++ e4 sd) o11)) := by
  match ds, hl with
  | [], _ => exact map_at (t16_0 c t s st l p.1 p.2 th o11 none) hd
  | [a], _ => exact map_at (t16_1 c t s st l p.1 p.2 th o11 none a.1 a.2) hd
  | [a, b], _ => exact map_at (t16_2 c t s st l p.1 p.2 th o11 none a.1 a.2 b.1 b.2) hd
  | [a, b, d], _ => exact map_at (t16_3 c t s st l p.1 p.2 th o11 none a.1 a.2 b.1 b.2 d.1 d.2) hd
  | [a, b, d, e], _ => exact map_at (t16_4 c t s st l p.1 p.2 th o11 none a.1 a.2 b.1 b.2 d.1 d.2 e.1 e.2) hd
  | [a, b, d, e, f], _ => exact map_at (t16_5 c t s st l p.1 p.2 th o11 none a.1 a.2 b.1 b.2 d.1 d.2 e.1 e.2 f.1 f.2) hd
theorem ofA {o : Option Out} {ls : List (Option Dat)} (h : eA o = some (ls, 13, none)) : ∃ p11, o = some (.nx (ls ++ [p11, none])) := by
  unfold eA at h
  split at h
  · rename_i e
    simp only [Option.some.injEq, Prod.mk.injEq] at h
    obtain ⟨h1, h2, h3⟩ := h
    subst h1
    have hd : (e.drop 11).length = 2 := by rw [List.length_drop, h2]
    match hq : e.drop 11, hd with
    | [p11, p12], _ =>
      have e2 : e = e.take 11 ++ [p11, p12] := by rw [← hq, List.take_append_drop]
      have l11 : (e.take 11).length = 11 := by rw [List.length_take]; omega
      have : p12 = none := by
        rw [e2, List.getD_eq_getElem?_getD, List.getElem?_append_right (by omega), l11] at h3
        simpa using h3
      subst this
      exact ⟨p11, by rw [← e2]⟩
  · cases h
/-- told and due agree -/
theorem gh_at (hs : s ∈ ss4) (ht : st ∈ st4) (hl : l ∈ l4) (hp : p ∈ er4) (hh : th ∈ th4) (hd : sd ∈ sd4) : ∃ p11, xSeq q4_9 (xSeq q4_10 (xSeq g4 (xSeq q4_16 h4))) (EE c t s st l p th sd (d0 s st l) o11) = some (.nx (EE c t s st l p th sd (d1 s st l p.2 th ++ e4 sd) p11)) := by
  have n0 := due_len hs ht hl
  have n1 := len4.2.2.2.1 _ (bd_of _ hp)
  have n2 := len4.2.2.2.2.1 _ hh
  have k0 := due_ok hs ht hl
  have ok1 : ∀ x ∈ d1 s st l p.2 th, okD x = true := by
    intro x hx
    unfold d1 at hx
    rcases List.mem_append.mp hx with hx | hx
    · rcases List.mem_append.mp hx with hx | hx
      · exact k0 x hx
      · exact ok4.2.2.2.1 _ (bd_of _ hp) x hx
    · exact ok4.2.2.2.2.1 _ hh x hx
  have n3 : (d1 s st l p.2 th).length ≤ 5 := by unfold d1; rw [List.length_append, List.length_append]; omega
  have ok2 : ∀ x ∈ d1 s st l p.2 th ++ e4 sd, okD x = true := by
    intro x hx
    rcases List.mem_append.mp hx with hx | hx
    · exact ok1 x hx
    · exact ok4.2.2.2.2.2 _ hd x hx
  rw [xSeq_nx (s9_at (bd_of _ hp) _ n0), xSeq_nx (s10_at hh _ (by rw [List.length_append]; omega))]
  have key : ∀ o11, (∃ p11, g4 (EE c t s st l p th sd (d1 s st l p.2 th) o11) = some (.nx (EE c t s st l p th sd (d1 s st l p.2 th) p11))) → (∀ o11, ∃ p11, h4 (EE c t s st l p th sd (d1 s st l p.2 th ++ e4 sd) o11) = some (.nx (EE c t s st l p th sd (d1 s st l p.2 th ++ e4 sd) p11))) →
      ∃ p11, xSeq g4 (xSeq q4_16 h4) (EE c t s st l p th sd (d1 s st l p.2 th) o11) = some (.nx (EE c t s st l p th sd (d1 s st l p.2 th ++ e4 sd) p11)) := by
    rintro o11 ⟨p11, h1⟩ h2
    obtain ⟨p, h2⟩ := h2 p11
    refine ⟨p, ?_⟩
    rw [xSeq_nx h1, xSeq_nx (s16_at hd _ n3)]
    exact h2
  refine key o11 ?_ ?_
  · cases e : d1 s st l p.2 th with
    | cons q r => exact g_bad hs ht hl hp hh hd e (by rw [← e]; exact ok1)
    | nil =>
      have e0 := e
      unfold d1 at e0
      rw [List.append_eq_nil_iff, List.append_eq_nil_iff] at e0
      obtain ⟨⟨h0, h1⟩, h2⟩ := e0
      unfold d0 at h0
      rw [List.append_eq_nil_iff, List.append_eq_nil_iff] at h0
      obtain ⟨⟨h00, h01⟩, h02⟩ := h0
      have sg := good4m.1 _ hs h00
      subst sg
      have h02 : dLt l = [] := h02
      have := map_at (map_at (map_at (map_at (tG c t sd o11) (good4m.2.1 _ ht h01)) (good4m.2.2.1 _ hl h02)) (good4m.2.2.2.1 _ hp h1)) (good4m.2.2.2.2.1 _ hh h2)
      obtain ⟨p11, h⟩ := ofA this
      exact ⟨p11, h⟩
  · intro o11
    cases e : d1 s st l p.2 th ++ e4 sd with
    | cons q r => exact h_bad hs ht hl hp hh hd e (by rw [← e]; exact ok2)
    | nil =>
      rw [List.append_eq_nil_iff] at e
      obtain ⟨e0, h3⟩ := e
      unfold d1 at e0
      rw [List.append_eq_nil_iff, List.append_eq_nil_iff] at e0
      obtain ⟨⟨h0, h1⟩, h2⟩ := e0
      unfold d0 at h0
      rw [List.append_eq_nil_iff, List.append_eq_nil_iff] at h0
      obtain ⟨⟨h00, h01⟩, h02⟩ := h0
      have sg := good4m.1 _ hs h00
      subst sg
      have h02 : dLt l = [] := h02
      have := map_at (map_at (map_at (map_at (map_at (tH c t o11) (good4m.2.1 _ ht h01)) (good4m.2.2.1 _ hl h02)) (good4m.2.2.2.1 _ hp h1)) (good4m.2.2.2.2.1 _ hh h2)) (good4m.2.2.2.2.2 _ hd h3)
      obtain ⟨p11, h⟩ := ofA this
      exact ⟨p11, h⟩
end
section
variable {c : Dat} {t : Option Dat} {o3 o4 o5 o6 o7 o8 o9 o10 o11 : Option Dat} {g : Dat}
def L0 : List Dat := [gd4, gd4, gd4, .non, .str cs_startx20Ax201, .int 3, .dct false [] []]
def L5 : List Dat := [.str cs_A, .str cs_C, .str cs_A, .str cs_B, .str cs_AC, .str cs_, .non, .int 1, .lst false [.str cs_A]]
theorem zL : (∀ d ∈ L0, isFz d = true) ∧ ∀ d ∈ L5, isFz d = true := by decide +kernel
theorem turn4 (hc : CupP c) (hg : g = gu4 ∨ g = gd4) : ∃ e2 c', x__law_right_p1 [some c, some g, t, o3, o4, o5, o6, o7, o8, o9, o10, o11, none] = some (.nx e2) ∧ CupP c' ∧ ∃ p2 p3 p4 p5 p6 p7 p8 p9 p10 p11, e2 = [some c', some gd4, p2, p3, p4, p5, p6, p7, p8, p9, p10, p11, none] := by
  have z := zL
  have f := fz4
  obtain ⟨s, hs, c0, hc0, q0⟩ : ∃ s ∈ L0, ∃ c', CupP c' ∧ q4_0 [some c, some g, t, o3, o4, o5, o6, o7, o8, o9, o10, o11, none] = some (.nx [some c', some gd4, t, some s, o4, o5, o6, o7, o8, o9, o10, o11, none]) := by
    rcases hg with rfl | rfl
    · obtain ⟨s, hs, c', hc', h⟩ := call4 (as := (xCons (xLst (xCons (xTake 1) (xCons (xTake 1) (xCons (xTake 1) (xCons (xC .non) (xCons (xC (.str cs_startx20Ax201)) (xCons (xC (.int 3)) (xCons (xC (.dct true [] [])) xNil)))))))) xNil)) (e := [some c, some gu4, t, o3, o4, o5, o6, o7, o8, o9, o10, o11, none]) (e' := [some c, some gd4, t, o3, o4, o5, o6, o7, o8, o9, o10, o11, none]) (xs := L0) rfl (by kernel_rfl) rfl hc z.1 (by simp [L0]) (by decide)
      exact ⟨s, hs, c', hc', xSet_at h⟩
    · obtain ⟨s, hs, c', hc', h⟩ := call4 (as := (xCons (xLst (xCons (xTake 1) (xCons (xTake 1) (xCons (xTake 1) (xCons (xC .non) (xCons (xC (.str cs_startx20Ax201)) (xCons (xC (.int 3)) (xCons (xC (.dct true [] [])) xNil)))))))) xNil)) (e := [some c, some gd4, t, o3, o4, o5, o6, o7, o8, o9, o10, o11, none]) (e' := [some c, some gd4, t, o3, o4, o5, o6, o7, o8, o9, o10, o11, none]) (xs := L0) rfl (by kernel_rfl) rfl hc z.1 (by simp [L0]) (by decide)
      exact ⟨s, hs, c', hc', xSet_at h⟩
  obtain ⟨st, ht, c1, hc1, q1⟩ : ∃ d ∈ st4, ∃ c', CupP c' ∧ q4_1 [some c0, some gd4, t, some s, o4, o5, o6, o7, o8, o9, o10, o11, none] = some (.nx [some c', some gd4, t, some s, some d, o5, o6, o7, o8, o9, o10, o11, none]) := by
    obtain ⟨d, hd, c', hc', h⟩ := call4 (e := [some c0, some gd4, t, some s, o4, o5, o6, o7, o8, o9, o10, o11, none]) (e' := [some c0, some gd4, t, some s, o4, o5, o6, o7, o8, o9, o10, o11, none]) (xs := st4) (as := xA1) rfl (by kernel_rfl) rfl hc0 f.2.1 (by simp [st4, stG]) (by decide)
    exact ⟨d, hd, c', hc', xSet_at h⟩
  obtain ⟨l, hl, c2, hc2, q2⟩ : ∃ d ∈ L5, ∃ c', CupP c' ∧ q4_2 [some c1, some gd4, t, some s, some st, o5, o6, o7, o8, o9, o10, o11, none] = some (.nx [some c', some gd4, t, some s, some st, some d, o6, o7, o8, o9, o10, o11, none]) := by
    obtain ⟨d, hd, c', hc', h⟩ := call4 (e := [some c1, some gd4, t, some s, some st, o5, o6, o7, o8, o9, o10, o11, none]) (e' := [some c1, some gd4, t, some s, some st, o5, o6, o7, o8, o9, o10, o11, none]) (xs := L5) (as := xA2) rfl (by kernel_rfl) rfl hc1 z.2 (by simp [L5]) (by decide)
    exact ⟨d, hd, c', hc', xSet_at h⟩
  obtain ⟨p, hp, c3, hc3, q3⟩ : ∃ p ∈ er4, ∃ c', CupP c' ∧ q4_3 [some c2, some gd4, t, some s, some st, some l, o6, o7, o8, o9, o10, o11, none] = some (.nx [some c', some gd4, t, some s, some st, some l, some p.1, some p.2, o8, o9, o10, o11, none]) := by
    obtain ⟨p, hp, c', hc', h⟩ := errs4 hc2
    refine ⟨p, hp, c', hc', B_eq ?_⟩
    have fp := f.2.2.2.1 _ hp
    unfold q4_3
    rw [B_asg, B_callM]
    refine ⟨rfl, ?_⟩
    rw [B_nil]
    refine B_of (a := some c2) rfl ?_
    rw [B_some]
    refine B_of h ?_
    have ft : frz (tw p.1 p.2) = tw p.1 p.2 := by
      have := isFzs_ok [tw p.1 p.2] (by simp [isFzs, tw, fp.1, fp.2])
      simpa [frzs] using this
    show B (xgTup 2 _ (frz (tw p.1 p.2)) _) _
    rw [ft]
    exact ⟨_, rfl, rfl⟩
  obtain ⟨th, hh, c4, hc4, q4⟩ : ∃ d ∈ th4, ∃ c', CupP c' ∧ q4_4 [some c3, some gd4, t, some s, some st, some l, some p.1, some p.2, o8, o9, o10, o11, none] = some (.nx [some c', some gd4, t, some s, some st, some l, some p.1, some p.2, some d, o9, o10, o11, none]) := by
    obtain ⟨d, hd, c', hc', h⟩ := call4 (e := [some c3, some gd4, t, some s, some st, some l, some p.1, some p.2, o8, o9, o10, o11, none]) (e' := [some c3, some gd4, t, some s, some st, some l, some p.1, some p.2, o8, o9, o10, o11, none]) (xs := th4) (as := xA4) rfl (by kernel_rfl) rfl hc3 f.2.2.2.2.1 (by simp [th4, thG]) (by decide)
    exact ⟨d, hd, c', hc', xSet_at h⟩
  obtain ⟨sd, hd, c5, hc5, q5⟩ : ∃ d ∈ sd4, ∃ c', CupP c' ∧ q4_5 [some c4, some gd4, t, some s, some st, some l, some p.1, some p.2, some th, o9, o10, o11, none] = some (.nx [some c', some gd4, t, some s, some st, some l, some p.1, some p.2, some th, some d, o10, o11, none]) := by
    obtain ⟨d, hd, c', hc', h⟩ := call4 (e := [some c4, some gd4, t, some s, some st, some l, some p.1, some p.2, some th, o9, o10, o11, none]) (e' := [some c4, some gd4, t, some s, some st, some l, some p.1, some p.2, some th, o9, o10, o11, none]) (xs := sd4) (as := xA5) rfl (by kernel_rfl) rfl hc4 f.2.2.2.2.2 (by simp [sd4, sdG]) (by decide)
    exact ⟨d, hd, c', hc', xSet_at h⟩
  have hs' : s ∈ ss4 := by
    simp only [L0, List.mem_cons, List.not_mem_nil, or_false] at hs
    rcases hs with rfl | rfl | rfl | rfl | rfl | rfl | rfl <;> simp [ss4, ssB]
  have hl' : l ∈ l4 := by
    simp only [L5, List.mem_cons, List.not_mem_nil, or_false] at hl
    rcases hl with rfl | rfl | rfl | rfl | rfl | rfl | rfl | rfl | rfl <;> simp [l4, lG, lB]
  have hA := map_at (map_at (map_at (tA c5 t p.1 p.2 th sd o10 o11) hs') ht) hl'
  obtain ⟨p11, qA⟩ := ofA hA
  obtain ⟨p11', qB⟩ := gh_at (c := c5) (t := t) (o11 := p11) hs' ht hl' hp hh hd
  refine ⟨_, c5, ?_, hc5, t, some s, some st, some l, some p.1, some p.2, some th, some sd, some (dues true (d1 s st l p.2 th ++ e4 sd)), p11', rfl⟩
  rw [p1_eq, xSeq_nx q0, xSeq_nx q1, xSeq_nx q2, xSeq_nx q3, xSeq_nx q4, xSeq_nx q5]
  exact (xSeq_nx qA).trans qB
end
theorem mk4 (c : Dat) : xSet 1 (xMake 1 (xCons (xC (.str cs_startx20Ax201x202x0astartx20Cx203x0apacketx0aAx20pagesx201x0aCx20pagesx206)) xNil) r_Service_init) (startE 13 [c]) = some (.nx [some c, some gu4, none, none, none, none, none, none, none, none, none, none, none]) := by kernel_rfl
theorem right4 (c : Dat) (hc : CupP c) : ∃ c', r__law_right c [] = some (.bl true, c') := by
  obtain ⟨e', h1, c', o1, o2, o3, o4, o5, o6, o7, o8, o9, o10, o11, rfl, h2⟩ := xForL_inv (g := xgNm 2) (b := x__law_right_p1) (P := fun e => ∃ c g o2 o3 o4 o5 o6 o7 o8 o9 o10 o11, e = [some c, some g, o2, o3, o4, o5, o6, o7, o8, o9, o10, o11, none] ∧ CupP c ∧ (g = gu4 ∨ g = gd4)) (ds := rngD 0 8) (by
    rintro d _ e ⟨c, g, o2, o3, o4, o5, o6, o7, o8, o9, o10, o11, rfl, hc, hg⟩
    obtain ⟨e2, c', h, hc', p2, p3, p4, p5, p6, p7, p8, p9, p10, p11, rfl⟩ := turn4 (t := some d) (o3 := o3) (o4 := o4) (o5 := o5) (o6 := o6) (o7 := o7) (o8 := o8) (o9 := o9) (o10 := o10) (o11 := o11) hc hg
    exact ⟨_, _, rfl, h, c', gd4, p2, p3, p4, p5, p6, p7, p8, p9, p10, p11, rfl, hc', .inr rfl⟩) ⟨c, gu4, none, none, none, none, none, none, none, none, none, none, rfl, hc, .inl rfl⟩
  have hf : xFor (xRng1 (xCons (xC (.int 8)) xNil)) (xgNm 2) x__law_right_p1 [some c, some gu4, none, none, none, none, none, none, none, none, none, none, none] = some (.nx [some c', some o1, o2, o3, o4, o5, o6, o7, o8, o9, o10, o11, none]) := by
    have e1 : xRng1 (xCons (xC (.int 8)) xNil) [some c, some gu4, none, none, none, none, none, none, none, none, none, none, none] = some (rngD 0 8, [some c, some gu4, none, none, none, none, none, none, none, none, none, none, none]) := by kernel_rfl
    unfold xFor
    rw [e1]
    exact h1
  refine ⟨c', runM_rt rfl (e := [some c', some o1, o2, o3, o4, o5, o6, o7, o8, o9, o10, o11, none]) ?_ rfl⟩
  unfold x__law_right
  rw [xSeq_nx (mk4 c), xSeq_nx hf]
  rfl
theorem law_ok (ns : List Int) (_h : ns.length ≤ 63) : runF 1 2 x_law [.scr ns] = some (.bl true) := law_all 6 (by decide) cup_ok right4 ns
end
end PP
end M
namespace M
noncomputable section
open PySem PySem.Spec PyProof.Rows L2
namespace PP
abbrev hR : PySem.W.OpenRow := PySem.W.OpenLaw.row PySem.Challenge.rw_leafpackets_k04_filing_refused
abbrev hV : Program := PySem.W.view hR.prog [81]
def hNm0 : List PySem.Str := [("_wall" : PySem.Str), ("MOST_LABEL" : PySem.Str), ("MOST_LEAVES" : PySem.Str), ("MOST_PACKETS" : PySem.Str), ("MOST_SLIPS" : PySem.Str), ("GREATEST" : PySem.Str), ("WrongValue" : PySem.Str), ("InvalidText" : PySem.Str), ("InvalidSection" : PySem.Str), ("InvalidManner" : PySem.Str), ("InvalidMoment" : PySem.Str), ("InvalidPage" : PySem.Str)]
def hNm1 : List PySem.Str := [("InvalidWord" : PySem.Str), ("InvalidMany" : PySem.Str), ("InvalidKind" : PySem.Str), ("InvalidNumber" : PySem.Str), ("InvalidIndex" : PySem.Str), ("NotAService" : PySem.Str), ("InvalidSlips" : PySem.Str), ("InvalidLists" : PySem.Str), ("SECTIONS" : PySem.Str), ("MANNERS" : PySem.Str), ("KINDS" : PySem.Str), ("is_between" : PySem.Str)]
def hNm2 : List PySem.Str := [("is_one_of" : PySem.Str), ("is_page" : PySem.Str), ("is_slip" : PySem.Str), ("first_bad_slip" : PySem.Str), ("check_slips" : PySem.Str), ("check_manner" : PySem.Str), ("check_moment" : PySem.Str), ("check_page" : PySem.Str), ("HEADS" : PySem.Str), ("Entry" : PySem.Str), ("leaf_of" : PySem.Str), ("runs_of" : PySem.Str)]
def hNm3 : List PySem.Str := [("numbers_of" : PySem.Str), ("labels_of" : PySem.Str), ("starts_in" : PySem.Str), ("packets_in" : PySem.Str), ("is_told_right" : PySem.Str), ("entries_of" : PySem.Str), ("plans_of" : PySem.Str), ("Service" : PySem.Str), ("check_service" : PySem.Str), ("check_section" : PySem.Str), ("right_row" : PySem.Str), ("is_side_good" : PySem.Str)]
def hNm4 : List PySem.Str := [("aged" : PySem.Str), ("without_first" : PySem.Str), ("place_for" : PySem.Str), ("taken" : PySem.Str), ("put" : PySem.Str), ("filed" : PySem.Str), ("handled" : PySem.Str), ("turned" : PySem.Str), ("read_in" : PySem.Str), ("is_sound" : PySem.Str), ("Course" : PySem.Str), ("state_at" : PySem.Str)]
def hNm5 : List PySem.Str := [("labels_at" : PySem.Str), ("pages_wrong" : PySem.Str), ("check_place" : PySem.Str), ("check_all" : PySem.Str), ("row" : PySem.Str), ("read" : PySem.Str), ("wrong" : PySem.Str), ("is_right" : PySem.Str), ("_law_cup" : PySem.Str), ("_law_sip" : PySem.Str), ("_law_pick" : PySem.Str), ("_law_caught" : PySem.Str)]
def hNm6 : List PySem.Str := [("_law_some_errs" : PySem.Str), ("_law_first" : PySem.Str), ("_law_right" : PySem.Str)]
def hNm : List PySem.Str := (hNm0 ++ (hNm1 ++ (hNm2 ++ (hNm3 ++ (hNm4 ++ (hNm5 ++ (hNm6)))))))
def hFa0 : List He.Fa := [.glo ("Entry" : PySem.Str), .cls ("Entry" : PySem.Str), .noat ("Entry" : PySem.Str) ("ahead" : PySem.Str), .noat ("Entry" : PySem.Str) ("changed" : PySem.Str), .noat ("Entry" : PySem.Str) ("in_labels" : PySem.Str), .noat ("Entry" : PySem.Str) ("out_labels" : PySem.Str), .noat ("Entry" : PySem.Str) ("behind" : PySem.Str), .noat ("Entry" : PySem.Str) ("runs" : PySem.Str), .mkr ("Entry" : PySem.Str), .glo ("Service" : PySem.Str), .cls ("Service" : PySem.Str), .noat ("Service" : PySem.Str) ("text" : PySem.Str)]
def hFa1 : List He.Fa := [.noat ("Service" : PySem.Str) ("plans" : PySem.Str), .noat ("Service" : PySem.Str) ("sections" : PySem.Str), .noat ("Service" : PySem.Str) ("size" : PySem.Str), .mkr ("Service" : PySem.Str), .glo ("Course" : PySem.Str), .cls ("Course" : PySem.Str), .noat ("Course" : PySem.Str) ("plan" : PySem.Str), .noat ("Course" : PySem.Str) ("manner" : PySem.Str), .noat ("Course" : PySem.Str) ("number" : PySem.Str), .noat ("Course" : PySem.Str) ("state" : PySem.Str), .mkr ("Course" : PySem.Str), .free ("" : PySem.Str)]
def hFa2 : List He.Fa := [.free ("abs" : PySem.Str), .free ("all" : PySem.Str), .free ("any" : PySem.Str), .free ("bool" : PySem.Str), .free ("divmod" : PySem.Str), .free ("enumerate" : PySem.Str), .free ("int" : PySem.Str), .free ("isinstance" : PySem.Str), .free ("len" : PySem.Str), .free ("list" : PySem.Str), .free ("max" : PySem.Str), .free ("min" : PySem.Str)]
def hFa3 : List He.Fa := [.free ("range" : PySem.Str), .free ("repr" : PySem.Str), .free ("sorted" : PySem.Str), .free ("str" : PySem.Str), .free ("tuple" : PySem.Str), .meth ("Course" : PySem.Str) ("go" : PySem.Str), .meth ("Course" : PySem.Str) ("go_to" : PySem.Str), .meth ("Course" : PySem.Str) ("__init__" : PySem.Str), .meth ("Entry" : PySem.Str) ("__init__" : PySem.Str), .meth ("Service" : PySem.Str) ("__init__" : PySem.Str), .glo ("_law_caught" : PySem.Str), .glo ("_law_cup" : PySem.Str)]
def hFa4 : List He.Fa := [.glo ("_law_first" : PySem.Str), .glo ("_law_pick" : PySem.Str), .glo ("_law_right" : PySem.Str), .glo ("_law_sip" : PySem.Str), .glo ("_law_some_errs" : PySem.Str), .glo ("aged" : PySem.Str), .glo ("check_all" : PySem.Str), .glo ("check_manner" : PySem.Str), .glo ("check_moment" : PySem.Str), .glo ("check_page" : PySem.Str), .glo ("check_place" : PySem.Str), .glo ("check_section" : PySem.Str)]
def hFa5 : List He.Fa := [.glo ("check_service" : PySem.Str), .glo ("check_slips" : PySem.Str), .glo ("entries_of" : PySem.Str), .glo ("filed" : PySem.Str), .glo ("first_bad_slip" : PySem.Str), .glo ("handled" : PySem.Str), .glo ("is_between" : PySem.Str), .glo ("is_one_of" : PySem.Str), .glo ("is_page" : PySem.Str), .glo ("is_right" : PySem.Str), .glo ("is_side_good" : PySem.Str), .glo ("is_slip" : PySem.Str)]
def hFa6 : List He.Fa := [.glo ("is_sound" : PySem.Str), .glo ("is_told_right" : PySem.Str), .glo ("labels_at" : PySem.Str), .glo ("labels_of" : PySem.Str), .glo ("law" : PySem.Str), .glo ("leaf_of" : PySem.Str), .glo ("numbers_of" : PySem.Str), .glo ("packets_in" : PySem.Str), .glo ("pages_wrong" : PySem.Str), .glo ("place_for" : PySem.Str), .glo ("plans_of" : PySem.Str), .glo ("put" : PySem.Str)]
def hFa7 : List He.Fa := [.glo ("read" : PySem.Str), .glo ("read_in" : PySem.Str), .glo ("right_row" : PySem.Str), .glo ("row" : PySem.Str), .glo ("runs_of" : PySem.Str), .glo ("starts_in" : PySem.Str), .glo ("state_at" : PySem.Str), .glo ("taken" : PySem.Str), .glo ("turned" : PySem.Str), .glo ("without_first" : PySem.Str), .glo ("wrong" : PySem.Str), .int ("GREATEST" : PySem.Str) 1000000000000000000000000000000]
def hFa8 : List He.Fa := [.int ("MOST_LABEL" : PySem.Str) 9, .int ("MOST_LEAVES" : PySem.Str) 8, .int ("MOST_PACKETS" : PySem.Str) 6, .int ("MOST_SLIPS" : PySem.Str) 3]
def hFa : List He.Fa := (hFa0 ++ (hFa1 ++ (hFa2 ++ (hFa3 ++ (hFa4 ++ (hFa5 ++ (hFa6 ++ (hFa7 ++ (hFa8)))))))))
def hFnX0 : List He.DefD := [mtD ("Course" : PySem.Str) ("go" : PySem.Str) ("Course.go" : PySem.Str) s_Course_go, mtD ("Course" : PySem.Str) ("go_to" : PySem.Str) ("Course.go_to" : PySem.Str) s_Course_go_to, mtD ("Course" : PySem.Str) ("__init__" : PySem.Str) ("Course.__init__" : PySem.Str) s_Course_init, mtD ("Entry" : PySem.Str) ("__init__" : PySem.Str) ("Entry.__init__" : PySem.Str) s_Entry_init, mtD ("Service" : PySem.Str) ("__init__" : PySem.Str) ("Service.__init__" : PySem.Str) s_Service_init, dfD ("_law_caught" : PySem.Str) ("_law_caught" : PySem.Str) s__law_caught, dfD ("_law_cup" : PySem.Str) ("_law_cup" : PySem.Str) s__law_cup, dfD ("_law_first" : PySem.Str) ("_law_first" : PySem.Str) s__law_first, dfD ("_law_pick" : PySem.Str) ("_law_pick" : PySem.Str) s__law_pick, dfD ("_law_right" : PySem.Str) ("_law_right" : PySem.Str) s__law_right, dfD ("_law_sip" : PySem.Str) ("_law_sip" : PySem.Str) s__law_sip, dfD ("_law_some_errs" : PySem.Str) ("_law_some_errs" : PySem.Str) s__law_some_errs]
def hFnX1 : List He.DefD := [dfD ("aged" : PySem.Str) ("aged" : PySem.Str) s_aged, dfD ("check_all" : PySem.Str) ("check_all" : PySem.Str) s_check_all, dfD ("check_manner" : PySem.Str) ("check_manner" : PySem.Str) s_check_manner, dfD ("check_moment" : PySem.Str) ("check_moment" : PySem.Str) s_check_moment, dfD ("check_page" : PySem.Str) ("check_page" : PySem.Str) s_check_page, dfD ("check_place" : PySem.Str) ("check_place" : PySem.Str) s_check_place, dfD ("check_section" : PySem.Str) ("check_section" : PySem.Str) s_check_section, dfD ("check_service" : PySem.Str) ("check_service" : PySem.Str) s_check_service, dfD ("check_slips" : PySem.Str) ("check_slips" : PySem.Str) s_check_slips, dfD ("entries_of" : PySem.Str) ("entries_of" : PySem.Str) s_entries_of, dfD ("filed" : PySem.Str) ("filed" : PySem.Str) s_filed, dfD ("first_bad_slip" : PySem.Str) ("first_bad_slip" : PySem.Str) s_first_bad_slip]
def hFnX2 : List He.DefD := [dfD ("handled" : PySem.Str) ("handled" : PySem.Str) s_handled, dfD ("is_between" : PySem.Str) ("is_between" : PySem.Str) s_is_between, dfD ("is_one_of" : PySem.Str) ("is_one_of" : PySem.Str) s_is_one_of]
def hFnX : List He.DefD := (hFnX0 ++ (hFnX1 ++ (hFnX2)))
def hFnY0 : List He.DefD := [dfD ("is_page" : PySem.Str) ("is_page" : PySem.Str) s_is_page, dfD ("is_right" : PySem.Str) ("is_right" : PySem.Str) s_is_right, dfD ("is_side_good" : PySem.Str) ("is_side_good" : PySem.Str) s_is_side_good, dfD ("is_slip" : PySem.Str) ("is_slip" : PySem.Str) s_is_slip, dfD ("is_sound" : PySem.Str) ("is_sound" : PySem.Str) s_is_sound, dfD ("is_told_right" : PySem.Str) ("is_told_right" : PySem.Str) s_is_told_right, dfD ("labels_at" : PySem.Str) ("labels_at" : PySem.Str) s_labels_at, dfD ("labels_of" : PySem.Str) ("labels_of" : PySem.Str) s_labels_of, dfD ("law" : PySem.Str) ("law" : PySem.Str) s_law, dfD ("leaf_of" : PySem.Str) ("leaf_of" : PySem.Str) s_leaf_of, dfD ("numbers_of" : PySem.Str) ("numbers_of" : PySem.Str) s_numbers_of, dfD ("packets_in" : PySem.Str) ("packets_in" : PySem.Str) s_packets_in]
def hFnY1 : List He.DefD := [dfD ("pages_wrong" : PySem.Str) ("pages_wrong" : PySem.Str) s_pages_wrong, dfD ("place_for" : PySem.Str) ("place_for" : PySem.Str) s_place_for, dfD ("plans_of" : PySem.Str) ("plans_of" : PySem.Str) s_plans_of, dfD ("put" : PySem.Str) ("put" : PySem.Str) s_put, dfD ("read" : PySem.Str) ("read" : PySem.Str) s_read, dfD ("read_in" : PySem.Str) ("read_in" : PySem.Str) s_read_in, dfD ("right_row" : PySem.Str) ("right_row" : PySem.Str) s_right_row, dfD ("row" : PySem.Str) ("row" : PySem.Str) s_row, dfD ("runs_of" : PySem.Str) ("runs_of" : PySem.Str) s_runs_of, dfD ("starts_in" : PySem.Str) ("starts_in" : PySem.Str) s_starts_in, dfD ("state_at" : PySem.Str) ("state_at" : PySem.Str) s_state_at, dfD ("taken" : PySem.Str) ("taken" : PySem.Str) s_taken]
def hFnY2 : List He.DefD := [dfD ("turned" : PySem.Str) ("turned" : PySem.Str) s_turned, dfD ("without_first" : PySem.Str) ("without_first" : PySem.Str) s_without_first, dfD ("wrong" : PySem.Str) ("wrong" : PySem.Str) s_wrong]
def hFnY : List He.DefD := (hFnY0 ++ (hFnY1 ++ (hFnY2)))
abbrev hFn : List He.DefD := hFnX ++ hFnY
def hTs : List He.Tab := []
def hEx1 : List (PySem.W.Frag → Bool) := [(fun K => decide (PySem.W.specialIn K (.builtin "object.__class__") "__get__" = some (some (.builtin "getset_descriptor.__get__")))), (fun K => decide (PySem.W.takesIn K (.builtin "object.__class__") = some true)), (fun K => decide (PySem.W.findIn K (.ref (He.ga K ("Entry" : PySem.Str))) "__class__" = some (some (.builtin "object.__class__")))), (fun K => decide (PySem.W.mroIn K (He.ga K ("Entry" : PySem.Str)) (.type "object") = some true)), (fun K => decide (PySem.W.findIn K (.ref (He.ga K ("Service" : PySem.Str))) "__class__" = some (some (.builtin "object.__class__")))), (fun K => decide (PySem.W.mroIn K (He.ga K ("Service" : PySem.Str)) (.type "object") = some true)), (fun K => decide (PySem.W.findIn K (.ref (He.ga K ("Course" : PySem.Str))) "__class__" = some (some (.builtin "object.__class__")))), (fun K => decide (PySem.W.mroIn K (He.ga K ("Course" : PySem.Str)) (.type "object") = some true)), (fun K => decide (PySem.W.isClsIn K (He.ga K ("Service" : PySem.Str)) = true)), (fun K => decide (PySem.W.typeIn K (.ref (He.ga K ("Service" : PySem.Str))) = some (.type "type"))), (fun K => decide (PySem.W.mroIn K (He.ga K ("Entry" : PySem.Str)) (.ref (He.ga K ("Service" : PySem.Str))) = some false)), (fun K => decide (PySem.W.mroIn K (He.ga K ("Service" : PySem.Str)) (.ref (He.ga K ("Service" : PySem.Str))) = some true)), (fun K => decide (PySem.W.mroIn K (He.ga K ("Course" : PySem.Str)) (.ref (He.ga K ("Service" : PySem.Str))) = some false)), tupX ("HEADS" : PySem.Str) [.str cs_pages, .str cs_new, .str cs_gone], tupX ("KINDS" : PySem.Str) [.str cs_ins, .str cs_late, .str cs_outs, .str cs_skip, .str cs_twice], tupX ("MANNERS" : PySem.Str) [.str cs_all, .str cs_first, .str cs_count], tupX ("SECTIONS" : PySem.Str) [.str cs_A, .str cs_B, .str cs_C]]
def hEx2 : List (PySem.W.Frag → Bool) := [(fun K => excAll TB nsX K), (fun K => hdB' TB ["InvalidText", "InvalidSection", "InvalidManner", "InvalidMoment", "InvalidPage", "InvalidWord"] hdm__law_caught_0l K), (fun K => hdB' TB ["InvalidMany", "InvalidKind", "InvalidNumber", "InvalidIndex", "NotAService"] hdm__law_caught_1l K), (fun K => hdB' TB ["InvalidSlips", "InvalidLists"] hdm__law_caught_2l K), (fun K => isxB TB "InvalidIndex" ixf_InvalidIndexl K), (fun K => isxB TB "InvalidKind" ixf_InvalidKindl K), (fun K => isxB TB "InvalidLists" ixf_InvalidListsl K), (fun K => isxB TB "InvalidManner" ixf_InvalidMannerl K), (fun K => isxB TB "InvalidMany" ixf_InvalidManyl K), (fun K => isxB TB "InvalidMoment" ixf_InvalidMomentl K), (fun K => isxB TB "InvalidNumber" ixf_InvalidNumberl K), (fun K => isxB TB "InvalidPage" ixf_InvalidPagel K)]
def hEx3 : List (PySem.W.Frag → Bool) := [(fun K => isxB TB "InvalidSection" ixf_InvalidSectionl K), (fun K => isxB TB "InvalidText" ixf_InvalidTextl K), (fun K => isxB TB "InvalidWord" ixf_InvalidWordl K), (fun K => isxB TB "NotAService" ixf_NotAServicel K), (fun K => iniB PySem.Challenge.rw_leafpackets_k04_filing_refused.prog "InvalidManner" "InvalidManner.__init__" "given" K), (fun K => iniB PySem.Challenge.rw_leafpackets_k04_filing_refused.prog "InvalidMoment" "InvalidMoment.__init__" "given" K), (fun K => iniB PySem.Challenge.rw_leafpackets_k04_filing_refused.prog "InvalidPage" "InvalidPage.__init__" "given" K), (fun K => iniB PySem.Challenge.rw_leafpackets_k04_filing_refused.prog "InvalidSection" "InvalidSection.__init__" "given" K), (fun K => iniB PySem.Challenge.rw_leafpackets_k04_filing_refused.prog "InvalidSlips" "InvalidSlips.__init__" "index" K), (fun K => iniB PySem.Challenge.rw_leafpackets_k04_filing_refused.prog "NotAService" "NotAService.__init__" "given" K), (fun K => xfxB TB "given" xff_givenl K), (fun K => xfxB TB "index" xff_indexl K)]
abbrev hEx : List (PySem.W.Frag → Bool) := hEx1 ++ (hEx2 ++ hEx3)
def hIn : List InD := [InD.mk ("InvalidManner" : PySem.Str) ("InvalidManner.__init__" : PySem.Str) s_InvalidManner_init, InD.mk ("InvalidMoment" : PySem.Str) ("InvalidMoment.__init__" : PySem.Str) s_InvalidMoment_init, InD.mk ("InvalidPage" : PySem.Str) ("InvalidPage.__init__" : PySem.Str) s_InvalidPage_init, InD.mk ("InvalidSection" : PySem.Str) ("InvalidSection.__init__" : PySem.Str) s_InvalidSection_init, InD.mk ("InvalidSlips" : PySem.Str) ("InvalidSlips.__init__" : PySem.Str) s_InvalidSlips_init, InD.mk ("NotAService" : PySem.Str) ("NotAService.__init__" : PySem.Str) s_NotAService_init]
abbrev hHk : PySem.W.Hook := hookX hFa hFn hTs hEx hIn lmX
def hOb (s : PySem.W.SharedT) : (He.AlT × Bool) × (List IniW × Bool) := obX hFa hFn hTs hEx hIn lmX s.n (HandSHeadRun.getT s)
theorem hOb_eq (s : PySem.W.SharedT) : hOb s = hHk.obs s.abs := obX_eq s
set_option maxHeartbeats 0 in
theorem hRunA_f (w : World) : RunA hR hV 20000 hNm (w.withFollow "special-get-raises" false) := fun os => by kernel_rfl
set_option maxHeartbeats 0 in
theorem hRunA_t (w : World) : RunA hR hV 20000 hNm (w.withFollow "special-get-raises" true) := fun os => by kernel_rfl
set_option maxHeartbeats 0 in
theorem hRunB_f (w : World) : RunBt hR 20000 hFa hTs (w.withFollow "special-get-raises" false) := fun os => by kernel_rfl
set_option maxHeartbeats 0 in
theorem hRunB_t (w : World) : RunBt hR 20000 hFa hTs (w.withFollow "special-get-raises" true) := fun os => by kernel_rfl
set_option maxHeartbeats 0 in
theorem hRunX1_f (w : World) : RunXt hR 20000 hEx1 (w.withFollow "special-get-raises" false) := fun os => by kernel_rfl
set_option maxHeartbeats 0 in
theorem hRunX1_t (w : World) : RunXt hR 20000 hEx1 (w.withFollow "special-get-raises" true) := fun os => by kernel_rfl
set_option maxHeartbeats 0 in
theorem hRunX2_f (w : World) : RunXt hR 20000 hEx2 (w.withFollow "special-get-raises" false) := fun os => by kernel_rfl
set_option maxHeartbeats 0 in
theorem hRunX2_t (w : World) : RunXt hR 20000 hEx2 (w.withFollow "special-get-raises" true) := fun os => by kernel_rfl
set_option maxHeartbeats 0 in
theorem hRunX3_f (w : World) : RunXt hR 20000 hEx3 (w.withFollow "special-get-raises" false) := fun os => by kernel_rfl
set_option maxHeartbeats 0 in
theorem hRunX3_t (w : World) : RunXt hR 20000 hEx3 (w.withFollow "special-get-raises" true) := fun os => by kernel_rfl
set_option maxHeartbeats 0 in
theorem hRunC1_f (w : World) : RunCt hR 20000 hFnX (w.withFollow "special-get-raises" false) := fun os => by kernel_rfl
set_option maxHeartbeats 0 in
theorem hRunC1_t (w : World) : RunCt hR 20000 hFnX (w.withFollow "special-get-raises" true) := fun os => by kernel_rfl
set_option maxHeartbeats 0 in
theorem hRunC2_f (w : World) : RunCt hR 20000 hFnY (w.withFollow "special-get-raises" false) := fun os => by kernel_rfl
set_option maxHeartbeats 0 in
theorem hRunC2_t (w : World) : RunCt hR 20000 hFnY (w.withFollow "special-get-raises" true) := fun os => by kernel_rfl
set_option maxHeartbeats 0 in
theorem hRunD1_f (w : World) : RunDt hR 20000 hFnX (w.withFollow "special-get-raises" false) := fun os => by kernel_rfl
set_option maxHeartbeats 0 in
theorem hRunD1_t (w : World) : RunDt hR 20000 hFnX (w.withFollow "special-get-raises" true) := fun os => by kernel_rfl
set_option maxHeartbeats 0 in
theorem hRunD2_f (w : World) : RunDt hR 20000 hFnY (w.withFollow "special-get-raises" false) := fun os => by kernel_rfl
set_option maxHeartbeats 0 in
theorem hRunD2_t (w : World) : RunDt hR 20000 hFnY (w.withFollow "special-get-raises" true) := fun os => by kernel_rfl
set_option maxHeartbeats 0 in
theorem hRunE_f (w : World) : RunEt hR 20000 hIn lmX (w.withFollow "special-get-raises" false) := fun os => by kernel_rfl
set_option maxHeartbeats 0 in
theorem hRunE_t (w : World) : RunEt hR 20000 hIn lmX (w.withFollow "special-get-raises" true) := fun os => by kernel_rfl
theorem hRun (w : World) : HandSHeadRun.RunEq hR hV hHk hOb 20000 hNm w := PySem.W.byRow2 "special-get-raises" (P := fun w => HandSHeadRun.RunEq hR hV hHk hOb 20000 hNm w) (fun w => runX_of (hRunA_f w) (hRunB_f w) (hRunX1_f w) (runXt_app (hRunX2_f w) (hRunX3_f w)) (hRunC1_f w) (hRunC2_f w) (hRunD1_f w) (hRunD2_f w) (hRunE_f w)) (fun w => runX_of (hRunA_t w) (hRunB_t w) (hRunX1_t w) (runXt_app (hRunX2_t w) (hRunX3_t w)) (hRunC1_t w) (hRunC2_t w) (hRunD1_t w) (hRunD2_t w) (hRunE_t w)) w
theorem hAll {w : World} {h : Heap} {mg : Str → Option Value} {K : PySem.W.Frag} (c : SaysX hFa hFn hTs hEx hIn lmX w h K) (G : h.Ns mainGlobals mg) : DefIn K "law" "law" s_law ∧ ∀ C : Ctx, C.P = PySem.Challenge.rw_leafpackets_k04_filing_refused.prog → C.K = K → C.mg = mg → C.T = TB → C.exo = none → C.tb = (tblX K).map (fun p => (p.1, fun _ _ => p.2)) → (∀ x ∈ lmX, LamX.TabB C.base C.mg (tabP K x).1 (tabP K x).2) → Facts C :=
  facts_mk (P := PySem.Challenge.rw_leafpackets_k04_filing_refused.prog) c.m.kin G (c.m.cls 0 1 rfl rfl) (c.m.no 2 rfl) (c.m.no 3 rfl) (c.m.no 4 rfl) (c.m.no 5 rfl) (c.m.no 6 rfl) (c.m.no 7 rfl) (c.m.mkr 8 rfl) (c.m.kp 8 rfl) (c.m.cls 9 10 rfl rfl) (c.m.no 11 rfl) (c.m.no 12 rfl) (c.m.no 13 rfl) (c.m.no 14 rfl) (c.m.mkr 15 rfl) (c.m.kp 15 rfl) (c.m.cls 16 17 rfl rfl) (c.m.no 18 rfl) (c.m.no 19 rfl) (c.m.no 20 rfl) (c.m.no 21 rfl) (c.m.mkr 22 rfl) (c.m.kp 22 rfl) (c.m.free 23 rfl) (of_decide_eq_true (c.m.ext 0 rfl)) (of_decide_eq_true (c.m.ext 1 rfl)) (of_decide_eq_true (c.m.ext 2 rfl)) (of_decide_eq_true (c.m.ext 3 rfl)) (of_decide_eq_true (c.m.ext 4 rfl)) (of_decide_eq_true (c.m.ext 5 rfl)) (of_decide_eq_true (c.m.ext 6 rfl)) (of_decide_eq_true (c.m.ext 7 rfl)) (of_decide_eq_true (c.m.ext 8 rfl)) (of_decide_eq_true (c.m.ext 9 rfl)) (of_decide_eq_true (c.m.ext 10 rfl)) (of_decide_eq_true (c.m.ext 11 rfl)) (of_decide_eq_true (c.m.ext 12 rfl)) (by kernel_rfl) (c.m.ext (hEx1.length + 0) rfl) (c.m.free 24 rfl) (c.m.free 25 rfl) (c.m.free 26 rfl) (c.m.free 27 rfl) (c.m.free 28 rfl) (c.m.free 29 rfl) (c.m.free 30 rfl) (c.m.free 31 rfl) (c.m.free 32 rfl) (c.m.free 33 rfl) (c.m.free 34 rfl) (c.m.free 35 rfl) (c.m.free 36 rfl) (c.m.free 37 rfl) (c.m.free 38 rfl) (c.m.free 39 rfl) (c.m.free 40 rfl) (c.m.meth 0 41 rfl rfl) (c.m.meth 1 42 rfl rfl) (c.m.meth 2 43 rfl rfl) (c.m.meth 3 44 rfl rfl) (c.m.meth 4 45 rfl rfl) (c.m.def_ 5 46 rfl rfl) (c.m.def_ 6 47 rfl rfl) (c.m.def_ 7 48 rfl rfl) (c.m.def_ 8 49 rfl rfl) (c.m.def_ 9 50 rfl rfl) (c.l _ (by decide)) (c.m.def_ 10 51 rfl rfl) (c.m.def_ 11 52 rfl rfl) (c.m.def_ 12 53 rfl rfl) (c.m.def_ 13 54 rfl rfl) (c.m.def_ 14 55 rfl rfl) (c.m.def_ 15 56 rfl rfl) (c.m.def_ 16 57 rfl rfl) (c.m.def_ 17 58 rfl rfl) (c.m.def_ 18 59 rfl rfl) (c.m.def_ 19 60 rfl rfl) (c.m.def_ 20 61 rfl rfl) (c.m.def_ 21 62 rfl rfl) (c.m.def_ 22 63 rfl rfl) (c.m.def_ 23 64 rfl rfl) (c.m.def_ 24 65 rfl rfl) (c.m.def_ 25 66 rfl rfl) (c.m.def_ 26 67 rfl rfl) (c.m.def_ 27 68 rfl rfl) (c.m.def_ 28 69 rfl rfl) (c.m.def_ 29 70 rfl rfl) (c.m.def_ 30 71 rfl rfl) (c.m.def_ 31 72 rfl rfl) (c.m.def_ 32 73 rfl rfl) (c.m.def_ 33 74 rfl rfl) (c.m.def_ 34 75 rfl rfl) (c.m.def_ 35 76 rfl rfl) (c.m.def_ 36 77 rfl rfl) (c.m.def_ 37 78 rfl rfl) (c.m.def_ 38 79 rfl rfl) (c.m.def_ 39 80 rfl rfl) (c.m.def_ 40 81 rfl rfl) (c.m.def_ 41 82 rfl rfl) (c.m.def_ 42 83 rfl rfl) (c.m.def_ 43 84 rfl rfl) (c.m.def_ 44 85 rfl rfl) (c.m.def_ 45 86 rfl rfl) (c.m.def_ 46 87 rfl rfl) (c.m.def_ 47 88 rfl rfl) (c.m.def_ 48 89 rfl rfl) (c.m.def_ 49 90 rfl rfl) (c.m.def_ 50 91 rfl rfl) (c.m.def_ 51 92 rfl rfl) (c.m.def_ 52 93 rfl rfl) (c.m.def_ 53 94 rfl rfl) (c.m.int 95 rfl).choose_spec (tupX_ok (c.m.ext 13 rfl)) (tupX_ok (c.m.ext 14 rfl)) (tupX_ok (c.m.ext 15 rfl)) (c.m.int 96 rfl).choose_spec (c.m.int 97 rfl).choose_spec (c.m.int 98 rfl).choose_spec (c.m.int 99 rfl).choose_spec (tupX_ok (c.m.ext 16 rfl)) (c.m.ext (hEx1.length + 1) rfl) (c.m.ext (hEx1.length + 2) rfl) (c.m.ext (hEx1.length + 3) rfl) (c.m.ext (hEx1.length + 4) rfl) (c.m.ext (hEx1.length + 5) rfl) (c.m.ext (hEx1.length + 6) rfl) (c.m.ext (hEx1.length + 7) rfl) (c.m.ext (hEx1.length + 8) rfl) (c.m.ext (hEx1.length + 9) rfl) (c.m.ext (hEx1.length + 10) rfl) (c.m.ext (hEx1.length + 11) rfl) (c.m.ext (hEx1.length + 12) rfl) (c.m.ext (hEx1.length + 13) rfl) (c.m.ext (hEx1.length + 14) rfl) (c.m.ext (hEx1.length + 15) rfl) (c.iniAt 0 rfl) (c.m.ext (hEx1.length + 16) rfl) (c.iniAt 1 rfl) (c.m.ext (hEx1.length + 17) rfl) (c.iniAt 2 rfl) (c.m.ext (hEx1.length + 18) rfl) (c.iniAt 3 rfl) (c.m.ext (hEx1.length + 19) rfl) (c.iniAt 4 rfl) (c.m.ext (hEx1.length + 20) rfl) (c.iniAt 5 rfl) (c.m.ext (hEx1.length + 21) rfl) (c.m.ext (hEx1.length + 22) rfl) (c.m.ext (hEx1.length + 23) rfl)
theorem all_mk {w : World} {K : PySem.W.Frag} {h : Heap} {mg : Str → Option Value} {fa : Addr} (c : SaysX hFa hFn hTs hEx hIn lmX w h K) (G : h.Ns mainGlobals mg) (hfa : mg "law" = some (.ref fa)) :
    ∃ fd : FuncData, LawT PySem.Challenge.rw_leafpackets_k04_filing_refused w 14 "_law_script" mg fa h K fd (lmX.map (tabP K)) ((tblX K).map fun p => (p.1, fun _ _ => p.2)) :=
  law_ofGT (T := TB) c.m.kin G hfa (hAll c G).1 (fun _ _ _ _ _ _ us hl => match us, hl with | [_], _ => rfl) S_law c.l rfl (fun C h0 h1 h2 h3 h4 h5 h6 hq => D_law ((hAll c G).2 C h0 h1 h2 h3 h4 h5 h6) hq) law_ok
end PP
end
end M
open PySem PySem.W PySem.Calls PyProof.Rows
set_option maxRecDepth 100000 in
set_option maxHeartbeats 0 in
theorem PySem.Challenge.cw_leafpackets_k04_filing_refused_holds : PySem.Challenge.rw_leafpackets_k04_filing_refused.Holds := by
  w_on; o_law
  refine HandSHeadRun.head_any (r := OpenLaw.row PySem.Challenge.rw_leafpackets_k04_filing_refused) (q := M.PP.hV) (H := M.PP.hHk) (ob := M.PP.hOb) (M := 20000) (loose := M.PP.hNm) (d := HandSHeadRun.topDef (OpenLaw.row PySem.Challenge.rw_leafpackets_k04_filing_refused).prog 81) (kwd := []) M.PP.hOb_eq
    (by kernel_rfl) (fun s => by kernel_rfl) M.PP.hRun (by kernel_rfl) (by kernel_rfl) (by kernel_rfl) (by rfl) (by first | assumption | decide +kernel) (by decide +kernel) ⟨rfl, rfl, rfl, rfl, rfl, by decide +kernel⟩ ?hw ?hc
  case hw => w_witness2
  case hc =>
    refine M.walkTE (l := PySem.Challenge.rw_leafpackets_k04_filing_refused) 14 rfl (by kernel_rfl) ⟨rfl, by decide, by decide⟩ ?F
    intro w mg fa h Y G hmg0
    obtain ⟨K, c⟩ := Y
    have hmg : mg ("law" : PySem.Str) = some (.ref fa) := by
      have e : (HandSHeadRun.topDef (OpenLaw.row PySem.Challenge.rw_leafpackets_k04_filing_refused).prog 81).name = ("law" : PySem.Str) := by kernel_rfl
      rw [← e]
      exact hmg0
    obtain ⟨fd, L⟩ := M.PP.all_mk c G hmg
    exact ⟨K, fd, _, _, L⟩
